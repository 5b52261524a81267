/- The own layer: abstract values, their memory, and the steps of the model over them: for any program. -/
import Derived.Test.YtmmabhkichiikaaGreatLib11
import Derived.Shelf.SlMaps.Clone
namespace Go.UK
open Go
set_option linter.all false
variable [bS]
section
variable {P:Program} {T:TypeId→Option TI} {n:Fr}
theorem aSV{st:ASt}{ctx:Mem}{a:Act}{w:World}(h:Sat n ctx st a w):Sat n ctx ⟨st.env,st.H++[.tail 0]⟩ a w:=by
 obtain⟨bs,hm⟩:=h;have ext:=Ext.snoc (F:=ctx.F) hm.ok.len (dG.refl w) (.tail 0) none (by intro b e;cases e)
 have ok:=OK.snoc hm.ok (dG.refl w) (x := .tail 0) (o:=none) (by intro b e;cases e) (by intro b e;cases e)
 exact⟨bs++[none],{ h:=rfl,ok:=ok,ext:=hm.ext.trans ext,env:=hm.env.ext ext,size:=hm.size,low:=hm.low,defers:=vQ.ext hm.ok ext hm.defers,nod:=hm.nod,outs:=λp hp=>(hm.outs p hp).ext ext }⟩
def aLX : List Bool->List Box
 | []=>[]
 | true :: r => .tail 0 :: aLX r
 | false :: r => .dead :: aLX r
theorem aIq : ∀(m:List Bool) {st:ASt} {ctx:Mem} {a:Act} {w:World},Sat n ctx st a w->Sat n ctx ⟨st.env,st.H++aLX m⟩ a w
 | [],st,ctx,a,w,h=>by simpa[aLX] using h
 | true :: r,st,ctx,a,w,h=>by
  have:=aIq r (aSV h)
  simpa[aLX] using this
 | false :: r,st,ctx,a,w,h=>by
  have h1:=aN8 h 1;have:=aIq r h1;simpa[aLX] using this
end
end Go.UK

namespace Go.UK
open Go
set_option linter.all false
variable [bS]
section
variable {P:Program} {T:TypeId→Option TI} {n:Fr}
end
end Go.UK

namespace Go.UK
open Go Go.Proofs Go.Maps
set_option linter.all false
variable [bS]
section
variable {P:Program} {α:Type} {F:α→AV} {q:IntKind}
end
end Go.UK

open List renaming cons_append→du
open Nat renaming beq→au,ble→f8,eq_of_beq_eq_true→ag
open Option renaming bind→aa
namespace Go.UK
open Go
set_option linter.all false
variable [bS]
inductive Fo
 | seq (y:Code)
 | blk (id:Nat)
 | un (k:Nat) (c:Code)
 | scp
inductive Pt
 | code (c:Code) (ks:List Fo) (st:ASt)
 | ops (arr:Array Oper) (l:List Oper) (ks:List Fo) (st:ASt)
 | out (e:Exit) (st:ASt)
 | bad
def kQ(P:Program)(n:Fr)(Q:Exit->ASt->Prop):List Fo->Exit->ASt->Prop
 | []=>Q
 | .seq y :: ks=>tn (aw P n y (kQ P n Q ks)) (kQ P n Q ks)
 | .blk id :: ks=>inB id (kQ P n Q ks)
 | .scp :: ks=>ngo (kQ P n Q ks)
 | .un k c :: ks=>tn (unr P n c (kQ P n Q ks) k) (kQ P n Q ks)
def At(P:Program)(T:TypeId->Option TI)(im:Nat->Bool)(n:Fr)(Q:Exit->ASt->Prop)(p:Pt):Prop:=
 TOK P T->P.follows .mixedOrders=true->match p with
 | .code c ks st=>aw P n c (kQ P n Q ks) st
 | .ops arr l ks st=>awl P n arr l (λs=>kQ P n Q ks .normal s) st
 | .out e st=>Q e st
 | .bad=>False
def aA0 : List Fo->ASt->Pt
 | [],st => .out .normal st
 | .seq y :: ks,st => .code y ks st
 | .blk _ :: ks,st=>aA0 ks st
 | .scp :: ks,st=>aA0 ks st
 | .un 0 _ :: _,_ => .bad
 | .un (k+1) c :: ks,st => .code c (.un k c :: ks) st
def aO0(id:Nat):List Fo->ASt->Pt
 | [],st => .out (.exit id) st
 | .seq _ :: ks,st=>aO0 id ks st
 | .un _ _ :: ks,st=>aO0 id ks st
 | .scp :: ks,st=>aO0 id ks st
 | .blk i :: ks,st=>match au id i with | true=>aA0 ks st | false=>aO0 id ks st
def ctl : Pt->Option Pt
 | .code c ks st=>match c with
  | .seq x y=>some (.code x (.seq y :: ks) st)
  | .skip=>some (aA0 ks st)
  | .exit id=>some (aO0 id ks st)
  | .block id c=>some (.code c (.blk id :: ks) st)
  | .scope c=>some (.code c (.scp :: ks) st)
  | .label _=>some (aA0 ks st)
  | .region _ arr d=>match d with | true=>none | false=>some (.ops arr arr.toList ks st)
  | _=>none
 | .ops _ l ks st=>match l with | []=>some (aA0 ks st) | _ :: _=>none
 | _=>none
def aR7 : Nat->Pt->Pt
 | 0,p=>p
 | f+1,p=>match ctl p with | some q=>aR7 f q | none=>p
def cnt(T:TypeId->Option TI)(im:Nat->Bool)(gl:List Nat)(m:Nat):Pt->Pt
 | .ops arr l ks st=>match l with
  | o :: l=>match step T im gl m arr o st with | some s => .ops arr l ks s | none => .bad
  | [] => .bad
 | .code c ks st=>match c with
  | .cond q x y=>match q with
   | .tmp t=>match get st.env t with
    | some (.v (.bool b))=>match b with | true => .code x ks st | false => .code y ks st
    | _ => .bad
   | .const (.bool b)=>match b with | true => .code x ks st | false => .code y ks st
   | _ => .bad
  | _ => .bad
 | _ => .bad
def adv(T:TypeId->Option TI)(im:Nat->Bool)(gl:List Nat)(m:Nat):Nat->Pt->Pt
 | 0,p=>aR7 64 p
 | k+1,p=>adv T im gl m k (cnt T im gl m (aR7 64 p))
def cJ : Pt->ASt
 | .code _ _ st=>st
 | .ops _ _ _ st=>st
 | .out _ st=>st
 | .bad=>⟨[],[]⟩
def uZ(p:Pt):Env:=(cJ p).env
def fF(p:Pt):List Box:=(cJ p).H
def aDm : Pt->Oper
 | .ops _ (o :: _) _ _=>o
 | _=>default
def aNl : Pt->Oper
 | .ops _ (_ :: o :: _) _ _=>o
 | _=>default
def aPS : Pt->Bool
 | .ops _ (_ :: _) _ _=>true
 | _=>false
def aSt : Pt->Bool
 | .ops _ (_ :: _ :: _) _ _=>true
 | _=>false
def aHj(p:Pt)(x:AV)(H:List Box):Pt:=
 match p with
 | .ops arr (o :: l) ks st => .ops arr l ks ⟨st.env.put o.dst (none,x),H⟩
 | _ => .bad
def aHF(p:Pt)(s:ASt):Pt:=
 match p with
 | .ops arr (_ :: l) ks _ => .ops arr l ks s
 | _ => .bad
def yU(p:Pt)(s:ASt):Pt:=
 match p with
 | .ops arr l ks _ => .ops arr l ks s
 | .code c ks _ => .code c ks s
 | _ => .bad
def aNJ : Pt->Bool
 | .ops arr (o :: _) _ st=>gOK arr o st.env
 | _=>false
def cdPt : Pt->Option AV
 | .code (.cond (.tmp t) _ _) _ st=>get st.env t
 | _=>none
def brPt(b:Bool):Pt->Pt
 | .code (.cond _ x y) ks st => .code (match b with | true=>x | false=>y) ks st
 | _ => .bad
def aPY(d:Nat)(b:Bool)(p:Pt):Pt:=yU p (aRM d b (cJ p))
def aL0 : Pt->List Fo
 | .code _ ks _=>ks
 | .ops _ _ ks _=>ks
 | _=>[]
def aHU{α:Type}:Nat->List α->List α
 | 0,_=>[]
 | _+1,[]=>[]
 | d+1,x :: r=>x :: aHU d r
def aK9{α:Type}:Nat->List α->List α
 | 0,l=>l
 | _+1,[]=>[]
 | d+1,_ :: r=>aK9 d r
def aJs(d:Nat):Pt->Pt
 | .code c ks st => .code c (aHU d ks) st
 | .ops arr l ks st => .ops arr l (aHU d ks) st
 | _ => .bad
def nX(d:Nat)(p:Pt):List Fo:=aK9 d (aL0 p)
section
variable {P:Program} {T:TypeId→Option TI} {im:Nat→Bool} {n:Fr} {Q:Exit→ASt→Prop} {p:Pt}
theorem aJp{α:Type}:∀(d:Nat) (l:List α),aHU d l++aK9 d l=l
 | 0,l=>rfl
 | d+1,[]=>rfl
 | d+1,x :: r=>by simp[aHU,aK9,aJp d r]
theorem At.popN{ks:List Fo}{st:ASt}(hT:TOK P T)(hm:P.follows .mixedOrders=true)(h:At P T im n Q (aA0 ks st)):kQ P n Q ks .normal st:=by
 induction ks with
 | nil=>exact h hT hm
 | cons f ks ih=>
  cases f with
  | seq y=>exact h hT hm
  | blk id=>exact ih h
  | scp=>exact ih h
  | un k c=>
   cases k with
   | zero=>exact(h hT hm).elim
   | succ k=>exact h hT hm
theorem At.popE{id:Nat}{ks:List Fo}{st:ASt}(hT:TOK P T)(hm:P.follows .mixedOrders=true)(h:At P T im n Q (aO0 id ks st)):kQ P n Q ks (.exit id) st:=by
 induction ks with
 | nil=>exact h hT hm
 | cons f ks ih=>
  cases f with
  | seq y=>exact ih h
  | un k c=>exact ih h
  | scp=>exact ih h
  | blk i=>
   unfold Go.UK.aO0 at h;cases hb:au id i with
   | true=>
    rw[hb] at h;obtain rfl:=ag hb;exact aTn (At.popN hT hm h)
   | false=>rw[hb] at h;exact inB_x hb (ih h)
theorem kQ_r{ks:List Fo}{st:ASt}(h:Q .ret st):kQ P n Q ks .ret st:=by
 induction ks with
 | nil=>exact h
 | cons f ks ih=>cases f <;> exact ih
theorem aTk{l:Nat}{st:ASt}{Q:Exit->ASt->Prop}(h:Q .normal st):aw P n (.label l) Q st:=λctx a w hs=>wpIn_label ⟨st,h,hs⟩
theorem At.ctl{q:Pt}(hc:ctl p=some q)(h:At P T im n Q q):At P T im n Q p:=by
 intro hT hm;unfold Go.UK.ctl at hc;split at hc
 ·rename_i c ks st;split at hc <;> try cases hc
  ·exact aVv (h hT hm)
  ·exact aUy (At.popN hT hm h)
  ·exact aUn (At.popE hT hm h)
  ·exact aSx (h hT hm)
  ·exact aSl (h hT hm)
  ·exact aTk (At.popN hT hm h)
  ·rename_i id arr d;split at hc <;> cases hc;exact aRe (l:=arr.toList) (h hT hm)
 ·split at hc <;> cases hc;exact aUP (At.popN hT hm h)
 ·cases hc
theorem At.norm : ∀(f:Nat) {p:Pt},At P T im n Q (aR7 f p)->At P T im n Q p
 | 0,p,h=>h
 | f+1,p,h=>by
  unfold Go.UK.aR7 at h;split at h
  ·rename_i q hq;exact At.ctl hq (At.norm f h)
  ·exact h
theorem At.bad(h:At P T im n Q .bad):At P T im n Q p:=λhT hm=>(h hT hm).elim
theorem At.cnt{gl:List Nat}(h:At P T im n Q (cnt T im gl n.n p)):At P T im n Q p:=by
 unfold Go.UK.cnt at h;split at h
 ·rename_i arr l ks st;split at h
  ·rename_i o l;split at h
   ·rename_i s hs;intro hT hm;exact aQJ (aTJ hT hs) (h hT hm)
   ·exact At.bad h
  ·exact At.bad h
 ·rename_i c ks st;split at h
  ·rename_i q x y;split at h
   ·rename_i t;split at h
    ·rename_i b hb;intro hT hm;refine aP9 hb (λe=>?_) (λe=>?_) <;> (subst e;exact h hT hm)
    ·exact At.bad h
   ·rename_i b;intro hT hm;cases b with
    | true=>exact aN3 (b:=true) (h hT hm)
    | false=>exact aN3 (b:=false) (h hT hm)
   ·exact At.bad h
  ·exact At.bad h
 ·exact At.bad h
theorem At.adv{gl:List Nat}:∀(k:Nat) {p:Pt},At P T im n Q (adv T im gl n.n k p)->At P T im n Q p
 | 0,p,h=>At.norm 64 h
 | k+1,p,h=>At.norm 64 (At.cnt (At.adv k h))
theorem At.g(gl:List Nat)(k:Nat){π:Prop}(h:π->At P T im n Q (Go.UK.adv T im gl n.n k p))(e:π):At P T im n Q p:=At.adv k (h e)
theorem aJT{q:Pt}(h:aPS q=true):∃arr o l ks st,q = .ops arr (o :: l) ks st:=by
 unfold aPS at h;split at h
 ·exact⟨_,_,_,_,_,rfl⟩
 ·cases h
theorem aRb{q:Pt}(h:aNJ q=true):∃arr o l ks st,q = .ops arr (o :: l) ks st/\gOK arr o st.env=true:=by
 unfold aNJ at h;split at h
 ·exact⟨_,_,_,_,_,rfl,h⟩
 ·cases h
theorem At.o1{q:Pt}{x:AV}{H':List Box}(b:Big P n (aDm q) (uZ q) (fF q) x H')(hg:aNJ q=true)(h:At P T im n Q (aHj q x H')):At P T im n Q q:=by
 obtain⟨arr,o,l,ks,st,rfl,hg⟩:=aRb hg;intro hT hm;exact aUv b hg (h hT hm)
theorem At.o(k:Nat){π:Prop}{x:AV}{H':List Box}(b:Big P n (aDm (Go.UK.adv T im [] n.n k p)) (uZ (Go.UK.adv T im [] n.n k p)) (fF (Go.UK.adv T im [] n.n k p)) x H')(h:π->At P T im n Q (aHj (Go.UK.adv T im [] n.n k p) x H'))(hg:aNJ (Go.UK.adv T im [] n.n k p)=true:=by kernel_rfl)(e:π):At P T im n Q p:=
 At.adv k (At.o1 b hg (h e))
theorem At.b{α β:Type}{x:Option α}{f:α->Option β}{r:β}(k:Nat){y:α->AV}{H':α->List Box}
  (b:∀a,x=some a->Big P n (aDm (Go.UK.adv T im [] n.n k p)) (uZ (Go.UK.adv T im [] n.n k p)) (fF (Go.UK.adv T im [] n.n k p)) (y a) (H' a)) (h:∀a,f a=some r->At P T im n Q (aHj (Go.UK.adv T im [] n.n k p) (y a) (H' a))) (hg:aNJ (Go.UK.adv T im [] n.n k p)=true:=by kernel_rfl) (e:aa x f=some r):At P T im n Q p:=by
 obtain⟨a,e1,e2⟩:=aDd e;exact At.o k (b a e1) (h a) hg e2
theorem At.c{α:Type}{b:Bool}{px py:Option α}{r:α}(k:Nat)(h1:px=some r->At P T im n Q (brPt true (Go.UK.adv T im [] n.n k p)))(h2:py=some r->At P T im n Q (brPt false (Go.UK.adv T im [] n.n k p)))
  (hb:cdPt (Go.UK.adv T im [] n.n k p)=some (.v (.bool b)):=by kernel_rfl) (e:cond b px py=some r):At P T im n Q p:=by
 refine At.adv (gl:=[]) k ?_;generalize Go.UK.adv T im [] n.n k p=q at *;unfold cdPt at hb;split at hb
 ·intro hT hm;refine aP9 hb (λe'=>?_) (λe'=>?_)
  ·subst e';exact h1 e hT hm
  ·subst e';exact h2 e hT hm
 ·cases hb
theorem At.s{α:Type}{b:Bool}{px py:Option α}{r:α}(d k:Nat)(h1:px=some r->At P T im n Q (aPY d true (Go.UK.adv T im [] n.n k p)))(h2:py=some r->At P T im n Q (aPY d false (Go.UK.adv T im [] n.n k p)))
  (hb:(aPS (Go.UK.adv T im [] n.n k p),get (uZ (Go.UK.adv T im [] n.n k p)) d)=(true,some (.v (.bool b))):=by kernel_rfl) (e:cond b px py=some r):At P T im n Q p:=by
 refine At.adv (gl:=[]) k ?_;generalize Go.UK.adv T im [] n.n k p=q at *;simp only[Prod.mk.injEq] at hb;obtain⟨hi,hb⟩:=hb;obtain⟨arr,o,l,ks,st,rfl⟩:=aJT hi;intro hT hm;exact aQ8 d e hb (λe=>h1 e hT hm) (λe=>h2 e hT hm)
theorem rt{α:Type}{a r:α}{p:α->Prop}(h:p a)(e:some a=some r):p r:=by cases e;exact h
theorem nn{α:Type}{r:α}{p:Prop}(e:none=some r):p:=by cases e
theorem bi{α β:Type}{x:Option α}{f:α->Option β}{r:β}{p:Prop}(h:∀a,x=some a->f a=some r->p)(e:aa x f=some r):p:=by obtain⟨a,e1,e2⟩:=aDd e;exact h a e1 e2
theorem lx{α β:Type}{e:α}{f:α->β}{r:β}{p:Prop}(k:let x:=e;f x=r->p)(h:aR e f=r):p:=k h
theorem aR6{α β γ:Type}{o:Option (Sum α β)}{F:α->Option γ}{G:β->Option γ}{r:γ}{p:Prop}(h1:∀a,o=some (Sum.inl a)->F a=some r->p)(h2:∀b,o=some (Sum.inr b)->G b=some r->p)(h:aa o (λx=>kG x F G)=some r):p:=by
 obtain⟨x,e,h⟩:=aDd h;cases x with
 | inl a=>exact h1 a e h
 | inr b=>exact h2 b e h
theorem aOE{α β γ:Type}{o:Sum α β}{F:α->Option γ}{G:β->Option γ}{r:γ}{p:Prop}(h1:∀a,o=Sum.inl a->F a=some r->p)(h2:∀b,o=Sum.inr b->G b=some r->p)(h:kG o F G=some r):p:=by
 cases o with
 | inl a=>exact h1 a rfl h
 | inr b=>exact h2 b rfl h
def aEs{α β γ:Type}(o:Sum α β)(F:α->γ)(G:β->γ):γ:=match o with | .inl a=>F a | .inr b=>G b
theorem At.t0{q:Pt}{s:ASt}(hs:∀{ctx:Mem} {a:Act} {w:World},Sat n ctx (cJ q) a w->Sat n ctx s a w)(h:At P T im n Q (yU q s)):At P T im n Q q:=by
 intro hT hm;cases q with
 | code c ks st=>exact λctx a w hx=>h hT hm ctx a w (hs hx)
 | ops arr l ks st=>exact λctx a w hx=>h hT hm ctx a w (hs hx)
 | out e st=>exact(h hT hm).elim
 | bad=>exact(h hT hm).elim
theorem At.t(k:Nat){π:Prop}{s:ASt}(hs:∀{ctx:Mem} {a:Act} {w:World},Sat n ctx (cJ (Go.UK.adv T im [] n.n k p)) a w->Sat n ctx s a w)(h:π->At P T im n Q (yU (Go.UK.adv T im [] n.n k p) s))(e:π):At P T im n Q p:=At.adv k (At.t0 hs (h e))
theorem At.ownn{π:Prop}(k s z:Nat)(h:π->At P T im n Q (yU (Go.UK.adv T im [] n.n k p) (aSk s z (cJ (Go.UK.adv T im [] n.n k p)))))(hg:aG5 (cJ (Go.UK.adv T im [] n.n k p)) s=true:=by kernel_rfl)(e0:π):At P T im n Q p:=At.t k (λhx=>aMy hg hx) h e0
theorem At.gron{π:Prop}(k s z:Nat)(h:π->At P T im n Q (yU (Go.UK.adv T im [] n.n k p) (aSo s z (cJ (Go.UK.adv T im [] n.n k p)))))(hg:aG5 (cJ (Go.UK.adv T im [] n.n k p)) s=true:=by kernel_rfl)(e0:π):At P T im n Q p:=At.t k (λhx=>aNo hg hx) h e0
theorem At.grob{π:Prop}(k b z:Nat)(l:List Nat)(h:π->At P T im n Q (yU (Go.UK.adv T im [] n.n k p) (groB b z l (cJ (Go.UK.adv T im [] n.n k p)))))(e0:π):At P T im n Q p:=At.t k (λhx=>aNA hx) h e0
theorem At.ownb{π:Prop}(k b z:Nat)(l:List Nat)(h:π->At P T im n Q (yU (Go.UK.adv T im [] n.n k p) (ownB b z l (cJ (Go.UK.adv T im [] n.n k p)))))(e0:π):At P T im n Q p:=At.t k (λhx=>aHM hx) h e0
theorem At.wk{π:Prop}(k d:Nat)(y:AV)(h:π->At P T im n Q (yU (Go.UK.adv T im [] n.n k p) (wkS d y (cJ (Go.UK.adv T im [] n.n k p)))))(e0:π):At P T im n Q p:=At.t k (λhx=>aUp hx) h e0
theorem At.sw{π:Prop}(k i j:Nat)(h:π->At P T im n Q (yU (Go.UK.adv T im [] n.n k p) (swS i j (cJ (Go.UK.adv T im [] n.n k p)))))(hk:swOK n i j (cJ (Go.UK.adv T im [] n.n k p))=true:=by kernel_rfl)(e0:π):At P T im n Q p:=At.t k (λhx=>aSU hk hx) h e0
theorem At.gz{π:Prop}(k id:Nat)(v:AV)(h:π->At P T im n Q (yU (Go.UK.adv T im [] n.n k p) (gzS id v (cJ (Go.UK.adv T im [] n.n k p)))))(hat:gzAt id (cJ (Go.UK.adv T im [] n.n k p))=some v:=by kernel_rfl)(hk:aTR n id (cJ (Go.UK.adv T im [] n.n k p)) (lM id v 0 (fF (Go.UK.adv T im [] n.n k p)))=true:=by kernel_rfl)(e0:π):At P T im n Q p:=At.t k (λhx=>aVr hat hk hx) h e0
theorem At.fz{π:Prop}(k id z ln q:Nat)(es:List AV)(hq:es.length=q)(hln:es.length=ln)(h:π->At P T im n Q (yU (Go.UK.adv T im [] n.n k p) (fzS id z q es (cJ (Go.UK.adv T im [] n.n k p)))))(hat:fzAt id (cJ (Go.UK.adv T im [] n.n k p))=some (z,es):=by kernel_rfl)(hk:aSn n id z (cJ (Go.UK.adv T im [] n.n k p)) (lJ id z q es 0 (fF (Go.UK.adv T im [] n.n k p)))=true:=by kernel_rfl)
  (hl:sL id (uZ (Go.UK.adv T im [] n.n k p))++sE id 0 (fF (Go.UK.adv T im [] n.n k p))=List.replicate (sL id (uZ (Go.UK.adv T im [] n.n k p))++sE id 0 (fF (Go.UK.adv T im [] n.n k p))).length ln:=by kernel_rfl) (e0:π):At P T im n Q p:=At.t k (λhx=>aVh hq hat hk hln hl hx) h e0
theorem At.gl{π:Prop}(k:Nat)(ss bs:List Nat)(id m m':Nat)(e:m'=m)(h:π->At P T im n Q (yU p (glS ss bs id m' (cJ p))))(hc:glS ss bs id m (cJ p)=cJ p:=by kernel_rfl)(e0:π):At P T im n Q p:=by
 subst e;exact At.t0 (λhx=>hx) (by have h:=h e0;rwa[hc] at h)
theorem At.to{π:Prop}(k:Nat)(t:ASt)(h:π->At P T im n Q (yU (Go.UK.adv T im [] n.n k p) t))(hc:(cOK n (cJ (Go.UK.adv T im [] n.n k p)) t,cSt (cJ (Go.UK.adv T im [] n.n k p)) t)=(true,t):=by kernel_rfl)(e0:π):At P T im n Q p:=At.t k (λhx=>jr hc _ _ _ hx) h e0
theorem At.jr{π:Prop}{c:Code}{ks:List Fo}{s t:ASt}(hj:JR n t s)(h:π->At P T im n Q (.code c ks t))(e:π):At P T im n Q (.code c ks s):=λhT hm=>aw_jr hj (h e hT hm)
theorem At.l2{π:Prop}(hT0:TOK P T)(k:Nat){d1 d2 t e:TypeId}{α:Type}(f:α->AV){z sz b1:Nat}{z0:AV}{i:TI}(es:List α)
  (ht:T t=some ⟨sz,b1,z0,.sl e⟩) (he:T e=some i) (hi:i.kind = .int .u8)
  (h:π->At P T im n Q (aHF (aHF (Go.UK.adv T im [] n.n k p) ⟨[],[]⟩) ⟨((uZ (Go.UK.adv T im [] n.n k p)).set d1 (none,eO (fF (Go.UK.adv T im [] n.n k p)).length z f es)).set d2 (none,eO (fF (Go.UK.adv T im [] n.n k p)).length z f es),fF (Go.UK.adv T im [] n.n k p)++[.tail (es.length*z)]⟩))
  (hx:(aSt (Go.UK.adv T im [] n.n k p),(aDm (Go.UK.adv T im [] n.n k p)).guard,(aDm (Go.UK.adv T im [] n.n k p)).dst,(aNl (Go.UK.adv T im [] n.n k p)).guard,(aNl (Go.UK.adv T im [] n.n k p)).dst,(aNl (Go.UK.adv T im [] n.n k p)).op,(f8 n.n d1||f8 n.n d2),(match (aDm (Go.UK.adv T im [] n.n k p)).op with | .buildSlice t' _ _=>au t' t | _=>false),aND T (aDm (Go.UK.adv T im [] n.n k p)) (uZ (Go.UK.adv T im [] n.n k p)))
   = (true,none,some d1,none,some d2,.convert t t (.tmp d1),false,true,some (z,es.length,es.map f)):=by kernel_rfl) (e0:π):At P T im n Q p:=by
 have h:=h e0;refine At.adv (gl:=[]) k ?_;generalize Go.UK.adv T im [] n.n k p=q at *;simp only[Prod.mk.injEq] at hx;obtain⟨h0,h1,h2,h3,h4,h5,h6,h7,h8⟩:=hx;unfold aSt at h0;split at h0
 ·intro hT hm;exact aTT hT f es h1 h2 h3 h4 h5 h6 ht he hi h7 h8 (h hT hm)
 ·cases h0
theorem At.q{π:Prop}(hT0:TOK P T)(k:Nat){d t e z sz b1:Nat}{z0 x:AV}{es:List AV}(ht:T t=some ⟨sz,b1,z0,.sl e⟩)
  (h1:π->At P T im n Q (aHF (Go.UK.adv T im [] n.n k p) ⟨(uZ (Go.UK.adv T im [] n.n k p)).set d (none,.v (.bool false)),fF (Go.UK.adv T im [] n.n k p)⟩)) (h2:es=[]->π->At P T im n Q (aHF (Go.UK.adv T im [] n.n k p) ⟨(uZ (Go.UK.adv T im [] n.n k p)).set d (none,.v (.bool true)),fF (Go.UK.adv T im [] n.n k p)⟩))
  (hx:(aPS (Go.UK.adv T im [] n.n k p),(aDm (Go.UK.adv T im [] n.n k p)).guard,(aDm (Go.UK.adv T im [] n.n k p)).dst,f8 n.n d,eqE (aDm (Go.UK.adv T im [] n.n k p)) (uZ (Go.UK.adv T im [] n.n k p)) .eql,wH x)
   = (true,none,some d,false,some (t,x,.v (.slice none 0 0)),some (z,es)):=by kernel_rfl) (e0:π):At P T im n Q p:=by
 have h1:=h1 e0;refine At.adv (gl:=[]) k ?_;generalize Go.UK.adv T im [] n.n k p=q at *;simp only[Prod.mk.injEq] at hx;obtain⟨h0,g1,g2,g3,g4,g5⟩:=hx;obtain⟨arr,o,l,ks,st,rfl⟩:=aJT h0;intro hT hm;exact aUE hT g1 g2 g3 ht g4 g5 (h1 hT hm) (λe=>h2 e e0 hT hm)
def Le(n:Fr)(Q1 Q2:Exit->ASt->Prop):Prop:=∀e s ctx a w,Q1 e s->Sat n ctx s a w->∃s',Q2 e s'/\Sat n ctx s' a w
theorem aPj{c:Code}{st:ASt}{Q1 Q2:Exit->ASt->Prop}(hl:Le n Q1 Q2)(h:aw P n c Q1 st):aw P n c Q2 st:=by
 intro ctx a w hs;refine wpIn_mono (h ctx a w hs) ?_;rintro e a' w' ⟨s,h1,h2⟩
 exact hl e s _ _ _ h1 h2
theorem aW4{ops:Array Oper}{l:List Oper}{st:ASt}{K1 K2:ASt->Prop}(hl:∀s ctx a w,K1 s->Sat n ctx s a w->∃s',K2 s'/\Sat n ctx s' a w)(h:awl P n ops l K1 st):awl P n ops l K2 st:=by
 intro ctx a w hs;refine aA8 ?_ _ _ _ (h ctx a w hs)
 rintro e a' w' ⟨rfl,s,h1,h2⟩
 exact⟨rfl,hl s _ _ _ h1 h2⟩
theorem aR4{c:Code}{Q1 Q2:Exit->ASt->Prop}(hl:Le n Q1 Q2):∀(k:Nat) (s:ASt),unr P n c Q1 k s->unr P n c Q2 k s
 | 0,s,h=>h
 | k+1,s,h=>by
  refine aPj (Q1:=tn (unr P n c Q1 k) Q1) ?_ h;intro e s ctx a w h1 h2;cases e with
  | normal=>exact⟨s,aR4 hl k s h1,h2⟩
  | _=>exact hl _ s ctx a w h1 h2
theorem aFH{Q1 Q2:Exit->ASt->Prop}(hl:Le n Q1 Q2):∀(ks:List Fo),Le n (kQ P n Q1 ks) (kQ P n Q2 ks)
 | []=>hl
 | .seq y :: ks=>by
  intro e s ctx a w h1 h2;cases e with
  | normal=>exact⟨s,aPj (aFH hl ks) h1,h2⟩
  | _=>exact aFH hl ks _ s ctx a w h1 h2
 | .blk id :: ks=>by
  intro e s ctx a w h1 h2;cases e with
  | exit i=>
   unfold kQ at h1 ⊢;simp only[inB] at h1 ⊢;split
   ·rename_i hi;rw[if_pos hi] at h1;exact aFH hl ks _ s ctx a w h1 h2
   ·rename_i hi;rw[if_neg hi] at h1;exact aFH hl ks _ s ctx a w h1 h2
  | _=>exact aFH hl ks _ s ctx a w h1 h2
 | .un k c :: ks=>by
  intro e s ctx a w h1 h2;cases e with
  | normal=>exact⟨s,aR4 (aFH hl ks) k s h1,h2⟩
  | _=>exact aFH hl ks _ s ctx a w h1 h2
 | .scp :: ks=>by
  intro e s ctx a w h1 h2;cases e with
  | goto l=>exact h1.elim
  | _=>exact aFH hl ks _ s ctx a w h1 h2
theorem aG2 : ∀(a b:List Fo),kQ P n (kQ P n Q b) a=kQ P n Q (a++b)
 | [],b=>rfl
 | .seq y :: a,b=>by simp only[kQ,du,aG2 a b]
 | .blk i :: a,b=>by simp only[kQ,du,aG2 a b]
 | .un k c :: a,b=>by simp only[kQ,du,aG2 a b]
 | .scp :: a,b=>by simp only[kQ,du,aG2 a b]
theorem At.cut{q:Pt}{Q1:Exit->ASt->Prop}(d:Nat)(hl:Le n Q1 (kQ P n Q (nX d q)))(h:At P T im n Q1 (aJs d q)):At P T im n Q q:=by
 intro hT hm;cases q with
 | code c ks st=>
  have h:=h hT hm;unfold nX aL0 at hl;have e:kQ P n Q ks=kQ P n (kQ P n Q (aK9 d ks)) (aHU d ks):=by rw[aG2,aJp]
  show aw P n c (kQ P n Q ks) st;rw[e]
  exact aPj (aFH hl _) h
 | ops arr l ks st=>
  have h:=h hT hm;unfold nX aL0 at hl;have e:kQ P n Q ks=kQ P n (kQ P n Q (aK9 d ks)) (aHU d ks):=by rw[aG2,aJp]
  show awl P n arr l (λs=>kQ P n Q ks .normal s) st;rw[e]
  exact aW4 (λs ctx a w h1 h2=>aFH hl _ .normal s ctx a w h1 h2) h
 | out e st=>exact(h hT hm).elim
 | bad=>exact(h hT hm).elim
theorem aRt{Q0:Exit->ASt->Prop}{t:ASt}(h:Q0 .normal t):Le n (tn (JR n t) Q0) Q0:=by
 intro e s ctx a w h1 h2;cases e with
 | normal=>exact⟨t,h,aSO h1 h2⟩
 | _=>exact⟨s,h1,h2⟩
theorem At.j{α ρ:Type}{X:Option α}{F:α->Option ρ}{r:ρ}(k d:Nat)(t:α->ASt)(h:∀x,X=some x->At P T im n (tn (JR n (t x)) (kQ P n Q (nX d (Go.UK.adv T im [] n.n k p)))) (aJs d (Go.UK.adv T im [] n.n k p)))
  (hy:∀x,F x=some r->At P T im n Q (Go.UK.aA0 (nX d (Go.UK.adv T im [] n.n k p)) (t x))) (e:aa X F=some r):At P T im n Q p:=by
 obtain⟨x,e1,e2⟩:=aDd e;exact At.adv (gl:=[]) k λhT hm=>At.cut d (aRt (At.popN hT hm (hy x e2))) (h x e1) hT hm
def JS{α β:Type}(n:Fr)(t:α->ASt)(o:Sum α β)(s:ASt):Prop:=∃p,o=Sum.inl p/\JR n (t p) s
theorem aVP{α β ρ:Type}{Q0:Exit->ASt->Prop}{t:α->ASt}{o:Sum α β}{F:α->ρ}{G:β->ρ}{r:ρ}(g:kG o F G=r)(h:∀x,F x=r->Q0 .normal (t x)):Le n (tn (JS n t o) Q0) Q0:=by
 intro e s ctx a w h1 h2;cases e with
 | normal=>
  obtain⟨x,rfl,h3⟩:=h1;exact⟨t x,h x g,aSO h3 h2⟩
 | _=>exact⟨s,h1,h2⟩
theorem At.js{α β ρ:Type}{X:Option (Sum α β)}{F:α->Option ρ}{G:β->Option ρ}{r:ρ}(k d:Nat)(t:α->ASt)(h:∀o,kG o F G=some r->X=some o->At P T im n (tn (JS n t o) (kQ P n Q (nX d (Go.UK.adv T im [] n.n k p)))) (aJs d (Go.UK.adv T im [] n.n k p)))
  (hy:∀x,F x=some r->At P T im n Q (Go.UK.aA0 (nX d (Go.UK.adv T im [] n.n k p)) (t x))) (e:aa X (λo=>kG o F G)=some r):At P T im n Q p:=by
 obtain⟨o,e1,g⟩:=aDd e;exact At.adv (gl:=[]) k λhT hm=>At.cut d (aVP g (λx hx=>At.popN hT hm (hy x hx))) (h o g e1) hT hm
def aLB : Pt->Code
 | .code (.loop c) _ _=>c
 | _ => .skip
def aQ0 : Pt->Nat
 | .code _ (.blk id :: _) _=>id
 | _=>0
def aOy : Pt->Bool
 | .code (.loop _) (.blk _ :: _) _=>true
 | _=>false
theorem lp0{q:Pt}{Q1:Exit->ASt->Prop}(I:Nat->ASt->Prop)(N:Nat)(hi:aOy q=true)(h0:I N (cJ q))(hl:Le n Q1 (kQ P n Q (nX 1 q)))
  (h:∀k s,I k s->At P T im n (tn (λs'=>∃m,m < k/\I m s') (inB (aQ0 q) Q1)) (.code (aLB q) [] s)):At P T im n Q q:=by
 intro hT hm;unfold aOy at hi;split at hi
 ·rename_i c id ks st;show aw P n (.loop c) (inB id (kQ P n Q ks)) st;have:aw P n (.loop c) (inB id Q1) st:=aP5 I (λk s hI=>h k s hI hT hm) N st h0;refine aPj ?_ this;intro e s ctx a w h1 h2;cases e with
  | exit i=>
   simp only[inB] at h1 ⊢;split
   ·rename_i hi;rw[if_pos hi] at h1;exact hl _ s ctx a w h1 h2
   ·rename_i hi;rw[if_neg hi] at h1;exact hl _ s ctx a w h1 h2
  | _=>exact hl _ s ctx a w h1 h2
 ·cases hi
theorem At.l{α ρ:Type}{X:Option α}{F:α->Option ρ}{r:ρ}(k:Nat)(t:α->ASt)(I:α->(ASt->ASt->Prop)->Nat->ASt->Prop)(N:Nat)(h0:∀x,X=some x->I x (JR n) N (cJ (Go.UK.adv T im [] n.n k p)))
  (h:∀x j s,I x (JR n) j s->At P T im n (tn (λs'=>∃m,m < j/\I x (JR n) m s') (inB (aQ0 (Go.UK.adv T im [] n.n k p)) (tn (JR n (t x)) (kQ P n Q (nX 1 (Go.UK.adv T im [] n.n k p)))))) (.code (aLB (Go.UK.adv T im [] n.n k p)) [] s))
  (hy:∀x,F x=some r->At P T im n Q (Go.UK.aA0 (nX 1 (Go.UK.adv T im [] n.n k p)) (t x))) (hi:aOy (Go.UK.adv T im [] n.n k p)=true:=by kernel_rfl) (e:aa X F=some r):At P T im n Q p:=by
 obtain⟨x,e1,e2⟩:=aDd e;exact At.adv (gl:=[]) k λhT hm=>lp0 (I x (JR n)) N hi (h0 x e1) (aRt (At.popN hT hm (hy x e2))) (h x) hT hm
theorem At.ls{α β ρ:Type}{X:Option (Sum α β)}{F:α->Option ρ}{G:β->Option ρ}{r:ρ}(k:Nat)(t:α->ASt)(I:Sum α β->(ASt->ASt->Prop)->Nat->ASt->Prop)(N:Nat)(h0:∀o,X=some o->I o (JR n) N (cJ (Go.UK.adv T im [] n.n k p)))
  (h:∀o,kG o F G=some r->∀j s,I o (JR n) j s->At P T im n (tn (λs'=>∃m,m < j/\I o (JR n) m s') (inB (aQ0 (Go.UK.adv T im [] n.n k p)) (tn (JS n t o) (kQ P n Q (nX 1 (Go.UK.adv T im [] n.n k p)))))) (.code (aLB (Go.UK.adv T im [] n.n k p)) [] s))
  (hy:∀x,F x=some r->At P T im n Q (Go.UK.aA0 (nX 1 (Go.UK.adv T im [] n.n k p)) (t x))) (hi:aOy (Go.UK.adv T im [] n.n k p)=true:=by kernel_rfl) (e:aa X (λo=>kG o F G)=some r):At P T im n Q p:=by
 obtain⟨o,e1,g⟩:=aDd e;exact At.adv (gl:=[]) k λhT hm=>lp0 (I o (JR n)) N hi (h0 o e1) (aVP g (λx hx=>At.popN hT hm (hy x hx))) (h o g) hT hm
def aPx(m:Nat)(q:Pt):Pt:=
 match q with
 | .code (.loop c) ks st => .code c (.un m c :: ks) st
 | _ => .bad
theorem At.u{π:Prop}(m k:Nat)(h:π->At P T im n Q (aPx m (Go.UK.adv T im [] n.n k p)))(e:π):At P T im n Q p:=by
 have h:=h e;refine At.adv (gl:=[]) k ?_;generalize Go.UK.adv T im [] n.n k p=q at *;unfold aPx at h;split at h
 ·intro hT hm;exact aQk (m+1) (unr_s (h hT hm))
 ·exact At.bad h
def aI6 : Pt->Bool
 | .out .normal _=>true
 | _=>false
def outR : Pt->Bool
 | .code .ret _ _=>true
 | _=>false
def outE(id:Nat):Pt->Bool
 | .out (.exit i) _=>au i id
 | _=>false
theorem zF{q:Pt}(h:aI6 q=true):q = .out .normal (cJ q):=by
 unfold aI6 at h;split at h
 ·rfl
 ·cases h
theorem aQo{q:Pt}(h:outR q=true):∃ks,q = .code .ret ks (cJ q):=by
 unfold outR at h;split at h
 ·exact⟨_,rfl⟩
 ·cases h
theorem aKv{id:Nat}{q:Pt}(h:outE id q=true):q = .out (.exit id) (cJ q):=by
 unfold outE at h;split at h
 ·rw[ag h];rfl
 ·cases h
theorem At.jn(k:Nat){t:ASt}(hc:(aI6 (Go.UK.adv T im [] n.n k p),cOK n (cJ (Go.UK.adv T im [] n.n k p)) t,cSt (cJ (Go.UK.adv T im [] n.n k p)) t)=(true,true,t):=by kernel_rfl):At P T im n (tn (JR n t) Q) p:=by
 refine At.adv (gl:=[]) k ?_;generalize Go.UK.adv T im [] n.n k p=q at *;simp only[Prod.mk.injEq] at hc;rw[zF hc.1]
 exact λ_ _=>Go.UK.jr (by rw[hc.2.1,hc.2.2])
theorem At.jw(k:Nat){t:ASt}(hj:JR n t (cJ (Go.UK.adv T im [] n.n k p)))(hc:aI6 (Go.UK.adv T im [] n.n k p)=true:=by kernel_rfl):At P T im n (tn (JR n t) Q) p:=by
 refine At.adv (gl:=[]) k ?_;generalize Go.UK.adv T im [] n.n k p=q at *;rw[zF hc]
 exact λ_ _=>hj
theorem At.jsn{α β:Type}(k:Nat){t:α->ASt}{x:α}(hc:(aI6 (Go.UK.adv T im [] n.n k p),cOK n (cJ (Go.UK.adv T im [] n.n k p)) (t x),cSt (cJ (Go.UK.adv T im [] n.n k p)) (t x))=(true,true,t x):=by kernel_rfl):At P T im n (tn (JS n t (Sum.inl x:Sum α β)) Q) p:=by
 refine At.adv (gl:=[]) k ?_;generalize Go.UK.adv T im [] n.n k p=q at *;simp only[Prod.mk.injEq] at hc;rw[zF hc.1]
 exact λ_ _=>⟨x,rfl,Go.UK.jr (by rw[hc.2.1,hc.2.2])⟩
theorem At.x(k:Nat){K:ASt->Prop}{id:Nat}{t:ASt}(hc:(outE id (Go.UK.adv T im [] n.n k p),cOK n (cJ (Go.UK.adv T im [] n.n k p)) t,cSt (cJ (Go.UK.adv T im [] n.n k p)) t)=(true,true,t):=by kernel_rfl):At P T im n (tn K (inB id (tn (JR n t) Q))) p:=by
 refine At.adv (gl:=[]) k ?_;generalize Go.UK.adv T im [] n.n k p=q at *;simp only[Prod.mk.injEq] at hc;rw[aKv hc.1]
 exact λ_ _=>tn_x (aTn (tn_n (Go.UK.jr (by rw[hc.2.1,hc.2.2]))))
theorem At.xs{α β:Type}(k:Nat){K:ASt->Prop}{id:Nat}{t:α->ASt}{x:α}(hc:(outE id (Go.UK.adv T im [] n.n k p),cOK n (cJ (Go.UK.adv T im [] n.n k p)) (t x),cSt (cJ (Go.UK.adv T im [] n.n k p)) (t x))=(true,true,t x):=by kernel_rfl):At P T im n (tn K (inB id (tn (JS n t (Sum.inl x:Sum α β)) Q))) p:=by
 refine At.adv (gl:=[]) k ?_;generalize Go.UK.adv T im [] n.n k p=q at *;simp only[Prod.mk.injEq] at hc;rw[aKv hc.1]
 exact λ_ _=>tn_x (aTn (tn_n ⟨x,rfl,Go.UK.jr (by rw[hc.2.1,hc.2.2])⟩))
theorem At.k(j:Nat){m:Nat}{I:Nat->ASt->Prop}(h:I m (cJ (Go.UK.adv T im [] n.n j p)))(hc:aI6 (Go.UK.adv T im [] n.n j p)=true:=by kernel_rfl):At P T im n (tn (λs'=>∃i,i < m+1/\I i s') Q) p:=by
 refine At.adv (gl:=[]) j ?_;generalize Go.UK.adv T im [] n.n j p=q at *;rw[zF hc]
 exact λ_ _=>⟨m,Nat.lt_succ_self m,h⟩
class aGN(Q:Exit->ASt->Prop)(Q':outParam (Exit->ASt->Prop)):Prop where
 to:∀st,Q' .ret st->Q .ret st
instance retTo_tn {K:ASt->Prop} {Q Q':Exit->ASt->Prop} [h:aGN Q Q']:aGN (tn K Q) Q':=⟨λst hq=>h.to st hq⟩
instance retTo_inB {id:Nat} {Q Q':Exit->ASt->Prop} [h:aGN Q Q']:aGN (inB id Q) Q':=⟨λst hq=>h.to st hq⟩
instance retTo_kQ {Q Q':Exit->ASt->Prop} {ks:List Fo} [h:aGN Q Q']:aGN (kQ P n Q ks) Q':=⟨λst hq=>kQ_r (h.to st hq)⟩
instance retTo_M {lo:Nat} {rs:List ResultVar} {ret:AV} {H':List Box}:aGN (aFK T lo rs ret H') (aFK T lo rs ret H'):=⟨λ_ h=>h⟩
theorem At.r(k:Nat){lo:Nat}{rs:List ResultVar}{ret:AV}{H':List Box}[h:aGN Q (aFK T lo rs ret H')](hc:(outR (Go.UK.adv T im [] n.n k p),aOd lo (fF (Go.UK.adv T im [] n.n k p)) H' ret,aPD T rs (cJ (Go.UK.adv T im [] n.n k p)) ret H')=(true,true,some (ret,H')):=by kernel_rfl):At P T im n Q p:=by
 refine At.adv (gl:=[]) k ?_;generalize Go.UK.adv T im [] n.n k p=q at *;simp only[Prod.mk.injEq] at hc;obtain⟨ks,e⟩:=aQo hc.1;rw[e]
 exact λ_ _=>aV1 (kQ_r (h.to _ (fin_r (by rw[<- hc.2.2];exact Prod.ext hc.2.1 rfl))))
theorem At.z(k:Nat){lo:Nat}{rs:List ResultVar}{ret:AV}{H':List Box}(hc:(aI6 (Go.UK.adv T im [] n.n k p),aOd lo (fF (Go.UK.adv T im [] n.n k p)) H' ret,aPD T rs (cJ (Go.UK.adv T im [] n.n k p)) ret H')=(true,true,some (ret,H')):=by kernel_rfl):At P T im n (aFK T lo rs ret H') p:=by
 refine At.adv (gl:=[]) k ?_;generalize Go.UK.adv T im [] n.n k p=q at *;simp only[Prod.mk.injEq] at hc;rw[zF hc.1]
 exact λ_ _=>fin_n (by rw[<- hc.2.2];exact Prod.ext hc.2.1 rfl)
theorem At.fn(im:Nat->Bool)(hT:TOK P T)(hmo:P.follows .mixedOrders=true){f:FuncId}{fn:Func}{c:Code}{rs:List ResultVar}{args:List AV}{ret:AV}{H H':List Box}{m lo:Nat}(hf:P.funcs[f]? = some fn)(hb:fn.body=some c)(hres:fn.results=rs.toArray)
  {π:Prop} (e:π) (h:π->At P T im (Fr.f m lo) (aFK T lo rs ret H') (.code c [] ⟨aCJ 0 args,H⟩)) (hk:(au fn.ntmps m&&(f8 args.length m&&au lo H.length))=true:=by kernel_rfl):FnM P f H args ret H':=
 aKu hT hf hb hk hres (h e hT hmo)
end
end Go.UK

namespace Go.UK
open Go
set_option linter.all false
variable [bS]
section
variable {P:Program} {T:TypeId→Option TI} {im:Nat→Bool} {n:Fr} {Q:Exit→ASt→Prop} {p:Pt}
def or1Y(P:Program)(n:Fr)(l:List Oper)(C:List (List Nat))(ms:List MI)(B:Env)(H0:List Box)(cs:CS):O1->Prop
 | []=>True
 | (i,x) :: r=>aQU (λH=>Big P n (rF l i) (fL C ms B i) H x H) (xY C i H0 cs)/\or1Y P n l C ms B H0 cs r
section
variable {l:List Oper} {C:List (List Nat)} {ms:List MI} {B:Env} {H0:List Box} {cs:CS}
theorem aTp : ∀{o:O1},or1Y P n l C ms B H0 cs o->aQh P n l C ms B o (o.map (λq=>xY C q.1 H0 cs))
 | [],_=>trivial
 | (i,x) :: r,h=>⟨h.1,aTp h.2⟩
end
def lPt : Pt->List Oper
 | .code (.region _ arr _) _ _=>arr.toList
 | _=>[]
def aTb : Pt->Bool
 | .code (.region _ _ d) _ _=>d
 | _=>false
theorem aLA{q:Pt}(h:aTb q=true):∃id arr ks st,q = .code (.region id arr true) ks st:=by
 unfold aTb at h;split at h
 ·subst h;exact⟨_,_,_,_,rfl⟩
 ·cases h
theorem dn0{q:Pt}{o1:O1}{o2:O2}(es:List (Nat×AV))
  (h1:or1Y P n (lPt q) (tW (lPt q).toArray) (wP T im n.n (lPt q) (dB0 (lPt q) (cJ q)) o1 o2).ms (dB0 (lPt q) (cJ q)).env (dB0 (lPt q) (cJ q)).H (wP T im n.n (lPt q) (dB0 (lPt q) (cJ q)) o1 o2).cs o1)
  (h2:or2 P n (lPt q) (tW (lPt q).toArray) (wP T im n.n (lPt q) (dB0 (lPt q) (cJ q)) o1 o2).ms (wP T im n.n (lPt q) (dB0 (lPt q) (cJ q)) o1 o2).cs (dB0 (lPt q) (cJ q)).env (dB0 (lPt q) (cJ q)).H o2)
  (h:At P T im n Q (aA0 (aL0 q) (nmS es (dSt T im n.n (lPt q) (dB0 (lPt q) (cJ q)) o1 o2))))
  (hB:aNV (lPt q) (tW (lPt q).toArray) (wP T im n.n (lPt q) (dB0 (lPt q) (cJ q)) o1 o2) (dB0 (lPt q) (cJ q)) o1 o2=true)
  (hE:aM1 T im n.n (lPt q) (tW (lPt q).toArray) (wP T im n.n (lPt q) (dB0 (lPt q) (cJ q)) o1 o2) (dB0 (lPt q) (cJ q)) o1 o2=aNE (lPt q) (tW (lPt q).toArray) (wP T im n.n (lPt q) (dB0 (lPt q) (cJ q)) o1 o2) (dB0 (lPt q) (cJ q)) o1 o2)
  (hd:(lPt q).all (λo=>dOK n.n o.dst)=true) (hi:aTb q=true) (hn:nmL es (dSt T im n.n (lPt q) (dB0 (lPt q) (cJ q)) o1 o2)=nmR es):At P T im n Q q:=by
 obtain⟨id,arr,ks,st,rfl⟩:=aLA hi;intro hT hm;exact aQv (l:=arr.toList) hT hm im o1 _ o2 hB hE hd rfl (aTp h1) h2 es hn (At.popN hT hm h)
theorem At.d{π:Prop}(k:Nat){o1:O1}{o2:O2}
  (h1:or1Y P n (lPt (Go.UK.adv T im [] n.n k p)) (tW (lPt (Go.UK.adv T im [] n.n k p)).toArray) (wP T im n.n (lPt (Go.UK.adv T im [] n.n k p)) (dB0 (lPt (Go.UK.adv T im [] n.n k p)) (cJ (Go.UK.adv T im [] n.n k p))) o1 o2).ms (dB0 (lPt (Go.UK.adv T im [] n.n k p)) (cJ (Go.UK.adv T im [] n.n k p))).env (dB0 (lPt (Go.UK.adv T im [] n.n k p)) (cJ (Go.UK.adv T im [] n.n k p))).H (wP T im n.n (lPt (Go.UK.adv T im [] n.n k p)) (dB0 (lPt (Go.UK.adv T im [] n.n k p)) (cJ (Go.UK.adv T im [] n.n k p))) o1 o2).cs o1)
  (h2:or2 P n (lPt (Go.UK.adv T im [] n.n k p)) (tW (lPt (Go.UK.adv T im [] n.n k p)).toArray) (wP T im n.n (lPt (Go.UK.adv T im [] n.n k p)) (dB0 (lPt (Go.UK.adv T im [] n.n k p)) (cJ (Go.UK.adv T im [] n.n k p))) o1 o2).ms (wP T im n.n (lPt (Go.UK.adv T im [] n.n k p)) (dB0 (lPt (Go.UK.adv T im [] n.n k p)) (cJ (Go.UK.adv T im [] n.n k p))) o1 o2).cs (dB0 (lPt (Go.UK.adv T im [] n.n k p)) (cJ (Go.UK.adv T im [] n.n k p))).env (dB0 (lPt (Go.UK.adv T im [] n.n k p)) (cJ (Go.UK.adv T im [] n.n k p))).H o2)
  (h:π->At P T im n Q (Go.UK.aA0 (aL0 (Go.UK.adv T im [] n.n k p)) (dSt T im n.n (lPt (Go.UK.adv T im [] n.n k p)) (dB0 (lPt (Go.UK.adv T im [] n.n k p)) (cJ (Go.UK.adv T im [] n.n k p))) o1 o2)))
  (hB:aNV (lPt (Go.UK.adv T im [] n.n k p)) (tW (lPt (Go.UK.adv T im [] n.n k p)).toArray) (wP T im n.n (lPt (Go.UK.adv T im [] n.n k p)) (dB0 (lPt (Go.UK.adv T im [] n.n k p)) (cJ (Go.UK.adv T im [] n.n k p))) o1 o2) (dB0 (lPt (Go.UK.adv T im [] n.n k p)) (cJ (Go.UK.adv T im [] n.n k p))) o1 o2=true:=by kernel_rfl)
  (hE:aM1 T im n.n (lPt (Go.UK.adv T im [] n.n k p)) (tW (lPt (Go.UK.adv T im [] n.n k p)).toArray) (wP T im n.n (lPt (Go.UK.adv T im [] n.n k p)) (dB0 (lPt (Go.UK.adv T im [] n.n k p)) (cJ (Go.UK.adv T im [] n.n k p))) o1 o2) (dB0 (lPt (Go.UK.adv T im [] n.n k p)) (cJ (Go.UK.adv T im [] n.n k p))) o1 o2=aNE (lPt (Go.UK.adv T im [] n.n k p)) (tW (lPt (Go.UK.adv T im [] n.n k p)).toArray) (wP T im n.n (lPt (Go.UK.adv T im [] n.n k p)) (dB0 (lPt (Go.UK.adv T im [] n.n k p)) (cJ (Go.UK.adv T im [] n.n k p))) o1 o2) (dB0 (lPt (Go.UK.adv T im [] n.n k p)) (cJ (Go.UK.adv T im [] n.n k p))) o1 o2:=by kernel_rfl)
  (hd:(lPt (Go.UK.adv T im [] n.n k p)).all (λo=>dOK n.n o.dst)=true:=by kernel_rfl) (hi:aTb (Go.UK.adv T im [] n.n k p)=true:=by kernel_rfl) (e0:π):At P T im n Q p:=
 At.adv (gl:=[]) k (dn0 [] h1 h2 (h e0) hB hE hd hi rfl)
end
end Go.UK

