/- The own layer: abstract values, their memory, and the steps of the model over them: for any program. -/
import Derived.Test.YtmmabhkichiikaaGreatLib11
import Derived.Shelf.SlMaps.Clone
namespace Go.UK
open Go
set_option linter.all false
variable [bW]
section
variable {P:Program} {T:TypeId→Option TI} {n:Fr}
theorem aR6{st:ASt}{ctx:Mem}{a:Act}{w:World}(h:Sat n ctx st a w):Sat n ctx ⟨st.env,st.H++[.tail 0]⟩ a w:=by
 obtain⟨bs,hm⟩:=h;have ext:=Ext.snoc (F:=ctx.F) hm.ok.len (eD.refl w) (.tail 0) none (by intro b e;cases e)
 have ok:=OK.snoc hm.ok (eD.refl w) (x := .tail 0) (o:=none) (by intro b e;cases e) (by intro b e;cases e)
 exact⟨bs++[none],{ h:=rfl,ok:=ok,ext:=hm.ext.trans ext,env:=hm.env.ext ext,size:=hm.size,low:=hm.low,defers:=wQ.ext hm.ok ext hm.defers,nod:=hm.nod,outs:=λp hp=>(hm.outs p hp).ext ext }⟩
def aL4 : List Bool->List Box
 | []=>[]
 | true :: r => .tail 0 :: aL4 r
 | false :: r => .dead :: aL4 r
theorem aI7 : ∀(m:List Bool) {st:ASt} {ctx:Mem} {a:Act} {w:World},Sat n ctx st a w->Sat n ctx ⟨st.env,st.H++aL4 m⟩ a w
 | [],st,ctx,a,w,h=>by simpa[aL4] using h
 | true :: r,st,ctx,a,w,h=>by
  have:=aI7 r (aR6 h)
  simpa[aL4] using this
 | false :: r,st,ctx,a,w,h=>by
  have h1:=aNq h 1;have:=aI7 r h1;simpa[aL4] using this
end
end Go.UK

namespace Go.UK
open Go
set_option linter.all false
variable [bW]
section
variable {P:Program} {T:TypeId→Option TI} {n:Fr}
end
end Go.UK

namespace Go.UK
open Go Go.Proofs Go.Maps
set_option linter.all false
variable [bW]
section
variable {P:Program} {α:Type} {F:α→AV} {q:IntKind}
end
end Go.UK

open List renaming cons_append→du
open Nat renaming beq→au,ble→f8,eq_of_beq_eq_true→ag
open Option renaming bind→aa
namespace Go.UK
open Go
set_option linter.all false
variable [bW]
inductive Fo
 | seq (y:Code)
 | blk (id:Nat)
 | un (k:Nat) (c:Code)
 | scp
inductive Pt
 | code (c:Code) (ks:List Fo) (st:ASt)
 | ops (arr:Array Oper) (l:List Oper) (ks:List Fo) (st:ASt)
 | out (e:Exit) (st:ASt)
 | bad
def kQ(P:Program)(n:Fr)(Q:Exit->ASt->Prop):List Fo->Exit->ASt->Prop
 | []=>Q
 | .seq y :: ks=>tn (aw P n y (kQ P n Q ks)) (kQ P n Q ks)
 | .blk id :: ks=>inB id (kQ P n Q ks)
 | .scp :: ks=>ngo (kQ P n Q ks)
 | .un k c :: ks=>tn (unr P n c (kQ P n Q ks) k) (kQ P n Q ks)
def At(P:Program)(T:TypeId->Option TI)(im:Nat->Bool)(n:Fr)(Q:Exit->ASt->Prop)(p:Pt):Prop:=
 TOK P T->P.follows .mixedOrders=true->match p with
 | .code c ks st=>aw P n c (kQ P n Q ks) st
 | .ops arr l ks st=>awl P n arr l (λs=>kQ P n Q ks .normal s) st
 | .out e st=>Q e st
 | .bad=>False
def aBy : List Fo->ASt->Pt
 | [],st => .out .normal st
 | .seq y :: ks,st => .code y ks st
 | .blk _ :: ks,st=>aBy ks st
 | .scp :: ks,st=>aBy ks st
 | .un 0 _ :: _,_ => .bad
 | .un (k+1) c :: ks,st => .code c (.un k c :: ks) st
def aOC(id:Nat):List Fo->ASt->Pt
 | [],st => .out (.exit id) st
 | .seq _ :: ks,st=>aOC id ks st
 | .un _ _ :: ks,st=>aOC id ks st
 | .scp :: ks,st=>aOC id ks st
 | .blk i :: ks,st=>match au id i with | true=>aBy ks st | false=>aOC id ks st
def ctl : Pt->Option Pt
 | .code c ks st=>match c with
  | .seq x y=>some (.code x (.seq y :: ks) st)
  | .skip=>some (aBy ks st)
  | .exit id=>some (aOC id ks st)
  | .block id c=>some (.code c (.blk id :: ks) st)
  | .scope c=>some (.code c (.scp :: ks) st)
  | .label _=>some (aBy ks st)
  | .region _ arr d=>match d with | true=>none | false=>some (.ops arr arr.toList ks st)
  | _=>none
 | .ops _ l ks st=>match l with | []=>some (aBy ks st) | _ :: _=>none
 | _=>none
def aSh : Nat->Pt->Pt
 | 0,p=>p
 | f+1,p=>match ctl p with | some q=>aSh f q | none=>p
def cnt(T:TypeId->Option TI)(im:Nat->Bool)(gl:List Nat)(m:Nat):Pt->Pt
 | .ops arr l ks st=>match l with
  | o :: l=>match step T im gl m arr o st with | some s => .ops arr l ks s | none => .bad
  | [] => .bad
 | .code c ks st=>match c with
  | .cond q x y=>match q with
   | .tmp t=>match get st.env t with
    | some (.v (.bool b))=>match b with | true => .code x ks st | false => .code y ks st
    | _ => .bad
   | .const (.bool b)=>match b with | true => .code x ks st | false => .code y ks st
   | _ => .bad
  | _ => .bad
 | _ => .bad
def adv(T:TypeId->Option TI)(im:Nat->Bool)(gl:List Nat)(m:Nat):Nat->Pt->Pt
 | 0,p=>aSh 64 p
 | k+1,p=>adv T im gl m k (cnt T im gl m (aSh 64 p))
def dG : Pt->ASt
 | .code _ _ st=>st
 | .ops _ _ _ st=>st
 | .out _ st=>st
 | .bad=>⟨[],[]⟩
def wG(p:Pt):Env:=(dG p).env
def fV(p:Pt):List Box:=(dG p).H
def aDn : Pt->Oper
 | .ops _ (o :: _) _ _=>o
 | _=>default
def aNG : Pt->Oper
 | .ops _ (_ :: o :: _) _ _=>o
 | _=>default
def aPr : Pt->Bool
 | .ops _ (_ :: _) _ _=>true
 | _=>false
def aSu : Pt->Bool
 | .ops _ (_ :: _ :: _) _ _=>true
 | _=>false
def aHR(p:Pt)(x:AV)(H:List Box):Pt:=
 match p with
 | .ops arr (o :: l) ks st => .ops arr l ks ⟨st.env.put o.dst (none,x),H⟩
 | _ => .bad
def aGn(p:Pt)(s:ASt):Pt:=
 match p with
 | .ops arr (_ :: l) ks _ => .ops arr l ks s
 | _ => .bad
def zS(p:Pt)(s:ASt):Pt:=
 match p with
 | .ops arr l ks _ => .ops arr l ks s
 | .code c ks _ => .code c ks s
 | _ => .bad
def aNQ : Pt->Bool
 | .ops arr (o :: _) _ st=>gOK arr o st.env
 | _=>false
def cdPt : Pt->Option AV
 | .code (.cond (.tmp t) _ _) _ st=>get st.env t
 | _=>none
def brPt(b:Bool):Pt->Pt
 | .code (.cond _ x y) ks st => .code (match b with | true=>x | false=>y) ks st
 | _ => .bad
def aPs(d:Nat)(b:Bool)(p:Pt):Pt:=zS p (aQU d b (dG p))
def aLd : Pt->List Fo
 | .code _ ks _=>ks
 | .ops _ _ ks _=>ks
 | _=>[]
def aHd{α:Type}:Nat->List α->List α
 | 0,_=>[]
 | _+1,[]=>[]
 | d+1,x :: r=>x :: aHd d r
def aK5{α:Type}:Nat->List α->List α
 | 0,l=>l
 | _+1,[]=>[]
 | d+1,_ :: r=>aK5 d r
def aJK(d:Nat):Pt->Pt
 | .code c ks st => .code c (aHd d ks) st
 | .ops arr l ks st => .ops arr l (aHd d ks) st
 | _ => .bad
def pS(d:Nat)(p:Pt):List Fo:=aK5 d (aLd p)
section
variable {P:Program} {T:TypeId→Option TI} {im:Nat→Bool} {n:Fr} {Q:Exit→ASt→Prop} {p:Pt}
theorem aIg{α:Type}:∀(d:Nat) (l:List α),aHd d l++aK5 d l=l
 | 0,l=>rfl
 | d+1,[]=>rfl
 | d+1,x :: r=>by simp[aHd,aK5,aIg d r]
theorem At.popN{ks:List Fo}{st:ASt}(hT:TOK P T)(hm:P.follows .mixedOrders=true)(h:At P T im n Q (aBy ks st)):kQ P n Q ks .normal st:=by
 induction ks with
 | nil=>exact h hT hm
 | cons f ks ih=>
  cases f with
  | seq y=>exact h hT hm
  | blk id=>exact ih h
  | scp=>exact ih h
  | un k c=>
   cases k with
   | zero=>exact(h hT hm).elim
   | succ k=>exact h hT hm
theorem At.popE{id:Nat}{ks:List Fo}{st:ASt}(hT:TOK P T)(hm:P.follows .mixedOrders=true)(h:At P T im n Q (aOC id ks st)):kQ P n Q ks (.exit id) st:=by
 induction ks with
 | nil=>exact h hT hm
 | cons f ks ih=>
  cases f with
  | seq y=>exact ih h
  | un k c=>exact ih h
  | scp=>exact ih h
  | blk i=>
   unfold Go.UK.aOC at h;cases hb:au id i with
   | true=>
    rw[hb] at h;obtain rfl:=ag hb;exact aSK (At.popN hT hm h)
   | false=>rw[hb] at h;exact inB_x hb (ih h)
theorem kQ_r{ks:List Fo}{st:ASt}(h:Q .ret st):kQ P n Q ks .ret st:=by
 induction ks with
 | nil=>exact h
 | cons f ks ih=>cases f <;> exact ih
theorem aSz{l:Nat}{st:ASt}{Q:Exit->ASt->Prop}(h:Q .normal st):aw P n (.label l) Q st:=λctx a w hs=>wpIn_label ⟨st,h,hs⟩
theorem At.ctl{q:Pt}(hc:ctl p=some q)(h:At P T im n Q q):At P T im n Q p:=by
 intro hT hm;unfold Go.UK.ctl at hc;split at hc
 ·rename_i c ks st;split at hc <;> try cases hc
  ·exact aVb (h hT hm)
  ·exact aUm (At.popN hT hm h)
  ·exact aT8 (At.popE hT hm h)
  ·exact aSx (h hT hm)
  ·exact aS7 (h hT hm)
  ·exact aSz (At.popN hT hm h)
  ·rename_i id arr d;split at hc <;> cases hc;exact aRQ (l:=arr.toList) (h hT hm)
 ·split at hc <;> cases hc;exact aTn (At.popN hT hm h)
 ·cases hc
theorem At.norm : ∀(f:Nat) {p:Pt},At P T im n Q (aSh f p)->At P T im n Q p
 | 0,p,h=>h
 | f+1,p,h=>by
  unfold Go.UK.aSh at h;split at h
  ·rename_i q hq;exact At.ctl hq (At.norm f h)
  ·exact h
theorem At.bad(h:At P T im n Q .bad):At P T im n Q p:=λhT hm=>(h hT hm).elim
theorem At.cnt{gl:List Nat}(h:At P T im n Q (cnt T im gl n.n p)):At P T im n Q p:=by
 unfold Go.UK.cnt at h;split at h
 ·rename_i arr l ks st;split at h
  ·rename_i o l;split at h
   ·rename_i s hs;intro hT hm;exact aP9 (aSZ hT hs) (h hT hm)
   ·exact At.bad h
  ·exact At.bad h
 ·rename_i c ks st;split at h
  ·rename_i q x y;split at h
   ·rename_i t;split at h
    ·rename_i b hb;intro hT hm;refine aPg hb (λe=>?_) (λe=>?_) <;> (subst e;exact h hT hm)
    ·exact At.bad h
   ·rename_i b;intro hT hm;cases b with
    | true=>exact aMw (b:=true) (h hT hm)
    | false=>exact aMw (b:=false) (h hT hm)
   ·exact At.bad h
  ·exact At.bad h
 ·exact At.bad h
theorem At.adv{gl:List Nat}:∀(k:Nat) {p:Pt},At P T im n Q (adv T im gl n.n k p)->At P T im n Q p
 | 0,p,h=>At.norm 64 h
 | k+1,p,h=>At.norm 64 (At.cnt (At.adv k h))
theorem At.g(gl:List Nat)(k:Nat){π:Prop}(h:π->At P T im n Q (Go.UK.adv T im gl n.n k p))(e:π):At P T im n Q p:=At.adv k (h e)
theorem aJh{q:Pt}(h:aPr q=true):∃arr o l ks st,q = .ops arr (o :: l) ks st:=by
 unfold aPr at h;split at h
 ·exact⟨_,_,_,_,_,rfl⟩
 ·cases h
theorem aRT{q:Pt}(h:aNQ q=true):∃arr o l ks st,q = .ops arr (o :: l) ks st/\gOK arr o st.env=true:=by
 unfold aNQ at h;split at h
 ·exact⟨_,_,_,_,_,rfl,h⟩
 ·cases h
theorem At.o1{q:Pt}{x:AV}{H':List Box}(b:Big P n (aDn q) (wG q) (fV q) x H')(hg:aNQ q=true)(h:At P T im n Q (aHR q x H')):At P T im n Q q:=by
 obtain⟨arr,o,l,ks,st,rfl,hg⟩:=aRT hg;intro hT hm;exact aUJ b hg (h hT hm)
theorem At.o(k:Nat){π:Prop}{x:AV}{H':List Box}(b:Big P n (aDn (Go.UK.adv T im [] n.n k p)) (wG (Go.UK.adv T im [] n.n k p)) (fV (Go.UK.adv T im [] n.n k p)) x H')(h:π->At P T im n Q (aHR (Go.UK.adv T im [] n.n k p) x H'))(hg:aNQ (Go.UK.adv T im [] n.n k p)=true:=by kernel_rfl)(e:π):At P T im n Q p:=
 At.adv k (At.o1 b hg (h e))
theorem At.b{α β:Type}{x:Option α}{f:α->Option β}{r:β}(k:Nat){y:α->AV}{H':α->List Box}
  (b:∀a,x=some a->Big P n (aDn (Go.UK.adv T im [] n.n k p)) (wG (Go.UK.adv T im [] n.n k p)) (fV (Go.UK.adv T im [] n.n k p)) (y a) (H' a)) (h:∀a,f a=some r->At P T im n Q (aHR (Go.UK.adv T im [] n.n k p) (y a) (H' a))) (hg:aNQ (Go.UK.adv T im [] n.n k p)=true:=by kernel_rfl) (e:aa x f=some r):At P T im n Q p:=by
 obtain⟨a,e1,e2⟩:=aD1 e;exact At.o k (b a e1) (h a) hg e2
theorem At.c{α:Type}{b:Bool}{px py:Option α}{r:α}(k:Nat)(h1:px=some r->At P T im n Q (brPt true (Go.UK.adv T im [] n.n k p)))(h2:py=some r->At P T im n Q (brPt false (Go.UK.adv T im [] n.n k p)))
  (hb:cdPt (Go.UK.adv T im [] n.n k p)=some (.v (.bool b)):=by kernel_rfl) (e:cond b px py=some r):At P T im n Q p:=by
 refine At.adv (gl:=[]) k ?_;generalize Go.UK.adv T im [] n.n k p=q at *;unfold cdPt at hb;split at hb
 ·intro hT hm;refine aPg hb (λe'=>?_) (λe'=>?_)
  ·subst e';exact h1 e hT hm
  ·subst e';exact h2 e hT hm
 ·cases hb
theorem At.s{α:Type}{b:Bool}{px py:Option α}{r:α}(d k:Nat)(h1:px=some r->At P T im n Q (aPs d true (Go.UK.adv T im [] n.n k p)))(h2:py=some r->At P T im n Q (aPs d false (Go.UK.adv T im [] n.n k p)))
  (hb:(aPr (Go.UK.adv T im [] n.n k p),get (wG (Go.UK.adv T im [] n.n k p)) d)=(true,some (.v (.bool b))):=by kernel_rfl) (e:cond b px py=some r):At P T im n Q p:=by
 refine At.adv (gl:=[]) k ?_;generalize Go.UK.adv T im [] n.n k p=q at *;simp only[Prod.mk.injEq] at hb;obtain⟨hi,hb⟩:=hb;obtain⟨arr,o,l,ks,st,rfl⟩:=aJh hi;intro hT hm;exact aQ6 d e hb (λe=>h1 e hT hm) (λe=>h2 e hT hm)
theorem rt{α:Type}{a r:α}{p:α->Prop}(h:p a)(e:some a=some r):p r:=by cases e;exact h
theorem nn{α:Type}{r:α}{p:Prop}(e:none=some r):p:=by cases e
theorem bi{α β:Type}{x:Option α}{f:α->Option β}{r:β}{p:Prop}(h:∀a,x=some a->f a=some r->p)(e:aa x f=some r):p:=by obtain⟨a,e1,e2⟩:=aD1 e;exact h a e1 e2
theorem lx{α β:Type}{e:α}{f:α->β}{r:β}{p:Prop}(k:let x:=e;f x=r->p)(h:aQ e f=r):p:=k h
theorem aNo{α β γ:Type}{o:Option (Sum α β)}{F:α->Option γ}{G:β->Option γ}{r:γ}{p:Prop}(h1:∀a,o=some (Sum.inl a)->F a=some r->p)(h2:∀b,o=some (Sum.inr b)->G b=some r->p)(h:aa o (λx=>jY x F G)=some r):p:=by
 obtain⟨x,e,h⟩:=aD1 h;cases x with
 | inl a=>exact h1 a e h
 | inr b=>exact h2 b e h
theorem aNu{α β γ:Type}{o:Sum α β}{F:α->Option γ}{G:β->Option γ}{r:γ}{p:Prop}(h1:∀a,o=Sum.inl a->F a=some r->p)(h2:∀b,o=Sum.inr b->G b=some r->p)(h:jY o F G=some r):p:=by
 cases o with
 | inl a=>exact h1 a rfl h
 | inr b=>exact h2 b rfl h
def aAz{α β γ:Type}(o:Sum α β)(F:α->γ)(G:β->γ):γ:=match o with | .inl a=>F a | .inr b=>G b
theorem At.t0{q:Pt}{s:ASt}(hs:∀{ctx:Mem} {a:Act} {w:World},Sat n ctx (dG q) a w->Sat n ctx s a w)(h:At P T im n Q (zS q s)):At P T im n Q q:=by
 intro hT hm;cases q with
 | code c ks st=>exact λctx a w hx=>h hT hm ctx a w (hs hx)
 | ops arr l ks st=>exact λctx a w hx=>h hT hm ctx a w (hs hx)
 | out e st=>exact(h hT hm).elim
 | bad=>exact(h hT hm).elim
theorem At.t(k:Nat){π:Prop}{s:ASt}(hs:∀{ctx:Mem} {a:Act} {w:World},Sat n ctx (dG (Go.UK.adv T im [] n.n k p)) a w->Sat n ctx s a w)(h:π->At P T im n Q (zS (Go.UK.adv T im [] n.n k p) s))(e:π):At P T im n Q p:=At.adv k (At.t0 hs (h e))
theorem At.ownn{π:Prop}(k s z:Nat)(h:π->At P T im n Q (zS (Go.UK.adv T im [] n.n k p) (aSO s z (dG (Go.UK.adv T im [] n.n k p)))))(hg:aG0 (dG (Go.UK.adv T im [] n.n k p)) s=true:=by kernel_rfl)(e0:π):At P T im n Q p:=At.t k (λhx=>aMs hg hx) h e0
theorem At.gron{π:Prop}(k s z:Nat)(h:π->At P T im n Q (zS (Go.UK.adv T im [] n.n k p) (aSo s z (dG (Go.UK.adv T im [] n.n k p)))))(hg:aG0 (dG (Go.UK.adv T im [] n.n k p)) s=true:=by kernel_rfl)(e0:π):At P T im n Q p:=At.t k (λhx=>aNs hg hx) h e0
theorem At.grob{π:Prop}(k b z:Nat)(l:List Nat)(h:π->At P T im n Q (zS (Go.UK.adv T im [] n.n k p) (groB b z l (dG (Go.UK.adv T im [] n.n k p)))))(e0:π):At P T im n Q p:=At.t k (λhx=>aMk hx) h e0
theorem At.ownb{π:Prop}(k b z:Nat)(l:List Nat)(h:π->At P T im n Q (zS (Go.UK.adv T im [] n.n k p) (ownB b z l (dG (Go.UK.adv T im [] n.n k p)))))(e0:π):At P T im n Q p:=At.t k (λhx=>aHJ hx) h e0
theorem At.wk{π:Prop}(k d:Nat)(y:AV)(h:π->At P T im n Q (zS (Go.UK.adv T im [] n.n k p) (wkS d y (dG (Go.UK.adv T im [] n.n k p)))))(e0:π):At P T im n Q p:=At.t k (λhx=>aTv hx) h e0
theorem At.sw{π:Prop}(k i j:Nat)(h:π->At P T im n Q (zS (Go.UK.adv T im [] n.n k p) (swS i j (dG (Go.UK.adv T im [] n.n k p)))))(hk:swOK n i j (dG (Go.UK.adv T im [] n.n k p))=true:=by kernel_rfl)(e0:π):At P T im n Q p:=At.t k (λhx=>aSj hk hx) h e0
theorem At.gz{π:Prop}(k id:Nat)(v:AV)(h:π->At P T im n Q (zS (Go.UK.adv T im [] n.n k p) (gzS id v (dG (Go.UK.adv T im [] n.n k p)))))(hat:gzAt id (dG (Go.UK.adv T im [] n.n k p))=some v:=by kernel_rfl)(hk:aTd n id (dG (Go.UK.adv T im [] n.n k p)) (mJ id v 0 (fV (Go.UK.adv T im [] n.n k p)))=true:=by kernel_rfl)(e0:π):At P T im n Q p:=At.t k (λhx=>aVV hat hk hx) h e0
theorem At.fz{π:Prop}(k id z ln q:Nat)(es:List AV)(hq:es.length=q)(hln:es.length=ln)(h:π->At P T im n Q (zS (Go.UK.adv T im [] n.n k p) (fzS id z q es (dG (Go.UK.adv T im [] n.n k p)))))(hat:fzAt id (dG (Go.UK.adv T im [] n.n k p))=some (z,es):=by kernel_rfl)(hk:aRc n id z (dG (Go.UK.adv T im [] n.n k p)) (mK id z q es 0 (fV (Go.UK.adv T im [] n.n k p)))=true:=by kernel_rfl)
  (hl:tF id (wG (Go.UK.adv T im [] n.n k p))++tG id 0 (fV (Go.UK.adv T im [] n.n k p))=List.replicate (tF id (wG (Go.UK.adv T im [] n.n k p))++tG id 0 (fV (Go.UK.adv T im [] n.n k p))).length ln:=by kernel_rfl) (e0:π):At P T im n Q p:=At.t k (λhx=>aVz hq hat hk hln hl hx) h e0
theorem At.gl{π:Prop}(k:Nat)(ss bs:List Nat)(id m m':Nat)(e:m'=m)(h:π->At P T im n Q (zS p (glS ss bs id m' (dG p))))(hc:glS ss bs id m (dG p)=dG p:=by kernel_rfl)(e0:π):At P T im n Q p:=by
 subst e;exact At.t0 (λhx=>hx) (by have h:=h e0;rwa[hc] at h)
theorem At.to{π:Prop}(k:Nat)(t:ASt)(h:π->At P T im n Q (zS (Go.UK.adv T im [] n.n k p) t))(hc:(cOK n (dG (Go.UK.adv T im [] n.n k p)) t,cSt (dG (Go.UK.adv T im [] n.n k p)) t)=(true,t):=by kernel_rfl)(e0:π):At P T im n Q p:=At.t k (λhx=>jr hc _ _ _ hx) h e0
theorem At.jr{π:Prop}{c:Code}{ks:List Fo}{s t:ASt}(hj:JR n t s)(h:π->At P T im n Q (.code c ks t))(e:π):At P T im n Q (.code c ks s):=λhT hm=>aw_jr hj (h e hT hm)
theorem At.l2{π:Prop}(hT0:TOK P T)(k:Nat){d1 d2 t e:TypeId}{α:Type}(f:α->AV){z sz b1:Nat}{z0:AV}{i:TI}(es:List α)
  (ht:T t=some ⟨sz,b1,z0,.sl e⟩) (he:T e=some i) (hi:i.kind = .int .u8)
  (h:π->At P T im n Q (aGn (aGn (Go.UK.adv T im [] n.n k p) ⟨[],[]⟩) ⟨((wG (Go.UK.adv T im [] n.n k p)).set d1 (none,eO (fV (Go.UK.adv T im [] n.n k p)).length z f es)).set d2 (none,eO (fV (Go.UK.adv T im [] n.n k p)).length z f es),fV (Go.UK.adv T im [] n.n k p)++[.tail (es.length*z)]⟩))
  (hx:(aSu (Go.UK.adv T im [] n.n k p),(aDn (Go.UK.adv T im [] n.n k p)).guard,(aDn (Go.UK.adv T im [] n.n k p)).dst,(aNG (Go.UK.adv T im [] n.n k p)).guard,(aNG (Go.UK.adv T im [] n.n k p)).dst,(aNG (Go.UK.adv T im [] n.n k p)).op,(f8 n.n d1||f8 n.n d2),(match (aDn (Go.UK.adv T im [] n.n k p)).op with | .buildSlice t' _ _=>au t' t | _=>false),aNS T (aDn (Go.UK.adv T im [] n.n k p)) (wG (Go.UK.adv T im [] n.n k p)))
   = (true,none,some d1,none,some d2,.convert t t (.tmp d1),false,true,some (z,es.length,es.map f)):=by kernel_rfl) (e0:π):At P T im n Q p:=by
 have h:=h e0;refine At.adv (gl:=[]) k ?_;generalize Go.UK.adv T im [] n.n k p=q at *;simp only[Prod.mk.injEq] at hx;obtain⟨h0,h1,h2,h3,h4,h5,h6,h7,h8⟩:=hx;unfold aSu at h0;split at h0
 ·intro hT hm;exact aSQ hT f es h1 h2 h3 h4 h5 h6 ht he hi h7 h8 (h hT hm)
 ·cases h0
theorem At.q{π:Prop}(hT0:TOK P T)(k:Nat){d t e z sz b1:Nat}{z0 x:AV}{es:List AV}(ht:T t=some ⟨sz,b1,z0,.sl e⟩)
  (h1:π->At P T im n Q (aGn (Go.UK.adv T im [] n.n k p) ⟨(wG (Go.UK.adv T im [] n.n k p)).set d (none,.v (.bool false)),fV (Go.UK.adv T im [] n.n k p)⟩)) (h2:es=[]->π->At P T im n Q (aGn (Go.UK.adv T im [] n.n k p) ⟨(wG (Go.UK.adv T im [] n.n k p)).set d (none,.v (.bool true)),fV (Go.UK.adv T im [] n.n k p)⟩))
  (hx:(aPr (Go.UK.adv T im [] n.n k p),(aDn (Go.UK.adv T im [] n.n k p)).guard,(aDn (Go.UK.adv T im [] n.n k p)).dst,f8 n.n d,eqE (aDn (Go.UK.adv T im [] n.n k p)) (wG (Go.UK.adv T im [] n.n k p)) .eql,xG x)
   = (true,none,some d,false,some (t,x,.v (.slice none 0 0)),some (z,es)):=by kernel_rfl) (e0:π):At P T im n Q p:=by
 have h1:=h1 e0;refine At.adv (gl:=[]) k ?_;generalize Go.UK.adv T im [] n.n k p=q at *;simp only[Prod.mk.injEq] at hx;obtain⟨h0,g1,g2,g3,g4,g5⟩:=hx;obtain⟨arr,o,l,ks,st,rfl⟩:=aJh h0;intro hT hm;exact aTy hT g1 g2 g3 ht g4 g5 (h1 hT hm) (λe=>h2 e e0 hT hm)
def Le(n:Fr)(Q1 Q2:Exit->ASt->Prop):Prop:=∀e s ctx a w,Q1 e s->Sat n ctx s a w->∃s',Q2 e s'/\Sat n ctx s' a w
theorem aPi{c:Code}{st:ASt}{Q1 Q2:Exit->ASt->Prop}(hl:Le n Q1 Q2)(h:aw P n c Q1 st):aw P n c Q2 st:=by
 intro ctx a w hs;refine wpIn_mono (h ctx a w hs) ?_;rintro e a' w' ⟨s,h1,h2⟩
 exact hl e s _ _ _ h1 h2
theorem aVp{ops:Array Oper}{l:List Oper}{st:ASt}{K1 K2:ASt->Prop}(hl:∀s ctx a w,K1 s->Sat n ctx s a w->∃s',K2 s'/\Sat n ctx s' a w)(h:awl P n ops l K1 st):awl P n ops l K2 st:=by
 intro ctx a w hs;refine aA6 ?_ _ _ _ (h ctx a w hs)
 rintro e a' w' ⟨rfl,s,h1,h2⟩
 exact⟨rfl,hl s _ _ _ h1 h2⟩
theorem aTN{c:Code}{Q1 Q2:Exit->ASt->Prop}(hl:Le n Q1 Q2):∀(k:Nat) (s:ASt),unr P n c Q1 k s->unr P n c Q2 k s
 | 0,s,h=>h
 | k+1,s,h=>by
  refine aPi (Q1:=tn (unr P n c Q1 k) Q1) ?_ h;intro e s ctx a w h1 h2;cases e with
  | normal=>exact⟨s,aTN hl k s h1,h2⟩
  | _=>exact hl _ s ctx a w h1 h2
theorem aFA{Q1 Q2:Exit->ASt->Prop}(hl:Le n Q1 Q2):∀(ks:List Fo),Le n (kQ P n Q1 ks) (kQ P n Q2 ks)
 | []=>hl
 | .seq y :: ks=>by
  intro e s ctx a w h1 h2;cases e with
  | normal=>exact⟨s,aPi (aFA hl ks) h1,h2⟩
  | _=>exact aFA hl ks _ s ctx a w h1 h2
 | .blk id :: ks=>by
  intro e s ctx a w h1 h2;cases e with
  | exit i=>
   unfold kQ at h1 ⊢;simp only[inB] at h1 ⊢;split
   ·rename_i hi;rw[if_pos hi] at h1;exact aFA hl ks _ s ctx a w h1 h2
   ·rename_i hi;rw[if_neg hi] at h1;exact aFA hl ks _ s ctx a w h1 h2
  | _=>exact aFA hl ks _ s ctx a w h1 h2
 | .un k c :: ks=>by
  intro e s ctx a w h1 h2;cases e with
  | normal=>exact⟨s,aTN (aFA hl ks) k s h1,h2⟩
  | _=>exact aFA hl ks _ s ctx a w h1 h2
 | .scp :: ks=>by
  intro e s ctx a w h1 h2;cases e with
  | goto l=>exact h1.elim
  | _=>exact aFA hl ks _ s ctx a w h1 h2
theorem aG4 : ∀(a b:List Fo),kQ P n (kQ P n Q b) a=kQ P n Q (a++b)
 | [],b=>rfl
 | .seq y :: a,b=>by simp only[kQ,du,aG4 a b]
 | .blk i :: a,b=>by simp only[kQ,du,aG4 a b]
 | .un k c :: a,b=>by simp only[kQ,du,aG4 a b]
 | .scp :: a,b=>by simp only[kQ,du,aG4 a b]
theorem At.cut{q:Pt}{Q1:Exit->ASt->Prop}(d:Nat)(hl:Le n Q1 (kQ P n Q (pS d q)))(h:At P T im n Q1 (aJK d q)):At P T im n Q q:=by
 intro hT hm;cases q with
 | code c ks st=>
  have h:=h hT hm;unfold pS aLd at hl;have e:kQ P n Q ks=kQ P n (kQ P n Q (aK5 d ks)) (aHd d ks):=by rw[aG4,aIg]
  show aw P n c (kQ P n Q ks) st;rw[e]
  exact aPi (aFA hl _) h
 | ops arr l ks st=>
  have h:=h hT hm;unfold pS aLd at hl;have e:kQ P n Q ks=kQ P n (kQ P n Q (aK5 d ks)) (aHd d ks):=by rw[aG4,aIg]
  show awl P n arr l (λs=>kQ P n Q ks .normal s) st;rw[e]
  exact aVp (λs ctx a w h1 h2=>aFA hl _ .normal s ctx a w h1 h2) h
 | out e st=>exact(h hT hm).elim
 | bad=>exact(h hT hm).elim
theorem aVD{Q0:Exit->ASt->Prop}{t:ASt}(h:Q0 .normal t):Le n (tn (JR n t) Q0) Q0:=by
 intro e s ctx a w h1 h2;cases e with
 | normal=>exact⟨t,h,aRh h1 h2⟩
 | _=>exact⟨s,h1,h2⟩
theorem At.j{α ρ:Type}{X:Option α}{F:α->Option ρ}{r:ρ}(k d:Nat)(t:α->ASt)(h:∀x,X=some x->At P T im n (tn (JR n (t x)) (kQ P n Q (pS d (Go.UK.adv T im [] n.n k p)))) (aJK d (Go.UK.adv T im [] n.n k p)))
  (hy:∀x,F x=some r->At P T im n Q (Go.UK.aBy (pS d (Go.UK.adv T im [] n.n k p)) (t x))) (e:aa X F=some r):At P T im n Q p:=by
 obtain⟨x,e1,e2⟩:=aD1 e;exact At.adv (gl:=[]) k λhT hm=>At.cut d (aVD (At.popN hT hm (hy x e2))) (h x e1) hT hm
def JS{α β:Type}(n:Fr)(t:α->ASt)(o:Sum α β)(s:ASt):Prop:=∃p,o=Sum.inl p/\JR n (t p) s
theorem aU2{α β ρ:Type}{Q0:Exit->ASt->Prop}{t:α->ASt}{o:Sum α β}{F:α->ρ}{G:β->ρ}{r:ρ}(g:jY o F G=r)(h:∀x,F x=r->Q0 .normal (t x)):Le n (tn (JS n t o) Q0) Q0:=by
 intro e s ctx a w h1 h2;cases e with
 | normal=>
  obtain⟨x,rfl,h3⟩:=h1;exact⟨t x,h x g,aRh h3 h2⟩
 | _=>exact⟨s,h1,h2⟩
theorem At.js{α β ρ:Type}{X:Option (Sum α β)}{F:α->Option ρ}{G:β->Option ρ}{r:ρ}(k d:Nat)(t:α->ASt)(h:∀o,jY o F G=some r->X=some o->At P T im n (tn (JS n t o) (kQ P n Q (pS d (Go.UK.adv T im [] n.n k p)))) (aJK d (Go.UK.adv T im [] n.n k p)))
  (hy:∀x,F x=some r->At P T im n Q (Go.UK.aBy (pS d (Go.UK.adv T im [] n.n k p)) (t x))) (e:aa X (λo=>jY o F G)=some r):At P T im n Q p:=by
 obtain⟨o,e1,g⟩:=aD1 e;exact At.adv (gl:=[]) k λhT hm=>At.cut d (aU2 g (λx hx=>At.popN hT hm (hy x hx))) (h o g e1) hT hm
def aNU : Pt->Code
 | .code (.loop c) _ _=>c
 | _ => .skip
def aTJ : Pt->Nat
 | .code _ (.blk id :: _) _=>id
 | _=>0
def aQw : Pt->Bool
 | .code (.loop _) (.blk _ :: _) _=>true
 | _=>false
theorem lp0{q:Pt}{Q1:Exit->ASt->Prop}(I:Nat->ASt->Prop)(N:Nat)(hi:aQw q=true)(h0:I N (dG q))(hl:Le n Q1 (kQ P n Q (pS 1 q)))
  (h:∀k s,I k s->At P T im n (tn (λs'=>∃m,m < k/\I m s') (inB (aTJ q) Q1)) (.code (aNU q) [] s)):At P T im n Q q:=by
 intro hT hm;unfold aQw at hi;split at hi
 ·rename_i c id ks st;show aw P n (.loop c) (inB id (kQ P n Q ks)) st;have:aw P n (.loop c) (inB id Q1) st:=aQO I (λk s hI=>h k s hI hT hm) N st h0;refine aPi ?_ this;intro e s ctx a w h1 h2;cases e with
  | exit i=>
   simp only[inB] at h1 ⊢;split
   ·rename_i hi;rw[if_pos hi] at h1;exact hl _ s ctx a w h1 h2
   ·rename_i hi;rw[if_neg hi] at h1;exact hl _ s ctx a w h1 h2
  | _=>exact hl _ s ctx a w h1 h2
 ·cases hi
theorem At.l{α ρ:Type}{X:Option α}{F:α->Option ρ}{r:ρ}(k:Nat)(t:α->ASt)(I:α->(ASt->ASt->Prop)->Nat->ASt->Prop)(N:Nat)(h0:∀x,X=some x->I x (JR n) N (dG (Go.UK.adv T im [] n.n k p)))
  (h:∀x j s,I x (JR n) j s->At P T im n (tn (λs'=>∃m,m < j/\I x (JR n) m s') (inB (aTJ (Go.UK.adv T im [] n.n k p)) (tn (JR n (t x)) (kQ P n Q (pS 1 (Go.UK.adv T im [] n.n k p)))))) (.code (aNU (Go.UK.adv T im [] n.n k p)) [] s))
  (hy:∀x,F x=some r->At P T im n Q (Go.UK.aBy (pS 1 (Go.UK.adv T im [] n.n k p)) (t x))) (hi:aQw (Go.UK.adv T im [] n.n k p)=true:=by kernel_rfl) (e:aa X F=some r):At P T im n Q p:=by
 obtain⟨x,e1,e2⟩:=aD1 e;exact At.adv (gl:=[]) k λhT hm=>lp0 (I x (JR n)) N hi (h0 x e1) (aVD (At.popN hT hm (hy x e2))) (h x) hT hm
theorem At.ls{α β ρ:Type}{X:Option (Sum α β)}{F:α->Option ρ}{G:β->Option ρ}{r:ρ}(k:Nat)(t:α->ASt)(I:Sum α β->(ASt->ASt->Prop)->Nat->ASt->Prop)(N:Nat)(h0:∀o,X=some o->I o (JR n) N (dG (Go.UK.adv T im [] n.n k p)))
  (h:∀o,jY o F G=some r->∀j s,I o (JR n) j s->At P T im n (tn (λs'=>∃m,m < j/\I o (JR n) m s') (inB (aTJ (Go.UK.adv T im [] n.n k p)) (tn (JS n t o) (kQ P n Q (pS 1 (Go.UK.adv T im [] n.n k p)))))) (.code (aNU (Go.UK.adv T im [] n.n k p)) [] s))
  (hy:∀x,F x=some r->At P T im n Q (Go.UK.aBy (pS 1 (Go.UK.adv T im [] n.n k p)) (t x))) (hi:aQw (Go.UK.adv T im [] n.n k p)=true:=by kernel_rfl) (e:aa X (λo=>jY o F G)=some r):At P T im n Q p:=by
 obtain⟨o,e1,g⟩:=aD1 e;exact At.adv (gl:=[]) k λhT hm=>lp0 (I o (JR n)) N hi (h0 o e1) (aU2 g (λx hx=>At.popN hT hm (hy x hx))) (h o g) hT hm
def aPX(m:Nat)(q:Pt):Pt:=
 match q with
 | .code (.loop c) ks st => .code c (.un m c :: ks) st
 | _ => .bad
theorem At.u{π:Prop}(m k:Nat)(h:π->At P T im n Q (aPX m (Go.UK.adv T im [] n.n k p)))(e:π):At P T im n Q p:=by
 have h:=h e;refine At.adv (gl:=[]) k ?_;generalize Go.UK.adv T im [] n.n k p=q at *;unfold aPX at h;split at h
 ·intro hT hm;exact aQs (m+1) (unr_s (h hT hm))
 ·exact At.bad h
def aKI : Pt->Bool
 | .out .normal _=>true
 | _=>false
def outR : Pt->Bool
 | .code .ret _ _=>true
 | _=>false
def outE(id:Nat):Pt->Bool
 | .out (.exit i) _=>au i id
 | _=>false
theorem aBN{q:Pt}(h:aKI q=true):q = .out .normal (dG q):=by
 unfold aKI at h;split at h
 ·rfl
 ·cases h
theorem aRD{q:Pt}(h:outR q=true):∃ks,q = .code .ret ks (dG q):=by
 unfold outR at h;split at h
 ·exact⟨_,rfl⟩
 ·cases h
theorem aKr{id:Nat}{q:Pt}(h:outE id q=true):q = .out (.exit id) (dG q):=by
 unfold outE at h;split at h
 ·rw[ag h];rfl
 ·cases h
theorem At.jn(k:Nat){t:ASt}(hc:(aKI (Go.UK.adv T im [] n.n k p),cOK n (dG (Go.UK.adv T im [] n.n k p)) t,cSt (dG (Go.UK.adv T im [] n.n k p)) t)=(true,true,t):=by kernel_rfl):At P T im n (tn (JR n t) Q) p:=by
 refine At.adv (gl:=[]) k ?_;generalize Go.UK.adv T im [] n.n k p=q at *;simp only[Prod.mk.injEq] at hc;rw[aBN hc.1]
 exact λ_ _=>Go.UK.jr (by rw[hc.2.1,hc.2.2])
theorem At.jsn{α β:Type}(k:Nat){t:α->ASt}{x:α}(hc:(aKI (Go.UK.adv T im [] n.n k p),cOK n (dG (Go.UK.adv T im [] n.n k p)) (t x),cSt (dG (Go.UK.adv T im [] n.n k p)) (t x))=(true,true,t x):=by kernel_rfl):At P T im n (tn (JS n t (Sum.inl x:Sum α β)) Q) p:=by
 refine At.adv (gl:=[]) k ?_;generalize Go.UK.adv T im [] n.n k p=q at *;simp only[Prod.mk.injEq] at hc;rw[aBN hc.1]
 exact λ_ _=>⟨x,rfl,Go.UK.jr (by rw[hc.2.1,hc.2.2])⟩
theorem At.x(k:Nat){K:ASt->Prop}{id:Nat}{t:ASt}(hc:(outE id (Go.UK.adv T im [] n.n k p),cOK n (dG (Go.UK.adv T im [] n.n k p)) t,cSt (dG (Go.UK.adv T im [] n.n k p)) t)=(true,true,t):=by kernel_rfl):At P T im n (tn K (inB id (tn (JR n t) Q))) p:=by
 refine At.adv (gl:=[]) k ?_;generalize Go.UK.adv T im [] n.n k p=q at *;simp only[Prod.mk.injEq] at hc;rw[aKr hc.1]
 exact λ_ _=>tn_x (aSK (tn_n (Go.UK.jr (by rw[hc.2.1,hc.2.2]))))
theorem At.xs{α β:Type}(k:Nat){K:ASt->Prop}{id:Nat}{t:α->ASt}{x:α}(hc:(outE id (Go.UK.adv T im [] n.n k p),cOK n (dG (Go.UK.adv T im [] n.n k p)) (t x),cSt (dG (Go.UK.adv T im [] n.n k p)) (t x))=(true,true,t x):=by kernel_rfl):At P T im n (tn K (inB id (tn (JS n t (Sum.inl x:Sum α β)) Q))) p:=by
 refine At.adv (gl:=[]) k ?_;generalize Go.UK.adv T im [] n.n k p=q at *;simp only[Prod.mk.injEq] at hc;rw[aKr hc.1]
 exact λ_ _=>tn_x (aSK (tn_n ⟨x,rfl,Go.UK.jr (by rw[hc.2.1,hc.2.2])⟩))
theorem At.k(j:Nat){m:Nat}{I:Nat->ASt->Prop}(h:I m (dG (Go.UK.adv T im [] n.n j p)))(hc:aKI (Go.UK.adv T im [] n.n j p)=true:=by kernel_rfl):At P T im n (tn (λs'=>∃i,i < m+1/\I i s') Q) p:=by
 refine At.adv (gl:=[]) j ?_;generalize Go.UK.adv T im [] n.n j p=q at *;rw[aBN hc]
 exact λ_ _=>⟨m,Nat.lt_succ_self m,h⟩
class aGS(Q:Exit->ASt->Prop)(Q':outParam (Exit->ASt->Prop)):Prop where
 to:∀st,Q' .ret st->Q .ret st
instance retTo_tn {K:ASt->Prop} {Q Q':Exit->ASt->Prop} [h:aGS Q Q']:aGS (tn K Q) Q':=⟨λst hq=>h.to st hq⟩
instance retTo_inB {id:Nat} {Q Q':Exit->ASt->Prop} [h:aGS Q Q']:aGS (inB id Q) Q':=⟨λst hq=>h.to st hq⟩
instance retTo_kQ {Q Q':Exit->ASt->Prop} {ks:List Fo} [h:aGS Q Q']:aGS (kQ P n Q ks) Q':=⟨λst hq=>kQ_r (h.to st hq)⟩
instance retTo_M {lo:Nat} {rs:List ResultVar} {ret:AV} {H':List Box}:aGS (aFv T lo rs ret H') (aFv T lo rs ret H'):=⟨λ_ h=>h⟩
theorem At.r(k:Nat){lo:Nat}{rs:List ResultVar}{ret:AV}{H':List Box}[h:aGS Q (aFv T lo rs ret H')](hc:(outR (Go.UK.adv T im [] n.n k p),aO8 lo (fV (Go.UK.adv T im [] n.n k p)) H' ret,aOm T rs (dG (Go.UK.adv T im [] n.n k p)) ret H')=(true,true,some (ret,H')):=by kernel_rfl):At P T im n Q p:=by
 refine At.adv (gl:=[]) k ?_;generalize Go.UK.adv T im [] n.n k p=q at *;simp only[Prod.mk.injEq] at hc;obtain⟨ks,e⟩:=aRD hc.1;rw[e]
 exact λ_ _=>aWI (kQ_r (h.to _ (fin_r (by rw[<- hc.2.2];exact Prod.ext hc.2.1 rfl))))
theorem At.z(k:Nat){lo:Nat}{rs:List ResultVar}{ret:AV}{H':List Box}(hc:(aKI (Go.UK.adv T im [] n.n k p),aO8 lo (fV (Go.UK.adv T im [] n.n k p)) H' ret,aOm T rs (dG (Go.UK.adv T im [] n.n k p)) ret H')=(true,true,some (ret,H')):=by kernel_rfl):At P T im n (aFv T lo rs ret H') p:=by
 refine At.adv (gl:=[]) k ?_;generalize Go.UK.adv T im [] n.n k p=q at *;simp only[Prod.mk.injEq] at hc;rw[aBN hc.1]
 exact λ_ _=>fin_n (by rw[<- hc.2.2];exact Prod.ext hc.2.1 rfl)
theorem At.fn(im:Nat->Bool)(hT:TOK P T)(hmo:P.follows .mixedOrders=true){f:FuncId}{fn:Func}{c:Code}{rs:List ResultVar}{args:List AV}{ret:AV}{H H':List Box}{m lo:Nat}(hf:P.funcs[f]? = some fn)(hb:fn.body=some c)(hres:fn.results=rs.toArray)
  {π:Prop} (e:π) (h:π->At P T im (Fr.f m lo) (aFv T lo rs ret H') (.code c [] ⟨aCt 0 args,H⟩)) (hk:(au fn.ntmps m&&(f8 args.length m&&au lo H.length))=true:=by kernel_rfl):FnM P f H args ret H':=
 aK3 hT hf hb hk hres (h e hT hmo)
end
end Go.UK

namespace Go.UK
open Go
set_option linter.all false
variable [bW]
section
variable {P:Program} {T:TypeId→Option TI} {im:Nat→Bool} {n:Fr} {Q:Exit→ASt→Prop} {p:Pt}
def or1Y(P:Program)(n:Fr)(l:List Oper)(C:List (List Nat))(ms:List MI)(B:Env)(H0:List Box)(cs:CS):O1->Prop
 | []=>True
 | (i,x) :: r=>aP1 (λH=>Big P n (sK l i) (iB C ms B i) H x H) (yT C i H0 cs)/\or1Y P n l C ms B H0 cs r
section
variable {l:List Oper} {C:List (List Nat)} {ms:List MI} {B:Env} {H0:List Box} {cs:CS}
theorem aSF : ∀{o:O1},or1Y P n l C ms B H0 cs o->aQW P n l C ms B o (o.map (λq=>yT C q.1 H0 cs))
 | [],_=>trivial
 | (i,x) :: r,h=>⟨h.1,aSF h.2⟩
end
def lPt : Pt->List Oper
 | .code (.region _ arr _) _ _=>arr.toList
 | _=>[]
def aSn : Pt->Bool
 | .code (.region _ _ d) _ _=>d
 | _=>false
theorem aK8{q:Pt}(h:aSn q=true):∃id arr ks st,q = .code (.region id arr true) ks st:=by
 unfold aSn at h;split at h
 ·subst h;exact⟨_,_,_,_,rfl⟩
 ·cases h
theorem dn0{q:Pt}{o1:O1}{o2:O2}(es:List (Nat×AV))
  (h1:or1Y P n (lPt q) (uT (lPt q).toArray) (xR T im n.n (lPt q) (dB0 (lPt q) (dG q)) o1 o2).ms (dB0 (lPt q) (dG q)).env (dB0 (lPt q) (dG q)).H (xR T im n.n (lPt q) (dB0 (lPt q) (dG q)) o1 o2).cs o1)
  (h2:or2 P n (lPt q) (uT (lPt q).toArray) (xR T im n.n (lPt q) (dB0 (lPt q) (dG q)) o1 o2).ms (xR T im n.n (lPt q) (dB0 (lPt q) (dG q)) o1 o2).cs (dB0 (lPt q) (dG q)).env (dB0 (lPt q) (dG q)).H o2)
  (h:At P T im n Q (aBy (aLd q) (nmS es (dSt T im n.n (lPt q) (dB0 (lPt q) (dG q)) o1 o2))))
  (hB:aN2 (lPt q) (uT (lPt q).toArray) (xR T im n.n (lPt q) (dB0 (lPt q) (dG q)) o1 o2) (dB0 (lPt q) (dG q)) o1 o2=true)
  (hE:aN3 T im n.n (lPt q) (uT (lPt q).toArray) (xR T im n.n (lPt q) (dB0 (lPt q) (dG q)) o1 o2) (dB0 (lPt q) (dG q)) o1 o2=aNM (lPt q) (uT (lPt q).toArray) (xR T im n.n (lPt q) (dB0 (lPt q) (dG q)) o1 o2) (dB0 (lPt q) (dG q)) o1 o2)
  (hd:(lPt q).all (λo=>dOK n.n o.dst)=true) (hi:aSn q=true) (hn:nmL es (dSt T im n.n (lPt q) (dB0 (lPt q) (dG q)) o1 o2)=nmR es):At P T im n Q q:=by
 obtain⟨id,arr,ks,st,rfl⟩:=aK8 hi;intro hT hm;exact aQX (l:=arr.toList) hT hm im o1 _ o2 hB hE hd rfl (aSF h1) h2 es hn (At.popN hT hm h)
theorem At.d{π:Prop}(k:Nat){o1:O1}{o2:O2}
  (h1:or1Y P n (lPt (Go.UK.adv T im [] n.n k p)) (uT (lPt (Go.UK.adv T im [] n.n k p)).toArray) (xR T im n.n (lPt (Go.UK.adv T im [] n.n k p)) (dB0 (lPt (Go.UK.adv T im [] n.n k p)) (dG (Go.UK.adv T im [] n.n k p))) o1 o2).ms (dB0 (lPt (Go.UK.adv T im [] n.n k p)) (dG (Go.UK.adv T im [] n.n k p))).env (dB0 (lPt (Go.UK.adv T im [] n.n k p)) (dG (Go.UK.adv T im [] n.n k p))).H (xR T im n.n (lPt (Go.UK.adv T im [] n.n k p)) (dB0 (lPt (Go.UK.adv T im [] n.n k p)) (dG (Go.UK.adv T im [] n.n k p))) o1 o2).cs o1)
  (h2:or2 P n (lPt (Go.UK.adv T im [] n.n k p)) (uT (lPt (Go.UK.adv T im [] n.n k p)).toArray) (xR T im n.n (lPt (Go.UK.adv T im [] n.n k p)) (dB0 (lPt (Go.UK.adv T im [] n.n k p)) (dG (Go.UK.adv T im [] n.n k p))) o1 o2).ms (xR T im n.n (lPt (Go.UK.adv T im [] n.n k p)) (dB0 (lPt (Go.UK.adv T im [] n.n k p)) (dG (Go.UK.adv T im [] n.n k p))) o1 o2).cs (dB0 (lPt (Go.UK.adv T im [] n.n k p)) (dG (Go.UK.adv T im [] n.n k p))).env (dB0 (lPt (Go.UK.adv T im [] n.n k p)) (dG (Go.UK.adv T im [] n.n k p))).H o2)
  (h:π->At P T im n Q (Go.UK.aBy (aLd (Go.UK.adv T im [] n.n k p)) (dSt T im n.n (lPt (Go.UK.adv T im [] n.n k p)) (dB0 (lPt (Go.UK.adv T im [] n.n k p)) (dG (Go.UK.adv T im [] n.n k p))) o1 o2)))
  (hB:aN2 (lPt (Go.UK.adv T im [] n.n k p)) (uT (lPt (Go.UK.adv T im [] n.n k p)).toArray) (xR T im n.n (lPt (Go.UK.adv T im [] n.n k p)) (dB0 (lPt (Go.UK.adv T im [] n.n k p)) (dG (Go.UK.adv T im [] n.n k p))) o1 o2) (dB0 (lPt (Go.UK.adv T im [] n.n k p)) (dG (Go.UK.adv T im [] n.n k p))) o1 o2=true:=by kernel_rfl)
  (hE:aN3 T im n.n (lPt (Go.UK.adv T im [] n.n k p)) (uT (lPt (Go.UK.adv T im [] n.n k p)).toArray) (xR T im n.n (lPt (Go.UK.adv T im [] n.n k p)) (dB0 (lPt (Go.UK.adv T im [] n.n k p)) (dG (Go.UK.adv T im [] n.n k p))) o1 o2) (dB0 (lPt (Go.UK.adv T im [] n.n k p)) (dG (Go.UK.adv T im [] n.n k p))) o1 o2=aNM (lPt (Go.UK.adv T im [] n.n k p)) (uT (lPt (Go.UK.adv T im [] n.n k p)).toArray) (xR T im n.n (lPt (Go.UK.adv T im [] n.n k p)) (dB0 (lPt (Go.UK.adv T im [] n.n k p)) (dG (Go.UK.adv T im [] n.n k p))) o1 o2) (dB0 (lPt (Go.UK.adv T im [] n.n k p)) (dG (Go.UK.adv T im [] n.n k p))) o1 o2:=by kernel_rfl)
  (hd:(lPt (Go.UK.adv T im [] n.n k p)).all (λo=>dOK n.n o.dst)=true:=by kernel_rfl) (hi:aSn (Go.UK.adv T im [] n.n k p)=true:=by kernel_rfl) (e0:π):At P T im n Q p:=
 At.adv (gl:=[]) k (dn0 [] h1 h2 (h e0) hB hE hd hi rfl)
end
end Go.UK

