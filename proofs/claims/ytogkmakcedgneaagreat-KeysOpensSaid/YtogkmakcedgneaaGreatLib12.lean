/- The own layer: abstract values, their memory, and the steps of the model over them: for any program. -/
import Derived.Test.YtogkmakcedgneaaGreatLib11
import Derived.Shelf.SlMaps.Clone
namespace Go.UK
open Go
set_option linter.all false
variable [bU]
section
variable {P:Program} {T:TypeId→Option TI} {n:Fr}
theorem aRl{st:ASt}{ctx:Mem}{a:Act}{w:World}(h:Sat n ctx st a w):Sat n ctx ⟨st.env,st.H++[.tail 0]⟩ a w:=by
 obtain⟨bs,hm⟩:=h;have ext:=Ext.snoc (F:=ctx.F) hm.ok.len (dM.refl w) (.tail 0) none (by intro b e;cases e)
 have ok:=OK.snoc hm.ok (dM.refl w) (x := .tail 0) (o:=none) (by intro b e;cases e) (by intro b e;cases e)
 exact⟨bs++[none],{ h:=rfl,ok:=ok,ext:=hm.ext.trans ext,env:=hm.env.ext ext,size:=hm.size,low:=hm.low,defers:=wP.ext hm.ok ext hm.defers,nod:=hm.nod,outs:=λp hp=>(hm.outs p hp).ext ext }⟩
def aKh : List Bool->List Box
 | []=>[]
 | true :: r => .tail 0 :: aKh r
 | false :: r => .dead :: aKh r
theorem aHk : ∀(m:List Bool) {st:ASt} {ctx:Mem} {a:Act} {w:World},Sat n ctx st a w->Sat n ctx ⟨st.env,st.H++aKh m⟩ a w
 | [],st,ctx,a,w,h=>by simpa[aKh] using h
 | true :: r,st,ctx,a,w,h=>by
  have:=aHk r (aRl h)
  simpa[aKh] using this
 | false :: r,st,ctx,a,w,h=>by
  have h1:=aMv h 1;have:=aHk r h1;simpa[aKh] using this
end
end Go.UK

open Go.Result renaming andThen→j6,andThen_ok→aq
open Go.Sem renaming run_bind→bj,run_pure→cv
namespace Go.UK
open Go
set_option linter.all false
variable [bU]
def aMW{α:Type}(l:List (Int×α))(k:Int):Bool:=(wA l k).isSome
section
variable {P:Program} {T:TypeId→Option TI} {n:Fr}
def lo2E(o:Oper)(need:Env):Option (TypeId×Nat×IntKind×Int):=
 match o.op with
 | .lookup t m x true=>match opd need none m,opd need none x with
  | some (.mp id),some (.v (.int q k))=>some (t,id,q,k)
  | _,_=>none
 | _=>none
theorem aUD{μ:Mem}{x:AV}{y:Value}(h:Rdv μ.w μ.M x y):Rv0 μ x y:=uB.2 (pB (λys hy=>Rd.rc x ys hy) h)
theorem aTT(hT:TOK P T){α:Type}{f:α->AV}{z:α}{t:TypeId}{q:IntKind}{sz b1:Nat}{kd:TK}(ht:MpT P T t q ⟨sz,b1,f z,kd⟩)(hf:∀x vs,f x ≠ .tup vs){μ:Mem}(ok:μ.OK){id b:Nat}{k:Int}{l:List (Int×α)}
  (hb:μ.bs[id]? = some (some b)) (hH:μ.H[id]? = some (.mp (eM q f l))) :
  ∃y,(Instr.lookup t (.map (some b)) (.int q k) true).run P μ.w = .ok y μ.w/\Rv μ (.tup [f (aJ4 l k z),eB (aMW l k)]) y:=by
 obtain⟨b',es,c,e,hheap,hm⟩:=ok.box id _ _ hb hH;cases e;obtain⟨hm,_⟩:=aFH.1 hm;obtain⟨kt,et,t1,t2,t3⟩:=ht.ty;obtain⟨zv,zs,g1,g2,g3,g4,g5⟩:=yZ hT t3 μ.w;rcases aHd (k:=k) l es.toList 0 hm with ⟨h1,h2,_⟩ | ⟨j,e,x,h1,h2,h3,h4,h5,_⟩
 ·refine⟨.tuple #[zv,.bool false],?_,?_⟩
  ·simp[Instr.lookup,run_underlying t1,MapKept.run_getObj_map hheap,MapKept.run_checkKey t2 (show MapKept.IsKey (.int q) (.int q k) from rfl),MapKept.run_findKey t2 h2,g1,j6]
  ·rw[aJ4,aMW,h1]
   have g:=g5 μ;have hz:=hf z;have g0:Rv0 μ (f z) zv:=by cases hx:f z <;> first | (dsimp only at g;rw[hx] at g;exact g) | exact absurd hx (hz _)
   exact⟨#[zv,.bool false],rfl,zv,[.bool false],rfl,g0,.bool false,[],rfl,aAQ rfl,rfl⟩
 ·refine⟨.tuple #[e.val,.bool true],?_,?_⟩
  ·simp[Instr.lookup,run_underlying t1,MapKept.run_getObj_map hheap,MapKept.run_checkKey t2 (show MapKept.IsKey (.int q) (.int q k) from rfl),MapKept.run_findKey t2 h2,j6]
  ·rw[aJ4,aMW,h1]
   exact⟨#[e.val,.bool true],rfl,e.val,[.bool true],rfl,aUD h5,.bool true,[],rfl,aAQ rfl,rfl⟩
theorem aOY(hT:TOK P T){α:Type}{f:α->AV}{z:α}{t id:Nat}{q:IntKind}{k:Int}{sz b1:Nat}{kd:TK}(ht:MpT P T t q ⟨sz,b1,f z,kd⟩)(hf:∀x vs,f x ≠ .tup vs){o:Oper}{need:Env}{H:List Box}(l:List (Int×α))
  (hd:dOK n.n o.dst=true) (h:lo2E o need=some (t,id,q,k)) (hH:H[id]? = some (.mp (eM q f l))):Big P n o need H (.tup [f (aJ4 l k z),eB (aMW l k)]) H:=by
 refine iD hd λa μ ok hH' hE=>?_;unfold lo2E at h;split at h <;> try cases h
 rename_i t' m x ho;split at h <;> cases h;rename_i hm hx;obtain⟨b,kvs,h1,h2,h3⟩:=aRR (aW hE noG hm)
 have ex:=bV (aW hE noG hx)
 obtain⟨y,g1,g2⟩:=aTT (P:=P) hT ht hf (k:=k) ok h1 (by rw[hH'];exact hH)
 exact⟨μ,⟨y,by simp[execOp,ho,h3,ex,g1,j6],g2,Ext.refl _,ok⟩,hH'⟩
def mpK : AV->Option Bool
 | .mp _=>some true
 | .v (.map none)=>some false
 | _=>none
theorem aWx{μ:Mem}{x:AV}{y:Value}{b:Bool}(h:mpK x=some b)(hr:Rv μ x y):∃p:Option Nat,y = .map p/\p.isSome=b:=by
 unfold mpK at h;split at h <;> cases h
 ·obtain⟨b,kvs,_,_,e⟩:=aRR hr;exact⟨_,e,rfl⟩
 ·exact⟨none,bV hr,rfl⟩
theorem aQg{t kt et:TypeId}(ht:P.underlying t=some (.map kt et)){x y:Operand}(p:Option Nat)(w:World) :
  (do eqGuard .eql t x y (.map p) (.map none);binOp .eql t (.map p) (.map none):Sem Value).run P w = .ok (.bool p.isNone) w /\
  (do eqGuard .neq t x y (.map p) (.map none);binOp .neq t (.map p) (.map none):Sem Value).run P w = .ok (.bool !p.isNone) w:=by
 have he:(Op.equal t (.map p) (.map none)).run P w = .ok p.isNone w:=by
  show(Op.equalIn (9999+1) t (.map p) (.map none)).run P w=_;unfold Op.equalIn;rw[bj,run_underlying ht]
  cases p <;> rfl
 constructor <;>
 ·simp only[eqGuard,binOp,bj]
  rw[show(Sem.run P (if (!true)=true then pure () else pure ()) w)=Result.ok () w from rfl]
  simp only[aq,he,cv]
theorem aSg{o:Oper}{need:Env}{H:List Box}{t kt et:Nat}{x:AV}{b:Bool}(hd:dOK n.n o.dst=true)(ht:P.underlying t=some (.map kt et))(hx:mpK x=some b)(h:eqE o need .eql=some (t,x,.v (.map none))):Big P n o need H (eB !b) H:=by
 obtain⟨xo,yo,t',ho,h1,h2⟩:=aCd h;refine iD hd λa μ ok hH hE=>?_;have v2:=bV (aW hE noG h2)
 obtain⟨p,v1,hp⟩:=aWx hx (aW hE noG h1)
 have:=(aQg (P:=P) ht (x:=xo) (y:=yo) p μ.w).1;rw[bj] at this;refine⟨μ,iL.here (y := .bool !b) ok ?_ (aAQ rfl),hH⟩
 simp only[execOp,ho,v1,v2,bj,this,aq,cv]
 subst hp;cases p <;> rfl
end
end Go.UK

namespace Go.UK
open Go Go.Proofs Go.Maps
set_option linter.all false
variable [bU]
section
variable {P:Program} {α:Type} {F:α→AV} {q:IntKind}
end
end Go.UK

open List renaming cons_append→gg
open Nat renaming beq→cd,ble→jc,eq_of_beq_eq_true→aj
open Option renaming bind→ae
namespace Go.UK
open Go
set_option linter.all false
variable [bU]
inductive Fo
 | seq (y:Code)
 | blk (id:Nat)
 | un (k:Nat) (c:Code)
 | scp
inductive Pt
 | code (c:Code) (ks:List Fo) (st:ASt)
 | ops (arr:Array Oper) (l:List Oper) (ks:List Fo) (st:ASt)
 | out (e:Exit) (st:ASt)
 | bad
def kQ(P:Program)(n:Fr)(Q:Exit->ASt->Prop):List Fo->Exit->ASt->Prop
 | []=>Q
 | .seq y :: ks=>tn (aw P n y (kQ P n Q ks)) (kQ P n Q ks)
 | .blk id :: ks=>inB id (kQ P n Q ks)
 | .scp :: ks=>ngo (kQ P n Q ks)
 | .un k c :: ks=>tn (unr P n c (kQ P n Q ks) k) (kQ P n Q ks)
def At(P:Program)(T:TypeId->Option TI)(im:Nat->Bool)(n:Fr)(Q:Exit->ASt->Prop)(p:Pt):Prop:=
 TOK P T->P.follows .mixedOrders=true->match p with
 | .code c ks st=>aw P n c (kQ P n Q ks) st
 | .ops arr l ks st=>awl P n arr l (λs=>kQ P n Q ks .normal s) st
 | .out e st=>Q e st
 | .bad=>False
def aBm : List Fo->ASt->Pt
 | [],st => .out .normal st
 | .seq y :: ks,st => .code y ks st
 | .blk _ :: ks,st=>aBm ks st
 | .scp :: ks,st=>aBm ks st
 | .un 0 _ :: _,_ => .bad
 | .un (k+1) c :: ks,st => .code c (.un k c :: ks) st
def aNI(id:Nat):List Fo->ASt->Pt
 | [],st => .out (.exit id) st
 | .seq _ :: ks,st=>aNI id ks st
 | .un _ _ :: ks,st=>aNI id ks st
 | .scp :: ks,st=>aNI id ks st
 | .blk i :: ks,st=>match cd id i with | true=>aBm ks st | false=>aNI id ks st
def ctl : Pt->Option Pt
 | .code c ks st=>match c with
  | .seq x y=>some (.code x (.seq y :: ks) st)
  | .skip=>some (aBm ks st)
  | .exit id=>some (aNI id ks st)
  | .block id c=>some (.code c (.blk id :: ks) st)
  | .scope c=>some (.code c (.scp :: ks) st)
  | .label _=>some (aBm ks st)
  | .region _ arr d=>match d with | true=>none | false=>some (.ops arr arr.toList ks st)
  | _=>none
 | .ops _ l ks st=>match l with | []=>some (aBm ks st) | _ :: _=>none
 | _=>none
def aRe : Nat->Pt->Pt
 | 0,p=>p
 | f+1,p=>match ctl p with | some q=>aRe f q | none=>p
def cnt(T:TypeId->Option TI)(im:Nat->Bool)(gl:List Nat)(m:Nat):Pt->Pt
 | .ops arr l ks st=>match l with
  | o :: l=>match step T im gl m arr o st with | some s => .ops arr l ks s | none => .bad
  | [] => .bad
 | .code c ks st=>match c with
  | .cond q x y=>match q with
   | .tmp t=>match get st.env t with
    | some (.v (.bool b))=>match b with | true => .code x ks st | false => .code y ks st
    | _ => .bad
   | .const (.bool b)=>match b with | true => .code x ks st | false => .code y ks st
   | _ => .bad
  | _ => .bad
 | _ => .bad
def adv(T:TypeId->Option TI)(im:Nat->Bool)(gl:List Nat)(m:Nat):Nat->Pt->Pt
 | 0,p=>aRe 64 p
 | k+1,p=>adv T im gl m k (cnt T im gl m (aRe 64 p))
def iN : Pt->ASt
 | .code _ _ st=>st
 | .ops _ _ _ st=>st
 | .out _ st=>st
 | .bad=>⟨[],[]⟩
def qH(p:Pt):Env:=(iN p).env
def dN(p:Pt):List Box:=(iN p).H
def yW : Pt->Oper
 | .ops _ (o :: _) _ _=>o
 | _=>default
def aMI : Pt->Oper
 | .ops _ (_ :: o :: _) _ _=>o
 | _=>default
def aOK : Pt->Bool
 | .ops _ (_ :: _) _ _=>true
 | _=>false
def aRp : Pt->Bool
 | .ops _ (_ :: _ :: _) _ _=>true
 | _=>false
def aCx(p:Pt)(x:AV)(H:List Box):Pt:=
 match p with
 | .ops arr (o :: l) ks st => .ops arr l ks ⟨st.env.put o.dst (none,x),H⟩
 | _ => .bad
def aF3(p:Pt)(s:ASt):Pt:=
 match p with
 | .ops arr (_ :: l) ks _ => .ops arr l ks s
 | _ => .bad
def aAR(p:Pt)(s:ASt):Pt:=
 match p with
 | .ops arr l ks _ => .ops arr l ks s
 | .code c ks _ => .code c ks s
 | _ => .bad
def aIy : Pt->Bool
 | .ops arr (o :: _) _ st=>gOK arr o st.env
 | _=>false
def cdPt : Pt->Option AV
 | .code (.cond (.tmp t) _ _) _ st=>get st.env t
 | _=>none
def brPt(b:Bool):Pt->Pt
 | .code (.cond _ x y) ks st => .code (match b with | true=>x | false=>y) ks st
 | _ => .bad
def aO8(d:Nat)(b:Bool)(p:Pt):Pt:=aAR p (aPn d b (iN p))
def aNk : Pt->List Fo
 | .code _ ks _=>ks
 | .ops _ _ ks _=>ks
 | _=>[]
def aGz{α:Type}:Nat->List α->List α
 | 0,_=>[]
 | _+1,[]=>[]
 | d+1,x :: r=>x :: aGz d r
def aKB{α:Type}:Nat->List α->List α
 | 0,l=>l
 | _+1,[]=>[]
 | d+1,_ :: r=>aKB d r
def aH6(d:Nat):Pt->Pt
 | .code c ks st => .code c (aGz d ks) st
 | .ops arr l ks st => .ops arr l (aGz d ks) st
 | _ => .bad
def qJ(d:Nat)(p:Pt):List Fo:=aKB d (aNk p)
section
variable {P:Program} {T:TypeId→Option TI} {im:Nat→Bool} {n:Fr} {Q:Exit→ASt→Prop} {p:Pt}
theorem aI1{α:Type}:∀(d:Nat) (l:List α),aGz d l++aKB d l=l
 | 0,l=>rfl
 | d+1,[]=>rfl
 | d+1,x :: r=>by simp[aGz,aKB,aI1 d r]
theorem At.popN{ks:List Fo}{st:ASt}(hT:TOK P T)(hm:P.follows .mixedOrders=true)(h:At P T im n Q (aBm ks st)):kQ P n Q ks .normal st:=by
 induction ks with
 | nil=>exact h hT hm
 | cons f ks ih=>
  cases f with
  | seq y=>exact h hT hm
  | blk id=>exact ih h
  | scp=>exact ih h
  | un k c=>
   cases k with
   | zero=>exact(h hT hm).elim
   | succ k=>exact h hT hm
theorem At.popE{id:Nat}{ks:List Fo}{st:ASt}(hT:TOK P T)(hm:P.follows .mixedOrders=true)(h:At P T im n Q (aNI id ks st)):kQ P n Q ks (.exit id) st:=by
 induction ks with
 | nil=>exact h hT hm
 | cons f ks ih=>
  cases f with
  | seq y=>exact ih h
  | un k c=>exact ih h
  | scp=>exact ih h
  | blk i=>
   unfold Go.UK.aNI at h;cases hb:cd id i with
   | true=>
    rw[hb] at h;obtain rfl:=aj hb;exact aSV (At.popN hT hm h)
   | false=>rw[hb] at h;exact inB_x hb (ih h)
theorem kQ_r{ks:List Fo}{st:ASt}(h:Q .ret st):kQ P n Q ks .ret st:=by
 induction ks with
 | nil=>exact h
 | cons f ks ih=>cases f <;> exact ih
theorem aRX{l:Nat}{st:ASt}{Q:Exit->ASt->Prop}(h:Q .normal st):aw P n (.label l) Q st:=λctx a w hs=>wpIn_label ⟨st,h,hs⟩
theorem At.ctl{q:Pt}(hc:ctl p=some q)(h:At P T im n Q q):At P T im n Q p:=by
 intro hT hm;unfold Go.UK.ctl at hc;split at hc
 ·rename_i c ks st;split at hc <;> try cases hc
  ·exact aWK (h hT hm)
  ·exact aS2 (At.popN hT hm h)
  ·exact aS8 (At.popE hT hm h)
  ·exact aRq (h hT hm)
  ·exact aRT (h hT hm)
  ·exact aRX (At.popN hT hm h)
  ·rename_i id arr d;split at hc <;> cases hc;exact aPy (l:=arr.toList) (h hT hm)
 ·split at hc <;> cases hc;exact aSu (At.popN hT hm h)
 ·cases hc
theorem At.norm : ∀(f:Nat) {p:Pt},At P T im n Q (aRe f p)->At P T im n Q p
 | 0,p,h=>h
 | f+1,p,h=>by
  unfold Go.UK.aRe at h;split at h
  ·rename_i q hq;exact At.ctl hq (At.norm f h)
  ·exact h
theorem At.bad(h:At P T im n Q .bad):At P T im n Q p:=λhT hm=>(h hT hm).elim
theorem At.cnt{gl:List Nat}(h:At P T im n Q (cnt T im gl n.n p)):At P T im n Q p:=by
 unfold Go.UK.cnt at h;split at h
 ·rename_i arr l ks st;split at h
  ·rename_i o l;split at h
   ·rename_i s hs;intro hT hm;exact aOv (aST hT hs) (h hT hm)
   ·exact At.bad h
  ·exact At.bad h
 ·rename_i c ks st;split at h
  ·rename_i q x y;split at h
   ·rename_i t;split at h
    ·rename_i b hb;intro hT hm;refine aPN hb (λe=>?_) (λe=>?_) <;> (subst e;exact h hT hm)
    ·exact At.bad h
   ·rename_i b;intro hT hm;cases b with
    | true=>exact aLk (b:=true) (h hT hm)
    | false=>exact aLk (b:=false) (h hT hm)
   ·exact At.bad h
  ·exact At.bad h
 ·exact At.bad h
theorem At.adv{gl:List Nat}:∀(k:Nat) {p:Pt},At P T im n Q (adv T im gl n.n k p)->At P T im n Q p
 | 0,p,h=>At.norm 64 h
 | k+1,p,h=>At.norm 64 (At.cnt (At.adv k h))
theorem At.g(gl:List Nat)(k:Nat){π:Prop}(h:π->At P T im n Q (Go.UK.adv T im gl n.n k p))(e:π):At P T im n Q p:=At.adv k (h e)
theorem aHr{q:Pt}(h:aOK q=true):∃arr o l ks st,q = .ops arr (o :: l) ks st:=by
 unfold aOK at h;split at h
 ·exact⟨_,_,_,_,_,rfl⟩
 ·cases h
theorem aQH{q:Pt}(h:aIy q=true):∃arr o l ks st,q = .ops arr (o :: l) ks st/\gOK arr o st.env=true:=by
 unfold aIy at h;split at h
 ·exact⟨_,_,_,_,_,rfl,h⟩
 ·cases h
theorem At.o1{q:Pt}{x:AV}{H':List Box}(b:Big P n (yW q) (qH q) (dN q) x H')(hg:aIy q=true)(h:At P T im n Q (aCx q x H')):At P T im n Q q:=by
 obtain⟨arr,o,l,ks,st,rfl,hg⟩:=aQH hg;intro hT hm;exact aT8 b hg (h hT hm)
theorem At.o(k:Nat){π:Prop}{x:AV}{H':List Box}(b:Big P n (yW (Go.UK.adv T im [] n.n k p)) (qH (Go.UK.adv T im [] n.n k p)) (dN (Go.UK.adv T im [] n.n k p)) x H')(h:π->At P T im n Q (aCx (Go.UK.adv T im [] n.n k p) x H'))(hg:aIy (Go.UK.adv T im [] n.n k p)=true:=by kernel_rfl)(e:π):At P T im n Q p:=
 At.adv k (At.o1 b hg (h e))
theorem At.b{α β:Type}{x:Option α}{f:α->Option β}{r:β}(k:Nat){y:α->AV}{H':α->List Box}
  (b:∀a,x=some a->Big P n (yW (Go.UK.adv T im [] n.n k p)) (qH (Go.UK.adv T im [] n.n k p)) (dN (Go.UK.adv T im [] n.n k p)) (y a) (H' a)) (h:∀a,f a=some r->At P T im n Q (aCx (Go.UK.adv T im [] n.n k p) (y a) (H' a))) (hg:aIy (Go.UK.adv T im [] n.n k p)=true:=by kernel_rfl) (e:ae x f=some r):At P T im n Q p:=by
 obtain⟨a,e1,e2⟩:=wR e;exact At.o k (b a e1) (h a) hg e2
theorem At.c{α:Type}{b:Bool}{px py:Option α}{r:α}(k:Nat)(h1:px=some r->At P T im n Q (brPt true (Go.UK.adv T im [] n.n k p)))(h2:py=some r->At P T im n Q (brPt false (Go.UK.adv T im [] n.n k p)))
  (hb:cdPt (Go.UK.adv T im [] n.n k p)=some (.v (.bool b)):=by kernel_rfl) (e:cond b px py=some r):At P T im n Q p:=by
 refine At.adv (gl:=[]) k ?_;generalize Go.UK.adv T im [] n.n k p=q at *;unfold cdPt at hb;split at hb
 ·intro hT hm;refine aPN hb (λe'=>?_) (λe'=>?_)
  ·subst e';exact h1 e hT hm
  ·subst e';exact h2 e hT hm
 ·cases hb
theorem At.s{α:Type}{b:Bool}{px py:Option α}{r:α}(d k:Nat)(h1:px=some r->At P T im n Q (aO8 d true (Go.UK.adv T im [] n.n k p)))(h2:py=some r->At P T im n Q (aO8 d false (Go.UK.adv T im [] n.n k p)))
  (hb:(aOK (Go.UK.adv T im [] n.n k p),get (qH (Go.UK.adv T im [] n.n k p)) d)=(true,some (.v (.bool b))):=by kernel_rfl) (e:cond b px py=some r):At P T im n Q p:=by
 refine At.adv (gl:=[]) k ?_;generalize Go.UK.adv T im [] n.n k p=q at *;simp only[Prod.mk.injEq] at hb;obtain⟨hi,hb⟩:=hb;obtain⟨arr,o,l,ks,st,rfl⟩:=aHr hi;intro hT hm;exact aPX d e hb (λe=>h1 e hT hm) (λe=>h2 e hT hm)
theorem rt{α:Type}{a r:α}{p:α->Prop}(h:p a)(e:some a=some r):p r:=by cases e;exact h
theorem nn{α:Type}{r:α}{p:Prop}(e:none=some r):p:=by cases e
theorem bi{α β:Type}{x:Option α}{f:α->Option β}{r:β}{p:Prop}(h:∀a,x=some a->f a=some r->p)(e:ae x f=some r):p:=by obtain⟨a,e1,e2⟩:=wR e;exact h a e1 e2
theorem lx{α β:Type}{e:α}{f:α->β}{r:β}{p:Prop}(k:let x:=e;f x=r->p)(h:aM e f=r):p:=k h
theorem sumI{α β γ:Type}{o:Option (Sum α β)}{F:α->Option γ}{G:β->Option γ}{r:γ}{p:Prop}(h1:∀a,o=some (Sum.inl a)->F a=some r->p)(h2:∀b,o=some (Sum.inr b)->G b=some r->p)(h:ae o (λx=>mZ x F G)=some r):p:=by
 obtain⟨x,e,h⟩:=wR h;cases x with
 | inl a=>exact h1 a e h
 | inr b=>exact h2 b e h
def selS{α β γ:Type}(o:Sum α β)(F:α->γ)(G:β->γ):γ:=match o with | .inl a=>F a | .inr b=>G b
theorem At.t0{q:Pt}{s:ASt}(hs:∀{ctx:Mem} {a:Act} {w:World},Sat n ctx (iN q) a w->Sat n ctx s a w)(h:At P T im n Q (aAR q s)):At P T im n Q q:=by
 intro hT hm;cases q with
 | code c ks st=>exact λctx a w hx=>h hT hm ctx a w (hs hx)
 | ops arr l ks st=>exact λctx a w hx=>h hT hm ctx a w (hs hx)
 | out e st=>exact(h hT hm).elim
 | bad=>exact(h hT hm).elim
theorem At.t(k:Nat){π:Prop}{s:ASt}(hs:∀{ctx:Mem} {a:Act} {w:World},Sat n ctx (iN (Go.UK.adv T im [] n.n k p)) a w->Sat n ctx s a w)(h:π->At P T im n Q (aAR (Go.UK.adv T im [] n.n k p) s))(e:π):At P T im n Q p:=At.adv k (At.t0 hs (h e))
theorem At.ownn{π:Prop}(k s z:Nat)(h:π->At P T im n Q (aAR (Go.UK.adv T im [] n.n k p) (aQn s z (iN (Go.UK.adv T im [] n.n k p)))))(hg:aFj (iN (Go.UK.adv T im [] n.n k p)) s=true:=by kernel_rfl)(e0:π):At P T im n Q p:=At.t k (λhx=>aL1 hg hx) h e0
theorem At.gron{π:Prop}(k s z:Nat)(h:π->At P T im n Q (aAR (Go.UK.adv T im [] n.n k p) (aSc s z (iN (Go.UK.adv T im [] n.n k p)))))(hg:aFj (iN (Go.UK.adv T im [] n.n k p)) s=true:=by kernel_rfl)(e0:π):At P T im n Q p:=At.t k (λhx=>aLt hg hx) h e0
theorem At.grob{π:Prop}(k b z:Nat)(l:List Nat)(h:π->At P T im n Q (aAR (Go.UK.adv T im [] n.n k p) (groB b z l (iN (Go.UK.adv T im [] n.n k p)))))(e0:π):At P T im n Q p:=At.t k (λhx=>aMZ hx) h e0
theorem At.ownb{π:Prop}(k b z:Nat)(l:List Nat)(h:π->At P T im n Q (aAR (Go.UK.adv T im [] n.n k p) (ownB b z l (iN (Go.UK.adv T im [] n.n k p)))))(e0:π):At P T im n Q p:=At.t k (λhx=>aMl hx) h e0
theorem At.wk{π:Prop}(k d:Nat)(y:AV)(h:π->At P T im n Q (aAR (Go.UK.adv T im [] n.n k p) (wkS d y (iN (Go.UK.adv T im [] n.n k p)))))(e0:π):At P T im n Q p:=At.t k (λhx=>aSk hx) h e0
theorem At.sw{π:Prop}(k i j:Nat)(h:π->At P T im n Q (aAR (Go.UK.adv T im [] n.n k p) (swS i j (iN (Go.UK.adv T im [] n.n k p)))))(hk:swOK n i j (iN (Go.UK.adv T im [] n.n k p))=true:=by kernel_rfl)(e0:π):At P T im n Q p:=At.t k (λhx=>aSA hk hx) h e0
theorem At.gz{π:Prop}(k id:Nat)(v:AV)(h:π->At P T im n Q (aAR (Go.UK.adv T im [] n.n k p) (gzS id v (iN (Go.UK.adv T im [] n.n k p)))))(hat:gzAt id (iN (Go.UK.adv T im [] n.n k p))=some v:=by kernel_rfl)(hk:aQj n id (iN (Go.UK.adv T im [] n.n k p)) (nG id v 0 (dN (Go.UK.adv T im [] n.n k p)))=true:=by kernel_rfl)(e0:π):At P T im n Q p:=At.t k (λhx=>aV2 hat hk hx) h e0
theorem At.fz{π:Prop}(k id z ln q:Nat)(es:List AV)(hq:es.length=q)(hln:es.length=ln)(h:π->At P T im n Q (aAR (Go.UK.adv T im [] n.n k p) (fzS id z q es (iN (Go.UK.adv T im [] n.n k p)))))(hat:fzAt id (iN (Go.UK.adv T im [] n.n k p))=some (z,es):=by kernel_rfl)(hk:aRA n id z (iN (Go.UK.adv T im [] n.n k p)) (nH id z q es 0 (dN (Go.UK.adv T im [] n.n k p)))=true:=by kernel_rfl)
  (hl:tG id (qH (Go.UK.adv T im [] n.n k p))++tJ id 0 (dN (Go.UK.adv T im [] n.n k p))=List.replicate (tG id (qH (Go.UK.adv T im [] n.n k p))++tJ id 0 (dN (Go.UK.adv T im [] n.n k p))).length ln:=by kernel_rfl) (e0:π):At P T im n Q p:=At.t k (λhx=>aW2 hq hat hk hln hl hx) h e0
theorem At.gl{π:Prop}(k:Nat)(ss bs:List Nat)(id m m':Nat)(e:m'=m)(h:π->At P T im n Q (aAR p (glS ss bs id m' (iN p))))(hc:glS ss bs id m (iN p)=iN p:=by kernel_rfl)(e0:π):At P T im n Q p:=by
 subst e;exact At.t0 (λhx=>hx) (by have h:=h e0;rwa[hc] at h)
theorem At.to{π:Prop}(k:Nat)(t:ASt)(h:π->At P T im n Q (aAR (Go.UK.adv T im [] n.n k p) t))(hc:(cOK n (iN (Go.UK.adv T im [] n.n k p)) t,cSt (iN (Go.UK.adv T im [] n.n k p)) t)=(true,t):=by kernel_rfl)(e0:π):At P T im n Q p:=At.t k (λhx=>jr hc _ _ _ hx) h e0
theorem At.jr{π:Prop}{c:Code}{ks:List Fo}{s t:ASt}(hj:JR n t s)(h:π->At P T im n Q (.code c ks t))(e:π):At P T im n Q (.code c ks s):=λhT hm=>aw_jr hj (h e hT hm)
theorem At.l2{π:Prop}(hT0:TOK P T)(k:Nat){d1 d2 t e:TypeId}{α:Type}(f:α->AV){z sz b1:Nat}{z0:AV}{i:TI}(es:List α)
  (ht:T t=some ⟨sz,b1,z0,.sl e⟩) (he:T e=some i) (hi:i.kind = .int .u8)
  (h:π->At P T im n Q (aF3 (aF3 (Go.UK.adv T im [] n.n k p) ⟨[],[]⟩) ⟨((qH (Go.UK.adv T im [] n.n k p)).set d1 (none,eO (dN (Go.UK.adv T im [] n.n k p)).length z f es)).set d2 (none,eO (dN (Go.UK.adv T im [] n.n k p)).length z f es),dN (Go.UK.adv T im [] n.n k p)++[.tail (es.length*z)]⟩))
  (hx:(aRp (Go.UK.adv T im [] n.n k p),(yW (Go.UK.adv T im [] n.n k p)).guard,(yW (Go.UK.adv T im [] n.n k p)).dst,(aMI (Go.UK.adv T im [] n.n k p)).guard,(aMI (Go.UK.adv T im [] n.n k p)).dst,(aMI (Go.UK.adv T im [] n.n k p)).op,(jc n.n d1||jc n.n d2),(match (yW (Go.UK.adv T im [] n.n k p)).op with | .buildSlice t' _ _=>cd t' t | _=>false),aQs T (yW (Go.UK.adv T im [] n.n k p)) (qH (Go.UK.adv T im [] n.n k p)))
   = (true,none,some d1,none,some d2,.convert t t (.tmp d1),false,true,some (z,es.length,es.map f)):=by kernel_rfl) (e0:π):At P T im n Q p:=by
 have h:=h e0;refine At.adv (gl:=[]) k ?_;generalize Go.UK.adv T im [] n.n k p=q at *;simp only[Prod.mk.injEq] at hx;obtain⟨h0,h1,h2,h3,h4,h5,h6,h7,h8⟩:=hx;unfold aRp at h0;split at h0
 ·intro hT hm;exact aRv hT f es h1 h2 h3 h4 h5 h6 ht he hi h7 h8 (h hT hm)
 ·cases h0
theorem At.q{π:Prop}(hT0:TOK P T)(k:Nat){d t e z sz b1:Nat}{z0 x:AV}{es:List AV}(ht:T t=some ⟨sz,b1,z0,.sl e⟩)
  (h1:π->At P T im n Q (aF3 (Go.UK.adv T im [] n.n k p) ⟨(qH (Go.UK.adv T im [] n.n k p)).set d (none,.v (.bool false)),dN (Go.UK.adv T im [] n.n k p)⟩)) (h2:es=[]->π->At P T im n Q (aF3 (Go.UK.adv T im [] n.n k p) ⟨(qH (Go.UK.adv T im [] n.n k p)).set d (none,.v (.bool true)),dN (Go.UK.adv T im [] n.n k p)⟩))
  (hx:(aOK (Go.UK.adv T im [] n.n k p),(yW (Go.UK.adv T im [] n.n k p)).guard,(yW (Go.UK.adv T im [] n.n k p)).dst,jc n.n d,eqE (yW (Go.UK.adv T im [] n.n k p)) (qH (Go.UK.adv T im [] n.n k p)) .eql,uH x)
   = (true,none,some d,false,some (t,x,.v (.slice none 0 0)),some (z,es)):=by kernel_rfl) (e0:π):At P T im n Q p:=by
 have h1:=h1 e0;refine At.adv (gl:=[]) k ?_;generalize Go.UK.adv T im [] n.n k p=q at *;simp only[Prod.mk.injEq] at hx;obtain⟨h0,g1,g2,g3,g4,g5⟩:=hx;obtain⟨arr,o,l,ks,st,rfl⟩:=aHr h0;intro hT hm;exact aTM hT g1 g2 g3 ht g4 g5 (h1 hT hm) (λe=>h2 e e0 hT hm)
def Le(n:Fr)(Q1 Q2:Exit->ASt->Prop):Prop:=∀e s ctx a w,Q1 e s->Sat n ctx s a w->∃s',Q2 e s'/\Sat n ctx s' a w
theorem aOX{c:Code}{st:ASt}{Q1 Q2:Exit->ASt->Prop}(hl:Le n Q1 Q2)(h:aw P n c Q1 st):aw P n c Q2 st:=by
 intro ctx a w hs;refine wpIn_mono (h ctx a w hs) ?_;rintro e a' w' ⟨s,h1,h2⟩
 exact hl e s _ _ _ h1 h2
theorem aXG{ops:Array Oper}{l:List Oper}{st:ASt}{K1 K2:ASt->Prop}(hl:∀s ctx a w,K1 s->Sat n ctx s a w->∃s',K2 s'/\Sat n ctx s' a w)(h:awl P n ops l K1 st):awl P n ops l K2 st:=by
 intro ctx a w hs;refine aAB ?_ _ _ _ (h ctx a w hs)
 rintro e a' w' ⟨rfl,s,h1,h2⟩
 exact⟨rfl,hl s _ _ _ h1 h2⟩
theorem aRQ{c:Code}{Q1 Q2:Exit->ASt->Prop}(hl:Le n Q1 Q2):∀(k:Nat) (s:ASt),unr P n c Q1 k s->unr P n c Q2 k s
 | 0,s,h=>h
 | k+1,s,h=>by
  refine aOX (Q1:=tn (unr P n c Q1 k) Q1) ?_ h;intro e s ctx a w h1 h2;cases e with
  | normal=>exact⟨s,aRQ hl k s h1,h2⟩
  | _=>exact hl _ s ctx a w h1 h2
theorem aDo{Q1 Q2:Exit->ASt->Prop}(hl:Le n Q1 Q2):∀(ks:List Fo),Le n (kQ P n Q1 ks) (kQ P n Q2 ks)
 | []=>hl
 | .seq y :: ks=>by
  intro e s ctx a w h1 h2;cases e with
  | normal=>exact⟨s,aOX (aDo hl ks) h1,h2⟩
  | _=>exact aDo hl ks _ s ctx a w h1 h2
 | .blk id :: ks=>by
  intro e s ctx a w h1 h2;cases e with
  | exit i=>
   unfold kQ at h1 ⊢;simp only[inB] at h1 ⊢;split
   ·rename_i hi;rw[if_pos hi] at h1;exact aDo hl ks _ s ctx a w h1 h2
   ·rename_i hi;rw[if_neg hi] at h1;exact aDo hl ks _ s ctx a w h1 h2
  | _=>exact aDo hl ks _ s ctx a w h1 h2
 | .un k c :: ks=>by
  intro e s ctx a w h1 h2;cases e with
  | normal=>exact⟨s,aRQ (aDo hl ks) k s h1,h2⟩
  | _=>exact aDo hl ks _ s ctx a w h1 h2
 | .scp :: ks=>by
  intro e s ctx a w h1 h2;cases e with
  | goto l=>exact h1.elim
  | _=>exact aDo hl ks _ s ctx a w h1 h2
theorem aF8 : ∀(a b:List Fo),kQ P n (kQ P n Q b) a=kQ P n Q (a++b)
 | [],b=>rfl
 | .seq y :: a,b=>by simp only[kQ,gg,aF8 a b]
 | .blk i :: a,b=>by simp only[kQ,gg,aF8 a b]
 | .un k c :: a,b=>by simp only[kQ,gg,aF8 a b]
 | .scp :: a,b=>by simp only[kQ,gg,aF8 a b]
theorem At.cut{q:Pt}{Q1:Exit->ASt->Prop}(d:Nat)(hl:Le n Q1 (kQ P n Q (qJ d q)))(h:At P T im n Q1 (aH6 d q)):At P T im n Q q:=by
 intro hT hm;cases q with
 | code c ks st=>
  have h:=h hT hm;unfold qJ aNk at hl;have e:kQ P n Q ks=kQ P n (kQ P n Q (aKB d ks)) (aGz d ks):=by rw[aF8,aI1]
  show aw P n c (kQ P n Q ks) st;rw[e]
  exact aOX (aDo hl _) h
 | ops arr l ks st=>
  have h:=h hT hm;unfold qJ aNk at hl;have e:kQ P n Q ks=kQ P n (kQ P n Q (aKB d ks)) (aGz d ks):=by rw[aF8,aI1]
  show awl P n arr l (λs=>kQ P n Q ks .normal s) st;rw[e]
  exact aXG (λs ctx a w h1 h2=>aDo hl _ .normal s ctx a w h1 h2) h
 | out e st=>exact(h hT hm).elim
 | bad=>exact(h hT hm).elim
theorem aUl{Q0:Exit->ASt->Prop}{t:ASt}(h:Q0 .normal t):Le n (tn (JR n t) Q0) Q0:=by
 intro e s ctx a w h1 h2;cases e with
 | normal=>exact⟨t,h,aQQ h1 h2⟩
 | _=>exact⟨s,h1,h2⟩
theorem At.j{α ρ:Type}{X:Option α}{F:α->Option ρ}{r:ρ}(k d:Nat)(t:α->ASt)(h:∀x,X=some x->At P T im n (tn (JR n (t x)) (kQ P n Q (qJ d (Go.UK.adv T im [] n.n k p)))) (aH6 d (Go.UK.adv T im [] n.n k p)))
  (hy:∀x,F x=some r->At P T im n Q (Go.UK.aBm (qJ d (Go.UK.adv T im [] n.n k p)) (t x))) (e:ae X F=some r):At P T im n Q p:=by
 obtain⟨x,e1,e2⟩:=wR e;exact At.adv (gl:=[]) k λhT hm=>At.cut d (aUl (At.popN hT hm (hy x e2))) (h x e1) hT hm
def JS{α β:Type}(n:Fr)(t:α->ASt)(o:Sum α β)(s:ASt):Prop:=∃p,o=Sum.inl p/\JR n (t p) s
theorem aUc{α β ρ:Type}{Q0:Exit->ASt->Prop}{t:α->ASt}{o:Sum α β}{F:α->ρ}{G:β->ρ}{r:ρ}(g:mZ o F G=r)(h:∀x,F x=r->Q0 .normal (t x)):Le n (tn (JS n t o) Q0) Q0:=by
 intro e s ctx a w h1 h2;cases e with
 | normal=>
  obtain⟨x,rfl,h3⟩:=h1;exact⟨t x,h x g,aQQ h3 h2⟩
 | _=>exact⟨s,h1,h2⟩
theorem At.js{α β ρ:Type}{X:Option (Sum α β)}{F:α->Option ρ}{G:β->Option ρ}{r:ρ}(k d:Nat)(t:α->ASt)(h:∀o,mZ o F G=some r->X=some o->At P T im n (tn (JS n t o) (kQ P n Q (qJ d (Go.UK.adv T im [] n.n k p)))) (aH6 d (Go.UK.adv T im [] n.n k p)))
  (hy:∀x,F x=some r->At P T im n Q (Go.UK.aBm (qJ d (Go.UK.adv T im [] n.n k p)) (t x))) (e:ae X (λo=>mZ o F G)=some r):At P T im n Q p:=by
 obtain⟨o,e1,g⟩:=wR e;exact At.adv (gl:=[]) k λhT hm=>At.cut d (aUc g (λx hx=>At.popN hT hm (hy x hx))) (h o g e1) hT hm
def aMh : Pt->Code
 | .code (.loop c) _ _=>c
 | _ => .skip
def aQp : Pt->Nat
 | .code _ (.blk id :: _) _=>id
 | _=>0
def aP7 : Pt->Bool
 | .code (.loop _) (.blk _ :: _) _=>true
 | _=>false
theorem lp0{q:Pt}{Q1:Exit->ASt->Prop}(I:Nat->ASt->Prop)(N:Nat)(hi:aP7 q=true)(h0:I N (iN q))(hl:Le n Q1 (kQ P n Q (qJ 1 q)))
  (h:∀k s,I k s->At P T im n (tn (λs'=>∃m,m < k/\I m s') (inB (aQp q) Q1)) (.code (aMh q) [] s)):At P T im n Q q:=by
 intro hT hm;unfold aP7 at hi;split at hi
 ·rename_i c id ks st;show aw P n (.loop c) (inB id (kQ P n Q ks)) st;have:aw P n (.loop c) (inB id Q1) st:=aTg I (λk s hI=>h k s hI hT hm) N st h0;refine aOX ?_ this;intro e s ctx a w h1 h2;cases e with
  | exit i=>
   simp only[inB] at h1 ⊢;split
   ·rename_i hi;rw[if_pos hi] at h1;exact hl _ s ctx a w h1 h2
   ·rename_i hi;rw[if_neg hi] at h1;exact hl _ s ctx a w h1 h2
  | _=>exact hl _ s ctx a w h1 h2
 ·cases hi
theorem At.l{α ρ:Type}{X:Option α}{F:α->Option ρ}{r:ρ}(k:Nat)(t:α->ASt)(I:α->(ASt->ASt->Prop)->Nat->ASt->Prop)(N:Nat)(h0:∀x,X=some x->I x (JR n) N (iN (Go.UK.adv T im [] n.n k p)))
  (h:∀x j s,I x (JR n) j s->At P T im n (tn (λs'=>∃m,m < j/\I x (JR n) m s') (inB (aQp (Go.UK.adv T im [] n.n k p)) (tn (JR n (t x)) (kQ P n Q (qJ 1 (Go.UK.adv T im [] n.n k p)))))) (.code (aMh (Go.UK.adv T im [] n.n k p)) [] s))
  (hy:∀x,F x=some r->At P T im n Q (Go.UK.aBm (qJ 1 (Go.UK.adv T im [] n.n k p)) (t x))) (hi:aP7 (Go.UK.adv T im [] n.n k p)=true:=by kernel_rfl) (e:ae X F=some r):At P T im n Q p:=by
 obtain⟨x,e1,e2⟩:=wR e;exact At.adv (gl:=[]) k λhT hm=>lp0 (I x (JR n)) N hi (h0 x e1) (aUl (At.popN hT hm (hy x e2))) (h x) hT hm
theorem At.ls{α β ρ:Type}{X:Option (Sum α β)}{F:α->Option ρ}{G:β->Option ρ}{r:ρ}(k:Nat)(t:α->ASt)(I:Sum α β->(ASt->ASt->Prop)->Nat->ASt->Prop)(N:Nat)(h0:∀o,X=some o->I o (JR n) N (iN (Go.UK.adv T im [] n.n k p)))
  (h:∀o,mZ o F G=some r->∀j s,I o (JR n) j s->At P T im n (tn (λs'=>∃m,m < j/\I o (JR n) m s') (inB (aQp (Go.UK.adv T im [] n.n k p)) (tn (JS n t o) (kQ P n Q (qJ 1 (Go.UK.adv T im [] n.n k p)))))) (.code (aMh (Go.UK.adv T im [] n.n k p)) [] s))
  (hy:∀x,F x=some r->At P T im n Q (Go.UK.aBm (qJ 1 (Go.UK.adv T im [] n.n k p)) (t x))) (hi:aP7 (Go.UK.adv T im [] n.n k p)=true:=by kernel_rfl) (e:ae X (λo=>mZ o F G)=some r):At P T im n Q p:=by
 obtain⟨o,e1,g⟩:=wR e;exact At.adv (gl:=[]) k λhT hm=>lp0 (I o (JR n)) N hi (h0 o e1) (aUc g (λx hx=>At.popN hT hm (hy x hx))) (h o g) hT hm
def aIX : Pt->Bool
 | .out .normal _=>true
 | _=>false
def outR : Pt->Bool
 | .code .ret _ _=>true
 | _=>false
def outE(id:Nat):Pt->Bool
 | .out (.exit i) _=>cd i id
 | _=>false
theorem xW{q:Pt}(h:aIX q=true):q = .out .normal (iN q):=by
 unfold aIX at h;split at h
 ·rfl
 ·cases h
theorem aPY{q:Pt}(h:outR q=true):∃ks,q = .code .ret ks (iN q):=by
 unfold outR at h;split at h
 ·exact⟨_,rfl⟩
 ·cases h
theorem aKL{id:Nat}{q:Pt}(h:outE id q=true):q = .out (.exit id) (iN q):=by
 unfold outE at h;split at h
 ·rw[aj h];rfl
 ·cases h
theorem At.jn(k:Nat){t:ASt}(hc:(aIX (Go.UK.adv T im [] n.n k p),cOK n (iN (Go.UK.adv T im [] n.n k p)) t,cSt (iN (Go.UK.adv T im [] n.n k p)) t)=(true,true,t):=by kernel_rfl):At P T im n (tn (JR n t) Q) p:=by
 refine At.adv (gl:=[]) k ?_;generalize Go.UK.adv T im [] n.n k p=q at *;simp only[Prod.mk.injEq] at hc;rw[xW hc.1]
 exact λ_ _=>Go.UK.jr (by rw[hc.2.1,hc.2.2])
theorem At.jw(k:Nat){t:ASt}(hj:JR n t (iN (Go.UK.adv T im [] n.n k p)))(hc:aIX (Go.UK.adv T im [] n.n k p)=true:=by kernel_rfl):At P T im n (tn (JR n t) Q) p:=by
 refine At.adv (gl:=[]) k ?_;generalize Go.UK.adv T im [] n.n k p=q at *;rw[xW hc]
 exact λ_ _=>hj
theorem At.jsn{α β:Type}(k:Nat){t:α->ASt}{x:α}(hc:(aIX (Go.UK.adv T im [] n.n k p),cOK n (iN (Go.UK.adv T im [] n.n k p)) (t x),cSt (iN (Go.UK.adv T im [] n.n k p)) (t x))=(true,true,t x):=by kernel_rfl):At P T im n (tn (JS n t (Sum.inl x:Sum α β)) Q) p:=by
 refine At.adv (gl:=[]) k ?_;generalize Go.UK.adv T im [] n.n k p=q at *;simp only[Prod.mk.injEq] at hc;rw[xW hc.1]
 exact λ_ _=>⟨x,rfl,Go.UK.jr (by rw[hc.2.1,hc.2.2])⟩
theorem At.x(k:Nat){K:ASt->Prop}{id:Nat}{t:ASt}(hc:(outE id (Go.UK.adv T im [] n.n k p),cOK n (iN (Go.UK.adv T im [] n.n k p)) t,cSt (iN (Go.UK.adv T im [] n.n k p)) t)=(true,true,t):=by kernel_rfl):At P T im n (tn K (inB id (tn (JR n t) Q))) p:=by
 refine At.adv (gl:=[]) k ?_;generalize Go.UK.adv T im [] n.n k p=q at *;simp only[Prod.mk.injEq] at hc;rw[aKL hc.1]
 exact λ_ _=>tn_x (aSV (tn_n (Go.UK.jr (by rw[hc.2.1,hc.2.2]))))
theorem At.xs{α β:Type}(k:Nat){K:ASt->Prop}{id:Nat}{t:α->ASt}{x:α}(hc:(outE id (Go.UK.adv T im [] n.n k p),cOK n (iN (Go.UK.adv T im [] n.n k p)) (t x),cSt (iN (Go.UK.adv T im [] n.n k p)) (t x))=(true,true,t x):=by kernel_rfl):At P T im n (tn K (inB id (tn (JS n t (Sum.inl x:Sum α β)) Q))) p:=by
 refine At.adv (gl:=[]) k ?_;generalize Go.UK.adv T im [] n.n k p=q at *;simp only[Prod.mk.injEq] at hc;rw[aKL hc.1]
 exact λ_ _=>tn_x (aSV (tn_n ⟨x,rfl,Go.UK.jr (by rw[hc.2.1,hc.2.2])⟩))
theorem At.k(j:Nat){m:Nat}{I:Nat->ASt->Prop}(h:I m (iN (Go.UK.adv T im [] n.n j p)))(hc:aIX (Go.UK.adv T im [] n.n j p)=true:=by kernel_rfl):At P T im n (tn (λs'=>∃i,i < m+1/\I i s') Q) p:=by
 refine At.adv (gl:=[]) j ?_;generalize Go.UK.adv T im [] n.n j p=q at *;rw[xW hc]
 exact λ_ _=>⟨m,Nat.lt_succ_self m,h⟩
class aFS(Q:Exit->ASt->Prop)(Q':outParam (Exit->ASt->Prop)):Prop where
 to:∀st,Q' .ret st->Q .ret st
instance retTo_tn {K:ASt->Prop} {Q Q':Exit->ASt->Prop} [h:aFS Q Q']:aFS (tn K Q) Q':=⟨λst hq=>h.to st hq⟩
instance retTo_inB {id:Nat} {Q Q':Exit->ASt->Prop} [h:aFS Q Q']:aFS (inB id Q) Q':=⟨λst hq=>h.to st hq⟩
instance retTo_kQ {Q Q':Exit->ASt->Prop} {ks:List Fo} [h:aFS Q Q']:aFS (kQ P n Q ks) Q':=⟨λst hq=>kQ_r (h.to st hq)⟩
instance retTo_M {lo:Nat} {rs:List ResultVar} {ret:AV} {H':List Box}:aFS (aFc T lo rs ret H') (aFc T lo rs ret H'):=⟨λ_ h=>h⟩
theorem At.r(k:Nat){lo:Nat}{rs:List ResultVar}{ret:AV}{H':List Box}[h:aFS Q (aFc T lo rs ret H')](hc:(outR (Go.UK.adv T im [] n.n k p),aM1 lo (dN (Go.UK.adv T im [] n.n k p)) H' ret,aNP T rs (iN (Go.UK.adv T im [] n.n k p)) ret H')=(true,true,some (ret,H')):=by kernel_rfl):At P T im n Q p:=by
 refine At.adv (gl:=[]) k ?_;generalize Go.UK.adv T im [] n.n k p=q at *;simp only[Prod.mk.injEq] at hc;obtain⟨ks,e⟩:=aPY hc.1;rw[e]
 exact λ_ _=>aVz (kQ_r (h.to _ (fin_r (by rw[<- hc.2.2];exact Prod.ext hc.2.1 rfl))))
theorem At.z(k:Nat){lo:Nat}{rs:List ResultVar}{ret:AV}{H':List Box}(hc:(aIX (Go.UK.adv T im [] n.n k p),aM1 lo (dN (Go.UK.adv T im [] n.n k p)) H' ret,aNP T rs (iN (Go.UK.adv T im [] n.n k p)) ret H')=(true,true,some (ret,H')):=by kernel_rfl):At P T im n (aFc T lo rs ret H') p:=by
 refine At.adv (gl:=[]) k ?_;generalize Go.UK.adv T im [] n.n k p=q at *;simp only[Prod.mk.injEq] at hc;rw[xW hc.1]
 exact λ_ _=>fin_n (by rw[<- hc.2.2];exact Prod.ext hc.2.1 rfl)
end
end Go.UK

namespace Go.UK
open Go
set_option linter.all false
variable [bU]
section
variable {P:Program} {T:TypeId→Option TI} {im:Nat→Bool} {n:Fr} {Q:Exit→ASt→Prop} {p:Pt}
section
variable {l:List Oper} {C:List (List Nat)} {ms:List MI} {B:Env} {H0:List Box} {cs:CS}
end
def lPt : Pt->List Oper
 | .code (.region _ arr _) _ _=>arr.toList
 | _=>[]
def isDr : Pt->Bool
 | .code (.region _ _ d) _ _=>d
 | _=>false
theorem aP9{q:Pt}(h:isDr q=true):∃id arr ks st,q = .code (.region id arr true) ks st:=by
 unfold isDr at h;split at h
 ·subst h;exact⟨_,_,_,_,rfl⟩
 ·cases h
end
end Go.UK

