/- The own layer: abstract values, their memory, and the steps of the model over them: for any program. -/
import Derived.Test.YtbfieohdmihfpaaGreatDoorLib11
import Derived.Shelf.SlMaps.Clone
namespace Go.UK
open Go
set_option linter.all false
variable [bL]
section
variable {P:Program} {T:TypeId→Option TI} {n:Fr}
theorem aRG{st:ASt}{ctx:Mem}{a:Act}{w:World}(h:Sat n ctx st a w):Sat n ctx ⟨st.env,st.H++[.tail 0]⟩ a w:=by
 obtain⟨bs,hm⟩:=h;have ext:=Ext.snoc (F:=ctx.F) hm.ok.len (cL.refl w) (.tail 0) none (by intro b e;cases e)
 have ok:=OK.snoc hm.ok (cL.refl w) (x := .tail 0) (o:=none) (by intro b e;cases e) (by intro b e;cases e)
 exact⟨bs++[none],{ h:=rfl,ok:=ok,ext:=hm.ext.trans ext,env:=hm.env.ext ext,size:=hm.size,low:=hm.low,defers:=tV.ext hm.ok ext hm.defers,nod:=hm.nod,outs:=λp hp=>(hm.outs p hp).ext ext }⟩
def aKL : List Bool->List Box
 | []=>[]
 | true :: r => .tail 0 :: aKL r
 | false :: r => .dead :: aKL r
theorem aG4 : ∀(m:List Bool) {st:ASt} {ctx:Mem} {a:Act} {w:World},Sat n ctx st a w->Sat n ctx ⟨st.env,st.H++aKL m⟩ a w
 | [],st,ctx,a,w,h=>by simpa[aKL] using h
 | true :: r,st,ctx,a,w,h=>by
  have:=aG4 r (aRG h)
  simpa[aKL] using this
 | false :: r,st,ctx,a,w,h=>by
  have h1:=aKz h 1;have:=aG4 r h1;simpa[aKL] using this
end
end Go.UK

open Go.Result renaming andThen→dy,andThen_ok→am
open Go.Sem renaming run_bind→bf,run_pure→ck
namespace Go.UK
open Go
set_option linter.all false
variable [bL]
def aPB{α:Type}(l:List (Int×α))(k:Int):Bool:=(aKQ l k).isSome
section
variable {P:Program} {T:TypeId→Option TI} {n:Fr}
def lo2E(o:Oper)(need:Env):Option (TypeId×Nat×IntKind×Int):=
 match o.op with
 | .lookup t m x true=>match opd need none m,opd need none x with
  | some (.mp id),some (.v (.int q k))=>some (t,id,q,k)
  | _,_=>none
 | _=>none
theorem aSZ{μ:Mem}{x:AV}{y:Value}(h:Rdv μ.w μ.M x y):Rv0 μ x y:=rG.2 (mS (λys hy=>Rd.rc x ys hy) h)
theorem aSr(hT:TOK P T){α:Type}{f:α->AV}{z:α}{t:TypeId}{q:IntKind}{sz b1:Nat}{kd:TK}(ht:MpT P T t q ⟨sz,b1,f z,kd⟩)(hf:∀x vs,f x ≠ .tup vs){μ:Mem}(ok:μ.OK){id b:Nat}{k:Int}{l:List (Int×α)}
  (hb:μ.bs[id]? = some (some b)) (hH:μ.H[id]? = some (.mp (eM q f l))) :
  ∃y,(Instr.lookup t (.map (some b)) (.int q k) true).run P μ.w = .ok y μ.w/\Rv μ (.tup [f (aLA l k z),eB (aPB l k)]) y:=by
 obtain⟨b',es,c,e,hheap,hm⟩:=ok.box id _ _ hb hH;cases e;obtain⟨hm,_⟩:=aED.1 hm;obtain⟨kt,et,t1,t2,t3⟩:=ht.ty;obtain⟨zv,zs,g1,g2,g3,g4,g5⟩:=uL hT t3 μ.w;rcases aHR (k:=k) l es.toList 0 hm with ⟨h1,h2,_⟩ | ⟨j,e,x,h1,h2,h3,h4,h5,_⟩
 ·refine⟨.tuple #[zv,.bool false],?_,?_⟩
  ·simp[Instr.lookup,run_underlying t1,MapKept.run_getObj_map hheap,MapKept.run_checkKey t2 (show MapKept.IsKey (.int q) (.int q k) from rfl),MapKept.run_findKey t2 h2,g1,dy]
  ·rw[aLA,aPB,h1]
   have g:=g5 μ;have hz:=hf z;have g0:Rv0 μ (f z) zv:=by cases hx:f z <;> first | (dsimp only at g;rw[hx] at g;exact g) | exact absurd hx (hz _)
   exact⟨#[zv,.bool false],rfl,zv,[.bool false],rfl,g0,.bool false,[],rfl,tQ rfl,rfl⟩
 ·refine⟨.tuple #[e.val,.bool true],?_,?_⟩
  ·simp[Instr.lookup,run_underlying t1,MapKept.run_getObj_map hheap,MapKept.run_checkKey t2 (show MapKept.IsKey (.int q) (.int q k) from rfl),MapKept.run_findKey t2 h2,dy]
  ·rw[aLA,aPB,h1]
   exact⟨#[e.val,.bool true],rfl,e.val,[.bool true],rfl,aSZ h5,.bool true,[],rfl,tQ rfl,rfl⟩
theorem aOD(hT:TOK P T){α:Type}{f:α->AV}{z:α}{t id:Nat}{q:IntKind}{k:Int}{sz b1:Nat}{kd:TK}(ht:MpT P T t q ⟨sz,b1,f z,kd⟩)(hf:∀x vs,f x ≠ .tup vs){o:Oper}{need:Env}{H:List Box}(l:List (Int×α))
  (hd:dOK n.n o.dst=true) (h:lo2E o need=some (t,id,q,k)) (hH:H[id]? = some (.mp (eM q f l))):Big P n o need H (.tup [f (aLA l k z),eB (aPB l k)]) H:=by
 refine cY hd λa μ ok hH' hE=>?_;unfold lo2E at h;split at h <;> try cases h
 rename_i t' m x ho;split at h <;> cases h;rename_i hm hx;obtain⟨b,kvs,h1,h2,h3⟩:=aRV (aR hE noG hm)
 have ex:=bH (aR hE noG hx)
 obtain⟨y,g1,g2⟩:=aSr (P:=P) hT ht hf (k:=k) ok h1 (by rw[hH'];exact hH)
 exact⟨μ,⟨y,by simp[execOp,ho,h3,ex,g1,dy],g2,Ext.refl _,ok⟩,hH'⟩
def mpK : AV->Option Bool
 | .mp _=>some true
 | .v (.map none)=>some false
 | _=>none
theorem aVs{μ:Mem}{x:AV}{y:Value}{b:Bool}(h:mpK x=some b)(hr:Rv μ x y):∃p:Option Nat,y = .map p/\p.isSome=b:=by
 unfold mpK at h;split at h <;> cases h
 ·obtain⟨b,kvs,_,_,e⟩:=aRV hr;exact⟨_,e,rfl⟩
 ·exact⟨none,bH hr,rfl⟩
theorem aQX{t kt et:TypeId}(ht:P.underlying t=some (.map kt et)){x y:Operand}(p:Option Nat)(w:World) :
  (do eqGuard .eql t x y (.map p) (.map none);binOp .eql t (.map p) (.map none):Sem Value).run P w = .ok (.bool p.isNone) w /\
  (do eqGuard .neq t x y (.map p) (.map none);binOp .neq t (.map p) (.map none):Sem Value).run P w = .ok (.bool !p.isNone) w:=by
 have he:(Op.equal t (.map p) (.map none)).run P w = .ok p.isNone w:=by
  show(Op.equalIn (9999+1) t (.map p) (.map none)).run P w=_;unfold Op.equalIn;rw[bf,run_underlying ht]
  cases p <;> rfl
 constructor <;>
 ·simp only[eqGuard,binOp,bf]
  rw[show(Sem.run P (if (!true)=true then pure () else pure ()) w)=Result.ok () w from rfl]
  simp only[am,he,ck]
theorem aSU{o:Oper}{need:Env}{H:List Box}{t kt et:Nat}{x:AV}{b:Bool}(hd:dOK n.n o.dst=true)(ht:P.underlying t=some (.map kt et))(hx:mpK x=some b)(h:eqE o need .eql=some (t,x,.v (.map none))):Big P n o need H (eB !b) H:=by
 obtain⟨xo,yo,t',ho,h1,h2⟩:=aBc h;refine cY hd λa μ ok hH hE=>?_;have v2:=bH (aR hE noG h2)
 obtain⟨p,v1,hp⟩:=aVs hx (aR hE noG h1)
 have:=(aQX (P:=P) ht (x:=xo) (y:=yo) p μ.w).1;rw[bf] at this;refine⟨μ,eQ.here (y := .bool !b) ok ?_ (tQ rfl),hH⟩
 simp only[execOp,ho,v1,v2,bf,this,am,ck]
 subst hp;cases p <;> rfl
end
end Go.UK

namespace Go.UK
open Go Go.Proofs Go.Maps
set_option linter.all false
variable [bL]
section
variable {P:Program} {α:Type} {F:α→AV} {q:IntKind}
end
end Go.UK

open List renaming cons_append→fg
open Nat renaming beq→bp,ble→hL,eq_of_beq_eq_true→ak
open Option renaming bind→ae
namespace Go.UK
open Go
set_option linter.all false
variable [bL]
inductive Fo
 | seq (y:Code)
 | blk (id:Nat)
 | un (k:Nat) (c:Code)
 | scp
inductive Pt
 | code (c:Code) (ks:List Fo) (st:ASt)
 | ops (arr:Array Oper) (l:List Oper) (ks:List Fo) (st:ASt)
 | out (e:Exit) (st:ASt)
 | bad
def kQ(P:Program)(n:Fr)(Q:Exit->ASt->Prop):List Fo->Exit->ASt->Prop
 | []=>Q
 | .seq y :: ks=>tn (aw P n y (kQ P n Q ks)) (kQ P n Q ks)
 | .blk id :: ks=>inB id (kQ P n Q ks)
 | .scp :: ks=>ngo (kQ P n Q ks)
 | .un k c :: ks=>tn (unr P n c (kQ P n Q ks) k) (kQ P n Q ks)
def At(P:Program)(T:TypeId->Option TI)(im:Nat->Bool)(n:Fr)(Q:Exit->ASt->Prop)(p:Pt):Prop:=
 TOK P T->P.follows .mixedOrders=true->match p with
 | .code c ks st=>aw P n c (kQ P n Q ks) st
 | .ops arr l ks st=>awl P n arr l (λs=>kQ P n Q ks .normal s) st
 | .out e st=>Q e st
 | .bad=>False
def aAn : List Fo->ASt->Pt
 | [],st => .out .normal st
 | .seq y :: ks,st => .code y ks st
 | .blk _ :: ks,st=>aAn ks st
 | .scp :: ks,st=>aAn ks st
 | .un 0 _ :: _,_ => .bad
 | .un (k+1) c :: ks,st => .code c (.un k c :: ks) st
def aMo(id:Nat):List Fo->ASt->Pt
 | [],st => .out (.exit id) st
 | .seq _ :: ks,st=>aMo id ks st
 | .un _ _ :: ks,st=>aMo id ks st
 | .scp :: ks,st=>aMo id ks st
 | .blk i :: ks,st=>match bp id i with | true=>aAn ks st | false=>aMo id ks st
def ctl : Pt->Option Pt
 | .code c ks st=>match c with
  | .seq x y=>some (.code x (.seq y :: ks) st)
  | .skip=>some (aAn ks st)
  | .exit id=>some (aMo id ks st)
  | .block id c=>some (.code c (.blk id :: ks) st)
  | .scope c=>some (.code c (.scp :: ks) st)
  | .label _=>some (aAn ks st)
  | .region _ arr d=>match d with | true=>none | false=>some (.ops arr arr.toList ks st)
  | _=>none
 | .ops _ l ks st=>match l with | []=>some (aAn ks st) | _ :: _=>none
 | _=>none
def aPr : Nat->Pt->Pt
 | 0,p=>p
 | f+1,p=>match ctl p with | some q=>aPr f q | none=>p
def cnt(T:TypeId->Option TI)(im:Nat->Bool)(gl:List Nat)(m:Nat):Pt->Pt
 | .ops arr l ks st=>match l with
  | o :: l=>match step T im gl m arr o st with | some s => .ops arr l ks s | none => .bad
  | [] => .bad
 | .code c ks st=>match c with
  | .cond q x y=>match q with
   | .tmp t=>match get st.env t with
    | some (.v (.bool b))=>match b with | true => .code x ks st | false => .code y ks st
    | _ => .bad
   | .const (.bool b)=>match b with | true => .code x ks st | false => .code y ks st
   | _ => .bad
  | _ => .bad
 | _ => .bad
def adv(T:TypeId->Option TI)(im:Nat->Bool)(gl:List Nat)(m:Nat):Nat->Pt->Pt
 | 0,p=>aPr 64 p
 | k+1,p=>adv T im gl m k (cnt T im gl m (aPr 64 p))
def fS : Pt->ASt
 | .code _ _ st=>st
 | .ops _ _ _ st=>st
 | .out _ st=>st
 | .bad=>⟨[],[]⟩
def nY(p:Pt):Env:=(fS p).env
def cW(p:Pt):List Box:=(fS p).H
def wE : Pt->Oper
 | .ops _ (o :: _) _ _=>o
 | _=>default
def aLK : Pt->Oper
 | .ops _ (_ :: o :: _) _ _=>o
 | _=>default
def aN5 : Pt->Bool
 | .ops _ (_ :: _) _ _=>true
 | _=>false
def aRT : Pt->Bool
 | .ops _ (_ :: _ :: _) _ _=>true
 | _=>false
def aBN(p:Pt)(x:AV)(H:List Box):Pt:=
 match p with
 | .ops arr (o :: l) ks st => .ops arr l ks ⟨st.env.put o.dst (none,x),H⟩
 | _ => .bad
def aEj(p:Pt)(s:ASt):Pt:=
 match p with
 | .ops arr (_ :: l) ks _ => .ops arr l ks s
 | _ => .bad
def yY(p:Pt)(s:ASt):Pt:=
 match p with
 | .ops arr l ks _ => .ops arr l ks s
 | .code c ks _ => .code c ks s
 | _ => .bad
def aHc : Pt->Bool
 | .ops arr (o :: _) _ st=>gOK arr o st.env
 | _=>false
def cdPt : Pt->Option AV
 | .code (.cond (.tmp t) _ _) _ st=>get st.env t
 | _=>none
def brPt(b:Bool):Pt->Pt
 | .code (.cond _ x y) ks st => .code (match b with | true=>x | false=>y) ks st
 | _ => .bad
def aNu(d:Nat)(b:Bool)(p:Pt):Pt:=yY p (aPG d b (fS p))
def aMs : Pt->List Fo
 | .code _ ks _=>ks
 | .ops _ _ ks _=>ks
 | _=>[]
def aFh{α:Type}:Nat->List α->List α
 | 0,_=>[]
 | _+1,[]=>[]
 | d+1,x :: r=>x :: aFh d r
def aI4{α:Type}:Nat->List α->List α
 | 0,l=>l
 | _+1,[]=>[]
 | d+1,_ :: r=>aI4 d r
def aHh(d:Nat):Pt->Pt
 | .code c ks st => .code c (aFh d ks) st
 | .ops arr l ks st => .ops arr l (aFh d ks) st
 | _ => .bad
def oA(d:Nat)(p:Pt):List Fo:=aI4 d (aMs p)
section
variable {P:Program} {T:TypeId→Option TI} {im:Nat→Bool} {n:Fr} {Q:Exit→ASt→Prop} {p:Pt}
theorem aHP{α:Type}:∀(d:Nat) (l:List α),aFh d l++aI4 d l=l
 | 0,l=>rfl
 | d+1,[]=>rfl
 | d+1,x :: r=>by simp[aFh,aI4,aHP d r]
theorem At.popN{ks:List Fo}{st:ASt}(hT:TOK P T)(hm:P.follows .mixedOrders=true)(h:At P T im n Q (aAn ks st)):kQ P n Q ks .normal st:=by
 induction ks with
 | nil=>exact h hT hm
 | cons f ks ih=>
  cases f with
  | seq y=>exact h hT hm
  | blk id=>exact ih h
  | scp=>exact ih h
  | un k c=>
   cases k with
   | zero=>exact(h hT hm).elim
   | succ k=>exact h hT hm
theorem At.popE{id:Nat}{ks:List Fo}{st:ASt}(hT:TOK P T)(hm:P.follows .mixedOrders=true)(h:At P T im n Q (aMo id ks st)):kQ P n Q ks (.exit id) st:=by
 induction ks with
 | nil=>exact h hT hm
 | cons f ks ih=>
  cases f with
  | seq y=>exact ih h
  | un k c=>exact ih h
  | scp=>exact ih h
  | blk i=>
   unfold Go.UK.aMo at h;cases hb:bp id i with
   | true=>
    rw[hb] at h;obtain rfl:=ak hb;exact aRr (At.popN hT hm h)
   | false=>rw[hb] at h;exact inB_x hb (ih h)
theorem kQ_r{ks:List Fo}{st:ASt}(h:Q .ret st):kQ P n Q ks .ret st:=by
 induction ks with
 | nil=>exact h
 | cons f ks ih=>cases f <;> exact ih
theorem aQ7{l:Nat}{st:ASt}{Q:Exit->ASt->Prop}(h:Q .normal st):aw P n (.label l) Q st:=λctx a w hs=>wpIn_label ⟨st,h,hs⟩
theorem At.ctl{q:Pt}(hc:ctl p=some q)(h:At P T im n Q q):At P T im n Q p:=by
 intro hT hm;unfold Go.UK.ctl at hc;split at hc
 ·rename_i c ks st;split at hc <;> try cases hc
  ·exact aVh (h hT hm)
  ·exact aSn (At.popN hT hm h)
  ·exact aSX (At.popE hT hm h)
  ·exact aQb (h hT hm)
  ·exact aQJ (h hT hm)
  ·exact aQ7 (At.popN hT hm h)
  ·rename_i id arr d;split at hc <;> cases hc;exact aPK (l:=arr.toList) (h hT hm)
 ·split at hc <;> cases hc;exact aTQ (At.popN hT hm h)
 ·cases hc
theorem At.norm : ∀(f:Nat) {p:Pt},At P T im n Q (aPr f p)->At P T im n Q p
 | 0,p,h=>h
 | f+1,p,h=>by
  unfold Go.UK.aPr at h;split at h
  ·rename_i q hq;exact At.ctl hq (At.norm f h)
  ·exact h
theorem At.bad(h:At P T im n Q .bad):At P T im n Q p:=λhT hm=>(h hT hm).elim
theorem At.cnt{gl:List Nat}(h:At P T im n Q (cnt T im gl n.n p)):At P T im n Q p:=by
 unfold Go.UK.cnt at h;split at h
 ·rename_i arr l ks st;split at h
  ·rename_i o l;split at h
   ·rename_i s hs;intro hT hm;exact aNA (aQL hT hs) (h hT hm)
   ·exact At.bad h
  ·exact At.bad h
 ·rename_i c ks st;split at h
  ·rename_i q x y;split at h
   ·rename_i t;split at h
    ·rename_i b hb;intro hT hm;refine aOM hb (λe=>?_) (λe=>?_) <;> (subst e;exact h hT hm)
    ·exact At.bad h
   ·rename_i b;intro hT hm;cases b with
    | true=>exact aKq (b:=true) (h hT hm)
    | false=>exact aKq (b:=false) (h hT hm)
   ·exact At.bad h
  ·exact At.bad h
 ·exact At.bad h
theorem At.adv{gl:List Nat}:∀(k:Nat) {p:Pt},At P T im n Q (adv T im gl n.n k p)->At P T im n Q p
 | 0,p,h=>At.norm 64 h
 | k+1,p,h=>At.norm 64 (At.cnt (At.adv k h))
theorem At.g(gl:List Nat)(k:Nat){π:Prop}(h:π->At P T im n Q (Go.UK.adv T im gl n.n k p))(e:π):At P T im n Q p:=At.adv k (h e)
theorem aGr{q:Pt}(h:aN5 q=true):∃arr o l ks st,q = .ops arr (o :: l) ks st:=by
 unfold aN5 at h;split at h
 ·exact⟨_,_,_,_,_,rfl⟩
 ·cases h
theorem aOm{q:Pt}(h:aHc q=true):∃arr o l ks st,q = .ops arr (o :: l) ks st/\gOK arr o st.env=true:=by
 unfold aHc at h;split at h
 ·exact⟨_,_,_,_,_,rfl,h⟩
 ·cases h
theorem At.o1{q:Pt}{x:AV}{H':List Box}(b:Big P n (wE q) (nY q) (cW q) x H')(hg:aHc q=true)(h:At P T im n Q (aBN q x H')):At P T im n Q q:=by
 obtain⟨arr,o,l,ks,st,rfl,hg⟩:=aOm hg;intro hT hm;exact aTW b hg (h hT hm)
theorem At.o(k:Nat){π:Prop}{x:AV}{H':List Box}(b:Big P n (wE (Go.UK.adv T im [] n.n k p)) (nY (Go.UK.adv T im [] n.n k p)) (cW (Go.UK.adv T im [] n.n k p)) x H')(h:π->At P T im n Q (aBN (Go.UK.adv T im [] n.n k p) x H'))(hg:aHc (Go.UK.adv T im [] n.n k p)=true:=by kernel_rfl)(e:π):At P T im n Q p:=
 At.adv k (At.o1 b hg (h e))
theorem At.b{α β:Type}{x:Option α}{f:α->Option β}{r:β}(k:Nat){y:α->AV}{H':α->List Box}
  (b:∀a,x=some a->Big P n (wE (Go.UK.adv T im [] n.n k p)) (nY (Go.UK.adv T im [] n.n k p)) (cW (Go.UK.adv T im [] n.n k p)) (y a) (H' a)) (h:∀a,f a=some r->At P T im n Q (aBN (Go.UK.adv T im [] n.n k p) (y a) (H' a))) (hg:aHc (Go.UK.adv T im [] n.n k p)=true:=by kernel_rfl) (e:ae x f=some r):At P T im n Q p:=by
 obtain⟨a,e1,e2⟩:=aA3 e;exact At.o k (b a e1) (h a) hg e2
theorem At.c{α:Type}{b:Bool}{px py:Option α}{r:α}(k:Nat)(h1:px=some r->At P T im n Q (brPt true (Go.UK.adv T im [] n.n k p)))(h2:py=some r->At P T im n Q (brPt false (Go.UK.adv T im [] n.n k p)))
  (hb:cdPt (Go.UK.adv T im [] n.n k p)=some (.v (.bool b)):=by kernel_rfl) (e:cond b px py=some r):At P T im n Q p:=by
 refine At.adv (gl:=[]) k ?_;generalize Go.UK.adv T im [] n.n k p=q at *;unfold cdPt at hb;split at hb
 ·intro hT hm;refine aOM hb (λe'=>?_) (λe'=>?_)
  ·subst e';exact h1 e hT hm
  ·subst e';exact h2 e hT hm
 ·cases hb
theorem At.s{α:Type}{b:Bool}{px py:Option α}{r:α}(d k:Nat)(h1:px=some r->At P T im n Q (aNu d true (Go.UK.adv T im [] n.n k p)))(h2:py=some r->At P T im n Q (aNu d false (Go.UK.adv T im [] n.n k p)))
  (hb:(aN5 (Go.UK.adv T im [] n.n k p),get (nY (Go.UK.adv T im [] n.n k p)) d)=(true,some (.v (.bool b))):=by kernel_rfl) (e:cond b px py=some r):At P T im n Q p:=by
 refine At.adv (gl:=[]) k ?_;generalize Go.UK.adv T im [] n.n k p=q at *;simp only[Prod.mk.injEq] at hb;obtain⟨hi,hb⟩:=hb;obtain⟨arr,o,l,ks,st,rfl⟩:=aGr hi;intro hT hm;exact aOg d e hb (λe=>h1 e hT hm) (λe=>h2 e hT hm)
theorem rt{α:Type}{a r:α}{p:α->Prop}(h:p a)(e:some a=some r):p r:=by cases e;exact h
theorem nn{α:Type}{r:α}{p:Prop}(e:none=some r):p:=by cases e
theorem bi{α β:Type}{x:Option α}{f:α->Option β}{r:β}{p:Prop}(h:∀a,x=some a->f a=some r->p)(e:ae x f=some r):p:=by obtain⟨a,e1,e2⟩:=aA3 e;exact h a e1 e2
theorem boI{α:Type}{b:Bool}{px py:Option α}{r:α}{p:Prop}(h1:b=true->px=some r->p)(h2:b=false->py=some r->p)(e:cond b px py=some r):p:=boolH e h1 h2
theorem lx{α β:Type}{e:α}{f:α->β}{r:β}{p:Prop}(k:let x:=e;f x=r->p)(h:aN e f=r):p:=k h
theorem sumI{α β γ:Type}{o:Option (Sum α β)}{F:α->Option γ}{G:β->Option γ}{r:γ}{p:Prop}(h1:∀a,o=some (Sum.inl a)->F a=some r->p)(h2:∀b,o=some (Sum.inr b)->G b=some r->p)(h:ae o (λx=>mW x F G)=some r):p:=by
 obtain⟨x,e,h⟩:=aA3 h;cases x with
 | inl a=>exact h1 a e h
 | inr b=>exact h2 b e h
def selS{α β γ:Type}(o:Sum α β)(F:α->γ)(G:β->γ):γ:=match o with | .inl a=>F a | .inr b=>G b
theorem At.t0{q:Pt}{s:ASt}(hs:∀{ctx:Mem} {a:Act} {w:World},Sat n ctx (fS q) a w->Sat n ctx s a w)(h:At P T im n Q (yY q s)):At P T im n Q q:=by
 intro hT hm;cases q with
 | code c ks st=>exact λctx a w hx=>h hT hm ctx a w (hs hx)
 | ops arr l ks st=>exact λctx a w hx=>h hT hm ctx a w (hs hx)
 | out e st=>exact(h hT hm).elim
 | bad=>exact(h hT hm).elim
theorem At.t(k:Nat){π:Prop}{s:ASt}(hs:∀{ctx:Mem} {a:Act} {w:World},Sat n ctx (fS (Go.UK.adv T im [] n.n k p)) a w->Sat n ctx s a w)(h:π->At P T im n Q (yY (Go.UK.adv T im [] n.n k p) s))(e:π):At P T im n Q p:=At.adv k (At.t0 hs (h e))
theorem At.ownn{π:Prop}(k s z:Nat)(h:π->At P T im n Q (yY (Go.UK.adv T im [] n.n k p) (aQV s z (fS (Go.UK.adv T im [] n.n k p)))))(hg:aEq (fS (Go.UK.adv T im [] n.n k p)) s=true:=by kernel_rfl)(e0:π):At P T im n Q p:=At.t k (λhx=>aKO hg hx) h e0
theorem At.gron{π:Prop}(k s z:Nat)(h:π->At P T im n Q (yY (Go.UK.adv T im [] n.n k p) (aQv s z (fS (Go.UK.adv T im [] n.n k p)))))(hg:aEq (fS (Go.UK.adv T im [] n.n k p)) s=true:=by kernel_rfl)(e0:π):At P T im n Q p:=At.t k (λhx=>aKp hg hx) h e0
theorem At.ownb{π:Prop}(k b z:Nat)(l:List Nat)(h:π->At P T im n Q (yY (Go.UK.adv T im [] n.n k p) (ownB b z l (fS (Go.UK.adv T im [] n.n k p)))))(e0:π):At P T im n Q p:=At.t k (λhx=>aKR hx) h e0
theorem At.wk{π:Prop}(k d:Nat)(y:AV)(h:π->At P T im n Q (yY (Go.UK.adv T im [] n.n k p) (wkS d y (fS (Go.UK.adv T im [] n.n k p)))))(e0:π):At P T im n Q p:=At.t k (λhx=>aSh hx) h e0
theorem At.sw{π:Prop}(k i j:Nat)(h:π->At P T im n Q (yY (Go.UK.adv T im [] n.n k p) (swS i j (fS (Go.UK.adv T im [] n.n k p)))))(hk:swOK n i j (fS (Go.UK.adv T im [] n.n k p))=true:=by kernel_rfl)(e0:π):At P T im n Q p:=At.t k (λhx=>aPg hk hx) h e0
theorem At.gz{π:Prop}(k id:Nat)(v:AV)(h:π->At P T im n Q (yY (Go.UK.adv T im [] n.n k p) (gzS id v (fS (Go.UK.adv T im [] n.n k p)))))(hat:gzAt id (fS (Go.UK.adv T im [] n.n k p))=some v:=by kernel_rfl)(hk:aQl n id (fS (Go.UK.adv T im [] n.n k p)) (lD id v 0 (cW (Go.UK.adv T im [] n.n k p)))=true:=by kernel_rfl)(e0:π):At P T im n Q p:=At.t k (λhx=>aWE hat hk hx) h e0
theorem At.fz{π:Prop}(k id z ln q:Nat)(es:List AV)(hq:es.length=q)(hln:es.length=ln)(h:π->At P T im n Q (yY (Go.UK.adv T im [] n.n k p) (fzS id z q es (fS (Go.UK.adv T im [] n.n k p)))))(hat:fzAt id (fS (Go.UK.adv T im [] n.n k p))=some (z,es):=by kernel_rfl)(hk:aPl n id z (fS (Go.UK.adv T im [] n.n k p)) (lC id z q es 0 (cW (Go.UK.adv T im [] n.n k p)))=true:=by kernel_rfl)
  (hl:qX id (nY (Go.UK.adv T im [] n.n k p))++qT id 0 (cW (Go.UK.adv T im [] n.n k p))=List.replicate (qX id (nY (Go.UK.adv T im [] n.n k p))++qT id 0 (cW (Go.UK.adv T im [] n.n k p))).length ln:=by kernel_rfl) (e0:π):At P T im n Q p:=At.t k (λhx=>aWP hq hat hk hln hl hx) h e0
theorem At.gl{π:Prop}(k:Nat)(ss bs:List Nat)(id m m':Nat)(e:m'=m)(h:π->At P T im n Q (yY p (glS ss bs id m' (fS p))))(hc:glS ss bs id m (fS p)=fS p:=by kernel_rfl)(e0:π):At P T im n Q p:=by
 subst e;exact At.t0 (λhx=>hx) (by have h:=h e0;rwa[hc] at h)
theorem At.to{π:Prop}(k:Nat)(t:ASt)(h:π->At P T im n Q (yY (Go.UK.adv T im [] n.n k p) t))(hc:(cOK n (fS (Go.UK.adv T im [] n.n k p)) t,cSt (fS (Go.UK.adv T im [] n.n k p)) t)=(true,t):=by kernel_rfl)(e0:π):At P T im n Q p:=At.t k (λhx=>jr hc _ _ _ hx) h e0
theorem At.jr{π:Prop}{c:Code}{ks:List Fo}{s t:ASt}(hj:JR n t s)(h:π->At P T im n Q (.code c ks t))(e:π):At P T im n Q (.code c ks s):=λhT hm=>aw_jr hj (h e hT hm)
theorem At.l2{π:Prop}(hT0:TOK P T)(k:Nat){d1 d2 t e:TypeId}{α:Type}(f:α->AV){z sz b1:Nat}{z0:AV}{i:TI}(es:List α)
  (ht:T t=some ⟨sz,b1,z0,.sl e⟩) (he:T e=some i) (hi:i.kind = .int .u8)
  (h:π->At P T im n Q (aEj (aEj (Go.UK.adv T im [] n.n k p) ⟨[],[]⟩) ⟨((nY (Go.UK.adv T im [] n.n k p)).set d1 (none,eO (cW (Go.UK.adv T im [] n.n k p)).length z f es)).set d2 (none,eO (cW (Go.UK.adv T im [] n.n k p)).length z f es),cW (Go.UK.adv T im [] n.n k p)++[.tail (es.length*z)]⟩))
  (hx:(aRT (Go.UK.adv T im [] n.n k p),(wE (Go.UK.adv T im [] n.n k p)).guard,(wE (Go.UK.adv T im [] n.n k p)).dst,(aLK (Go.UK.adv T im [] n.n k p)).guard,(aLK (Go.UK.adv T im [] n.n k p)).dst,(aLK (Go.UK.adv T im [] n.n k p)).op,(hL n.n d1||hL n.n d2),(match (wE (Go.UK.adv T im [] n.n k p)).op with | .buildSlice t' _ _=>bp t' t | _=>false),aP2 T (wE (Go.UK.adv T im [] n.n k p)) (nY (Go.UK.adv T im [] n.n k p)))
   = (true,none,some d1,none,some d2,.convert t t (.tmp d1),false,true,some (z,es.length,es.map f)):=by kernel_rfl) (e0:π):At P T im n Q p:=by
 have h:=h e0;refine At.adv (gl:=[]) k ?_;generalize Go.UK.adv T im [] n.n k p=q at *;simp only[Prod.mk.injEq] at hx;obtain⟨h0,h1,h2,h3,h4,h5,h6,h7,h8⟩:=hx;unfold aRT at h0;split at h0
 ·intro hT hm;exact aQN hT f es h1 h2 h3 h4 h5 h6 ht he hi h7 h8 (h hT hm)
 ·cases h0
theorem At.q{π:Prop}(hT0:TOK P T)(k:Nat){d t e z sz b1:Nat}{z0 x:AV}{es:List AV}(ht:T t=some ⟨sz,b1,z0,.sl e⟩)
  (h1:π->At P T im n Q (aEj (Go.UK.adv T im [] n.n k p) ⟨(nY (Go.UK.adv T im [] n.n k p)).set d (none,.v (.bool false)),cW (Go.UK.adv T im [] n.n k p)⟩)) (h2:es=[]->π->At P T im n Q (aEj (Go.UK.adv T im [] n.n k p) ⟨(nY (Go.UK.adv T im [] n.n k p)).set d (none,.v (.bool true)),cW (Go.UK.adv T im [] n.n k p)⟩))
  (hx:(aN5 (Go.UK.adv T im [] n.n k p),(wE (Go.UK.adv T im [] n.n k p)).guard,(wE (Go.UK.adv T im [] n.n k p)).dst,hL n.n d,eqE (wE (Go.UK.adv T im [] n.n k p)) (nY (Go.UK.adv T im [] n.n k p)) .eql,rE x)
   = (true,none,some d,false,some (t,x,.v (.slice none 0 0)),some (z,es)):=by kernel_rfl) (e0:π):At P T im n Q p:=by
 have h1:=h1 e0;refine At.adv (gl:=[]) k ?_;generalize Go.UK.adv T im [] n.n k p=q at *;simp only[Prod.mk.injEq] at hx;obtain⟨h0,g1,g2,g3,g4,g5⟩:=hx;obtain⟨arr,o,l,ks,st,rfl⟩:=aGr h0;intro hT hm;exact aTE hT g1 g2 g3 ht g4 g5 (h1 hT hm) (λe=>h2 e e0 hT hm)
def Le(n:Fr)(Q1 Q2:Exit->ASt->Prop):Prop:=∀e s ctx a w,Q1 e s->Sat n ctx s a w->∃s',Q2 e s'/\Sat n ctx s' a w
theorem aNQ{c:Code}{st:ASt}{Q1 Q2:Exit->ASt->Prop}(hl:Le n Q1 Q2)(h:aw P n c Q1 st):aw P n c Q2 st:=by
 intro ctx a w hs;refine wpIn_mono (h ctx a w hs) ?_;rintro e a' w' ⟨s,h1,h2⟩
 exact hl e s _ _ _ h1 h2
theorem aV7{ops:Array Oper}{l:List Oper}{st:ASt}{K1 K2:ASt->Prop}(hl:∀s ctx a w,K1 s->Sat n ctx s a w->∃s',K2 s'/\Sat n ctx s' a w)(h:awl P n ops l K1 st):awl P n ops l K2 st:=by
 intro ctx a w hs;refine xR ?_ _ _ _ (h ctx a w hs)
 rintro e a' w' ⟨rfl,s,h1,h2⟩
 exact⟨rfl,hl s _ _ _ h1 h2⟩
theorem aRN{c:Code}{Q1 Q2:Exit->ASt->Prop}(hl:Le n Q1 Q2):∀(k:Nat) (s:ASt),unr P n c Q1 k s->unr P n c Q2 k s
 | 0,s,h=>h
 | k+1,s,h=>by
  refine aNQ (Q1:=tn (unr P n c Q1 k) Q1) ?_ h;intro e s ctx a w h1 h2;cases e with
  | normal=>exact⟨s,aRN hl k s h1,h2⟩
  | _=>exact hl _ s ctx a w h1 h2
theorem aCp{Q1 Q2:Exit->ASt->Prop}(hl:Le n Q1 Q2):∀(ks:List Fo),Le n (kQ P n Q1 ks) (kQ P n Q2 ks)
 | []=>hl
 | .seq y :: ks=>by
  intro e s ctx a w h1 h2;cases e with
  | normal=>exact⟨s,aNQ (aCp hl ks) h1,h2⟩
  | _=>exact aCp hl ks _ s ctx a w h1 h2
 | .blk id :: ks=>by
  intro e s ctx a w h1 h2;cases e with
  | exit i=>
   unfold kQ at h1 ⊢;simp only[inB] at h1 ⊢;split
   ·rename_i hi;rw[if_pos hi] at h1;exact aCp hl ks _ s ctx a w h1 h2
   ·rename_i hi;rw[if_neg hi] at h1;exact aCp hl ks _ s ctx a w h1 h2
  | _=>exact aCp hl ks _ s ctx a w h1 h2
 | .un k c :: ks=>by
  intro e s ctx a w h1 h2;cases e with
  | normal=>exact⟨s,aRN (aCp hl ks) k s h1,h2⟩
  | _=>exact aCp hl ks _ s ctx a w h1 h2
 | .scp :: ks=>by
  intro e s ctx a w h1 h2;cases e with
  | goto l=>exact h1.elim
  | _=>exact aCp hl ks _ s ctx a w h1 h2
theorem aE1 : ∀(a b:List Fo),kQ P n (kQ P n Q b) a=kQ P n Q (a++b)
 | [],b=>rfl
 | .seq y :: a,b=>by simp only[kQ,fg,aE1 a b]
 | .blk i :: a,b=>by simp only[kQ,fg,aE1 a b]
 | .un k c :: a,b=>by simp only[kQ,fg,aE1 a b]
 | .scp :: a,b=>by simp only[kQ,fg,aE1 a b]
theorem At.cut{q:Pt}{Q1:Exit->ASt->Prop}(d:Nat)(hl:Le n Q1 (kQ P n Q (oA d q)))(h:At P T im n Q1 (aHh d q)):At P T im n Q q:=by
 intro hT hm;cases q with
 | code c ks st=>
  have h:=h hT hm;unfold oA aMs at hl;have e:kQ P n Q ks=kQ P n (kQ P n Q (aI4 d ks)) (aFh d ks):=by rw[aE1,aHP]
  show aw P n c (kQ P n Q ks) st;rw[e]
  exact aNQ (aCp hl _) h
 | ops arr l ks st=>
  have h:=h hT hm;unfold oA aMs at hl;have e:kQ P n Q ks=kQ P n (kQ P n Q (aI4 d ks)) (aFh d ks):=by rw[aE1,aHP]
  show awl P n arr l (λs=>kQ P n Q ks .normal s) st;rw[e]
  exact aV7 (λs ctx a w h1 h2=>aCp hl _ .normal s ctx a w h1 h2) h
 | out e st=>exact(h hT hm).elim
 | bad=>exact(h hT hm).elim
theorem aUB{Q0:Exit->ASt->Prop}{t:ASt}(h:Q0 .normal t):Le n (tn (JR n t) Q0) Q0:=by
 intro e s ctx a w h1 h2;cases e with
 | normal=>exact⟨t,h,aQI h1 h2⟩
 | _=>exact⟨s,h1,h2⟩
theorem At.j{α ρ:Type}{X:Option α}{F:α->Option ρ}{r:ρ}(k d:Nat)(t:α->ASt)(h:∀x,X=some x->At P T im n (tn (JR n (t x)) (kQ P n Q (oA d (Go.UK.adv T im [] n.n k p)))) (aHh d (Go.UK.adv T im [] n.n k p)))
  (hy:∀x,F x=some r->At P T im n Q (Go.UK.aAn (oA d (Go.UK.adv T im [] n.n k p)) (t x))) (e:ae X F=some r):At P T im n Q p:=by
 obtain⟨x,e1,e2⟩:=aA3 e;exact At.adv (gl:=[]) k λhT hm=>At.cut d (aUB (At.popN hT hm (hy x e2))) (h x e1) hT hm
def JS{α β:Type}(n:Fr)(t:α->ASt)(o:Sum α β)(s:ASt):Prop:=∃p,o=Sum.inl p/\JR n (t p) s
theorem aUs{α β ρ:Type}{Q0:Exit->ASt->Prop}{t:α->ASt}{o:Sum α β}{F:α->ρ}{G:β->ρ}{r:ρ}(g:mW o F G=r)(h:∀x,F x=r->Q0 .normal (t x)):Le n (tn (JS n t o) Q0) Q0:=by
 intro e s ctx a w h1 h2;cases e with
 | normal=>
  obtain⟨x,rfl,h3⟩:=h1;exact⟨t x,h x g,aQI h3 h2⟩
 | _=>exact⟨s,h1,h2⟩
theorem At.js{α β ρ:Type}{X:Option (Sum α β)}{F:α->Option ρ}{G:β->Option ρ}{r:ρ}(k d:Nat)(t:α->ASt)(h:∀o,mW o F G=some r->X=some o->At P T im n (tn (JS n t o) (kQ P n Q (oA d (Go.UK.adv T im [] n.n k p)))) (aHh d (Go.UK.adv T im [] n.n k p)))
  (hy:∀x,F x=some r->At P T im n Q (Go.UK.aAn (oA d (Go.UK.adv T im [] n.n k p)) (t x))) (e:ae X (λo=>mW o F G)=some r):At P T im n Q p:=by
 obtain⟨o,e1,g⟩:=aA3 e;exact At.adv (gl:=[]) k λhT hm=>At.cut d (aUs g (λx hx=>At.popN hT hm (hy x hx))) (h o g e1) hT hm
def aLV : Pt->Code
 | .code (.loop c) _ _=>c
 | _ => .skip
def aRs : Pt->Nat
 | .code _ (.blk id :: _) _=>id
 | _=>0
def aPQ : Pt->Bool
 | .code (.loop _) (.blk _ :: _) _=>true
 | _=>false
theorem lp0{q:Pt}{Q1:Exit->ASt->Prop}(I:Nat->ASt->Prop)(N:Nat)(hi:aPQ q=true)(h0:I N (fS q))(hl:Le n Q1 (kQ P n Q (oA 1 q)))
  (h:∀k s,I k s->At P T im n (tn (λs'=>∃m,m < k/\I m s') (inB (aRs q) Q1)) (.code (aLV q) [] s)):At P T im n Q q:=by
 intro hT hm;unfold aPQ at hi;split at hi
 ·rename_i c id ks st;show aw P n (.loop c) (inB id (kQ P n Q ks)) st;have:aw P n (.loop c) (inB id Q1) st:=aNF I (λk s hI=>h k s hI hT hm) N st h0;refine aNQ ?_ this;intro e s ctx a w h1 h2;cases e with
  | exit i=>
   simp only[inB] at h1 ⊢;split
   ·rename_i hi;rw[if_pos hi] at h1;exact hl _ s ctx a w h1 h2
   ·rename_i hi;rw[if_neg hi] at h1;exact hl _ s ctx a w h1 h2
  | _=>exact hl _ s ctx a w h1 h2
 ·cases hi
theorem At.l{α ρ:Type}{X:Option α}{F:α->Option ρ}{r:ρ}(k:Nat)(t:α->ASt)(I:α->(ASt->ASt->Prop)->Nat->ASt->Prop)(N:Nat)(h0:∀x,X=some x->I x (JR n) N (fS (Go.UK.adv T im [] n.n k p)))
  (h:∀x j s,I x (JR n) j s->At P T im n (tn (λs'=>∃m,m < j/\I x (JR n) m s') (inB (aRs (Go.UK.adv T im [] n.n k p)) (tn (JR n (t x)) (kQ P n Q (oA 1 (Go.UK.adv T im [] n.n k p)))))) (.code (aLV (Go.UK.adv T im [] n.n k p)) [] s))
  (hy:∀x,F x=some r->At P T im n Q (Go.UK.aAn (oA 1 (Go.UK.adv T im [] n.n k p)) (t x))) (hi:aPQ (Go.UK.adv T im [] n.n k p)=true:=by kernel_rfl) (e:ae X F=some r):At P T im n Q p:=by
 obtain⟨x,e1,e2⟩:=aA3 e;exact At.adv (gl:=[]) k λhT hm=>lp0 (I x (JR n)) N hi (h0 x e1) (aUB (At.popN hT hm (hy x e2))) (h x) hT hm
theorem At.ls{α β ρ:Type}{X:Option (Sum α β)}{F:α->Option ρ}{G:β->Option ρ}{r:ρ}(k:Nat)(t:α->ASt)(I:Sum α β->(ASt->ASt->Prop)->Nat->ASt->Prop)(N:Nat)(h0:∀o,X=some o->I o (JR n) N (fS (Go.UK.adv T im [] n.n k p)))
  (h:∀o,mW o F G=some r->∀j s,I o (JR n) j s->At P T im n (tn (λs'=>∃m,m < j/\I o (JR n) m s') (inB (aRs (Go.UK.adv T im [] n.n k p)) (tn (JS n t o) (kQ P n Q (oA 1 (Go.UK.adv T im [] n.n k p)))))) (.code (aLV (Go.UK.adv T im [] n.n k p)) [] s))
  (hy:∀x,F x=some r->At P T im n Q (Go.UK.aAn (oA 1 (Go.UK.adv T im [] n.n k p)) (t x))) (hi:aPQ (Go.UK.adv T im [] n.n k p)=true:=by kernel_rfl) (e:ae X (λo=>mW o F G)=some r):At P T im n Q p:=by
 obtain⟨o,e1,g⟩:=aA3 e;exact At.adv (gl:=[]) k λhT hm=>lp0 (I o (JR n)) N hi (h0 o e1) (aUs g (λx hx=>At.popN hT hm (hy x hx))) (h o g) hT hm
def aNN(m:Nat)(q:Pt):Pt:=
 match q with
 | .code (.loop c) ks st => .code c (.un m c :: ks) st
 | _ => .bad
theorem At.u{π:Prop}(m k:Nat)(h:π->At P T im n Q (aNN m (Go.UK.adv T im [] n.n k p)))(e:π):At P T im n Q p:=by
 have h:=h e;refine At.adv (gl:=[]) k ?_;generalize Go.UK.adv T im [] n.n k p=q at *;unfold aNN at h;split at h
 ·intro hT hm;exact aO3 (m+1) (unr_s (h hT hm))
 ·exact At.bad h
def aHJ : Pt->Bool
 | .out .normal _=>true
 | _=>false
def outR : Pt->Bool
 | .code .ret _ _=>true
 | _=>false
def outE(id:Nat):Pt->Bool
 | .out (.exit i) _=>bp i id
 | _=>false
theorem vE{q:Pt}(h:aHJ q=true):q = .out .normal (fS q):=by
 unfold aHJ at h;split at h
 ·rfl
 ·cases h
theorem aPN{q:Pt}(h:outR q=true):∃ks,q = .code .ret ks (fS q):=by
 unfold outR at h;split at h
 ·exact⟨_,rfl⟩
 ·cases h
theorem aI5{id:Nat}{q:Pt}(h:outE id q=true):q = .out (.exit id) (fS q):=by
 unfold outE at h;split at h
 ·rw[ak h];rfl
 ·cases h
theorem At.jn(k:Nat){t:ASt}(hc:(aHJ (Go.UK.adv T im [] n.n k p),cOK n (fS (Go.UK.adv T im [] n.n k p)) t,cSt (fS (Go.UK.adv T im [] n.n k p)) t)=(true,true,t):=by kernel_rfl):At P T im n (tn (JR n t) Q) p:=by
 refine At.adv (gl:=[]) k ?_;generalize Go.UK.adv T im [] n.n k p=q at *;simp only[Prod.mk.injEq] at hc;rw[vE hc.1]
 exact λ_ _=>Go.UK.jr (by rw[hc.2.1,hc.2.2])
theorem At.jw(k:Nat){t:ASt}(hj:JR n t (fS (Go.UK.adv T im [] n.n k p)))(hc:aHJ (Go.UK.adv T im [] n.n k p)=true:=by kernel_rfl):At P T im n (tn (JR n t) Q) p:=by
 refine At.adv (gl:=[]) k ?_;generalize Go.UK.adv T im [] n.n k p=q at *;rw[vE hc]
 exact λ_ _=>hj
theorem At.jsn{α β:Type}(k:Nat){t:α->ASt}{x:α}(hc:(aHJ (Go.UK.adv T im [] n.n k p),cOK n (fS (Go.UK.adv T im [] n.n k p)) (t x),cSt (fS (Go.UK.adv T im [] n.n k p)) (t x))=(true,true,t x):=by kernel_rfl):At P T im n (tn (JS n t (Sum.inl x:Sum α β)) Q) p:=by
 refine At.adv (gl:=[]) k ?_;generalize Go.UK.adv T im [] n.n k p=q at *;simp only[Prod.mk.injEq] at hc;rw[vE hc.1]
 exact λ_ _=>⟨x,rfl,Go.UK.jr (by rw[hc.2.1,hc.2.2])⟩
theorem At.x(k:Nat){K:ASt->Prop}{id:Nat}{t:ASt}(hc:(outE id (Go.UK.adv T im [] n.n k p),cOK n (fS (Go.UK.adv T im [] n.n k p)) t,cSt (fS (Go.UK.adv T im [] n.n k p)) t)=(true,true,t):=by kernel_rfl):At P T im n (tn K (inB id (tn (JR n t) Q))) p:=by
 refine At.adv (gl:=[]) k ?_;generalize Go.UK.adv T im [] n.n k p=q at *;simp only[Prod.mk.injEq] at hc;rw[aI5 hc.1]
 exact λ_ _=>tn_x (aRr (tn_n (Go.UK.jr (by rw[hc.2.1,hc.2.2]))))
theorem At.xs{α β:Type}(k:Nat){K:ASt->Prop}{id:Nat}{t:α->ASt}{x:α}(hc:(outE id (Go.UK.adv T im [] n.n k p),cOK n (fS (Go.UK.adv T im [] n.n k p)) (t x),cSt (fS (Go.UK.adv T im [] n.n k p)) (t x))=(true,true,t x):=by kernel_rfl):At P T im n (tn K (inB id (tn (JS n t (Sum.inl x:Sum α β)) Q))) p:=by
 refine At.adv (gl:=[]) k ?_;generalize Go.UK.adv T im [] n.n k p=q at *;simp only[Prod.mk.injEq] at hc;rw[aI5 hc.1]
 exact λ_ _=>tn_x (aRr (tn_n ⟨x,rfl,Go.UK.jr (by rw[hc.2.1,hc.2.2])⟩))
theorem At.k(j:Nat){m:Nat}{I:Nat->ASt->Prop}(h:I m (fS (Go.UK.adv T im [] n.n j p)))(hc:aHJ (Go.UK.adv T im [] n.n j p)=true:=by kernel_rfl):At P T im n (tn (λs'=>∃i,i < m+1/\I i s') Q) p:=by
 refine At.adv (gl:=[]) j ?_;generalize Go.UK.adv T im [] n.n j p=q at *;rw[vE hc]
 exact λ_ _=>⟨m,Nat.lt_succ_self m,h⟩
class aDX(Q:Exit->ASt->Prop)(Q':outParam (Exit->ASt->Prop)):Prop where
 to:∀st,Q' .ret st->Q .ret st
instance retTo_tn {K:ASt->Prop} {Q Q':Exit->ASt->Prop} [h:aDX Q Q']:aDX (tn K Q) Q':=⟨λst hq=>h.to st hq⟩
instance retTo_inB {id:Nat} {Q Q':Exit->ASt->Prop} [h:aDX Q Q']:aDX (inB id Q) Q':=⟨λst hq=>h.to st hq⟩
instance retTo_kQ {Q Q':Exit->ASt->Prop} {ks:List Fo} [h:aDX Q Q']:aDX (kQ P n Q ks) Q':=⟨λst hq=>kQ_r (h.to st hq)⟩
instance retTo_M {lo:Nat} {rs:List ResultVar} {ret:AV} {H':List Box}:aDX (aDg T lo rs ret H') (aDg T lo rs ret H'):=⟨λ_ h=>h⟩
theorem At.r(k:Nat){lo:Nat}{rs:List ResultVar}{ret:AV}{H':List Box}[h:aDX Q (aDg T lo rs ret H')](hc:(outR (Go.UK.adv T im [] n.n k p),aMX lo (cW (Go.UK.adv T im [] n.n k p)) H' ret,aMk T rs (fS (Go.UK.adv T im [] n.n k p)) ret H')=(true,true,some (ret,H')):=by kernel_rfl):At P T im n Q p:=by
 refine At.adv (gl:=[]) k ?_;generalize Go.UK.adv T im [] n.n k p=q at *;simp only[Prod.mk.injEq] at hc;obtain⟨ks,e⟩:=aPN hc.1;rw[e]
 exact λ_ _=>aU3 (kQ_r (h.to _ (fin_r (by rw[<- hc.2.2];exact Prod.ext hc.2.1 rfl))))
theorem At.z(k:Nat){lo:Nat}{rs:List ResultVar}{ret:AV}{H':List Box}(hc:(aHJ (Go.UK.adv T im [] n.n k p),aMX lo (cW (Go.UK.adv T im [] n.n k p)) H' ret,aMk T rs (fS (Go.UK.adv T im [] n.n k p)) ret H')=(true,true,some (ret,H')):=by kernel_rfl):At P T im n (aDg T lo rs ret H') p:=by
 refine At.adv (gl:=[]) k ?_;generalize Go.UK.adv T im [] n.n k p=q at *;simp only[Prod.mk.injEq] at hc;rw[vE hc.1]
 exact λ_ _=>fin_n (by rw[<- hc.2.2];exact Prod.ext hc.2.1 rfl)
end
end Go.UK

namespace Go.UK
open Go
set_option linter.all false
variable [bL]
section
variable {P:Program} {T:TypeId→Option TI} {im:Nat→Bool} {n:Fr} {Q:Exit→ASt→Prop} {p:Pt}
section
variable {l:List Oper} {C:List (List Nat)} {ms:List MI} {B:Env} {H0:List Box} {cs:CS}
end
def lPt : Pt->List Oper
 | .code (.region _ arr _) _ _=>arr.toList
 | _=>[]
def isDr : Pt->Bool
 | .code (.region _ _ d) _ _=>d
 | _=>false
theorem aOo{q:Pt}(h:isDr q=true):∃id arr ks st,q = .code (.region id arr true) ks st:=by
 unfold isDr at h;split at h
 ·subst h;exact⟨_,_,_,_,rfl⟩
 ·cases h
end
end Go.UK

