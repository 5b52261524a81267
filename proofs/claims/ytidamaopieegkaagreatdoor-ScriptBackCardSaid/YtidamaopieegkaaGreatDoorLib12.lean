/- The own layer: abstract values, their memory, and the steps of the model over them: for any program. -/
import Derived.Test.YtidamaopieegkaaGreatDoorLib11
import Derived.Shelf.SlMaps.Clone
open Bool renaming and_eq_true→aj
open Option renaming getD_some→cm
namespace Go.UK
open Go
set_option linter.all false
variable [bJ]
section
variable {P:Program} {T:TypeId→Option TI} {n:Fr}
def zP(P:Program)(n:Fr)(l:List Oper)(C:List (List Nat))(ms:List MI)(B:Env):O2S->List (List (List Box))->Prop
 | (i,f) :: r,S :: R=>tU (λH=>Big P n (iO l i) (cN C ms B i) H f.x (lR H f.u)) S/\zP P n l C ms B r R
 | _,_=>True
theorem yA{l:List Oper}{C:List (List Nat)}{ms:List MI}{B:Env}{H0:List Box}{es:ES}:∀{o:O2S} {sts:List (List (List Box))} {i:Nat} {f:OE},zP P n l C ms B o sts->o.map (λq=>fY C q.1 H0 es)=sts->fL o i=some f->∀{H},H∈fY C i H0 es->Big P n (iO l i) (cN C ms B i) H f.x (lR H f.u)
 | [],_,i,x,_,_,h,_,_=>by simp[fL] at h
 | (j,y) :: r,sts,i,x,ho,hs,h,H,hH=>by
  subst hs;simp only[List.map_cons,zP] at ho;unfold fL at h;cases hb:Nat.beq j i with
  | true=>
   rw[hb] at h;have e:=Nat.eq_of_beq_eq_true hb;subst e;cases h;exact sW ho.1 H hH
  | false=>rw[hb] at h;exact yA ho.2 rfl h hH
theorem aEF(hT:TOK P T)(hm:P.follows .mixedOrders=true)(im:Nat->Bool)(o1:O1)(o2:O2S)(sts:List (List (List Box))){id:Nat}{l:List Oper}{Q:Exit->ASt->Prop}{st:ASt}
  (hB:aAg l (eT l.toArray) (kE T im n.n l st o1 o2) st o1 o2=true)
  (hE:aAu T im n.n l (eT l.toArray) (kE T im n.n l st o1 o2) st o1 o2=aAe l (eT l.toArray) (kE T im n.n l st o1 o2) st o1 o2)
  (hdst:l.all (λo=>dOK n.n o.dst)=true)
  (h1:or1 P n l (eT l.toArray) (kE T im n.n l st o1 o2).ms st.env o1)
  (hst:o2.map (λq=>fY (eT l.toArray) q.1 st.H (kE T im n.n l st o1 o2).es)=sts)
  (h2:zP P n l (eT l.toArray) (kE T im n.n l st o1 o2).ms st.env o2 sts)
  (hk:Q .normal (aDu T im n.n l st o1 o2)):aw P n (.region id l.toArray true) Q st:=by
 unfold aDu at hk;unfold aAg at hB;unfold aAu aAe at hE;generalize kE T im n.n l st o1 o2=s at *;obtain⟨ms,es,Hx⟩:=s;dsimp only at *;simp only[aj] at hB;refine aD7 hm hB.1 (λi hi=>?_) hk;have hdb:=dM hB.2 i hi;have hde:=uB hE hi;intro o x env ho hx hs H' hH';have hlo:l[i]? = some o:=by simpa using ho
 have ho':iO l i=o:=by unfold iO;rw[hlo];rfl
 have hdo:dOK n.n o.dst=true:=List.all_eq_true.1 hdst o (List.mem_of_getElem? hlo)
 have hxd:x.d=o.dst:=by
  simp only[pN,aj] at hB;have:=dM hB.1.2.2.1 i hi;rw[ho] at this;simp only[Option.bind_some,dAt,hx] at this;generalize o.dst=u at *;generalize x.d=v at *;cases u <;> cases v <;> simp[dEq] at this ⊢;exact this.symm
 have hex:eAt ms i=x.e:=by unfold eAt;rw[hx]
 unfold dBS at hdb;unfold dLS dRS at hde;simp only[ho',hex] at hdb hde;have fin:∀(v:AV) (H1 H2:List Box),x.e=some v->gOK l.toArray o (cN (eT l.toArray) ms st.env i)=true->Big P n o (cN (eT l.toArray) ms st.env i) H1 v H2 ->
   opS P n l.toArray o ⟨env,H1⟩ ⟨match x.d with | some d=>(match x.e with | some v=>env.set d (none,v) | none=>env.del d) | none=>env,H2⟩:=by
  intro v H1 H2 hv hg hb;have:=aC3 hs hg hb;rw[hv,hxd]
  cases hd:o.dst with
  | none=>rw[hd] at this;exact this
  | some d=>rw[hd] at this;exact this
 cases hdead:qD l o (cN (eT l.toArray) ms st.env i) with
 | true=>
  rw[hdead] at hdb hde;simp only[aj] at hdb;have hnc:kI i es=none:=by cases hc:kI i es with | none=>rfl | some _=>rw[hc] at hdb;cases hdb.2
  have hne:x.e=some (.tup []):=tI hdb.1;rw[hnc]
  have:=aBO (P:=P) (n:=n) (H:=H') ho hs hdead hdo;rw[hne,hxd]
  exact this
 | false=>
  rw[hdead] at hdb hde;simp only[aj] at hdb;obtain⟨hg,hsome,hdb⟩:=hdb;obtain⟨v,hv⟩:∃v,x.e=some v:=by cases hc:x.e with | none=>rw[hc] at hsome;cases hsome | some v=>exact⟨v,rfl⟩
  rw[hv] at hde;cases hl1:fL o1 i with
  | some y=>
   rw[hl1] at hdb hde;simp only[List.cons.injEq,Option.some.injEq,Prod.mk.injEq,and_true,cm] at hde;have hnc:kI i es=none:=by cases hc:kI i es with | none=>rfl | some _=>rw[hc] at hdb;cases hdb
   rw[hnc]
   have hb:=aB1 h1 hl1 H';rw[ho',hde] at hb;exact fin v H' H' hv hg hb
  | none=>
   rw[hl1] at hdb hde;cases hl2:fL o2 i with
   | some f=>
    rw[hl2] at hdb hde;dsimp only at hdb hde;simp only[List.cons.injEq,Option.some.injEq,Prod.mk.injEq,and_true,cm] at hde;obtain⟨e1,e2⟩:=hde;have hb:=yA h2 hst hl2 hH';rw[ho',e1] at hb;unfold effY at e2;cases hc:kI i es with
    | none=>rw[hc] at hdb;cases hdb
    | some w=>
     rw[hc] at hdb e2;dsimp only at hdb e2 ⊢;rw[aBy hdb e2.symm]
     exact fin v _ _ hv hg hb
   | none=>
    rw[hl2] at hdb hde;dsimp only at hdb hde;obtain⟨q,hq⟩:=List.getElem?_of_mem hH';have h9:=congrArg (λl=>l[q]?) hde;simp only[List.getElem?_map,hq,Option.map_some,Option.some.injEq,cm] at h9;exact fin v H' _ hv hg (wI hT h9)
theorem aFu{st:ASt}{ctx:Mem}{a:Act}{w:World}(h:Sat n ctx st a w):Sat n ctx ⟨st.env,st.H++[.tail 0]⟩ a w:=by
 obtain⟨bs,hm⟩:=h;have ext:=Ext.snoc (F:=ctx.F) hm.ok.len (cM.refl w) (.tail 0) none (by intro b e;cases e)
 have ok:=OK.snoc hm.ok (cM.refl w) (x := .tail 0) (o:=none) (by intro b e;cases e) (by intro b e;cases e)
 exact⟨bs++[none],{ h:=rfl,ok:=ok,ext:=hm.ext.trans ext,env:=hm.env.ext ext,size:=hm.size,low:=hm.low,defers:=lK.ext hm.ok ext hm.defers,nod:=hm.nod,outs:=λp hp=>(hm.outs p hp).ext ext }⟩
def jW : List Bool->List Box
 | []=>[]
 | true :: r => .tail 0 :: jW r
 | false :: r => .dead :: jW r
theorem xD : ∀(m:List Bool) {st:ASt} {ctx:Mem} {a:Act} {w:World},Sat n ctx st a w->Sat n ctx ⟨st.env,st.H++jW m⟩ a w
 | [],st,ctx,a,w,h=>by simpa[jW] using h
 | true :: r,st,ctx,a,w,h=>by
  have:=xD r (aFu h)
  simpa[jW] using this
 | false :: r,st,ctx,a,w,h=>by
  have h1:=aA6 h 1;have:=xD r h1;simpa[jW] using this
theorem aEI(hT:TOK P T)(hm:P.follows .mixedOrders=true)(im:Nat->Bool)(m:List Bool)(o1:O1)(o2:O2S)(sts:List (List (List Box))){id:Nat}{l:List Oper}{Q:Exit->ASt->Prop}{st:ASt}
  (hB:aAg l (eT l.toArray) (kE T im n.n l (dB0 l ⟨st.env,st.H++jW m⟩) o1 o2) (dB0 l ⟨st.env,st.H++jW m⟩) o1 o2=true)
  (hE:aAu T im n.n l (eT l.toArray) (kE T im n.n l (dB0 l ⟨st.env,st.H++jW m⟩) o1 o2) (dB0 l ⟨st.env,st.H++jW m⟩) o1 o2=aAe l (eT l.toArray) (kE T im n.n l (dB0 l ⟨st.env,st.H++jW m⟩) o1 o2) (dB0 l ⟨st.env,st.H++jW m⟩) o1 o2)
  (hdst:l.all (λo=>dOK n.n o.dst)=true)
  (h1:or1 P n l (eT l.toArray) (kE T im n.n l (dB0 l ⟨st.env,st.H++jW m⟩) o1 o2).ms (dB0 l ⟨st.env,st.H++jW m⟩).env o1)
  (hst:o2.map (λq=>fY (eT l.toArray) q.1 (dB0 l ⟨st.env,st.H++jW m⟩).H (kE T im n.n l (dB0 l ⟨st.env,st.H++jW m⟩) o1 o2).es)=sts)
  (h2:zP P n l (eT l.toArray) (kE T im n.n l (dB0 l ⟨st.env,st.H++jW m⟩) o1 o2).ms (dB0 l ⟨st.env,st.H++jW m⟩).env o2 sts)
  (es:List (Nat×AV)) (hn:nmL es (aDu T im n.n l (dB0 l ⟨st.env,st.H++jW m⟩) o1 o2)=nmR es)
  (hk:Q .normal (nmS es (aDu T im n.n l (dB0 l ⟨st.env,st.H++jW m⟩) o1 o2))):aw P n (.region id l.toArray true) Q st:=by
 have h:=aEF (Q:=λe s=>e = .normal/\s=aDu T im n.n l (dB0 l ⟨st.env,st.H++jW m⟩) o1 o2) (id:=id) hT hm im o1 o2 sts hB hE hdst h1 hst h2 ⟨rfl,rfl⟩
 intro ctx a w hs;refine wpIn_mono (h ctx a w (aDE (xD m hs))) ?_;rintro e a' w' ⟨s,⟨rfl,rfl⟩,h2⟩
 exact⟨_,hk,rO (aEu hn) h2⟩
end
end Go.UK

open Go.Sem renaming run_bind→ar,run_pure→be
namespace Go.UK
open Go
set_option linter.all false
variable [bJ]
section
variable {P:Program} {T:TypeId→Option TI} {n:Fr}
def mpK : AV->Option Bool
 | .mp _=>some true
 | .v (.map none)=>some false
 | _=>none
theorem aHU{μ:Mem}{x:AV}{y:Value}{b:Bool}(h:mpK x=some b)(hr:Rv μ x y):∃p:Option Nat,y = .map p/\p.isSome=b:=by
 unfold mpK at h;split at h <;> cases h
 ·obtain⟨b,kvs,_,_,e⟩:=aC0 hr;exact⟨_,e,rfl⟩
 ·exact⟨none,cC hr,rfl⟩
theorem aEY{t kt et:TypeId}(ht:P.underlying t=some (.map kt et)){x y:Operand}(p:Option Nat)(w:World) :
  (do eqGuard .eql t x y (.map p) (.map none);binOp .eql t (.map p) (.map none):Sem Value).run P w = .ok (.bool p.isNone) w /\
  (do eqGuard .neq t x y (.map p) (.map none);binOp .neq t (.map p) (.map none):Sem Value).run P w = .ok (.bool !p.isNone) w:=by
 have he:(Op.equal t (.map p) (.map none)).run P w = .ok p.isNone w:=by
  show(Op.equalIn (9999+1) t (.map p) (.map none)).run P w=_;unfold Op.equalIn;rw[ar,run_underlying ht]
  cases p <;> rfl
 constructor <;>
 ·simp only[eqGuard,binOp,ar]
  rw[show(Sem.run P (if (!true)=true then pure () else pure ()) w)=Result.ok () w from rfl]
  simp only[Result.andThen_ok,he,be]
theorem aGc{o:Oper}{need:Env}{H:List Box}{t kt et:Nat}{x:AV}{b:Bool}(hd:dOK n.n o.dst=true)(ht:P.underlying t=some (.map kt et))(hx:mpK x=some b)(h:eqE o need .eql=some (t,x,.v (.map none))):Big P n o need H (eB !b) H:=by
 obtain⟨xo,yo,t',ho,h1,h2⟩:=qR h;refine dX hd λa μ ok hH hE=>?_;have v2:=cC (aT hE noG h2)
 obtain⟨p,v1,hp⟩:=aHU hx (aT hE noG h1)
 have:=(aEY (P:=P) ht (x:=xo) (y:=yo) p μ.w).1;rw[ar] at this;refine⟨μ,dH.here (y := .bool !b) ok ?_ (pV rfl),hH⟩
 simp only[execOp,ho,v1,v2,ar,this,Result.andThen_ok,be]
 subst hp;cases p <;> rfl
end
end Go.UK

namespace Go.UK
open Go Go.Proofs Go.Maps
set_option linter.all false
variable [bJ]
section
variable {P:Program} {α:Type} {F:α→AV} {q:IntKind}
theorem aBd{ρ:Shelf.Ren}(L:SlLaysW.n5 P ρ){f:Nat}(hf:ρ.f 5=f)(l:List (Int×α)) :
  FnM P f [.mp (eM q F l)] [.mp 0] (.mp 1) [.mp (eM q F l),.mp (eM q F l)]:=by
 subst hf;rintro w G bs vs ok ⟨y0,r0,rfl,g0,rfl⟩
 obtain⟨b,kvs,h1,h2,rfl⟩:=aC0 (aCn g0)
 obtain⟨b',es,c,e,hheap,hm⟩:=ok.box 0 _ _ h1 rfl;cases e;refine Calls.mono (AnyW.maps_Clone L b es c w hheap) ?_;rintro e w' ⟨rfl,rfl⟩
 have hl:bs.length=1:=ok.len;have later:=vE w (.map es c)
 have ext:=Ext.snoc (F:=G) ok.len later (.mp (eM q F l)) (some w.heap.size) (by intro b e;cases e;exact Nat.le_refl _)
 refine⟨_,bs++[some w.heap.size],rfl,ext,OK.snoc ok later (x := .mp (eM q F l)) (o:=some w.heap.size) (by intro b e;cases e;exact Nat.le_refl _) ?_,?_⟩
 ·exact⟨w.heap.size,es,c,rfl,dO,hm.mono ext.keeps⟩
 ·show Rv0 _ _ _;simp only[Rv0,AV.isAgg,Rc,Bool.false_eq_true,if_false]
  refine⟨w.heap.size,eM q F l,?_,rfl,rfl⟩
  show(bs++[some w.heap.size])[1]? = _;rw[<- hl];simp
end
end Go.UK

open List renaming cons_append→cx
open Nat renaming beq→ay,ble→d9,eq_of_beq_eq_true→ai
open Option renaming bind→ae
namespace Go.UK
open Go
set_option linter.all false
variable [bJ]
inductive Fo
 | seq (y:Code)
 | blk (id:Nat)
 | un (k:Nat) (c:Code)
 | scp
inductive Pt
 | code (c:Code) (ks:List Fo) (st:ASt)
 | ops (arr:Array Oper) (l:List Oper) (ks:List Fo) (st:ASt)
 | out (e:Exit) (st:ASt)
 | bad
def kQ(P:Program)(n:Fr)(Q:Exit->ASt->Prop):List Fo->Exit->ASt->Prop
 | []=>Q
 | .seq y :: ks=>tn (aw P n y (kQ P n Q ks)) (kQ P n Q ks)
 | .blk id :: ks=>inB id (kQ P n Q ks)
 | .scp :: ks=>ngo (kQ P n Q ks)
 | .un k c :: ks=>tn (unr P n c (kQ P n Q ks) k) (kQ P n Q ks)
def At(P:Program)(T:TypeId->Option TI)(im:Nat->Bool)(n:Fr)(Q:Exit->ASt->Prop)(p:Pt):Prop:=
 TOK P T->P.follows .mixedOrders=true->match p with
 | .code c ks st=>aw P n c (kQ P n Q ks) st
 | .ops arr l ks st=>awl P n arr l (λs=>kQ P n Q ks .normal s) st
 | .out e st=>Q e st
 | .bad=>False
def oQ : List Fo->ASt->Pt
 | [],st => .out .normal st
 | .seq y :: ks,st => .code y ks st
 | .blk _ :: ks,st=>oQ ks st
 | .scp :: ks,st=>oQ ks st
 | .un 0 _ :: _,_ => .bad
 | .un (k+1) c :: ks,st => .code c (.un k c :: ks) st
def aCf(id:Nat):List Fo->ASt->Pt
 | [],st => .out (.exit id) st
 | .seq _ :: ks,st=>aCf id ks st
 | .un _ _ :: ks,st=>aCf id ks st
 | .scp :: ks,st=>aCf id ks st
 | .blk i :: ks,st=>match ay id i with | true=>oQ ks st | false=>aCf id ks st
def ctl : Pt->Option Pt
 | .code c ks st=>match c with
  | .seq x y=>some (.code x (.seq y :: ks) st)
  | .skip=>some (oQ ks st)
  | .exit id=>some (aCf id ks st)
  | .block id c=>some (.code c (.blk id :: ks) st)
  | .scope c=>some (.code c (.scp :: ks) st)
  | .label _=>some (oQ ks st)
  | .region _ arr d=>match d with | true=>none | false=>some (.ops arr arr.toList ks st)
  | _=>none
 | .ops _ l ks st=>match l with | []=>some (oQ ks st) | _ :: _=>none
 | _=>none
def aFl : Nat->Pt->Pt
 | 0,p=>p
 | f+1,p=>match ctl p with | some q=>aFl f q | none=>p
def cnt(T:TypeId->Option TI)(im:Nat->Bool)(gl:List Nat)(m:Nat):Pt->Pt
 | .ops arr l ks st=>match l with
  | o :: l=>match step T im gl m arr o st with | some s => .ops arr l ks s | none => .bad
  | [] => .bad
 | .code c ks st=>match c with
  | .cond q x y=>match q with
   | .tmp t=>match get st.env t with
    | some (.v (.bool b))=>match b with | true => .code x ks st | false => .code y ks st
    | _ => .bad
   | .const (.bool b)=>match b with | true => .code x ks st | false => .code y ks st
   | _ => .bad
  | _ => .bad
 | _ => .bad
def adv(T:TypeId->Option TI)(im:Nat->Bool)(gl:List Nat)(m:Nat):Nat->Pt->Pt
 | 0,p=>aFl 64 p
 | k+1,p=>adv T im gl m k (cnt T im gl m (aFl 64 p))
def bY : Pt->ASt
 | .code _ _ st=>st
 | .ops _ _ _ st=>st
 | .out _ st=>st
 | .bad=>⟨[],[]⟩
def fU(p:Pt):Env:=(bY p).env
def cZ(p:Pt):List Box:=(bY p).H
def wH : Pt->Oper
 | .ops _ (o :: _) _ _=>o
 | _=>default
def aBk : Pt->Oper
 | .ops _ (_ :: o :: _) _ _=>o
 | _=>default
def aCy : Pt->Bool
 | .ops _ (_ :: _) _ _=>true
 | _=>false
def aFT : Pt->Bool
 | .ops _ (_ :: _ :: _) _ _=>true
 | _=>false
def aBJ(p:Pt)(x:AV)(H:List Box):Pt:=
 match p with
 | .ops arr (o :: l) ks st => .ops arr l ks ⟨st.env.put o.dst (none,x),H⟩
 | _ => .bad
def uQ(p:Pt)(s:ASt):Pt:=
 match p with
 | .ops arr (_ :: l) ks _ => .ops arr l ks s
 | _ => .bad
def nE(p:Pt)(s:ASt):Pt:=
 match p with
 | .ops arr l ks _ => .ops arr l ks s
 | .code c ks _ => .code c ks s
 | _ => .bad
def aFL : Pt->Bool
 | .ops arr (o :: _) _ st=>gOK arr o st.env
 | _=>false
def cdPt : Pt->Option AV
 | .code (.cond (.tmp t) _ _) _ st=>get st.env t
 | _=>none
def brPt(b:Bool):Pt->Pt
 | .code (.cond _ x y) ks st => .code (match b with | true=>x | false=>y) ks st
 | _ => .bad
def aCq(d:Nat)(b:Bool)(p:Pt):Pt:=nE p (aDl d b (bY p))
def aAZ : Pt->List Fo
 | .code _ ks _=>ks
 | .ops _ _ ks _=>ks
 | _=>[]
def vR{α:Type}:Nat->List α->List α
 | 0,_=>[]
 | _+1,[]=>[]
 | d+1,x :: r=>x :: vR d r
def zR{α:Type}:Nat->List α->List α
 | 0,l=>l
 | _+1,[]=>[]
 | d+1,_ :: r=>zR d r
def yO(d:Nat):Pt->Pt
 | .code c ks st => .code c (vR d ks) st
 | .ops arr l ks st => .ops arr l (vR d ks) st
 | _ => .bad
def iM(d:Nat)(p:Pt):List Fo:=zR d (aAZ p)
section
variable {P:Program} {T:TypeId→Option TI} {im:Nat→Bool} {n:Fr} {Q:Exit→ASt→Prop} {p:Pt}
theorem yM{α:Type}:∀(d:Nat) (l:List α),vR d l++zR d l=l
 | 0,l=>rfl
 | d+1,[]=>rfl
 | d+1,x :: r=>by simp[vR,zR,yM d r]
theorem At.popN{ks:List Fo}{st:ASt}(hT:TOK P T)(hm:P.follows .mixedOrders=true)(h:At P T im n Q (oQ ks st)):kQ P n Q ks .normal st:=by
 induction ks with
 | nil=>exact h hT hm
 | cons f ks ih=>
  cases f with
  | seq y=>exact h hT hm
  | blk id=>exact ih h
  | scp=>exact ih h
  | un k c=>
   cases k with
   | zero=>exact(h hT hm).elim
   | succ k=>exact h hT hm
theorem At.popE{id:Nat}{ks:List Fo}{st:ASt}(hT:TOK P T)(hm:P.follows .mixedOrders=true)(h:At P T im n Q (aCf id ks st)):kQ P n Q ks (.exit id) st:=by
 induction ks with
 | nil=>exact h hT hm
 | cons f ks ih=>
  cases f with
  | seq y=>exact ih h
  | un k c=>exact ih h
  | scp=>exact ih h
  | blk i=>
   unfold Go.UK.aCf at h;cases hb:ay id i with
   | true=>
    rw[hb] at h;obtain rfl:=ai hb;exact aEw (At.popN hT hm h)
   | false=>rw[hb] at h;exact inB_x hb (ih h)
theorem kQ_r{ks:List Fo}{st:ASt}(h:Q .ret st):kQ P n Q ks .ret st:=by
 induction ks with
 | nil=>exact h
 | cons f ks ih=>cases f <;> exact ih
theorem aE5{l:Nat}{st:ASt}{Q:Exit->ASt->Prop}(h:Q .normal st):aw P n (.label l) Q st:=λctx a w hs=>wpIn_label ⟨st,h,hs⟩
theorem At.ctl{q:Pt}(hc:ctl p=some q)(h:At P T im n Q q):At P T im n Q p:=by
 intro hT hm;unfold Go.UK.ctl at hc;split at hc
 ·rename_i c ks st;split at hc <;> try cases hc
  ·exact aIF (h hT hm)
  ·exact aF9 (At.popN hT hm h)
  ·exact aGy (At.popE hT hm h)
  ·exact aEj (h hT hm)
  ·exact aFo (h hT hm)
  ·exact aE5 (At.popN hT hm h)
  ·rename_i id arr d;split at hc <;> cases hc;exact aEC (l:=arr.toList) (h hT hm)
 ·split at hc <;> cases hc;exact aGs (At.popN hT hm h)
 ·cases hc
theorem At.norm : ∀(f:Nat) {p:Pt},At P T im n Q (aFl f p)->At P T im n Q p
 | 0,p,h=>h
 | f+1,p,h=>by
  unfold Go.UK.aFl at h;split at h
  ·rename_i q hq;exact At.ctl hq (At.norm f h)
  ·exact h
theorem At.bad(h:At P T im n Q .bad):At P T im n Q p:=λhT hm=>(h hT hm).elim
theorem At.cnt{gl:List Nat}(h:At P T im n Q (cnt T im gl n.n p)):At P T im n Q p:=by
 unfold Go.UK.cnt at h;split at h
 ·rename_i arr l ks st;split at h
  ·rename_i o l;split at h
   ·rename_i s hs;intro hT hm;exact aC1 (aEX hT hs) (h hT hm)
   ·exact At.bad h
  ·exact At.bad h
 ·rename_i c ks st;split at h
  ·rename_i q x y;split at h
   ·rename_i t;split at h
    ·rename_i b hb;intro hT hm;refine aDL hb (λe=>?_) (λe=>?_) <;> (subst e;exact h hT hm)
    ·exact At.bad h
   ·rename_i b;intro hT hm;cases b with
    | true=>exact aBc (b:=true) (h hT hm)
    | false=>exact aBc (b:=false) (h hT hm)
   ·exact At.bad h
  ·exact At.bad h
 ·exact At.bad h
theorem At.adv{gl:List Nat}:∀(k:Nat) {p:Pt},At P T im n Q (adv T im gl n.n k p)->At P T im n Q p
 | 0,p,h=>At.norm 64 h
 | k+1,p,h=>At.norm 64 (At.cnt (At.adv k h))
theorem At.g(gl:List Nat)(k:Nat){π:Prop}(h:π->At P T im n Q (Go.UK.adv T im gl n.n k p))(e:π):At P T im n Q p:=At.adv k (h e)
theorem xR{q:Pt}(h:aCy q=true):∃arr o l ks st,q = .ops arr (o :: l) ks st:=by
 unfold aCy at h;split at h
 ·exact⟨_,_,_,_,_,rfl⟩
 ·cases h
theorem aED{q:Pt}(h:aFL q=true):∃arr o l ks st,q = .ops arr (o :: l) ks st/\gOK arr o st.env=true:=by
 unfold aFL at h;split at h
 ·exact⟨_,_,_,_,_,rfl,h⟩
 ·cases h
theorem At.o1{q:Pt}{x:AV}{H':List Box}(b:Big P n (wH q) (fU q) (cZ q) x H')(hg:aFL q=true)(h:At P T im n Q (aBJ q x H')):At P T im n Q q:=by
 obtain⟨arr,o,l,ks,st,rfl,hg⟩:=aED hg;intro hT hm;exact aGw b hg (h hT hm)
theorem At.o(k:Nat){π:Prop}{x:AV}{H':List Box}(b:Big P n (wH (Go.UK.adv T im [] n.n k p)) (fU (Go.UK.adv T im [] n.n k p)) (cZ (Go.UK.adv T im [] n.n k p)) x H')(h:π->At P T im n Q (aBJ (Go.UK.adv T im [] n.n k p) x H'))(hg:aFL (Go.UK.adv T im [] n.n k p)=true:=by kernel_rfl)(e:π):At P T im n Q p:=
 At.adv k (At.o1 b hg (h e))
theorem At.b{α β:Type}{x:Option α}{f:α->Option β}{r:β}(k:Nat){y:α->AV}{H':α->List Box}
  (b:∀a,x=some a->Big P n (wH (Go.UK.adv T im [] n.n k p)) (fU (Go.UK.adv T im [] n.n k p)) (cZ (Go.UK.adv T im [] n.n k p)) (y a) (H' a)) (h:∀a,f a=some r->At P T im n Q (aBJ (Go.UK.adv T im [] n.n k p) (y a) (H' a))) (hg:aFL (Go.UK.adv T im [] n.n k p)=true:=by kernel_rfl) (e:ae x f=some r):At P T im n Q p:=by
 obtain⟨a,e1,e2⟩:=vX e;exact At.o k (b a e1) (h a) hg e2
theorem At.c{α:Type}{b:Bool}{px py:Option α}{r:α}(k:Nat)(h1:px=some r->At P T im n Q (brPt true (Go.UK.adv T im [] n.n k p)))(h2:py=some r->At P T im n Q (brPt false (Go.UK.adv T im [] n.n k p)))
  (hb:cdPt (Go.UK.adv T im [] n.n k p)=some (.v (.bool b)):=by kernel_rfl) (e:cond b px py=some r):At P T im n Q p:=by
 refine At.adv (gl:=[]) k ?_;generalize Go.UK.adv T im [] n.n k p=q at *;unfold cdPt at hb;split at hb
 ·intro hT hm;refine aDL hb (λe'=>?_) (λe'=>?_)
  ·subst e';exact h1 e hT hm
  ·subst e';exact h2 e hT hm
 ·cases hb
theorem At.s{α:Type}{b:Bool}{px py:Option α}{r:α}(d k:Nat)(h1:px=some r->At P T im n Q (aCq d true (Go.UK.adv T im [] n.n k p)))(h2:py=some r->At P T im n Q (aCq d false (Go.UK.adv T im [] n.n k p)))
  (hb:(aCy (Go.UK.adv T im [] n.n k p),get (fU (Go.UK.adv T im [] n.n k p)) d)=(true,some (.v (.bool b))):=by kernel_rfl) (e:cond b px py=some r):At P T im n Q p:=by
 refine At.adv (gl:=[]) k ?_;generalize Go.UK.adv T im [] n.n k p=q at *;simp only[Prod.mk.injEq] at hb;obtain⟨hi,hb⟩:=hb;obtain⟨arr,o,l,ks,st,rfl⟩:=xR hi;intro hT hm;exact aD5 d e hb (λe=>h1 e hT hm) (λe=>h2 e hT hm)
theorem rt{α:Type}{a r:α}{p:α->Prop}(h:p a)(e:some a=some r):p r:=by cases e;exact h
theorem nn{α:Type}{r:α}{p:Prop}(e:none=some r):p:=by cases e
theorem bi{α β:Type}{x:Option α}{f:α->Option β}{r:β}{p:Prop}(h:∀a,x=some a->f a=some r->p)(e:ae x f=some r):p:=by obtain⟨a,e1,e2⟩:=vX e;exact h a e1 e2
theorem boI{α:Type}{b:Bool}{px py:Option α}{r:α}{p:Prop}(h1:b=true->px=some r->p)(h2:b=false->py=some r->p)(e:cond b px py=some r):p:=boolH e h1 h2
theorem lx{α β:Type}{e:α}{f:α->β}{r:β}{p:Prop}(k:let x:=e;f x=r->p)(h:cF e f=r):p:=k h
theorem sumI{α β γ:Type}{o:Option (Sum α β)}{F:α->Option γ}{G:β->Option γ}{r:γ}{p:Prop}(h1:∀a,o=some (Sum.inl a)->F a=some r->p)(h2:∀b,o=some (Sum.inr b)->G b=some r->p)(h:ae o (λx=>qK x F G)=some r):p:=by
 obtain⟨x,e,h⟩:=vX h;cases x with
 | inl a=>exact h1 a e h
 | inr b=>exact h2 b e h
def selS{α β γ:Type}(o:Sum α β)(F:α->γ)(G:β->γ):γ:=match o with | .inl a=>F a | .inr b=>G b
theorem At.t0{q:Pt}{s:ASt}(hs:∀{ctx:Mem} {a:Act} {w:World},Sat n ctx (bY q) a w->Sat n ctx s a w)(h:At P T im n Q (nE q s)):At P T im n Q q:=by
 intro hT hm;cases q with
 | code c ks st=>exact λctx a w hx=>h hT hm ctx a w (hs hx)
 | ops arr l ks st=>exact λctx a w hx=>h hT hm ctx a w (hs hx)
 | out e st=>exact(h hT hm).elim
 | bad=>exact(h hT hm).elim
theorem At.t(k:Nat){π:Prop}{s:ASt}(hs:∀{ctx:Mem} {a:Act} {w:World},Sat n ctx (bY (Go.UK.adv T im [] n.n k p)) a w->Sat n ctx s a w)(h:π->At P T im n Q (nE (Go.UK.adv T im [] n.n k p) s))(e:π):At P T im n Q p:=At.adv k (At.t0 hs (h e))
theorem At.ownn{π:Prop}(k s z:Nat)(h:π->At P T im n Q (nE (Go.UK.adv T im [] n.n k p) (aFM s z (bY (Go.UK.adv T im [] n.n k p)))))(hg:aCO (bY (Go.UK.adv T im [] n.n k p)) s=true:=by kernel_rfl)(e0:π):At P T im n Q p:=At.t k (λhx=>aBv hg hx) h e0
theorem At.ownb{π:Prop}(k b z:Nat)(l:List Nat)(h:π->At P T im n Q (nE (Go.UK.adv T im [] n.n k p) (ownB b z l (bY (Go.UK.adv T im [] n.n k p)))))(e0:π):At P T im n Q p:=At.t k (λhx=>aBh hx) h e0
theorem At.wk{π:Prop}(k d:Nat)(y:AV)(h:π->At P T im n Q (nE (Go.UK.adv T im [] n.n k p) (wkS d y (bY (Go.UK.adv T im [] n.n k p)))))(e0:π):At P T im n Q p:=At.t k (λhx=>aGU hx) h e0
theorem At.sw{π:Prop}(k i j:Nat)(h:π->At P T im n Q (nE (Go.UK.adv T im [] n.n k p) (swS i j (bY (Go.UK.adv T im [] n.n k p)))))(hk:aFK n i j (bY (Go.UK.adv T im [] n.n k p))=true:=by kernel_rfl)(e0:π):At P T im n Q p:=At.t k (λhx=>aCK hk hx) h e0
theorem At.gz{π:Prop}(k id:Nat)(v:AV)(h:π->At P T im n Q (nE (Go.UK.adv T im [] n.n k p) (gzS id v (bY (Go.UK.adv T im [] n.n k p)))))(hat:gzAt id (bY (Go.UK.adv T im [] n.n k p))=some v:=by kernel_rfl)(hk:aEo n id (bY (Go.UK.adv T im [] n.n k p)) (eN id v 0 (cZ (Go.UK.adv T im [] n.n k p)))=true:=by kernel_rfl)(e0:π):At P T im n Q p:=At.t k (λhx=>aHX hat hk hx) h e0
theorem At.fz{π:Prop}(k id z ln q:Nat)(es:List AV)(hq:es.length=q)(hln:es.length=ln)(h:π->At P T im n Q (nE (Go.UK.adv T im [] n.n k p) (fzS id z q es (bY (Go.UK.adv T im [] n.n k p)))))(hat:fzAt id (bY (Go.UK.adv T im [] n.n k p))=some (z,es):=by kernel_rfl)(hk:aFq n id z (bY (Go.UK.adv T im [] n.n k p)) (eH id z q es 0 (cZ (Go.UK.adv T im [] n.n k p)))=true:=by kernel_rfl)
  (hl:jA id (fU (Go.UK.adv T im [] n.n k p))++iZ id 0 (cZ (Go.UK.adv T im [] n.n k p))=List.replicate (jA id (fU (Go.UK.adv T im [] n.n k p))++iZ id 0 (cZ (Go.UK.adv T im [] n.n k p))).length ln:=by kernel_rfl) (e0:π):At P T im n Q p:=At.t k (λhx=>aHc hq hat hk hln hl hx) h e0
theorem At.gl{π:Prop}(k:Nat)(ss bs:List Nat)(id m m':Nat)(e:m'=m)(h:π->At P T im n Q (nE p (glS ss bs id m' (bY p))))(hc:glS ss bs id m (bY p)=bY p:=by kernel_rfl)(e0:π):At P T im n Q p:=by
 subst e;exact At.t0 (λhx=>hx) (by have h:=h e0;rwa[hc] at h)
theorem At.to{π:Prop}(k:Nat)(t:ASt)(h:π->At P T im n Q (nE (Go.UK.adv T im [] n.n k p) t))(hc:(cOK n (bY (Go.UK.adv T im [] n.n k p)) t,cSt (bY (Go.UK.adv T im [] n.n k p)) t)=(true,t):=by kernel_rfl)(e0:π):At P T im n Q p:=At.t k (λhx=>jr hc _ _ _ hx) h e0
theorem At.jr{π:Prop}{c:Code}{ks:List Fo}{s t:ASt}(hj:JR n t s)(h:π->At P T im n Q (.code c ks t))(e:π):At P T im n Q (.code c ks s):=λhT hm=>aw_jr hj (h e hT hm)
theorem At.l2{π:Prop}(hT0:TOK P T)(k:Nat){d1 d2 t e:TypeId}{α:Type}(f:α->AV){z sz b1:Nat}{z0:AV}{i:TI}(es:List α)
  (ht:T t=some ⟨sz,b1,z0,.sl e⟩) (he:T e=some i) (hi:i.kind = .int .u8)
  (h:π->At P T im n Q (uQ (uQ (Go.UK.adv T im [] n.n k p) ⟨[],[]⟩) ⟨((fU (Go.UK.adv T im [] n.n k p)).set d1 (none,eO (cZ (Go.UK.adv T im [] n.n k p)).length z f es)).set d2 (none,eO (cZ (Go.UK.adv T im [] n.n k p)).length z f es),cZ (Go.UK.adv T im [] n.n k p)++[.tail (es.length*z)]⟩))
  (hx:(aFT (Go.UK.adv T im [] n.n k p),(wH (Go.UK.adv T im [] n.n k p)).guard,(wH (Go.UK.adv T im [] n.n k p)).dst,(aBk (Go.UK.adv T im [] n.n k p)).guard,(aBk (Go.UK.adv T im [] n.n k p)).dst,(aBk (Go.UK.adv T im [] n.n k p)).op,(d9 n.n d1||d9 n.n d2),(match (wH (Go.UK.adv T im [] n.n k p)).op with | .buildSlice t' _ _=>ay t' t | _=>false),aEg T (wH (Go.UK.adv T im [] n.n k p)) (fU (Go.UK.adv T im [] n.n k p)))
   = (true,none,some d1,none,some d2,.convert t t (.tmp d1),false,true,some (z,es.length,es.map f)):=by kernel_rfl) (e0:π):At P T im n Q p:=by
 have h:=h e0;refine At.adv (gl:=[]) k ?_;generalize Go.UK.adv T im [] n.n k p=q at *;simp only[Prod.mk.injEq] at hx;obtain⟨h0,h1,h2,h3,h4,h5,h6,h7,h8⟩:=hx;unfold aFT at h0;split at h0
 ·intro hT hm;exact aEz hT f es h1 h2 h3 h4 h5 h6 ht he hi h7 h8 (h hT hm)
 ·cases h0
theorem At.q{π:Prop}(hT0:TOK P T)(k:Nat){d t e z sz b1:Nat}{z0 x:AV}{es:List AV}(ht:T t=some ⟨sz,b1,z0,.sl e⟩)
  (h1:π->At P T im n Q (uQ (Go.UK.adv T im [] n.n k p) ⟨(fU (Go.UK.adv T im [] n.n k p)).set d (none,.v (.bool false)),cZ (Go.UK.adv T im [] n.n k p)⟩)) (h2:es=[]->π->At P T im n Q (uQ (Go.UK.adv T im [] n.n k p) ⟨(fU (Go.UK.adv T im [] n.n k p)).set d (none,.v (.bool true)),cZ (Go.UK.adv T im [] n.n k p)⟩))
  (hx:(aCy (Go.UK.adv T im [] n.n k p),(wH (Go.UK.adv T im [] n.n k p)).guard,(wH (Go.UK.adv T im [] n.n k p)).dst,d9 n.n d,eqE (wH (Go.UK.adv T im [] n.n k p)) (fU (Go.UK.adv T im [] n.n k p)) .eql,jH x)
   = (true,none,some d,false,some (t,x,.v (.slice none 0 0)),some (z,es)):=by kernel_rfl) (e0:π):At P T im n Q p:=by
 have h1:=h1 e0;refine At.adv (gl:=[]) k ?_;generalize Go.UK.adv T im [] n.n k p=q at *;simp only[Prod.mk.injEq] at hx;obtain⟨h0,g1,g2,g3,g4,g5⟩:=hx;obtain⟨arr,o,l,ks,st,rfl⟩:=xR h0;intro hT hm;exact aGb hT g1 g2 g3 ht g4 g5 (h1 hT hm) (λe=>h2 e e0 hT hm)
def Le(n:Fr)(Q1 Q2:Exit->ASt->Prop):Prop:=∀e s ctx a w,Q1 e s->Sat n ctx s a w->∃s',Q2 e s'/\Sat n ctx s' a w
theorem aC5{c:Code}{st:ASt}{Q1 Q2:Exit->ASt->Prop}(hl:Le n Q1 Q2)(h:aw P n c Q1 st):aw P n c Q2 st:=by
 intro ctx a w hs;refine wpIn_mono (h ctx a w hs) ?_;rintro e a' w' ⟨s,h1,h2⟩
 exact hl e s _ _ _ h1 h2
theorem aH7{ops:Array Oper}{l:List Oper}{st:ASt}{K1 K2:ASt->Prop}(hl:∀s ctx a w,K1 s->Sat n ctx s a w->∃s',K2 s'/\Sat n ctx s' a w)(h:awl P n ops l K1 st):awl P n ops l K2 st:=by
 intro ctx a w hs;refine mW ?_ _ _ _ (h ctx a w hs)
 rintro e a' w' ⟨rfl,s,h1,h2⟩
 exact⟨rfl,hl s _ _ _ h1 h2⟩
theorem aEl{c:Code}{Q1 Q2:Exit->ASt->Prop}(hl:Le n Q1 Q2):∀(k:Nat) (s:ASt),unr P n c Q1 k s->unr P n c Q2 k s
 | 0,s,h=>h
 | k+1,s,h=>by
  refine aC5 (Q1:=tn (unr P n c Q1 k) Q1) ?_ h;intro e s ctx a w h1 h2;cases e with
  | normal=>exact⟨s,aEl hl k s h1,h2⟩
  | _=>exact hl _ s ctx a w h1 h2
theorem sB{Q1 Q2:Exit->ASt->Prop}(hl:Le n Q1 Q2):∀(ks:List Fo),Le n (kQ P n Q1 ks) (kQ P n Q2 ks)
 | []=>hl
 | .seq y :: ks=>by
  intro e s ctx a w h1 h2;cases e with
  | normal=>exact⟨s,aC5 (sB hl ks) h1,h2⟩
  | _=>exact sB hl ks _ s ctx a w h1 h2
 | .blk id :: ks=>by
  intro e s ctx a w h1 h2;cases e with
  | exit i=>
   unfold kQ at h1 ⊢;simp only[inB] at h1 ⊢;split
   ·rename_i hi;rw[if_pos hi] at h1;exact sB hl ks _ s ctx a w h1 h2
   ·rename_i hi;rw[if_neg hi] at h1;exact sB hl ks _ s ctx a w h1 h2
  | _=>exact sB hl ks _ s ctx a w h1 h2
 | .un k c :: ks=>by
  intro e s ctx a w h1 h2;cases e with
  | normal=>exact⟨s,aEl (sB hl ks) k s h1,h2⟩
  | _=>exact sB hl ks _ s ctx a w h1 h2
 | .scp :: ks=>by
  intro e s ctx a w h1 h2;cases e with
  | goto l=>exact h1.elim
  | _=>exact sB hl ks _ s ctx a w h1 h2
theorem uT : ∀(a b:List Fo),kQ P n (kQ P n Q b) a=kQ P n Q (a++b)
 | [],b=>rfl
 | .seq y :: a,b=>by simp only[kQ,cx,uT a b]
 | .blk i :: a,b=>by simp only[kQ,cx,uT a b]
 | .un k c :: a,b=>by simp only[kQ,cx,uT a b]
 | .scp :: a,b=>by simp only[kQ,cx,uT a b]
theorem At.cut{q:Pt}{Q1:Exit->ASt->Prop}(d:Nat)(hl:Le n Q1 (kQ P n Q (iM d q)))(h:At P T im n Q1 (yO d q)):At P T im n Q q:=by
 intro hT hm;cases q with
 | code c ks st=>
  have h:=h hT hm;unfold iM aAZ at hl;have e:kQ P n Q ks=kQ P n (kQ P n Q (zR d ks)) (vR d ks):=by rw[uT,yM]
  show aw P n c (kQ P n Q ks) st;rw[e]
  exact aC5 (sB hl _) h
 | ops arr l ks st=>
  have h:=h hT hm;unfold iM aAZ at hl;have e:kQ P n Q ks=kQ P n (kQ P n Q (zR d ks)) (vR d ks):=by rw[uT,yM]
  show awl P n arr l (λs=>kQ P n Q ks .normal s) st;rw[e]
  exact aH7 (λs ctx a w h1 h2=>sB hl _ .normal s ctx a w h1 h2) h
 | out e st=>exact(h hT hm).elim
 | bad=>exact(h hT hm).elim
theorem aFW{Q0:Exit->ASt->Prop}{t:ASt}(h:Q0 .normal t):Le n (tn (JR n t) Q0) Q0:=by
 intro e s ctx a w h1 h2;cases e with
 | normal=>exact⟨t,h,aFG h1 h2⟩
 | _=>exact⟨s,h1,h2⟩
theorem At.j{α ρ:Type}{X:Option α}{F:α->Option ρ}{r:ρ}(k d:Nat)(t:α->ASt)(h:∀x,X=some x->At P T im n (tn (JR n (t x)) (kQ P n Q (iM d (Go.UK.adv T im [] n.n k p)))) (yO d (Go.UK.adv T im [] n.n k p)))
  (hy:∀x,F x=some r->At P T im n Q (Go.UK.oQ (iM d (Go.UK.adv T im [] n.n k p)) (t x))) (e:ae X F=some r):At P T im n Q p:=by
 obtain⟨x,e1,e2⟩:=vX e;exact At.adv (gl:=[]) k λhT hm=>At.cut d (aFW (At.popN hT hm (hy x e2))) (h x e1) hT hm
def JS{α β:Type}(n:Fr)(t:α->ASt)(o:Sum α β)(s:ASt):Prop:=∃p,o=Sum.inl p/\JR n (t p) s
theorem aHI{α β ρ:Type}{Q0:Exit->ASt->Prop}{t:α->ASt}{o:Sum α β}{F:α->ρ}{G:β->ρ}{r:ρ}(g:qK o F G=r)(h:∀x,F x=r->Q0 .normal (t x)):Le n (tn (JS n t o) Q0) Q0:=by
 intro e s ctx a w h1 h2;cases e with
 | normal=>
  obtain⟨x,rfl,h3⟩:=h1;exact⟨t x,h x g,aFG h3 h2⟩
 | _=>exact⟨s,h1,h2⟩
theorem At.js{α β ρ:Type}{X:Option (Sum α β)}{F:α->Option ρ}{G:β->Option ρ}{r:ρ}(k d:Nat)(t:α->ASt)(h:∀o,qK o F G=some r->X=some o->At P T im n (tn (JS n t o) (kQ P n Q (iM d (Go.UK.adv T im [] n.n k p)))) (yO d (Go.UK.adv T im [] n.n k p)))
  (hy:∀x,F x=some r->At P T im n Q (Go.UK.oQ (iM d (Go.UK.adv T im [] n.n k p)) (t x))) (e:ae X (λo=>qK o F G)=some r):At P T im n Q p:=by
 obtain⟨o,e1,g⟩:=vX e;exact At.adv (gl:=[]) k λhT hm=>At.cut d (aHI g (λx hx=>At.popN hT hm (hy x hx))) (h o g e1) hT hm
def aDM : Pt->Code
 | .code (.loop c) _ _=>c
 | _ => .skip
def idPt : Pt->Nat
 | .code _ (.blk id :: _) _=>id
 | _=>0
def aFf : Pt->Bool
 | .code (.loop _) (.blk _ :: _) _=>true
 | _=>false
theorem lp0{q:Pt}{Q1:Exit->ASt->Prop}(I:Nat->ASt->Prop)(N:Nat)(hi:aFf q=true)(h0:I N (bY q))(hl:Le n Q1 (kQ P n Q (iM 1 q)))
  (h:∀k s,I k s->At P T im n (tn (λs'=>∃m,m < k/\I m s') (inB (idPt q) Q1)) (.code (aDM q) [] s)):At P T im n Q q:=by
 intro hT hm;unfold aFf at hi;split at hi
 ·rename_i c id ks st;show aw P n (.loop c) (inB id (kQ P n Q ks)) st;have:aw P n (.loop c) (inB id Q1) st:=aCo I (λk s hI=>h k s hI hT hm) N st h0;refine aC5 ?_ this;intro e s ctx a w h1 h2;cases e with
  | exit i=>
   simp only[inB] at h1 ⊢;split
   ·rename_i hi;rw[if_pos hi] at h1;exact hl _ s ctx a w h1 h2
   ·rename_i hi;rw[if_neg hi] at h1;exact hl _ s ctx a w h1 h2
  | _=>exact hl _ s ctx a w h1 h2
 ·cases hi
theorem At.l{α ρ:Type}{X:Option α}{F:α->Option ρ}{r:ρ}(k:Nat)(t:α->ASt)(I:α->(ASt->ASt->Prop)->Nat->ASt->Prop)(N:Nat)(h0:∀x,X=some x->I x (JR n) N (bY (Go.UK.adv T im [] n.n k p)))
  (h:∀x j s,I x (JR n) j s->At P T im n (tn (λs'=>∃m,m < j/\I x (JR n) m s') (inB (idPt (Go.UK.adv T im [] n.n k p)) (tn (JR n (t x)) (kQ P n Q (iM 1 (Go.UK.adv T im [] n.n k p)))))) (.code (aDM (Go.UK.adv T im [] n.n k p)) [] s))
  (hy:∀x,F x=some r->At P T im n Q (Go.UK.oQ (iM 1 (Go.UK.adv T im [] n.n k p)) (t x))) (hi:aFf (Go.UK.adv T im [] n.n k p)=true:=by kernel_rfl) (e:ae X F=some r):At P T im n Q p:=by
 obtain⟨x,e1,e2⟩:=vX e;exact At.adv (gl:=[]) k λhT hm=>lp0 (I x (JR n)) N hi (h0 x e1) (aFW (At.popN hT hm (hy x e2))) (h x) hT hm
def aDO(m:Nat)(q:Pt):Pt:=
 match q with
 | .code (.loop c) ks st => .code c (.un m c :: ks) st
 | _ => .bad
theorem At.u{π:Prop}(m k:Nat)(h:π->At P T im n Q (aDO m (Go.UK.adv T im [] n.n k p)))(e:π):At P T im n Q p:=by
 have h:=h e;refine At.adv (gl:=[]) k ?_;generalize Go.UK.adv T im [] n.n k p=q at *;unfold aDO at h;split at h
 ·intro hT hm;exact aEH (m+1) (unr_s (h hT hm))
 ·exact At.bad h
def aCA : Pt->Bool
 | .out .normal _=>true
 | _=>false
def outR : Pt->Bool
 | .code .ret _ _=>true
 | _=>false
def outE(id:Nat):Pt->Bool
 | .out (.exit i) _=>ay i id
 | _=>false
theorem oT{q:Pt}(h:aCA q=true):q = .out .normal (bY q):=by
 unfold aCA at h;split at h
 ·rfl
 ·cases h
theorem zS{q:Pt}(h:outR q=true):∃ks,q = .code .ret ks (bY q):=by
 unfold outR at h;split at h
 ·exact⟨_,rfl⟩
 ·cases h
theorem aAB{id:Nat}{q:Pt}(h:outE id q=true):q = .out (.exit id) (bY q):=by
 unfold outE at h;split at h
 ·rw[ai h];rfl
 ·cases h
theorem At.jn(k:Nat){t:ASt}(hc:(aCA (Go.UK.adv T im [] n.n k p),cOK n (bY (Go.UK.adv T im [] n.n k p)) t,cSt (bY (Go.UK.adv T im [] n.n k p)) t)=(true,true,t):=by kernel_rfl):At P T im n (tn (JR n t) Q) p:=by
 refine At.adv (gl:=[]) k ?_;generalize Go.UK.adv T im [] n.n k p=q at *;simp only[Prod.mk.injEq] at hc;rw[oT hc.1]
 exact λ_ _=>Go.UK.jr (by rw[hc.2.1,hc.2.2])
theorem At.jsn{α β:Type}(k:Nat){t:α->ASt}{x:α}(hc:(aCA (Go.UK.adv T im [] n.n k p),cOK n (bY (Go.UK.adv T im [] n.n k p)) (t x),cSt (bY (Go.UK.adv T im [] n.n k p)) (t x))=(true,true,t x):=by kernel_rfl):At P T im n (tn (JS n t (Sum.inl x:Sum α β)) Q) p:=by
 refine At.adv (gl:=[]) k ?_;generalize Go.UK.adv T im [] n.n k p=q at *;simp only[Prod.mk.injEq] at hc;rw[oT hc.1]
 exact λ_ _=>⟨x,rfl,Go.UK.jr (by rw[hc.2.1,hc.2.2])⟩
theorem At.x(k:Nat){K:ASt->Prop}{id:Nat}{t:ASt}(hc:(outE id (Go.UK.adv T im [] n.n k p),cOK n (bY (Go.UK.adv T im [] n.n k p)) t,cSt (bY (Go.UK.adv T im [] n.n k p)) t)=(true,true,t):=by kernel_rfl):At P T im n (tn K (inB id (tn (JR n t) Q))) p:=by
 refine At.adv (gl:=[]) k ?_;generalize Go.UK.adv T im [] n.n k p=q at *;simp only[Prod.mk.injEq] at hc;rw[aAB hc.1]
 exact λ_ _=>tn_x (aEw (tn_n (Go.UK.jr (by rw[hc.2.1,hc.2.2]))))
theorem At.xs{α β:Type}(k:Nat){K:ASt->Prop}{id:Nat}{t:α->ASt}{x:α}(hc:(outE id (Go.UK.adv T im [] n.n k p),cOK n (bY (Go.UK.adv T im [] n.n k p)) (t x),cSt (bY (Go.UK.adv T im [] n.n k p)) (t x))=(true,true,t x):=by kernel_rfl):At P T im n (tn K (inB id (tn (JS n t (Sum.inl x:Sum α β)) Q))) p:=by
 refine At.adv (gl:=[]) k ?_;generalize Go.UK.adv T im [] n.n k p=q at *;simp only[Prod.mk.injEq] at hc;rw[aAB hc.1]
 exact λ_ _=>tn_x (aEw (tn_n ⟨x,rfl,Go.UK.jr (by rw[hc.2.1,hc.2.2])⟩))
theorem At.k(j:Nat){m:Nat}{I:Nat->ASt->Prop}(h:I m (bY (Go.UK.adv T im [] n.n j p)))(hc:aCA (Go.UK.adv T im [] n.n j p)=true:=by kernel_rfl):At P T im n (tn (λs'=>∃i,i < m+1/\I i s') Q) p:=by
 refine At.adv (gl:=[]) j ?_;generalize Go.UK.adv T im [] n.n j p=q at *;rw[oT hc]
 exact λ_ _=>⟨m,Nat.lt_succ_self m,h⟩
class sE(Q:Exit->ASt->Prop)(Q':outParam (Exit->ASt->Prop)):Prop where
 to:∀st,Q' .ret st->Q .ret st
instance retTo_tn {K:ASt->Prop} {Q Q':Exit->ASt->Prop} [h:sE Q Q']:sE (tn K Q) Q':=⟨λst hq=>h.to st hq⟩
instance retTo_inB {id:Nat} {Q Q':Exit->ASt->Prop} [h:sE Q Q']:sE (inB id Q) Q':=⟨λst hq=>h.to st hq⟩
instance retTo_kQ {Q Q':Exit->ASt->Prop} {ks:List Fo} [h:sE Q Q']:sE (kQ P n Q ks) Q':=⟨λst hq=>kQ_r (h.to st hq)⟩
instance retTo_M {lo:Nat} {rs:List ResultVar} {ret:AV} {H':List Box}:sE (xX T lo rs ret H') (xX T lo rs ret H'):=⟨λ_ h=>h⟩
theorem At.r(k:Nat){lo:Nat}{rs:List ResultVar}{ret:AV}{H':List Box}[h:sE Q (xX T lo rs ret H')](hc:(outR (Go.UK.adv T im [] n.n k p),aBu lo (cZ (Go.UK.adv T im [] n.n k p)) H' ret,aA5 T rs (bY (Go.UK.adv T im [] n.n k p)) ret H')=(true,true,some (ret,H')):=by kernel_rfl):At P T im n Q p:=by
 refine At.adv (gl:=[]) k ?_;generalize Go.UK.adv T im [] n.n k p=q at *;simp only[Prod.mk.injEq] at hc;obtain⟨ks,e⟩:=zS hc.1;rw[e]
 exact λ_ _=>aFA (kQ_r (h.to _ (aHK (by rw[<- hc.2.2];exact Prod.ext hc.2.1 rfl))))
theorem At.z(k:Nat){lo:Nat}{rs:List ResultVar}{ret:AV}{H':List Box}(hc:(aCA (Go.UK.adv T im [] n.n k p),aBu lo (cZ (Go.UK.adv T im [] n.n k p)) H' ret,aA5 T rs (bY (Go.UK.adv T im [] n.n k p)) ret H')=(true,true,some (ret,H')):=by kernel_rfl):At P T im n (xX T lo rs ret H') p:=by
 refine At.adv (gl:=[]) k ?_;generalize Go.UK.adv T im [] n.n k p=q at *;simp only[Prod.mk.injEq] at hc;rw[oT hc.1]
 exact λ_ _=>aHG (by rw[<- hc.2.2];exact Prod.ext hc.2.1 rfl)
theorem At.fn(im:Nat->Bool)(hT:TOK P T)(hmo:P.follows .mixedOrders=true){f:FuncId}{fn:Func}{c:Code}{rs:List ResultVar}{args:List AV}{ret:AV}{H H':List Box}{m lo:Nat}(hf:P.funcs[f]? = some fn)(hb:fn.body=some c)(hres:fn.results=rs.toArray)
  {π:Prop} (e:π) (h:π->At P T im (Fr.f m lo) (xX T lo rs ret H') (.code c [] ⟨tT 0 args,H⟩)) (hk:(ay fn.ntmps m&&(d9 args.length m&&ay lo H.length))=true:=by kernel_rfl):FnM P f H args ret H':=
 zW hT hf hb hk hres (h e hT hmo)
end
end Go.UK

namespace Go.UK
open Go
set_option linter.all false
variable [bJ]
section
variable {P:Program} {T:TypeId→Option TI} {im:Nat→Bool} {n:Fr} {Q:Exit→ASt→Prop} {p:Pt}
def xH(P:Program)(n:Fr)(l:List Oper)(C:List (List Nat))(ms:List MI)(B:Env)(H0:List Box)(cs:CS):O1->Prop
 | []=>True
 | (i,x) :: r=>tU (λH=>Big P n (iO l i) (cN C ms B i) H x H) (kC C i H0 cs)/\xH P n l C ms B H0 cs r
section
variable {l:List Oper} {C:List (List Nat)} {ms:List MI} {B:Env} {H0:List Box} {cs:CS}
theorem aEy : ∀{o:O1},xH P n l C ms B H0 cs o->aEG P n l C ms B o (o.map (λq=>kC C q.1 H0 cs))
 | [],_=>trivial
 | (i,x) :: r,h=>⟨h.1,aEy h.2⟩
theorem uX{q:List Box->Prop}(h:∀H,q H):∀S,tU q S
 | []=>trivial
 | H :: r=>⟨h H,uX h r⟩
theorem dE0 : xH P n l C ms B H0 cs []:=trivial
theorem dE1(i:Nat){x:AV}{r:O1}(b:∀H,Big P n (iO l i) (cN C ms B i) H x H)(h:xH P n l C ms B H0 cs r):xH P n l C ms B H0 cs ((i,x) :: r):=⟨uX b _,h⟩
theorem dE2(i:Nat)(x:AV){r:O1}(b:∀H,Big P n (iO l i) (cN C ms B i) H x H)(h:xH P n l C ms B H0 cs r):xH P n l C ms B H0 cs ((i,x) :: r):=⟨uX b _,h⟩
theorem dC0 : or1 P n l C ms B []:=trivial
theorem dF0 : or2 P n l C ms cs B H0 []:=trivial
def aD4(P:Program)(n:Fr)(l:List Oper)(C:List (List Nat))(ms:List MI)(B:Env)(H0:List Box)(es:ES):O2S->Prop
 | []=>True
 | (i,f) :: r=>tU (λH=>Big P n (iO l i) (cN C ms B i) H f.x (lR H f.u)) (fY C i H0 es)/\aD4 P n l C ms B H0 es r
theorem aFj{es:ES}:∀{o:O2S},aD4 P n l C ms B H0 es o->zP P n l C ms B o (o.map (λq=>fY C q.1 H0 es))
 | [],_=>trivial
 | (i,x) :: r,h=>⟨h.1,aFj h.2⟩
theorem dS0{es:ES}:aD4 P n l C ms B H0 es []:=trivial
theorem dS1{es:ES}(i:Nat)(f:OE)(S:List (List Box)){r:O2S}(b:tU (λH=>Big P n (iO l i) (cN C ms B i) H f.x (lR H f.u)) S)(h:aD4 P n l C ms B H0 es r)(hs:fY C i H0 es=S:=by kernel_rfl):aD4 P n l C ms B H0 es ((i,f) :: r):=⟨by rw[hs];exact b,h⟩
end
def lPt : Pt->List Oper
 | .code (.region _ arr _) _ _=>arr.toList
 | _=>[]
def aFR : Pt->Bool
 | .code (.region _ _ d) _ _=>d
 | _=>false
theorem aAK{q:Pt}(h:aFR q=true):∃id arr ks st,q = .code (.region id arr true) ks st:=by
 unfold aFR at h;split at h
 ·subst h;exact⟨_,_,_,_,rfl⟩
 ·cases h
theorem dn0{q:Pt}{o1:O1}{o2:O2}(es:List (Nat×AV))
  (h1:xH P n (lPt q) (eT (lPt q).toArray) (kN T im n.n (lPt q) (dB0 (lPt q) (bY q)) o1 o2).ms (dB0 (lPt q) (bY q)).env (dB0 (lPt q) (bY q)).H (kN T im n.n (lPt q) (dB0 (lPt q) (bY q)) o1 o2).cs o1)
  (h2:or2 P n (lPt q) (eT (lPt q).toArray) (kN T im n.n (lPt q) (dB0 (lPt q) (bY q)) o1 o2).ms (kN T im n.n (lPt q) (dB0 (lPt q) (bY q)) o1 o2).cs (dB0 (lPt q) (bY q)).env (dB0 (lPt q) (bY q)).H o2)
  (h:At P T im n Q (oQ (aAZ q) (nmS es (dSt T im n.n (lPt q) (dB0 (lPt q) (bY q)) o1 o2))))
  (hB:aB2 (lPt q) (eT (lPt q).toArray) (kN T im n.n (lPt q) (dB0 (lPt q) (bY q)) o1 o2) (dB0 (lPt q) (bY q)) o1 o2=true)
  (hE:aBT T im n.n (lPt q) (eT (lPt q).toArray) (kN T im n.n (lPt q) (dB0 (lPt q) (bY q)) o1 o2) (dB0 (lPt q) (bY q)) o1 o2=aBF (lPt q) (eT (lPt q).toArray) (kN T im n.n (lPt q) (dB0 (lPt q) (bY q)) o1 o2) (dB0 (lPt q) (bY q)) o1 o2)
  (hd:(lPt q).all (λo=>dOK n.n o.dst)=true) (hi:aFR q=true) (hn:nmL es (dSt T im n.n (lPt q) (dB0 (lPt q) (bY q)) o1 o2)=nmR es):At P T im n Q q:=by
 obtain⟨id,arr,ks,st,rfl⟩:=aAK hi;intro hT hm;exact aDr (l:=arr.toList) hT hm im o1 _ o2 hB hE hd rfl (aEy h1) h2 es hn (At.popN hT hm h)
theorem At.d{π:Prop}(k:Nat){o1:O1}{o2:O2}
  (h1:xH P n (lPt (Go.UK.adv T im [] n.n k p)) (eT (lPt (Go.UK.adv T im [] n.n k p)).toArray) (kN T im n.n (lPt (Go.UK.adv T im [] n.n k p)) (dB0 (lPt (Go.UK.adv T im [] n.n k p)) (bY (Go.UK.adv T im [] n.n k p))) o1 o2).ms (dB0 (lPt (Go.UK.adv T im [] n.n k p)) (bY (Go.UK.adv T im [] n.n k p))).env (dB0 (lPt (Go.UK.adv T im [] n.n k p)) (bY (Go.UK.adv T im [] n.n k p))).H (kN T im n.n (lPt (Go.UK.adv T im [] n.n k p)) (dB0 (lPt (Go.UK.adv T im [] n.n k p)) (bY (Go.UK.adv T im [] n.n k p))) o1 o2).cs o1)
  (h2:or2 P n (lPt (Go.UK.adv T im [] n.n k p)) (eT (lPt (Go.UK.adv T im [] n.n k p)).toArray) (kN T im n.n (lPt (Go.UK.adv T im [] n.n k p)) (dB0 (lPt (Go.UK.adv T im [] n.n k p)) (bY (Go.UK.adv T im [] n.n k p))) o1 o2).ms (kN T im n.n (lPt (Go.UK.adv T im [] n.n k p)) (dB0 (lPt (Go.UK.adv T im [] n.n k p)) (bY (Go.UK.adv T im [] n.n k p))) o1 o2).cs (dB0 (lPt (Go.UK.adv T im [] n.n k p)) (bY (Go.UK.adv T im [] n.n k p))).env (dB0 (lPt (Go.UK.adv T im [] n.n k p)) (bY (Go.UK.adv T im [] n.n k p))).H o2)
  (h:π->At P T im n Q (Go.UK.oQ (aAZ (Go.UK.adv T im [] n.n k p)) (dSt T im n.n (lPt (Go.UK.adv T im [] n.n k p)) (dB0 (lPt (Go.UK.adv T im [] n.n k p)) (bY (Go.UK.adv T im [] n.n k p))) o1 o2)))
  (hB:aB2 (lPt (Go.UK.adv T im [] n.n k p)) (eT (lPt (Go.UK.adv T im [] n.n k p)).toArray) (kN T im n.n (lPt (Go.UK.adv T im [] n.n k p)) (dB0 (lPt (Go.UK.adv T im [] n.n k p)) (bY (Go.UK.adv T im [] n.n k p))) o1 o2) (dB0 (lPt (Go.UK.adv T im [] n.n k p)) (bY (Go.UK.adv T im [] n.n k p))) o1 o2=true:=by kernel_rfl)
  (hE:aBT T im n.n (lPt (Go.UK.adv T im [] n.n k p)) (eT (lPt (Go.UK.adv T im [] n.n k p)).toArray) (kN T im n.n (lPt (Go.UK.adv T im [] n.n k p)) (dB0 (lPt (Go.UK.adv T im [] n.n k p)) (bY (Go.UK.adv T im [] n.n k p))) o1 o2) (dB0 (lPt (Go.UK.adv T im [] n.n k p)) (bY (Go.UK.adv T im [] n.n k p))) o1 o2=aBF (lPt (Go.UK.adv T im [] n.n k p)) (eT (lPt (Go.UK.adv T im [] n.n k p)).toArray) (kN T im n.n (lPt (Go.UK.adv T im [] n.n k p)) (dB0 (lPt (Go.UK.adv T im [] n.n k p)) (bY (Go.UK.adv T im [] n.n k p))) o1 o2) (dB0 (lPt (Go.UK.adv T im [] n.n k p)) (bY (Go.UK.adv T im [] n.n k p))) o1 o2:=by kernel_rfl)
  (hd:(lPt (Go.UK.adv T im [] n.n k p)).all (λo=>dOK n.n o.dst)=true:=by kernel_rfl) (hi:aFR (Go.UK.adv T im [] n.n k p)=true:=by kernel_rfl) (e0:π):At P T im n Q p:=
 At.adv (gl:=[]) k (dn0 [] h1 h2 (h e0) hB hE hd hi rfl)
theorem At.d2{π:Prop}(k:Nat)(m:List Bool){o1:O1}{o2:O2S}
  (h1:or1 P n (lPt (Go.UK.adv T im [] n.n k p)) (eT (lPt (Go.UK.adv T im [] n.n k p)).toArray) (kE T im n.n (lPt (Go.UK.adv T im [] n.n k p)) (dB0 (lPt (Go.UK.adv T im [] n.n k p)) ⟨fU (Go.UK.adv T im [] n.n k p),cZ (Go.UK.adv T im [] n.n k p)++jW m⟩) o1 o2).ms (dB0 (lPt (Go.UK.adv T im [] n.n k p)) ⟨fU (Go.UK.adv T im [] n.n k p),cZ (Go.UK.adv T im [] n.n k p)++jW m⟩).env o1)
  (h2:aD4 P n (lPt (Go.UK.adv T im [] n.n k p)) (eT (lPt (Go.UK.adv T im [] n.n k p)).toArray) (kE T im n.n (lPt (Go.UK.adv T im [] n.n k p)) (dB0 (lPt (Go.UK.adv T im [] n.n k p)) ⟨fU (Go.UK.adv T im [] n.n k p),cZ (Go.UK.adv T im [] n.n k p)++jW m⟩) o1 o2).ms (dB0 (lPt (Go.UK.adv T im [] n.n k p)) ⟨fU (Go.UK.adv T im [] n.n k p),cZ (Go.UK.adv T im [] n.n k p)++jW m⟩).env (dB0 (lPt (Go.UK.adv T im [] n.n k p)) ⟨fU (Go.UK.adv T im [] n.n k p),cZ (Go.UK.adv T im [] n.n k p)++jW m⟩).H (kE T im n.n (lPt (Go.UK.adv T im [] n.n k p)) (dB0 (lPt (Go.UK.adv T im [] n.n k p)) ⟨fU (Go.UK.adv T im [] n.n k p),cZ (Go.UK.adv T im [] n.n k p)++jW m⟩) o1 o2).es o2)
  (h:π->At P T im n Q (Go.UK.oQ (aAZ (Go.UK.adv T im [] n.n k p)) (aDu T im n.n (lPt (Go.UK.adv T im [] n.n k p)) (dB0 (lPt (Go.UK.adv T im [] n.n k p)) ⟨fU (Go.UK.adv T im [] n.n k p),cZ (Go.UK.adv T im [] n.n k p)++jW m⟩) o1 o2)))
  (hB:aAg (lPt (Go.UK.adv T im [] n.n k p)) (eT (lPt (Go.UK.adv T im [] n.n k p)).toArray) (kE T im n.n (lPt (Go.UK.adv T im [] n.n k p)) (dB0 (lPt (Go.UK.adv T im [] n.n k p)) ⟨fU (Go.UK.adv T im [] n.n k p),cZ (Go.UK.adv T im [] n.n k p)++jW m⟩) o1 o2) (dB0 (lPt (Go.UK.adv T im [] n.n k p)) ⟨fU (Go.UK.adv T im [] n.n k p),cZ (Go.UK.adv T im [] n.n k p)++jW m⟩) o1 o2=true:=by kernel_rfl)
  (hE:aAu T im n.n (lPt (Go.UK.adv T im [] n.n k p)) (eT (lPt (Go.UK.adv T im [] n.n k p)).toArray) (kE T im n.n (lPt (Go.UK.adv T im [] n.n k p)) (dB0 (lPt (Go.UK.adv T im [] n.n k p)) ⟨fU (Go.UK.adv T im [] n.n k p),cZ (Go.UK.adv T im [] n.n k p)++jW m⟩) o1 o2) (dB0 (lPt (Go.UK.adv T im [] n.n k p)) ⟨fU (Go.UK.adv T im [] n.n k p),cZ (Go.UK.adv T im [] n.n k p)++jW m⟩) o1 o2=aAe (lPt (Go.UK.adv T im [] n.n k p)) (eT (lPt (Go.UK.adv T im [] n.n k p)).toArray) (kE T im n.n (lPt (Go.UK.adv T im [] n.n k p)) (dB0 (lPt (Go.UK.adv T im [] n.n k p)) ⟨fU (Go.UK.adv T im [] n.n k p),cZ (Go.UK.adv T im [] n.n k p)++jW m⟩) o1 o2) (dB0 (lPt (Go.UK.adv T im [] n.n k p)) ⟨fU (Go.UK.adv T im [] n.n k p),cZ (Go.UK.adv T im [] n.n k p)++jW m⟩) o1 o2:=by kernel_rfl)
  (hd:(lPt (Go.UK.adv T im [] n.n k p)).all (λo=>dOK n.n o.dst)=true:=by kernel_rfl) (hi:aFR (Go.UK.adv T im [] n.n k p)=true:=by kernel_rfl) (e0:π):At P T im n Q p:=by
 have h:=h e0;refine At.adv (gl:=[]) k ?_;generalize Go.UK.adv T im [] n.n k p=q at *;obtain⟨id,arr,ks,st,rfl⟩:=aAK hi;intro hT hm;exact aEI (l:=arr.toList) hT hm im m o1 o2 _ hB hE hd h1 rfl (aFj h2) [] rfl (At.popN hT hm h)
end
end Go.UK

