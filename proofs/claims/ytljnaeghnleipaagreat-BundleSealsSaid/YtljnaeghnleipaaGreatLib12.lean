/- The own layer: abstract values, their memory, and the steps of the model over them: for any program. -/
import Derived.Test.YtljnaeghnleipaaGreatLib11
import Derived.Shelf.SlMaps.Clone
open Bool renaming and_eq_true→an
open Option renaming getD_some→dr
namespace Go.UK
open Go
set_option linter.all false
variable [bS]
section
variable {P:Program} {T:TypeId→Option TI} {n:Fr}
def aGN(P:Program)(n:Fr)(l:List Oper)(C:List (List Nat))(ms:List MI)(B:Env):O2S->List (List (List Box))->Prop
 | (i,f) :: r,S :: R=>aCB (λH=>Big P n (qD l i) (eH C ms B i) H f.x (H.set f.id f.y)) S/\aGN P n l C ms B r R
 | _,_=>True
theorem aFD{l:List Oper}{C:List (List Nat)}{ms:List MI}{B:Env}{H0:List Box}{es:ES}:∀{o:O2S} {sts:List (List (List Box))} {i:Nat} {f:OE},aGN P n l C ms B o sts->o.map (λq=>nE C q.1 H0 es)=sts->nI o i=some f->∀{H},H∈nE C i H0 es->Big P n (qD l i) (eH C ms B i) H f.x (H.set f.id f.y)
 | [],_,i,x,_,_,h,_,_=>by simp[nI] at h
 | (j,y) :: r,sts,i,x,ho,hs,h,H,hH=>by
  subst hs;simp only[List.map_cons,aGN] at ho;unfold nI at h;cases hb:Nat.beq j i with
  | true=>
   rw[hb] at h;have e:=Nat.eq_of_beq_eq_true hb;subst e;cases h;exact aBm ho.1 H hH
  | false=>rw[hb] at h;exact aFD ho.2 rfl h hH
theorem aK5(hT:TOK P T)(hm:P.follows .mixedOrders=true)(im:Nat->Bool)(o1:O1)(o2:O2S)(sts:List (List (List Box))){id:Nat}{l:List Oper}{Q:Exit->ASt->Prop}{st:ASt}
  (hB:aGq l (lV l.toArray) (sM T im n.n l st o1 o2) st o1 o2=true)
  (hE:aHR T im n.n l (lV l.toArray) (sM T im n.n l st o1 o2) st o1 o2=aHX l (lV l.toArray) (sM T im n.n l st o1 o2) st o1 o2)
  (hdst:l.all (λo=>dOK n.n o.dst)=true)
  (h1:or1 P n l (lV l.toArray) (sM T im n.n l st o1 o2).ms st.env o1)
  (hst:o2.map (λq=>nE (lV l.toArray) q.1 st.H (sM T im n.n l st o1 o2).es)=sts)
  (h2:aGN P n l (lV l.toArray) (sM T im n.n l st o1 o2).ms st.env o2 sts)
  (hk:Q .normal (aLF T im n.n l st o1 o2)):aw P n (.region id l.toArray true) Q st:=by
 unfold aLF at hk;unfold aGq at hB;unfold aHR aHX at hE;generalize sM T im n.n l st o1 o2=s at *;obtain⟨ms,es,Hx⟩:=s;dsimp only at *;simp only[an] at hB;refine aLf hm hB.1 (λi hi=>?_) hk;have hdb:=jK hB.2 i hi;have hde:=aB5 hE hi;intro o x env ho hx hs H' hH';have hlo:l[i]? = some o:=by simpa using ho
 have ho':qD l i=o:=by unfold qD;rw[hlo];rfl
 have hdo:dOK n.n o.dst=true:=List.all_eq_true.1 hdst o (List.mem_of_getElem? hlo)
 have hxd:x.d=o.dst:=by
  simp only[zN,an] at hB;have:=jK hB.1.2.2.1 i hi;rw[ho] at this;simp only[Option.bind_some,dAt,hx] at this;generalize o.dst=u at *;generalize x.d=v at *;cases u <;> cases v <;> simp[dEq] at this ⊢;exact this.symm
 have hex:eAt ms i=x.e:=by unfold eAt;rw[hx]
 unfold dBS at hdb;unfold dLS dRS at hde;simp only[ho',hex] at hdb hde;have fin:∀(v:AV) (H1 H2:List Box),x.e=some v->gOK l.toArray o (eH (lV l.toArray) ms st.env i)=true->Big P n o (eH (lV l.toArray) ms st.env i) H1 v H2 ->
   opS P n l.toArray o ⟨env,H1⟩ ⟨match x.d with | some d=>(match x.e with | some v=>env.set d (none,v) | none=>env.del d) | none=>env,H2⟩:=by
  intro v H1 H2 hv hg hb;have:=aJ4 hs hg hb;rw[hv,hxd]
  cases hd:o.dst with
  | none=>rw[hd] at this;exact this
  | some d=>rw[hd] at this;exact this
 cases hdead:zS l o (eH (lV l.toArray) ms st.env i) with
 | true=>
  rw[hdead] at hdb hde;simp only[an] at hdb;have hnc:sJ i es=none:=by cases hc:sJ i es with | none=>rfl | some _=>rw[hc] at hdb;cases hdb.2
  have hne:x.e=some (.tup []):=aCN hdb.1;rw[hnc]
  have:=aIQ (P:=P) (n:=n) (H:=H') ho hs hdead hdo;rw[hne,hxd]
  exact this
 | false=>
  rw[hdead] at hdb hde;simp only[an] at hdb;obtain⟨hg,hsome,hdb⟩:=hdb;obtain⟨v,hv⟩:∃v,x.e=some v:=by cases hc:x.e with | none=>rw[hc] at hsome;cases hsome | some v=>exact⟨v,rfl⟩
  rw[hv] at hde;cases hl1:nI o1 i with
  | some y=>
   rw[hl1] at hdb hde;simp only[List.cons.injEq,Option.some.injEq,Prod.mk.injEq,and_true,dr] at hde;have hnc:sJ i es=none:=by cases hc:sJ i es with | none=>rfl | some _=>rw[hc] at hdb;cases hdb
   rw[hnc]
   have hb:=aHy h1 hl1 H';rw[ho',hde] at hb;exact fin v H' H' hv hg hb
  | none=>
   rw[hl1] at hdb hde;cases hl2:nI o2 i with
   | some f=>
    rw[hl2] at hdb hde;dsimp only at hdb hde;simp only[List.cons.injEq,Option.some.injEq,Prod.mk.injEq,and_true,dr] at hde;obtain⟨⟨e1,e2⟩,e3⟩:=hde;have hb:=aFD h2 hst hl2 hH';rw[ho',e1] at hb;unfold effY at e2;cases hc:sJ i es with
    | none=>rw[hc] at hdb;cases hdb
    | some w=>
     obtain⟨id',y'⟩:=w;rw[hc] at hdb e2;dsimp only at hdb e2 ⊢;have:=Nat.eq_of_beq_eq_true hdb;subst this e2;exact fin v _ _ hv hg hb
   | none=>
    rw[hl2] at hdb hde;dsimp only at hdb hde;obtain⟨q,hq⟩:=List.getElem?_of_mem hH';have h9:=congrArg (λl=>l[q]?) hde;simp only[List.getElem?_map,hq,Option.map_some,Option.some.injEq,dr] at h9;exact fin v H' _ hv hg (oS hT h9)
theorem aMQ{st:ASt}{ctx:Mem}{a:Act}{w:World}(h:Sat n ctx st a w):Sat n ctx ⟨st.env,st.H++[.tail 0]⟩ a w:=by
 obtain⟨bs,hm⟩:=h;have ext:=Ext.snoc (F:=ctx.F) hm.ok.len (dG.refl w) (.tail 0) none (by intro b e;cases e)
 have ok:=OK.snoc hm.ok (dG.refl w) (x := .tail 0) (o:=none) (by intro b e;cases e) (by intro b e;cases e)
 exact⟨bs++[none],{ h:=rfl,ok:=ok,ext:=hm.ext.trans ext,env:=hm.env.ext ext,size:=hm.size,low:=hm.low,defers:=sL.ext hm.ok ext hm.defers,nod:=hm.nod,outs:=λp hp=>(hm.outs p hp).ext ext }⟩
def rV : List Bool->List Box
 | []=>[]
 | true :: r => .tail 0 :: rV r
 | false :: r => .dead :: rV r
theorem aEa : ∀(m:List Bool) {st:ASt} {ctx:Mem} {a:Act} {w:World},Sat n ctx st a w->Sat n ctx ⟨st.env,st.H++rV m⟩ a w
 | [],st,ctx,a,w,h=>by simpa[rV] using h
 | true :: r,st,ctx,a,w,h=>by
  have:=aEa r (aMQ h)
  simpa[rV] using this
 | false :: r,st,ctx,a,w,h=>by
  have h1:=aIB h 1;have:=aEa r h1;simpa[rV] using this
theorem aK3(hT:TOK P T)(hm:P.follows .mixedOrders=true)(im:Nat->Bool)(m:List Bool)(o1:O1)(o2:O2S)(sts:List (List (List Box))){id:Nat}{l:List Oper}{Q:Exit->ASt->Prop}{st:ASt}
  (hB:aGq l (lV l.toArray) (sM T im n.n l (dB0 l ⟨st.env,st.H++rV m⟩) o1 o2) (dB0 l ⟨st.env,st.H++rV m⟩) o1 o2=true)
  (hE:aHR T im n.n l (lV l.toArray) (sM T im n.n l (dB0 l ⟨st.env,st.H++rV m⟩) o1 o2) (dB0 l ⟨st.env,st.H++rV m⟩) o1 o2=aHX l (lV l.toArray) (sM T im n.n l (dB0 l ⟨st.env,st.H++rV m⟩) o1 o2) (dB0 l ⟨st.env,st.H++rV m⟩) o1 o2)
  (hdst:l.all (λo=>dOK n.n o.dst)=true)
  (h1:or1 P n l (lV l.toArray) (sM T im n.n l (dB0 l ⟨st.env,st.H++rV m⟩) o1 o2).ms (dB0 l ⟨st.env,st.H++rV m⟩).env o1)
  (hst:o2.map (λq=>nE (lV l.toArray) q.1 (dB0 l ⟨st.env,st.H++rV m⟩).H (sM T im n.n l (dB0 l ⟨st.env,st.H++rV m⟩) o1 o2).es)=sts)
  (h2:aGN P n l (lV l.toArray) (sM T im n.n l (dB0 l ⟨st.env,st.H++rV m⟩) o1 o2).ms (dB0 l ⟨st.env,st.H++rV m⟩).env o2 sts)
  (es:List (Nat×AV)) (hn:nmL es (aLF T im n.n l (dB0 l ⟨st.env,st.H++rV m⟩) o1 o2)=nmR es)
  (hk:Q .normal (nmS es (aLF T im n.n l (dB0 l ⟨st.env,st.H++rV m⟩) o1 o2))):aw P n (.region id l.toArray true) Q st:=by
 have h:=aK5 (Q:=λe s=>e = .normal/\s=aLF T im n.n l (dB0 l ⟨st.env,st.H++rV m⟩) o1 o2) (id:=id) hT hm im o1 o2 sts hB hE hdst h1 hst h2 ⟨rfl,rfl⟩
 intro ctx a w hs;refine wpIn_mono (h ctx a w (aKA (aEa m hs))) ?_;rintro e a' w' ⟨s,⟨rfl,rfl⟩,h2⟩
 exact⟨_,hk,aAm (aLj hn) h2⟩
end
end Go.UK

namespace Go.UK
open Go
set_option linter.all false
variable [bS]
section
variable {P:Program} {T:TypeId→Option TI} {n:Fr}
end
end Go.UK

namespace Go.UK
open Go Go.Proofs Go.Maps
set_option linter.all false
variable [bS]
section
variable {P:Program} {α:Type} {F:α→AV} {q:IntKind}
end
end Go.UK

open List renaming cons_append→ez
open Nat renaming beq→b9,ble→gf,eq_of_beq_eq_true→ai
open Option renaming bind→ae
namespace Go.UK
open Go
set_option linter.all false
variable [bS]
inductive Fo
 | seq (y:Code)
 | blk (id:Nat)
 | un (k:Nat) (c:Code)
 | scp
inductive Pt
 | code (c:Code) (ks:List Fo) (st:ASt)
 | ops (arr:Array Oper) (l:List Oper) (ks:List Fo) (st:ASt)
 | out (e:Exit) (st:ASt)
 | bad
def kQ(P:Program)(n:Fr)(Q:Exit->ASt->Prop):List Fo->Exit->ASt->Prop
 | []=>Q
 | .seq y :: ks=>tn (aw P n y (kQ P n Q ks)) (kQ P n Q ks)
 | .blk id :: ks=>inB id (kQ P n Q ks)
 | .scp :: ks=>ngo (kQ P n Q ks)
 | .un k c :: ks=>tn (unr P n c (kQ P n Q ks) k) (kQ P n Q ks)
def At(P:Program)(T:TypeId->Option TI)(im:Nat->Bool)(n:Fr)(Q:Exit->ASt->Prop)(p:Pt):Prop:=
 TOK P T->P.follows .mixedOrders=true->match p with
 | .code c ks st=>aw P n c (kQ P n Q ks) st
 | .ops arr l ks st=>awl P n arr l (λs=>kQ P n Q ks .normal s) st
 | .out e st=>Q e st
 | .bad=>False
def yR : List Fo->ASt->Pt
 | [],st => .out .normal st
 | .seq y :: ks,st => .code y ks st
 | .blk _ :: ks,st=>yR ks st
 | .scp :: ks,st=>yR ks st
 | .un 0 _ :: _,_ => .bad
 | .un (k+1) c :: ks,st => .code c (.un k c :: ks) st
def aI4(id:Nat):List Fo->ASt->Pt
 | [],st => .out (.exit id) st
 | .seq _ :: ks,st=>aI4 id ks st
 | .un _ _ :: ks,st=>aI4 id ks st
 | .scp :: ks,st=>aI4 id ks st
 | .blk i :: ks,st=>match b9 id i with | true=>yR ks st | false=>aI4 id ks st
def ctl : Pt->Option Pt
 | .code c ks st=>match c with
  | .seq x y=>some (.code x (.seq y :: ks) st)
  | .skip=>some (yR ks st)
  | .exit id=>some (aI4 id ks st)
  | .block id c=>some (.code c (.blk id :: ks) st)
  | .scope c=>some (.code c (.scp :: ks) st)
  | .label _=>some (yR ks st)
  | .region _ arr d=>match d with | true=>none | false=>some (.ops arr arr.toList ks st)
  | _=>none
 | .ops _ l ks st=>match l with | []=>some (yR ks st) | _ :: _=>none
 | _=>none
def aMk : Nat->Pt->Pt
 | 0,p=>p
 | f+1,p=>match ctl p with | some q=>aMk f q | none=>p
def cnt(T:TypeId->Option TI)(im:Nat->Bool)(gl:List Nat)(m:Nat):Pt->Pt
 | .ops arr l ks st=>match l with
  | o :: l=>match step T im gl m arr o st with | some s => .ops arr l ks s | none => .bad
  | [] => .bad
 | .code c ks st=>match c with
  | .cond q x y=>match q with
   | .tmp t=>match get st.env t with
    | some (.v (.bool b))=>match b with | true => .code x ks st | false => .code y ks st
    | _ => .bad
   | .const (.bool b)=>match b with | true => .code x ks st | false => .code y ks st
   | _ => .bad
  | _ => .bad
 | _ => .bad
def adv(T:TypeId->Option TI)(im:Nat->Bool)(gl:List Nat)(m:Nat):Nat->Pt->Pt
 | 0,p=>aMk 64 p
 | k+1,p=>adv T im gl m k (cnt T im gl m (aMk 64 p))
def dH : Pt->ASt
 | .code _ _ st=>st
 | .ops _ _ _ st=>st
 | .out _ st=>st
 | .bad=>⟨[],[]⟩
def nW(p:Pt):Env:=(dH p).env
def eT(p:Pt):List Box:=(dH p).H
def aD7 : Pt->Oper
 | .ops _ (o :: _) _ _=>o
 | _=>default
def aIO : Pt->Oper
 | .ops _ (_ :: o :: _) _ _=>o
 | _=>default
def aKE : Pt->Bool
 | .ops _ (_ :: _) _ _=>true
 | _=>false
def aM5 : Pt->Bool
 | .ops _ (_ :: _ :: _) _ _=>true
 | _=>false
def aHk(p:Pt)(x:AV)(H:List Box):Pt:=
 match p with
 | .ops arr (o :: l) ks st => .ops arr l ks ⟨st.env.put o.dst (none,x),H⟩
 | _ => .bad
def aDM(p:Pt)(s:ASt):Pt:=
 match p with
 | .ops arr (_ :: l) ks _ => .ops arr l ks s
 | _ => .bad
def xM(p:Pt)(s:ASt):Pt:=
 match p with
 | .ops arr l ks _ => .ops arr l ks s
 | .code c ks _ => .code c ks s
 | _ => .bad
def aNR : Pt->Bool
 | .ops arr (o :: _) _ st=>gOK arr o st.env
 | _=>false
def cdPt : Pt->Option AV
 | .code (.cond (.tmp t) _ _) _ st=>get st.env t
 | _=>none
def brPt(b:Bool):Pt->Pt
 | .code (.cond _ x y) ks st => .code (match b with | true=>x | false=>y) ks st
 | _ => .bad
def aJ9(d:Nat)(b:Bool)(p:Pt):Pt:=xM p (aLY d b (dH p))
def aGz : Pt->List Fo
 | .code _ ks _=>ks
 | .ops _ _ ks _=>ks
 | _=>[]
def aDS{α:Type}:Nat->List α->List α
 | 0,_=>[]
 | _+1,[]=>[]
 | d+1,x :: r=>x :: aDS d r
def aGR{α:Type}:Nat->List α->List α
 | 0,l=>l
 | _+1,[]=>[]
 | d+1,_ :: r=>aGR d r
def aEw(d:Nat):Pt->Pt
 | .code c ks st => .code c (aDS d ks) st
 | .ops arr l ks st => .ops arr l (aDS d ks) st
 | _ => .bad
def pO(d:Nat)(p:Pt):List Fo:=aGR d (aGz p)
section
variable {P:Program} {T:TypeId→Option TI} {im:Nat→Bool} {n:Fr} {Q:Exit→ASt→Prop} {p:Pt}
theorem aE0{α:Type}:∀(d:Nat) (l:List α),aDS d l++aGR d l=l
 | 0,l=>rfl
 | d+1,[]=>rfl
 | d+1,x :: r=>by simp[aDS,aGR,aE0 d r]
theorem At.popN{ks:List Fo}{st:ASt}(hT:TOK P T)(hm:P.follows .mixedOrders=true)(h:At P T im n Q (yR ks st)):kQ P n Q ks .normal st:=by
 induction ks with
 | nil=>exact h hT hm
 | cons f ks ih=>
  cases f with
  | seq y=>exact h hT hm
  | blk id=>exact ih h
  | scp=>exact ih h
  | un k c=>
   cases k with
   | zero=>exact(h hT hm).elim
   | succ k=>exact h hT hm
theorem At.popE{id:Nat}{ks:List Fo}{st:ASt}(hT:TOK P T)(hm:P.follows .mixedOrders=true)(h:At P T im n Q (aI4 id ks st)):kQ P n Q ks (.exit id) st:=by
 induction ks with
 | nil=>exact h hT hm
 | cons f ks ih=>
  cases f with
  | seq y=>exact ih h
  | un k c=>exact ih h
  | scp=>exact ih h
  | blk i=>
   unfold Go.UK.aI4 at h;cases hb:b9 id i with
   | true=>
    rw[hb] at h;obtain rfl:=ai hb;exact aL7 (At.popN hT hm h)
   | false=>rw[hb] at h;exact inB_x hb (ih h)
theorem kQ_r{ks:List Fo}{st:ASt}(h:Q .ret st):kQ P n Q ks .ret st:=by
 induction ks with
 | nil=>exact h
 | cons f ks ih=>cases f <;> exact ih
theorem aLk{l:Nat}{st:ASt}{Q:Exit->ASt->Prop}(h:Q .normal st):aw P n (.label l) Q st:=λctx a w hs=>wpIn_label ⟨st,h,hs⟩
theorem At.ctl{q:Pt}(hc:ctl p=some q)(h:At P T im n Q q):At P T im n Q p:=by
 intro hT hm;unfold Go.UK.ctl at hc;split at hc
 ·rename_i c ks st;split at hc <;> try cases hc
  ·exact aP6 (h hT hm)
  ·exact aNq (At.popN hT hm h)
  ·exact aN2 (At.popE hT hm h)
  ·exact aLu (h hT hm)
  ·exact aMA (h hT hm)
  ·exact aLk (At.popN hT hm h)
  ·rename_i id arr d;split at hc <;> cases hc;exact aLM (l:=arr.toList) (h hT hm)
 ·split at hc <;> cases hc;exact aNi (At.popN hT hm h)
 ·cases hc
theorem At.norm : ∀(f:Nat) {p:Pt},At P T im n Q (aMk f p)->At P T im n Q p
 | 0,p,h=>h
 | f+1,p,h=>by
  unfold Go.UK.aMk at h;split at h
  ·rename_i q hq;exact At.ctl hq (At.norm f h)
  ·exact h
theorem At.bad(h:At P T im n Q .bad):At P T im n Q p:=λhT hm=>(h hT hm).elim
theorem At.cnt{gl:List Nat}(h:At P T im n Q (cnt T im gl n.n p)):At P T im n Q p:=by
 unfold Go.UK.cnt at h;split at h
 ·rename_i arr l ks st;split at h
  ·rename_i o l;split at h
   ·rename_i s hs;intro hT hm;exact aKm (aNX hT hs) (h hT hm)
   ·exact At.bad h
  ·exact At.bad h
 ·rename_i c ks st;split at h
  ·rename_i q x y;split at h
   ·rename_i t;split at h
    ·rename_i b hb;intro hT hm;refine aJv hb (λe=>?_) (λe=>?_) <;> (subst e;exact h hT hm)
    ·exact At.bad h
   ·rename_i b;intro hT hm;cases b with
    | true=>exact aIc (b:=true) (h hT hm)
    | false=>exact aIc (b:=false) (h hT hm)
   ·exact At.bad h
  ·exact At.bad h
 ·exact At.bad h
theorem At.adv{gl:List Nat}:∀(k:Nat) {p:Pt},At P T im n Q (adv T im gl n.n k p)->At P T im n Q p
 | 0,p,h=>At.norm 64 h
 | k+1,p,h=>At.norm 64 (At.cnt (At.adv k h))
theorem At.g(gl:List Nat)(k:Nat){π:Prop}(h:π->At P T im n Q (Go.UK.adv T im gl n.n k p))(e:π):At P T im n Q p:=At.adv k (h e)
theorem aE2{q:Pt}(h:aKE q=true):∃arr o l ks st,q = .ops arr (o :: l) ks st:=by
 unfold aKE at h;split at h
 ·exact⟨_,_,_,_,_,rfl⟩
 ·cases h
theorem aLd{q:Pt}(h:aNR q=true):∃arr o l ks st,q = .ops arr (o :: l) ks st/\gOK arr o st.env=true:=by
 unfold aNR at h;split at h
 ·exact⟨_,_,_,_,_,rfl,h⟩
 ·cases h
theorem At.o1{q:Pt}{x:AV}{H':List Box}(b:Big P n (aD7 q) (nW q) (eT q) x H')(hg:aNR q=true)(h:At P T im n Q (aHk q x H')):At P T im n Q q:=by
 obtain⟨arr,o,l,ks,st,rfl,hg⟩:=aLd hg;intro hT hm;exact aNh b hg (h hT hm)
theorem At.o(k:Nat){π:Prop}{x:AV}{H':List Box}(b:Big P n (aD7 (Go.UK.adv T im [] n.n k p)) (nW (Go.UK.adv T im [] n.n k p)) (eT (Go.UK.adv T im [] n.n k p)) x H')(h:π->At P T im n Q (aHk (Go.UK.adv T im [] n.n k p) x H'))(hg:aNR (Go.UK.adv T im [] n.n k p)=true:=by kernel_rfl)(e:π):At P T im n Q p:=
 At.adv k (At.o1 b hg (h e))
theorem At.b{α β:Type}{x:Option α}{f:α->Option β}{r:β}(k:Nat){y:α->AV}{H':α->List Box}
  (b:∀a,x=some a->Big P n (aD7 (Go.UK.adv T im [] n.n k p)) (nW (Go.UK.adv T im [] n.n k p)) (eT (Go.UK.adv T im [] n.n k p)) (y a) (H' a)) (h:∀a,f a=some r->At P T im n Q (aHk (Go.UK.adv T im [] n.n k p) (y a) (H' a))) (hg:aNR (Go.UK.adv T im [] n.n k p)=true:=by kernel_rfl) (e:ae x f=some r):At P T im n Q p:=by
 obtain⟨a,e1,e2⟩:=aE6 e;exact At.o k (b a e1) (h a) hg e2
theorem At.c{α:Type}{b:Bool}{px py:Option α}{r:α}(k:Nat)(h1:px=some r->At P T im n Q (brPt true (Go.UK.adv T im [] n.n k p)))(h2:py=some r->At P T im n Q (brPt false (Go.UK.adv T im [] n.n k p)))
  (hb:cdPt (Go.UK.adv T im [] n.n k p)=some (.v (.bool b)):=by kernel_rfl) (e:cond b px py=some r):At P T im n Q p:=by
 refine At.adv (gl:=[]) k ?_;generalize Go.UK.adv T im [] n.n k p=q at *;unfold cdPt at hb;split at hb
 ·intro hT hm;refine aJv hb (λe'=>?_) (λe'=>?_)
  ·subst e';exact h1 e hT hm
  ·subst e';exact h2 e hT hm
 ·cases hb
theorem At.s{α:Type}{b:Bool}{px py:Option α}{r:α}(d k:Nat)(h1:px=some r->At P T im n Q (aJ9 d true (Go.UK.adv T im [] n.n k p)))(h2:py=some r->At P T im n Q (aJ9 d false (Go.UK.adv T im [] n.n k p)))
  (hb:(aKE (Go.UK.adv T im [] n.n k p),get (nW (Go.UK.adv T im [] n.n k p)) d)=(true,some (.v (.bool b))):=by kernel_rfl) (e:cond b px py=some r):At P T im n Q p:=by
 refine At.adv (gl:=[]) k ?_;generalize Go.UK.adv T im [] n.n k p=q at *;simp only[Prod.mk.injEq] at hb;obtain⟨hi,hb⟩:=hb;obtain⟨arr,o,l,ks,st,rfl⟩:=aE2 hi;intro hT hm;exact aLb d e hb (λe=>h1 e hT hm) (λe=>h2 e hT hm)
theorem rt{α:Type}{a r:α}{p:α->Prop}(h:p a)(e:some a=some r):p r:=by cases e;exact h
theorem nn{α:Type}{r:α}{p:Prop}(e:none=some r):p:=by cases e
theorem bi{α β:Type}{x:Option α}{f:α->Option β}{r:β}{p:Prop}(h:∀a,x=some a->f a=some r->p)(e:ae x f=some r):p:=by obtain⟨a,e1,e2⟩:=aE6 e;exact h a e1 e2
theorem boI{α:Type}{b:Bool}{px py:Option α}{r:α}{p:Prop}(h1:b=true->px=some r->p)(h2:b=false->py=some r->p)(e:cond b px py=some r):p:=boolH e h1 h2
theorem lx{α β:Type}{e:α}{f:α->β}{r:β}{p:Prop}(k:let x:=e;f x=r->p)(h:aO e f=r):p:=k h
theorem At.t0{q:Pt}{s:ASt}(hs:∀{ctx:Mem} {a:Act} {w:World},Sat n ctx (dH q) a w->Sat n ctx s a w)(h:At P T im n Q (xM q s)):At P T im n Q q:=by
 intro hT hm;cases q with
 | code c ks st=>exact λctx a w hx=>h hT hm ctx a w (hs hx)
 | ops arr l ks st=>exact λctx a w hx=>h hT hm ctx a w (hs hx)
 | out e st=>exact(h hT hm).elim
 | bad=>exact(h hT hm).elim
theorem At.t(k:Nat){π:Prop}{s:ASt}(hs:∀{ctx:Mem} {a:Act} {w:World},Sat n ctx (dH (Go.UK.adv T im [] n.n k p)) a w->Sat n ctx s a w)(h:π->At P T im n Q (xM (Go.UK.adv T im [] n.n k p) s))(e:π):At P T im n Q p:=At.adv k (At.t0 hs (h e))
theorem At.ownn{π:Prop}(k s z:Nat)(h:π->At P T im n Q (xM (Go.UK.adv T im [] n.n k p) (aM1 s z (dH (Go.UK.adv T im [] n.n k p)))))(hg:aDL (dH (Go.UK.adv T im [] n.n k p)) s=true:=by kernel_rfl)(e0:π):At P T im n Q p:=At.t k (λhx=>aIj hg hx) h e0
theorem At.gron{π:Prop}(k s z:Nat)(h:π->At P T im n Q (xM (Go.UK.adv T im [] n.n k p) (aML s z (dH (Go.UK.adv T im [] n.n k p)))))(hg:aDL (dH (Go.UK.adv T im [] n.n k p)) s=true:=by kernel_rfl)(e0:π):At P T im n Q p:=At.t k (λhx=>aIf hg hx) h e0
theorem At.ownb{π:Prop}(k b z:Nat)(l:List Nat)(h:π->At P T im n Q (xM (Go.UK.adv T im [] n.n k p) (ownB b z l (dH (Go.UK.adv T im [] n.n k p)))))(e0:π):At P T im n Q p:=At.t k (λhx=>aIM hx) h e0
theorem At.wk{π:Prop}(k d:Nat)(y:AV)(h:π->At P T im n Q (xM (Go.UK.adv T im [] n.n k p) (wkS d y (dH (Go.UK.adv T im [] n.n k p)))))(e0:π):At P T im n Q p:=At.t k (λhx=>aN9 hx) h e0
theorem At.sw{π:Prop}(k i j:Nat)(h:π->At P T im n Q (xM (Go.UK.adv T im [] n.n k p) (swS i j (dH (Go.UK.adv T im [] n.n k p)))))(hk:swOK n i j (dH (Go.UK.adv T im [] n.n k p))=true:=by kernel_rfl)(e0:π):At P T im n Q p:=At.t k (λhx=>aL1 hk hx) h e0
theorem At.gz{π:Prop}(k id:Nat)(v:AV)(h:π->At P T im n Q (xM (Go.UK.adv T im [] n.n k p) (gzS id v (dH (Go.UK.adv T im [] n.n k p)))))(hat:gzAt id (dH (Go.UK.adv T im [] n.n k p))=some v:=by kernel_rfl)(hk:aM7 n id (dH (Go.UK.adv T im [] n.n k p)) (lJ id v 0 (eT (Go.UK.adv T im [] n.n k p)))=true:=by kernel_rfl)(e0:π):At P T im n Q p:=At.t k (λhx=>aQM hat hk hx) h e0
theorem At.fz{π:Prop}(k id z ln q:Nat)(es:List AV)(hq:es.length=q)(hln:es.length=ln)(h:π->At P T im n Q (xM (Go.UK.adv T im [] n.n k p) (fzS id z q es (dH (Go.UK.adv T im [] n.n k p)))))(hat:fzAt id (dH (Go.UK.adv T im [] n.n k p))=some (z,es):=by kernel_rfl)(hk:aMx n id z (dH (Go.UK.adv T im [] n.n k p)) (lK id z q es 0 (eT (Go.UK.adv T im [] n.n k p)))=true:=by kernel_rfl)
  (hl:qN id (nW (Go.UK.adv T im [] n.n k p))++qM id 0 (eT (Go.UK.adv T im [] n.n k p))=List.replicate (qN id (nW (Go.UK.adv T im [] n.n k p))++qM id 0 (eT (Go.UK.adv T im [] n.n k p))).length ln:=by kernel_rfl) (e0:π):At P T im n Q p:=At.t k (λhx=>aP7 hq hat hk hln hl hx) h e0
theorem At.gl{π:Prop}(k:Nat)(ss bs:List Nat)(id m m':Nat)(e:m'=m)(h:π->At P T im n Q (xM p (glS ss bs id m' (dH p))))(hc:glS ss bs id m (dH p)=dH p:=by kernel_rfl)(e0:π):At P T im n Q p:=by
 subst e;exact At.t0 (λhx=>hx) (by have h:=h e0;rwa[hc] at h)
theorem At.to{π:Prop}(k:Nat)(t:ASt)(h:π->At P T im n Q (xM (Go.UK.adv T im [] n.n k p) t))(hc:(cOK n (dH (Go.UK.adv T im [] n.n k p)) t,cSt (dH (Go.UK.adv T im [] n.n k p)) t)=(true,t):=by kernel_rfl)(e0:π):At P T im n Q p:=At.t k (λhx=>jr hc _ _ _ hx) h e0
theorem At.jr{π:Prop}{c:Code}{ks:List Fo}{s t:ASt}(hj:JR n t s)(h:π->At P T im n Q (.code c ks t))(e:π):At P T im n Q (.code c ks s):=λhT hm=>aw_jr hj (h e hT hm)
theorem At.l2{π:Prop}(hT0:TOK P T)(k:Nat){d1 d2 t e:TypeId}{α:Type}(f:α->AV){z sz b1:Nat}{z0:AV}{i:TI}(es:List α)
  (ht:T t=some ⟨sz,b1,z0,.sl e⟩) (he:T e=some i) (hi:i.kind = .int .u8)
  (h:π->At P T im n Q (aDM (aDM (Go.UK.adv T im [] n.n k p) ⟨[],[]⟩) ⟨((nW (Go.UK.adv T im [] n.n k p)).set d1 (none,eO (eT (Go.UK.adv T im [] n.n k p)).length z f es)).set d2 (none,eO (eT (Go.UK.adv T im [] n.n k p)).length z f es),eT (Go.UK.adv T im [] n.n k p)++[.tail (es.length*z)]⟩))
  (hx:(aM5 (Go.UK.adv T im [] n.n k p),(aD7 (Go.UK.adv T im [] n.n k p)).guard,(aD7 (Go.UK.adv T im [] n.n k p)).dst,(aIO (Go.UK.adv T im [] n.n k p)).guard,(aIO (Go.UK.adv T im [] n.n k p)).dst,(aIO (Go.UK.adv T im [] n.n k p)).op,(gf n.n d1||gf n.n d2),(match (aD7 (Go.UK.adv T im [] n.n k p)).op with | .buildSlice t' _ _=>b9 t' t | _=>false),aM9 T (aD7 (Go.UK.adv T im [] n.n k p)) (nW (Go.UK.adv T im [] n.n k p)))
   = (true,none,some d1,none,some d2,.convert t t (.tmp d1),false,true,some (z,es.length,es.map f)):=by kernel_rfl) (e0:π):At P T im n Q p:=by
 have h:=h e0;refine At.adv (gl:=[]) k ?_;generalize Go.UK.adv T im [] n.n k p=q at *;simp only[Prod.mk.injEq] at hx;obtain⟨h0,h1,h2,h3,h4,h5,h6,h7,h8⟩:=hx;unfold aM5 at h0;split at h0
 ·intro hT hm;exact aMs hT f es h1 h2 h3 h4 h5 h6 ht he hi h7 h8 (h hT hm)
 ·cases h0
theorem At.q{π:Prop}(hT0:TOK P T)(k:Nat){d t e z sz b1:Nat}{z0 x:AV}{es:List AV}(ht:T t=some ⟨sz,b1,z0,.sl e⟩)
  (h1:π->At P T im n Q (aDM (Go.UK.adv T im [] n.n k p) ⟨(nW (Go.UK.adv T im [] n.n k p)).set d (none,.v (.bool false)),eT (Go.UK.adv T im [] n.n k p)⟩)) (h2:es=[]->π->At P T im n Q (aDM (Go.UK.adv T im [] n.n k p) ⟨(nW (Go.UK.adv T im [] n.n k p)).set d (none,.v (.bool true)),eT (Go.UK.adv T im [] n.n k p)⟩))
  (hx:(aKE (Go.UK.adv T im [] n.n k p),(aD7 (Go.UK.adv T im [] n.n k p)).guard,(aD7 (Go.UK.adv T im [] n.n k p)).dst,gf n.n d,eqE (aD7 (Go.UK.adv T im [] n.n k p)) (nW (Go.UK.adv T im [] n.n k p)) .eql,rA x)
   = (true,none,some d,false,some (t,x,.v (.slice none 0 0)),some (z,es)):=by kernel_rfl) (e0:π):At P T im n Q p:=by
 have h1:=h1 e0;refine At.adv (gl:=[]) k ?_;generalize Go.UK.adv T im [] n.n k p=q at *;simp only[Prod.mk.injEq] at hx;obtain⟨h0,g1,g2,g3,g4,g5⟩:=hx;obtain⟨arr,o,l,ks,st,rfl⟩:=aE2 h0;intro hT hm;exact aOM hT g1 g2 g3 ht g4 g5 (h1 hT hm) (λe=>h2 e e0 hT hm)
def Le(n:Fr)(Q1 Q2:Exit->ASt->Prop):Prop:=∀e s ctx a w,Q1 e s->Sat n ctx s a w->∃s',Q2 e s'/\Sat n ctx s' a w
theorem aJp{c:Code}{st:ASt}{Q1 Q2:Exit->ASt->Prop}(hl:Le n Q1 Q2)(h:aw P n c Q1 st):aw P n c Q2 st:=by
 intro ctx a w hs;refine wpIn_mono (h ctx a w hs) ?_;rintro e a' w' ⟨s,h1,h2⟩
 exact hl e s _ _ _ h1 h2
theorem aQA{ops:Array Oper}{l:List Oper}{st:ASt}{K1 K2:ASt->Prop}(hl:∀s ctx a w,K1 s->Sat n ctx s a w->∃s',K2 s'/\Sat n ctx s' a w)(h:awl P n ops l K1 st):awl P n ops l K2 st:=by
 intro ctx a w hs;refine vT ?_ _ _ _ (h ctx a w hs)
 rintro e a' w' ⟨rfl,s,h1,h2⟩
 exact⟨rfl,hl s _ _ _ h1 h2⟩
theorem aMF{c:Code}{Q1 Q2:Exit->ASt->Prop}(hl:Le n Q1 Q2):∀(k:Nat) (s:ASt),unr P n c Q1 k s->unr P n c Q2 k s
 | 0,s,h=>h
 | k+1,s,h=>by
  refine aJp (Q1:=tn (unr P n c Q1 k) Q1) ?_ h;intro e s ctx a w h1 h2;cases e with
  | normal=>exact⟨s,aMF hl k s h1,h2⟩
  | _=>exact hl _ s ctx a w h1 h2
theorem aBO{Q1 Q2:Exit->ASt->Prop}(hl:Le n Q1 Q2):∀(ks:List Fo),Le n (kQ P n Q1 ks) (kQ P n Q2 ks)
 | []=>hl
 | .seq y :: ks=>by
  intro e s ctx a w h1 h2;cases e with
  | normal=>exact⟨s,aJp (aBO hl ks) h1,h2⟩
  | _=>exact aBO hl ks _ s ctx a w h1 h2
 | .blk id :: ks=>by
  intro e s ctx a w h1 h2;cases e with
  | exit i=>
   unfold kQ at h1 ⊢;simp only[inB] at h1 ⊢;split
   ·rename_i hi;rw[if_pos hi] at h1;exact aBO hl ks _ s ctx a w h1 h2
   ·rename_i hi;rw[if_neg hi] at h1;exact aBO hl ks _ s ctx a w h1 h2
  | _=>exact aBO hl ks _ s ctx a w h1 h2
 | .un k c :: ks=>by
  intro e s ctx a w h1 h2;cases e with
  | normal=>exact⟨s,aMF (aBO hl ks) k s h1,h2⟩
  | _=>exact aBO hl ks _ s ctx a w h1 h2
 | .scp :: ks=>by
  intro e s ctx a w h1 h2;cases e with
  | goto l=>exact h1.elim
  | _=>exact aBO hl ks _ s ctx a w h1 h2
theorem aC3 : ∀(a b:List Fo),kQ P n (kQ P n Q b) a=kQ P n Q (a++b)
 | [],b=>rfl
 | .seq y :: a,b=>by simp only[kQ,ez,aC3 a b]
 | .blk i :: a,b=>by simp only[kQ,ez,aC3 a b]
 | .un k c :: a,b=>by simp only[kQ,ez,aC3 a b]
 | .scp :: a,b=>by simp only[kQ,ez,aC3 a b]
theorem At.cut{q:Pt}{Q1:Exit->ASt->Prop}(d:Nat)(hl:Le n Q1 (kQ P n Q (pO d q)))(h:At P T im n Q1 (aEw d q)):At P T im n Q q:=by
 intro hT hm;cases q with
 | code c ks st=>
  have h:=h hT hm;unfold pO aGz at hl;have e:kQ P n Q ks=kQ P n (kQ P n Q (aGR d ks)) (aDS d ks):=by rw[aC3,aE0]
  show aw P n c (kQ P n Q ks) st;rw[e]
  exact aJp (aBO hl _) h
 | ops arr l ks st=>
  have h:=h hT hm;unfold pO aGz at hl;have e:kQ P n Q ks=kQ P n (kQ P n Q (aGR d ks)) (aDS d ks):=by rw[aC3,aE0]
  show awl P n arr l (λs=>kQ P n Q ks .normal s) st;rw[e]
  exact aQA (λs ctx a w h1 h2=>aBO hl _ .normal s ctx a w h1 h2) h
 | out e st=>exact(h hT hm).elim
 | bad=>exact(h hT hm).elim
theorem aMb{Q0:Exit->ASt->Prop}{t:ASt}(h:Q0 .normal t):Le n (tn (JR n t) Q0) Q0:=by
 intro e s ctx a w h1 h2;cases e with
 | normal=>exact⟨t,h,aMp h1 h2⟩
 | _=>exact⟨s,h1,h2⟩
theorem At.j{α ρ:Type}{X:Option α}{F:α->Option ρ}{r:ρ}(k d:Nat)(t:α->ASt)(h:∀x,X=some x->At P T im n (tn (JR n (t x)) (kQ P n Q (pO d (Go.UK.adv T im [] n.n k p)))) (aEw d (Go.UK.adv T im [] n.n k p)))
  (hy:∀x,F x=some r->At P T im n Q (Go.UK.yR (pO d (Go.UK.adv T im [] n.n k p)) (t x))) (e:ae X F=some r):At P T im n Q p:=by
 obtain⟨x,e1,e2⟩:=aE6 e;exact At.adv (gl:=[]) k λhT hm=>At.cut d (aMb (At.popN hT hm (hy x e2))) (h x e1) hT hm
def JS{α β:Type}(n:Fr)(t:α->ASt)(o:Sum α β)(s:ASt):Prop:=∃p,o=Sum.inl p/\JR n (t p) s
theorem aOq{α β ρ:Type}{Q0:Exit->ASt->Prop}{t:α->ASt}{o:Sum α β}{F:α->ρ}{G:β->ρ}{r:ρ}(g:oP o F G=r)(h:∀x,F x=r->Q0 .normal (t x)):Le n (tn (JS n t o) Q0) Q0:=by
 intro e s ctx a w h1 h2;cases e with
 | normal=>
  obtain⟨x,rfl,h3⟩:=h1;exact⟨t x,h x g,aMp h3 h2⟩
 | _=>exact⟨s,h1,h2⟩
theorem At.js{α β ρ:Type}{X:Option (Sum α β)}{F:α->Option ρ}{G:β->Option ρ}{r:ρ}(k d:Nat)(t:α->ASt)(h:∀o,oP o F G=some r->X=some o->At P T im n (tn (JS n t o) (kQ P n Q (pO d (Go.UK.adv T im [] n.n k p)))) (aEw d (Go.UK.adv T im [] n.n k p)))
  (hy:∀x,F x=some r->At P T im n Q (Go.UK.yR (pO d (Go.UK.adv T im [] n.n k p)) (t x))) (e:ae X (λo=>oP o F G)=some r):At P T im n Q p:=by
 obtain⟨o,e1,g⟩:=aE6 e;exact At.adv (gl:=[]) k λhT hm=>At.cut d (aOq g (λx hx=>At.popN hT hm (hy x hx))) (h o g e1) hT hm
def aKZ : Pt->Code
 | .code (.loop c) _ _=>c
 | _ => .skip
def idPt : Pt->Nat
 | .code _ (.blk id :: _) _=>id
 | _=>0
def aMe : Pt->Bool
 | .code (.loop _) (.blk _ :: _) _=>true
 | _=>false
theorem lp0{q:Pt}{Q1:Exit->ASt->Prop}(I:Nat->ASt->Prop)(N:Nat)(hi:aMe q=true)(h0:I N (dH q))(hl:Le n Q1 (kQ P n Q (pO 1 q)))
  (h:∀k s,I k s->At P T im n (tn (λs'=>∃m,m < k/\I m s') (inB (idPt q) Q1)) (.code (aKZ q) [] s)):At P T im n Q q:=by
 intro hT hm;unfold aMe at hi;split at hi
 ·rename_i c id ks st;show aw P n (.loop c) (inB id (kQ P n Q ks)) st;have:aw P n (.loop c) (inB id Q1) st:=aKd I (λk s hI=>h k s hI hT hm) N st h0;refine aJp ?_ this;intro e s ctx a w h1 h2;cases e with
  | exit i=>
   simp only[inB] at h1 ⊢;split
   ·rename_i hi;rw[if_pos hi] at h1;exact hl _ s ctx a w h1 h2
   ·rename_i hi;rw[if_neg hi] at h1;exact hl _ s ctx a w h1 h2
  | _=>exact hl _ s ctx a w h1 h2
 ·cases hi
theorem At.l{α ρ:Type}{X:Option α}{F:α->Option ρ}{r:ρ}(k:Nat)(t:α->ASt)(I:α->(ASt->ASt->Prop)->Nat->ASt->Prop)(N:Nat)(h0:∀x,X=some x->I x (JR n) N (dH (Go.UK.adv T im [] n.n k p)))
  (h:∀x j s,I x (JR n) j s->At P T im n (tn (λs'=>∃m,m < j/\I x (JR n) m s') (inB (idPt (Go.UK.adv T im [] n.n k p)) (tn (JR n (t x)) (kQ P n Q (pO 1 (Go.UK.adv T im [] n.n k p)))))) (.code (aKZ (Go.UK.adv T im [] n.n k p)) [] s))
  (hy:∀x,F x=some r->At P T im n Q (Go.UK.yR (pO 1 (Go.UK.adv T im [] n.n k p)) (t x))) (hi:aMe (Go.UK.adv T im [] n.n k p)=true:=by kernel_rfl) (e:ae X F=some r):At P T im n Q p:=by
 obtain⟨x,e1,e2⟩:=aE6 e;exact At.adv (gl:=[]) k λhT hm=>lp0 (I x (JR n)) N hi (h0 x e1) (aMb (At.popN hT hm (hy x e2))) (h x) hT hm
def aKi(m:Nat)(q:Pt):Pt:=
 match q with
 | .code (.loop c) ks st => .code c (.un m c :: ks) st
 | _ => .bad
theorem At.u{π:Prop}(m k:Nat)(h:π->At P T im n Q (aKi m (Go.UK.adv T im [] n.n k p)))(e:π):At P T im n Q p:=by
 have h:=h e;refine At.adv (gl:=[]) k ?_;generalize Go.UK.adv T im [] n.n k p=q at *;unfold aKi at h;split at h
 ·intro hT hm;exact aLE (m+1) (unr_s (h hT hm))
 ·exact At.bad h
def aIh : Pt->Bool
 | .out .normal _=>true
 | _=>false
def outR : Pt->Bool
 | .code .ret _ _=>true
 | _=>false
def outE(id:Nat):Pt->Bool
 | .out (.exit i) _=>b9 i id
 | _=>false
theorem wD{q:Pt}(h:aIh q=true):q = .out .normal (dH q):=by
 unfold aIh at h;split at h
 ·rfl
 ·cases h
theorem aK1{q:Pt}(h:outR q=true):∃ks,q = .code .ret ks (dH q):=by
 unfold outR at h;split at h
 ·exact⟨_,rfl⟩
 ·cases h
theorem aGh{id:Nat}{q:Pt}(h:outE id q=true):q = .out (.exit id) (dH q):=by
 unfold outE at h;split at h
 ·rw[ai h];rfl
 ·cases h
theorem At.jn(k:Nat){t:ASt}(hc:(aIh (Go.UK.adv T im [] n.n k p),cOK n (dH (Go.UK.adv T im [] n.n k p)) t,cSt (dH (Go.UK.adv T im [] n.n k p)) t)=(true,true,t):=by kernel_rfl):At P T im n (tn (JR n t) Q) p:=by
 refine At.adv (gl:=[]) k ?_;generalize Go.UK.adv T im [] n.n k p=q at *;simp only[Prod.mk.injEq] at hc;rw[wD hc.1]
 exact λ_ _=>Go.UK.jr (by rw[hc.2.1,hc.2.2])
theorem At.jsn{α β:Type}(k:Nat){t:α->ASt}{x:α}(hc:(aIh (Go.UK.adv T im [] n.n k p),cOK n (dH (Go.UK.adv T im [] n.n k p)) (t x),cSt (dH (Go.UK.adv T im [] n.n k p)) (t x))=(true,true,t x):=by kernel_rfl):At P T im n (tn (JS n t (Sum.inl x:Sum α β)) Q) p:=by
 refine At.adv (gl:=[]) k ?_;generalize Go.UK.adv T im [] n.n k p=q at *;simp only[Prod.mk.injEq] at hc;rw[wD hc.1]
 exact λ_ _=>⟨x,rfl,Go.UK.jr (by rw[hc.2.1,hc.2.2])⟩
theorem At.x(k:Nat){K:ASt->Prop}{id:Nat}{t:ASt}(hc:(outE id (Go.UK.adv T im [] n.n k p),cOK n (dH (Go.UK.adv T im [] n.n k p)) t,cSt (dH (Go.UK.adv T im [] n.n k p)) t)=(true,true,t):=by kernel_rfl):At P T im n (tn K (inB id (tn (JR n t) Q))) p:=by
 refine At.adv (gl:=[]) k ?_;generalize Go.UK.adv T im [] n.n k p=q at *;simp only[Prod.mk.injEq] at hc;rw[aGh hc.1]
 exact λ_ _=>tn_x (aL7 (tn_n (Go.UK.jr (by rw[hc.2.1,hc.2.2]))))
theorem At.xs{α β:Type}(k:Nat){K:ASt->Prop}{id:Nat}{t:α->ASt}{x:α}(hc:(outE id (Go.UK.adv T im [] n.n k p),cOK n (dH (Go.UK.adv T im [] n.n k p)) (t x),cSt (dH (Go.UK.adv T im [] n.n k p)) (t x))=(true,true,t x):=by kernel_rfl):At P T im n (tn K (inB id (tn (JS n t (Sum.inl x:Sum α β)) Q))) p:=by
 refine At.adv (gl:=[]) k ?_;generalize Go.UK.adv T im [] n.n k p=q at *;simp only[Prod.mk.injEq] at hc;rw[aGh hc.1]
 exact λ_ _=>tn_x (aL7 (tn_n ⟨x,rfl,Go.UK.jr (by rw[hc.2.1,hc.2.2])⟩))
theorem At.k(j:Nat){m:Nat}{I:Nat->ASt->Prop}(h:I m (dH (Go.UK.adv T im [] n.n j p)))(hc:aIh (Go.UK.adv T im [] n.n j p)=true:=by kernel_rfl):At P T im n (tn (λs'=>∃i,i < m+1/\I i s') Q) p:=by
 refine At.adv (gl:=[]) j ?_;generalize Go.UK.adv T im [] n.n j p=q at *;rw[wD hc]
 exact λ_ _=>⟨m,Nat.lt_succ_self m,h⟩
class aDj(Q:Exit->ASt->Prop)(Q':outParam (Exit->ASt->Prop)):Prop where
 to:∀st,Q' .ret st->Q .ret st
instance retTo_tn {K:ASt->Prop} {Q Q':Exit->ASt->Prop} [h:aDj Q Q']:aDj (tn K Q) Q':=⟨λst hq=>h.to st hq⟩
instance retTo_inB {id:Nat} {Q Q':Exit->ASt->Prop} [h:aDj Q Q']:aDj (inB id Q) Q':=⟨λst hq=>h.to st hq⟩
instance retTo_kQ {Q Q':Exit->ASt->Prop} {ks:List Fo} [h:aDj Q Q']:aDj (kQ P n Q ks) Q':=⟨λst hq=>kQ_r (h.to st hq)⟩
instance retTo_M {lo:Nat} {rs:List ResultVar} {ret:AV} {H':List Box}:aDj (aC2 T lo rs ret H') (aC2 T lo rs ret H'):=⟨λ_ h=>h⟩
theorem At.r(k:Nat){lo:Nat}{rs:List ResultVar}{ret:AV}{H':List Box}[h:aDj Q (aC2 T lo rs ret H')](hc:(outR (Go.UK.adv T im [] n.n k p),aJO lo (eT (Go.UK.adv T im [] n.n k p)) H' ret,aJH T rs (dH (Go.UK.adv T im [] n.n k p)) ret H')=(true,true,some (ret,H')):=by kernel_rfl):At P T im n Q p:=by
 refine At.adv (gl:=[]) k ?_;generalize Go.UK.adv T im [] n.n k p=q at *;simp only[Prod.mk.injEq] at hc;obtain⟨ks,e⟩:=aK1 hc.1;rw[e]
 exact λ_ _=>aQ9 (kQ_r (h.to _ (fin_r (by rw[<- hc.2.2];exact Prod.ext hc.2.1 rfl))))
theorem At.z(k:Nat){lo:Nat}{rs:List ResultVar}{ret:AV}{H':List Box}(hc:(aIh (Go.UK.adv T im [] n.n k p),aJO lo (eT (Go.UK.adv T im [] n.n k p)) H' ret,aJH T rs (dH (Go.UK.adv T im [] n.n k p)) ret H')=(true,true,some (ret,H')):=by kernel_rfl):At P T im n (aC2 T lo rs ret H') p:=by
 refine At.adv (gl:=[]) k ?_;generalize Go.UK.adv T im [] n.n k p=q at *;simp only[Prod.mk.injEq] at hc;rw[wD hc.1]
 exact λ_ _=>fin_n (by rw[<- hc.2.2];exact Prod.ext hc.2.1 rfl)
theorem At.fn(im:Nat->Bool)(hT:TOK P T)(hmo:P.follows .mixedOrders=true){f:FuncId}{fn:Func}{c:Code}{rs:List ResultVar}{args:List AV}{ret:AV}{H H':List Box}{m lo:Nat}(hf:P.funcs[f]? = some fn)(hb:fn.body=some c)(hres:fn.results=rs.toArray)
  {π:Prop} (e:π) (h:π->At P T im (Fr.f m lo) (aC2 T lo rs ret H') (.code c [] ⟨xY 0 args,H⟩)) (hk:(b9 fn.ntmps m&&(gf args.length m&&b9 lo H.length))=true:=by kernel_rfl):FnM P f H args ret H':=
 aGf hT hf hb hk hres (h e hT hmo)
end
end Go.UK

namespace Go.UK
open Go
set_option linter.all false
variable [bS]
section
variable {P:Program} {T:TypeId→Option TI} {im:Nat→Bool} {n:Fr} {Q:Exit→ASt→Prop} {p:Pt}
def aEb(P:Program)(n:Fr)(l:List Oper)(C:List (List Nat))(ms:List MI)(B:Env)(H0:List Box)(cs:CS):O1->Prop
 | []=>True
 | (i,x) :: r=>aCB (λH=>Big P n (qD l i) (eH C ms B i) H x H) (sE C i H0 cs)/\aEb P n l C ms B H0 cs r
section
variable {l:List Oper} {C:List (List Nat)} {ms:List MI} {B:Env} {H0:List Box} {cs:CS}
theorem aNb : ∀{o:O1},aEb P n l C ms B H0 cs o->aLD P n l C ms B o (o.map (λq=>sE C q.1 H0 cs))
 | [],_=>trivial
 | (i,x) :: r,h=>⟨h.1,aNb h.2⟩
theorem aDH{q:List Box->Prop}(h:∀H,q H):∀S,aCB q S
 | []=>trivial
 | H :: r=>⟨h H,aDH h r⟩
theorem dE0 : aEb P n l C ms B H0 cs []:=trivial
theorem dE1(i:Nat){x:AV}{r:O1}(b:∀H,Big P n (qD l i) (eH C ms B i) H x H)(h:aEb P n l C ms B H0 cs r):aEb P n l C ms B H0 cs ((i,x) :: r):=⟨aDH b _,h⟩
theorem dE2(i:Nat)(x:AV){r:O1}(b:∀H,Big P n (qD l i) (eH C ms B i) H x H)(h:aEb P n l C ms B H0 cs r):aEb P n l C ms B H0 cs ((i,x) :: r):=⟨aDH b _,h⟩
theorem dC0 : or1 P n l C ms B []:=trivial
theorem dF0 : or2 P n l C ms cs B H0 []:=trivial
def aKy(P:Program)(n:Fr)(l:List Oper)(C:List (List Nat))(ms:List MI)(B:Env)(H0:List Box)(es:ES):O2S->Prop
 | []=>True
 | (i,f) :: r=>aCB (λH=>Big P n (qD l i) (eH C ms B i) H f.x (H.set f.id f.y)) (nE C i H0 es)/\aKy P n l C ms B H0 es r
theorem aMJ{es:ES}:∀{o:O2S},aKy P n l C ms B H0 es o->aGN P n l C ms B o (o.map (λq=>nE C q.1 H0 es))
 | [],_=>trivial
 | (i,x) :: r,h=>⟨h.1,aMJ h.2⟩
theorem dS0{es:ES}:aKy P n l C ms B H0 es []:=trivial
theorem dS1{es:ES}(i:Nat)(f:OE)(S:List (List Box)){r:O2S}(b:aCB (λH=>Big P n (qD l i) (eH C ms B i) H f.x (H.set f.id f.y)) S)(h:aKy P n l C ms B H0 es r)(hs:nE C i H0 es=S:=by kernel_rfl):aKy P n l C ms B H0 es ((i,f) :: r):=⟨by rw[hs];exact b,h⟩
end
def lPt : Pt->List Oper
 | .code (.region _ arr _) _ _=>arr.toList
 | _=>[]
def aMj : Pt->Bool
 | .code (.region _ _ d) _ _=>d
 | _=>false
theorem aGb{q:Pt}(h:aMj q=true):∃id arr ks st,q = .code (.region id arr true) ks st:=by
 unfold aMj at h;split at h
 ·subst h;exact⟨_,_,_,_,rfl⟩
 ·cases h
theorem dn0{q:Pt}{o1:O1}{o2:O2}(es:List (Nat×AV))
  (h1:aEb P n (lPt q) (lV (lPt q).toArray) (tA T im n.n (lPt q) (dB0 (lPt q) (dH q)) o1 o2).ms (dB0 (lPt q) (dH q)).env (dB0 (lPt q) (dH q)).H (tA T im n.n (lPt q) (dB0 (lPt q) (dH q)) o1 o2).cs o1)
  (h2:or2 P n (lPt q) (lV (lPt q).toArray) (tA T im n.n (lPt q) (dB0 (lPt q) (dH q)) o1 o2).ms (tA T im n.n (lPt q) (dB0 (lPt q) (dH q)) o1 o2).cs (dB0 (lPt q) (dH q)).env (dB0 (lPt q) (dH q)).H o2)
  (h:At P T im n Q (yR (aGz q) (nmS es (dSt T im n.n (lPt q) (dB0 (lPt q) (dH q)) o1 o2))))
  (hB:aIL (lPt q) (lV (lPt q).toArray) (tA T im n.n (lPt q) (dB0 (lPt q) (dH q)) o1 o2) (dB0 (lPt q) (dH q)) o1 o2=true)
  (hE:aIJ T im n.n (lPt q) (lV (lPt q).toArray) (tA T im n.n (lPt q) (dB0 (lPt q) (dH q)) o1 o2) (dB0 (lPt q) (dH q)) o1 o2=aHw (lPt q) (lV (lPt q).toArray) (tA T im n.n (lPt q) (dB0 (lPt q) (dH q)) o1 o2) (dB0 (lPt q) (dH q)) o1 o2)
  (hd:(lPt q).all (λo=>dOK n.n o.dst)=true) (hi:aMj q=true) (hn:nmL es (dSt T im n.n (lPt q) (dB0 (lPt q) (dH q)) o1 o2)=nmR es):At P T im n Q q:=by
 obtain⟨id,arr,ks,st,rfl⟩:=aGb hi;intro hT hm;exact aK8 (l:=arr.toList) hT hm im o1 _ o2 hB hE hd rfl (aNb h1) h2 es hn (At.popN hT hm h)
theorem At.d{π:Prop}(k:Nat){o1:O1}{o2:O2}
  (h1:aEb P n (lPt (Go.UK.adv T im [] n.n k p)) (lV (lPt (Go.UK.adv T im [] n.n k p)).toArray) (tA T im n.n (lPt (Go.UK.adv T im [] n.n k p)) (dB0 (lPt (Go.UK.adv T im [] n.n k p)) (dH (Go.UK.adv T im [] n.n k p))) o1 o2).ms (dB0 (lPt (Go.UK.adv T im [] n.n k p)) (dH (Go.UK.adv T im [] n.n k p))).env (dB0 (lPt (Go.UK.adv T im [] n.n k p)) (dH (Go.UK.adv T im [] n.n k p))).H (tA T im n.n (lPt (Go.UK.adv T im [] n.n k p)) (dB0 (lPt (Go.UK.adv T im [] n.n k p)) (dH (Go.UK.adv T im [] n.n k p))) o1 o2).cs o1)
  (h2:or2 P n (lPt (Go.UK.adv T im [] n.n k p)) (lV (lPt (Go.UK.adv T im [] n.n k p)).toArray) (tA T im n.n (lPt (Go.UK.adv T im [] n.n k p)) (dB0 (lPt (Go.UK.adv T im [] n.n k p)) (dH (Go.UK.adv T im [] n.n k p))) o1 o2).ms (tA T im n.n (lPt (Go.UK.adv T im [] n.n k p)) (dB0 (lPt (Go.UK.adv T im [] n.n k p)) (dH (Go.UK.adv T im [] n.n k p))) o1 o2).cs (dB0 (lPt (Go.UK.adv T im [] n.n k p)) (dH (Go.UK.adv T im [] n.n k p))).env (dB0 (lPt (Go.UK.adv T im [] n.n k p)) (dH (Go.UK.adv T im [] n.n k p))).H o2)
  (h:π->At P T im n Q (Go.UK.yR (aGz (Go.UK.adv T im [] n.n k p)) (dSt T im n.n (lPt (Go.UK.adv T im [] n.n k p)) (dB0 (lPt (Go.UK.adv T im [] n.n k p)) (dH (Go.UK.adv T im [] n.n k p))) o1 o2)))
  (hB:aIL (lPt (Go.UK.adv T im [] n.n k p)) (lV (lPt (Go.UK.adv T im [] n.n k p)).toArray) (tA T im n.n (lPt (Go.UK.adv T im [] n.n k p)) (dB0 (lPt (Go.UK.adv T im [] n.n k p)) (dH (Go.UK.adv T im [] n.n k p))) o1 o2) (dB0 (lPt (Go.UK.adv T im [] n.n k p)) (dH (Go.UK.adv T im [] n.n k p))) o1 o2=true:=by kernel_rfl)
  (hE:aIJ T im n.n (lPt (Go.UK.adv T im [] n.n k p)) (lV (lPt (Go.UK.adv T im [] n.n k p)).toArray) (tA T im n.n (lPt (Go.UK.adv T im [] n.n k p)) (dB0 (lPt (Go.UK.adv T im [] n.n k p)) (dH (Go.UK.adv T im [] n.n k p))) o1 o2) (dB0 (lPt (Go.UK.adv T im [] n.n k p)) (dH (Go.UK.adv T im [] n.n k p))) o1 o2=aHw (lPt (Go.UK.adv T im [] n.n k p)) (lV (lPt (Go.UK.adv T im [] n.n k p)).toArray) (tA T im n.n (lPt (Go.UK.adv T im [] n.n k p)) (dB0 (lPt (Go.UK.adv T im [] n.n k p)) (dH (Go.UK.adv T im [] n.n k p))) o1 o2) (dB0 (lPt (Go.UK.adv T im [] n.n k p)) (dH (Go.UK.adv T im [] n.n k p))) o1 o2:=by kernel_rfl)
  (hd:(lPt (Go.UK.adv T im [] n.n k p)).all (λo=>dOK n.n o.dst)=true:=by kernel_rfl) (hi:aMj (Go.UK.adv T im [] n.n k p)=true:=by kernel_rfl) (e0:π):At P T im n Q p:=
 At.adv (gl:=[]) k (dn0 [] h1 h2 (h e0) hB hE hd hi rfl)
theorem At.d2{π:Prop}(k:Nat)(m:List Bool){o1:O1}{o2:O2S}
  (h1:or1 P n (lPt (Go.UK.adv T im [] n.n k p)) (lV (lPt (Go.UK.adv T im [] n.n k p)).toArray) (sM T im n.n (lPt (Go.UK.adv T im [] n.n k p)) (dB0 (lPt (Go.UK.adv T im [] n.n k p)) ⟨nW (Go.UK.adv T im [] n.n k p),eT (Go.UK.adv T im [] n.n k p)++rV m⟩) o1 o2).ms (dB0 (lPt (Go.UK.adv T im [] n.n k p)) ⟨nW (Go.UK.adv T im [] n.n k p),eT (Go.UK.adv T im [] n.n k p)++rV m⟩).env o1)
  (h2:aKy P n (lPt (Go.UK.adv T im [] n.n k p)) (lV (lPt (Go.UK.adv T im [] n.n k p)).toArray) (sM T im n.n (lPt (Go.UK.adv T im [] n.n k p)) (dB0 (lPt (Go.UK.adv T im [] n.n k p)) ⟨nW (Go.UK.adv T im [] n.n k p),eT (Go.UK.adv T im [] n.n k p)++rV m⟩) o1 o2).ms (dB0 (lPt (Go.UK.adv T im [] n.n k p)) ⟨nW (Go.UK.adv T im [] n.n k p),eT (Go.UK.adv T im [] n.n k p)++rV m⟩).env (dB0 (lPt (Go.UK.adv T im [] n.n k p)) ⟨nW (Go.UK.adv T im [] n.n k p),eT (Go.UK.adv T im [] n.n k p)++rV m⟩).H (sM T im n.n (lPt (Go.UK.adv T im [] n.n k p)) (dB0 (lPt (Go.UK.adv T im [] n.n k p)) ⟨nW (Go.UK.adv T im [] n.n k p),eT (Go.UK.adv T im [] n.n k p)++rV m⟩) o1 o2).es o2)
  (h:π->At P T im n Q (Go.UK.yR (aGz (Go.UK.adv T im [] n.n k p)) (aLF T im n.n (lPt (Go.UK.adv T im [] n.n k p)) (dB0 (lPt (Go.UK.adv T im [] n.n k p)) ⟨nW (Go.UK.adv T im [] n.n k p),eT (Go.UK.adv T im [] n.n k p)++rV m⟩) o1 o2)))
  (hB:aGq (lPt (Go.UK.adv T im [] n.n k p)) (lV (lPt (Go.UK.adv T im [] n.n k p)).toArray) (sM T im n.n (lPt (Go.UK.adv T im [] n.n k p)) (dB0 (lPt (Go.UK.adv T im [] n.n k p)) ⟨nW (Go.UK.adv T im [] n.n k p),eT (Go.UK.adv T im [] n.n k p)++rV m⟩) o1 o2) (dB0 (lPt (Go.UK.adv T im [] n.n k p)) ⟨nW (Go.UK.adv T im [] n.n k p),eT (Go.UK.adv T im [] n.n k p)++rV m⟩) o1 o2=true:=by kernel_rfl)
  (hE:aHR T im n.n (lPt (Go.UK.adv T im [] n.n k p)) (lV (lPt (Go.UK.adv T im [] n.n k p)).toArray) (sM T im n.n (lPt (Go.UK.adv T im [] n.n k p)) (dB0 (lPt (Go.UK.adv T im [] n.n k p)) ⟨nW (Go.UK.adv T im [] n.n k p),eT (Go.UK.adv T im [] n.n k p)++rV m⟩) o1 o2) (dB0 (lPt (Go.UK.adv T im [] n.n k p)) ⟨nW (Go.UK.adv T im [] n.n k p),eT (Go.UK.adv T im [] n.n k p)++rV m⟩) o1 o2=aHX (lPt (Go.UK.adv T im [] n.n k p)) (lV (lPt (Go.UK.adv T im [] n.n k p)).toArray) (sM T im n.n (lPt (Go.UK.adv T im [] n.n k p)) (dB0 (lPt (Go.UK.adv T im [] n.n k p)) ⟨nW (Go.UK.adv T im [] n.n k p),eT (Go.UK.adv T im [] n.n k p)++rV m⟩) o1 o2) (dB0 (lPt (Go.UK.adv T im [] n.n k p)) ⟨nW (Go.UK.adv T im [] n.n k p),eT (Go.UK.adv T im [] n.n k p)++rV m⟩) o1 o2:=by kernel_rfl)
  (hd:(lPt (Go.UK.adv T im [] n.n k p)).all (λo=>dOK n.n o.dst)=true:=by kernel_rfl) (hi:aMj (Go.UK.adv T im [] n.n k p)=true:=by kernel_rfl) (e0:π):At P T im n Q p:=by
 have h:=h e0;refine At.adv (gl:=[]) k ?_;generalize Go.UK.adv T im [] n.n k p=q at *;obtain⟨id,arr,ks,st,rfl⟩:=aGb hi;intro hT hm;exact aK3 (l:=arr.toList) hT hm im m o1 o2 _ hB hE hd h1 rfl (aMJ h2) [] rfl (At.popN hT hm h)
end
end Go.UK

