/- The own layer: abstract values, their memory, and the steps of the model over them: for any program. -/
import Derived.Test.YtghnafefpogjjaaGreatLib11
import Derived.Shelf.SlMaps.Clone
namespace Go.UK
open Go
set_option linter.all false
variable [cI]
section
variable {P:Program} {T:TypeId→Option TI} {n:Fr}
def aIc (P:Program) (n:Fr) (l:List Oper) (C:List (List Nat)) (ms:List MI) (B:Env):O2S→List (List (List Box))→Prop
 | (i,f) :: r,S :: R=>aC7 (fun H=>Big P n (pG l i) (eM C ms B i) H f.x (H.set f.id f.y)) S∧aIc P n l C ms B r R
 | _,_=>True
theorem aGR {l:List Oper} {C:List (List Nat)} {ms:List MI} {B:Env} {H0:List Box} {es:ES}:∀ {o:O2S} {sts:List (List (List Box))} {i:Nat} {f:OE},aIc P n l C ms B o sts→o.map (fun q=>nH C q.1 H0 es)=sts→nJ o i=some f→∀ {H},H∈nH C i H0 es→Big P n (pG l i) (eM C ms B i) H f.x (H.set f.id f.y)
 | [],_,i,x,_,_,h,_,_=>by simp [nJ] at h
 | (j,y) :: r,sts,i,x,ho,hs,h,H,hH=>by
  subst hs
  simp only [List.map_cons,aIc] at ho
  unfold nJ at h
  cases hb:Nat.beq j i with
  | true=>
   rw [hb] at h
   have e:=Nat.eq_of_beq_eq_true hb
   subst e
   cases h
   exact aDk ho.1 H hH
  | false=>rw [hb] at h;exact aGR ho.2 rfl h hH
theorem aNn (hT:TOK P T) (hm:P.follows .mixedOrders=true) (im:Nat→Bool) (o1:O1) (o2:O2S) (sts:List (List (List Box))) {id:Nat} {l:List Oper} {Q:Exit→ASt→Prop} {st:ASt}
  (hB:aJw l (lQ l.toArray) (uM T im n.n l st o1 o2) st o1 o2=true)
  (hE:aJp T im n.n l (lQ l.toArray) (uM T im n.n l st o1 o2) st o1 o2=aJN l (lQ l.toArray) (uM T im n.n l st o1 o2) st o1 o2)
  (hdst:l.all (fun o=>dOK n.n o.dst)=true)
  (h1:or1 P n l (lQ l.toArray) (uM T im n.n l st o1 o2).ms st.env o1)
  (hst:o2.map (fun q=>nH (lQ l.toArray) q.1 st.H (uM T im n.n l st o1 o2).es)=sts)
  (h2:aIc P n l (lQ l.toArray) (uM T im n.n l st o1 o2).ms st.env o2 sts)
  (hk:Q .normal (aNw T im n.n l st o1 o2)):aw P n (.region id l.toArray true) Q st:=by
 unfold aNw at hk
 unfold aJw at hB
 unfold aJp aJN at hE
 generalize uM T im n.n l st o1 o2=s at *
 obtain ⟨ms,es,Hx⟩:=s
 dsimp only at *
 simp only [Bool.and_eq_true] at hB
 refine aN8 hm hB.1 (fun i hi=>?_) hk
 have hdb:=iZ hB.2 i hi
 have hde:=aD1 hE hi
 intro o x env ho hx hs H' hH'
 have hlo:l[i]? = some o:=by simpa using ho
 have ho':pG l i=o:=by unfold pG;rw [hlo];rfl
 have hdo:dOK n.n o.dst=true:=List.all_eq_true.1 hdst o (List.mem_of_getElem? hlo)
 have hxd:x.d=o.dst:=by
  simp only [aBY,Bool.and_eq_true] at hB
  have:=iZ hB.1.2.2.1 i hi
  rw [ho] at this
  simp only [Option.bind_some,dAt,hx] at this
  generalize o.dst=u at *
  generalize x.d=v at *
  cases u <;> cases v <;> simp [dEq] at this ⊢
  exact this.symm
 have hex:eAt ms i=x.e:=by unfold eAt;rw [hx]
 unfold dBS at hdb
 unfold dLS dRS at hde
 simp only [ho',hex] at hdb hde
 have fin:∀ (v:AV) (H1 H2:List Box),x.e=some v→gOK l.toArray o (eM (lQ l.toArray) ms st.env i)=true→Big P n o (eM (lQ l.toArray) ms st.env i) H1 v H2 →
   opS P n l.toArray o ⟨env,H1⟩ ⟨match x.d with | some d=>(match x.e with | some v=>env.set d (none,v) | none=>env.del d) | none=>env,H2⟩:=by
  intro v H1 H2 hv hg hb
  have:=aM7 hs hg hb
  rw [hv,hxd]
  cases hd:o.dst with
  | none=>rw [hd] at this;exact this
  | some d=>rw [hd] at this;exact this
 cases hdead:aB0 l o (eM (lQ l.toArray) ms st.env i) with
 | true=>
  rw [hdead] at hdb hde
  simp only [Bool.and_eq_true] at hdb
  have hnc:uN i es=none:=by cases hc:uN i es with | none=>rfl | some _=>rw [hc] at hdb;cases hdb.2
  have hne:x.e=some (.tup []):=aDw hdb.1
  rw [hnc]
  have:=aLF (P:=P) (n:=n) (H:=H') ho hs hdead hdo
  rw [hne,hxd]
  exact this
 | false=>
  rw [hdead] at hdb hde
  simp only [Bool.and_eq_true] at hdb
  obtain ⟨hg,hsome,hdb⟩:=hdb
  obtain ⟨v,hv⟩:∃ v,x.e=some v:=by cases hc:x.e with | none=>rw [hc] at hsome;cases hsome | some v=>exact ⟨v,rfl⟩
  rw [hv] at hde
  cases hl1:nJ o1 i with
  | some y=>
   rw [hl1] at hdb hde
   simp only [List.cons.injEq,Option.some.injEq,Prod.mk.injEq,and_true,Option.getD_some] at hde
   have hnc:uN i es=none:=by cases hc:uN i es with | none=>rfl | some _=>rw [hc] at hdb;cases hdb
   rw [hnc]
   have hb:=aKX h1 hl1 H'
   rw [ho',hde] at hb
   exact fin v H' H' hv hg hb
  | none=>
   rw [hl1] at hdb hde
   cases hl2:nJ o2 i with
   | some f=>
    rw [hl2] at hdb hde
    dsimp only at hdb hde
    simp only [List.cons.injEq,Option.some.injEq,Prod.mk.injEq,and_true,Option.getD_some] at hde
    obtain ⟨⟨e1,e2⟩,e3⟩:=hde
    have hb:=aGR h2 hst hl2 hH'
    rw [ho',e1] at hb
    unfold effY at e2
    cases hc:uN i es with
    | none=>rw [hc] at hdb;cases hdb
    | some w=>
     obtain ⟨id',y'⟩:=w
     rw [hc] at hdb e2
     dsimp only at hdb e2 ⊢
     have:=Nat.eq_of_beq_eq_true hdb
     subst this e2
     exact fin v _ _ hv hg hb
   | none=>
    rw [hl2] at hdb hde
    dsimp only at hdb hde
    obtain ⟨q,hq⟩:=List.getElem?_of_mem hH'
    have h9:=congrArg (fun l=>l[q]?) hde
    simp only [List.getElem?_map,hq,Option.map_some,Option.some.injEq,Option.getD_some] at h9
    exact fin v H' _ hv hg (bY hT h9)
theorem aOb {st:ASt} {ctx:Mem} {a:Act} {w:World} (h:Sat n ctx st a w):Sat n ctx ⟨st.env,st.H++[.tail 0]⟩ a w:=by
 obtain ⟨bs,hm⟩:=h
 have ext:=Ext.snoc (F:=ctx.F) hm.ok.len (eT.refl w) (.tail 0) none (by intro b e;cases e)
 have ok:=OK.snoc hm.ok (eT.refl w) (x := .tail 0) (o:=none) (by intro b e;cases e) (by intro b e;cases e)
 exact ⟨bs++[none],{ h:=rfl,ok:=ok,ext:=hm.ext.trans ext,env:=hm.env.ext ext,size:=hm.size,low:=hm.low,defers:=uL.ext hm.ok ext hm.defers,nod:=hm.nod,outs:=fun p hp=>(hm.outs p hp).ext ext }⟩
def tV : List Bool→List Box
 | []=>[]
 | true :: r => .tail 0 :: tV r
 | false :: r => .dead :: tV r
theorem aGJ : ∀ (m:List Bool) {st:ASt} {ctx:Mem} {a:Act} {w:World},Sat n ctx st a w→Sat n ctx ⟨st.env,st.H++tV m⟩ a w
 | [],st,ctx,a,w,h=>by simpa [tV] using h
 | true :: r,st,ctx,a,w,h=>by
  have:=aGJ r (aOb h)
  simpa [tV] using this
 | false :: r,st,ctx,a,w,h=>by
  have h1:=aLH h 1
  have:=aGJ r h1
  simpa [tV] using this
theorem aNX (hT:TOK P T) (hm:P.follows .mixedOrders=true) (im:Nat→Bool) (m:List Bool) (o1:O1) (o2:O2S) (sts:List (List (List Box))) {id:Nat} {l:List Oper} {Q:Exit→ASt→Prop} {st:ASt}
  (hB:aJw l (lQ l.toArray) (uM T im n.n l (dB0 l ⟨st.env,st.H++tV m⟩) o1 o2) (dB0 l ⟨st.env,st.H++tV m⟩) o1 o2=true)
  (hE:aJp T im n.n l (lQ l.toArray) (uM T im n.n l (dB0 l ⟨st.env,st.H++tV m⟩) o1 o2) (dB0 l ⟨st.env,st.H++tV m⟩) o1 o2=aJN l (lQ l.toArray) (uM T im n.n l (dB0 l ⟨st.env,st.H++tV m⟩) o1 o2) (dB0 l ⟨st.env,st.H++tV m⟩) o1 o2)
  (hdst:l.all (fun o=>dOK n.n o.dst)=true)
  (h1:or1 P n l (lQ l.toArray) (uM T im n.n l (dB0 l ⟨st.env,st.H++tV m⟩) o1 o2).ms (dB0 l ⟨st.env,st.H++tV m⟩).env o1)
  (hst:o2.map (fun q=>nH (lQ l.toArray) q.1 (dB0 l ⟨st.env,st.H++tV m⟩).H (uM T im n.n l (dB0 l ⟨st.env,st.H++tV m⟩) o1 o2).es)=sts)
  (h2:aIc P n l (lQ l.toArray) (uM T im n.n l (dB0 l ⟨st.env,st.H++tV m⟩) o1 o2).ms (dB0 l ⟨st.env,st.H++tV m⟩).env o2 sts)
  (es:List (Nat×AV)) (hn:nmL es (aNw T im n.n l (dB0 l ⟨st.env,st.H++tV m⟩) o1 o2)=nmR es)
  (hk:Q .normal (nmS es (aNw T im n.n l (dB0 l ⟨st.env,st.H++tV m⟩) o1 o2))):aw P n (.region id l.toArray true) Q st:=by
 have h:=aNn (Q:=fun e s=>e = .normal∧s=aNw T im n.n l (dB0 l ⟨st.env,st.H++tV m⟩) o1 o2) (id:=id) hT hm im o1 o2 sts hB hE hdst h1 hst h2 ⟨rfl,rfl⟩
 intro ctx a w hs
 refine wpIn_mono (h ctx a w (aMh (aGJ m hs))) ?_
 rintro e a' w' ⟨s,⟨rfl,rfl⟩,h2⟩
 exact ⟨_,hk,aCs (aOm hn) h2⟩
end
end Go.UK

namespace Go.UK
open Go
set_option linter.all false
variable [cI]
section
variable {P:Program} {T:TypeId→Option TI} {n:Fr}
end
end Go.UK

namespace Go.UK
open Go Go.Proofs Go.Maps
set_option linter.all false
variable [cI]
section
variable {P:Program} {α:Type} {F:α→AV} {q:IntKind}
end
end Go.UK

namespace Go.UK
open Go
set_option linter.all false
variable [cI]
inductive Fo
 | seq (y:Code)
 | blk (id:Nat)
 | un (k:Nat) (c:Code)
 | scp
inductive Pt
 | code (c:Code) (ks:List Fo) (st:ASt)
 | ops (arr:Array Oper) (l:List Oper) (ks:List Fo) (st:ASt)
 | out (e:Exit) (st:ASt)
 | bad
def kQ (P:Program) (n:Fr) (Q:Exit→ASt→Prop):List Fo→Exit→ASt→Prop
 | []=>Q
 | .seq y :: ks=>tn (aw P n y (kQ P n Q ks)) (kQ P n Q ks)
 | .blk id :: ks=>inB id (kQ P n Q ks)
 | .scp :: ks=>ngo (kQ P n Q ks)
 | .un k c :: ks=>tn (unr P n c (kQ P n Q ks) k) (kQ P n Q ks)
def At (P:Program) (T:TypeId→Option TI) (im:Nat→Bool) (n:Fr) (Q:Exit→ASt→Prop) (p:Pt):Prop:=
 TOK P T→P.follows .mixedOrders=true→match p with
 | .code c ks st=>aw P n c (kQ P n Q ks) st
 | .ops arr l ks st=>awl P n arr l (fun s=>kQ P n Q ks .normal s) st
 | .out e st=>Q e st
 | .bad=>False
def aBF : List Fo→ASt→Pt
 | [],st => .out .normal st
 | .seq y :: ks,st => .code y ks st
 | .blk _ :: ks,st=>aBF ks st
 | .scp :: ks,st=>aBF ks st
 | .un 0 _ :: _,_ => .bad
 | .un (k+1) c :: ks,st => .code c (.un k c :: ks) st
def aLe (id:Nat):List Fo→ASt→Pt
 | [],st => .out (.exit id) st
 | .seq _ :: ks,st=>aLe id ks st
 | .un _ _ :: ks,st=>aLe id ks st
 | .scp :: ks,st=>aLe id ks st
 | .blk i :: ks,st=>match Nat.beq id i with | true=>aBF ks st | false=>aLe id ks st
def ctl : Pt→Option Pt
 | .code c ks st=>match c with
  | .seq x y=>some (.code x (.seq y :: ks) st)
  | .skip=>some (aBF ks st)
  | .exit id=>some (aLe id ks st)
  | .block id c=>some (.code c (.blk id :: ks) st)
  | .scope c=>some (.code c (.scp :: ks) st)
  | .label _=>some (aBF ks st)
  | .region _ arr d=>match d with | true=>none | false=>some (.ops arr arr.toList ks st)
  | _=>none
 | .ops _ l ks st=>match l with | []=>some (aBF ks st) | _ :: _=>none
 | _=>none
def aQM : Nat→Pt→Pt
 | 0,p=>p
 | f+1,p=>match ctl p with | some q=>aQM f q | none=>p
def cnt (T:TypeId→Option TI) (im:Nat→Bool) (gl:List Nat) (m:Nat):Pt→Pt
 | .ops arr l ks st=>match l with
  | o :: l=>match step T im gl m arr o st with | some s => .ops arr l ks s | none => .bad
  | [] => .bad
 | .code c ks st=>match c with
  | .cond q x y=>match q with
   | .tmp t=>match get st.env t with
    | some (.v (.bool b))=>match b with | true => .code x ks st | false => .code y ks st
    | _ => .bad
   | .const (.bool b)=>match b with | true => .code x ks st | false => .code y ks st
   | _ => .bad
  | _ => .bad
 | _ => .bad
def adv (T:TypeId→Option TI) (im:Nat→Bool) (gl:List Nat) (m:Nat):Nat→Pt→Pt
 | 0,p=>aQM 64 p
 | k+1,p=>adv T im gl m k (cnt T im gl m (aQM 64 p))
def eN : Pt→ASt
 | .code _ _ st=>st
 | .ops _ _ _ st=>st
 | .out _ st=>st
 | .bad=>⟨[],[]⟩
def oT (p:Pt):Env:=(eN p).env
def fV (p:Pt):List Box:=(eN p).H
def aK6 : Pt→Oper
 | .ops _ (o :: _) _ _=>o
 | _=>default
def aMz : Pt→Bool
 | .ops _ (_ :: _) _ _=>true
 | _=>false
def aK7 (p:Pt) (x:AV) (H:List Box):Pt:=
 match p with
 | .ops arr (o :: l) ks st => .ops arr l ks ⟨st.env.put o.dst (none,x),H⟩
 | _ => .bad
def aJd (p:Pt) (s:ASt):Pt:=
 match p with
 | .ops arr (_ :: l) ks _ => .ops arr l ks s
 | _ => .bad
def aBB (p:Pt) (s:ASt):Pt:=
 match p with
 | .ops arr l ks _ => .ops arr l ks s
 | .code c ks _ => .code c ks s
 | _ => .bad
def aO8 : Pt→Bool
 | .ops arr (o :: _) _ st=>gOK arr o st.env
 | _=>false
def cdPt : Pt→Option AV
 | .code (.cond (.tmp t) _ _) _ st=>get st.env t
 | _=>none
def brPt (b:Bool):Pt→Pt
 | .code (.cond _ x y) ks st => .code (match b with | true=>x | false=>y) ks st
 | _ => .bad
def aM5 (d:Nat) (b:Bool) (p:Pt):Pt:=aBB p (aNO d b (eN p))
def aJk : Pt→List Fo
 | .code _ ks _=>ks
 | .ops _ _ ks _=>ks
 | _=>[]
def aFL {α:Type}:Nat→List α→List α
 | 0,_=>[]
 | _+1,[]=>[]
 | d+1,x :: r=>x :: aFL d r
def aIK {α:Type}:Nat→List α→List α
 | 0,l=>l
 | _+1,[]=>[]
 | d+1,_ :: r=>aIK d r
def aHO (d:Nat):Pt→Pt
 | .code c ks st => .code c (aFL d ks) st
 | .ops arr l ks st => .ops arr l (aFL d ks) st
 | _ => .bad
def pW (d:Nat) (p:Pt):List Fo:=aIK d (aJk p)
section
variable {P:Program} {T:TypeId→Option TI} {im:Nat→Bool} {n:Fr} {Q:Exit→ASt→Prop} {p:Pt}
theorem aHA {α:Type}:∀ (d:Nat) (l:List α),aFL d l++aIK d l=l
 | 0,l=>rfl
 | d+1,[]=>rfl
 | d+1,x :: r=>by simp [aFL,aIK,aHA d r]
theorem At.popN {ks:List Fo} {st:ASt} (hT:TOK P T) (hm:P.follows .mixedOrders=true) (h:At P T im n Q (aBF ks st)):kQ P n Q ks .normal st:=by
 induction ks with
 | nil=>exact h hT hm
 | cons f ks ih=>
  cases f with
  | seq y=>exact h hT hm
  | blk id=>exact ih h
  | scp=>exact ih h
  | un k c=>
   cases k with
   | zero=>exact (h hT hm).elim
   | succ k=>exact h hT hm
theorem At.popE {id:Nat} {ks:List Fo} {st:ASt} (hT:TOK P T) (hm:P.follows .mixedOrders=true) (h:At P T im n Q (aLe id ks st)):kQ P n Q ks (.exit id) st:=by
 induction ks with
 | nil=>exact h hT hm
 | cons f ks ih=>
  cases f with
  | seq y=>exact ih h
  | un k c=>exact ih h
  | scp=>exact ih h
  | blk i=>
   unfold Go.UK.aLe at h
   cases hb:Nat.beq id i with
   | true=>
    rw [hb] at h
    obtain rfl:=Nat.eq_of_beq_eq_true hb
    exact aPN (At.popN hT hm h)
   | false=>rw [hb] at h;exact inB_x hb (ih h)
theorem kQ_r {ks:List Fo} {st:ASt} (h:Q .ret st):kQ P n Q ks .ret st:=by
 induction ks with
 | nil=>exact h
 | cons f ks ih=>cases f <;> exact ih
theorem aOt {l:Nat} {st:ASt} {Q:Exit→ASt→Prop} (h:Q .normal st):aw P n (.label l) Q st:=fun ctx a w hs=>wpIn_label ⟨st,h,hs⟩
theorem At.ctl {q:Pt} (hc:ctl p=some q) (h:At P T im n Q q):At P T im n Q p:=by
 intro hT hm
 unfold Go.UK.ctl at hc
 split at hc
 ·rename_i c ks st
  split at hc <;> try cases hc
  ·exact aSD (h hT hm)
  ·exact aQe (At.popN hT hm h)
  ·exact aRE (At.popE hT hm h)
  ·exact aPV (h hT hm)
  ·exact aPa (h hT hm)
  ·exact aOt (At.popN hT hm h)
  ·rename_i id arr d
   split at hc <;> cases hc
   exact aOL (l:=arr.toList) (h hT hm)
 ·split at hc <;> cases hc
  exact aQ7 (At.popN hT hm h)
 ·cases hc
theorem At.norm : ∀ (f:Nat) {p:Pt},At P T im n Q (aQM f p)→At P T im n Q p
 | 0,p,h=>h
 | f+1,p,h=>by
  unfold Go.UK.aQM at h
  split at h
  ·rename_i q hq
   exact At.ctl hq (At.norm f h)
  ·exact h
theorem At.bad (h:At P T im n Q .bad):At P T im n Q p:=fun hT hm=>(h hT hm).elim
theorem At.cnt {gl:List Nat} (h:At P T im n Q (cnt T im gl n.n p)):At P T im n Q p:=by
 unfold Go.UK.cnt at h
 split at h
 ·rename_i arr l ks st
  split at h
  ·rename_i o l
   split at h
   ·rename_i s hs
    intro hT hm
    exact aMg (aPw hT hs) (h hT hm)
   ·exact At.bad h
  ·exact At.bad h
 ·rename_i c ks st
  split at h
  ·rename_i q x y
   split at h
   ·rename_i t
    split at h
    ·rename_i b hb
     intro hT hm
     refine aMW hb (fun e=>?_) (fun e=>?_) <;> (subst e;exact h hT hm)
    ·exact At.bad h
   ·rename_i b
    intro hT hm
    cases b with
    | true=>exact aKk (b:=true) (h hT hm)
    | false=>exact aKk (b:=false) (h hT hm)
   ·exact At.bad h
  ·exact At.bad h
 ·exact At.bad h
theorem At.adv {gl:List Nat}:∀ (k:Nat) {p:Pt},At P T im n Q (adv T im gl n.n k p)→At P T im n Q p
 | 0,p,h=>At.norm 64 h
 | k+1,p,h=>At.norm 64 (At.cnt (At.adv k h))
theorem At.g (gl:List Nat) (k:Nat) {π:Prop} (h:π→At P T im n Q (Go.UK.adv T im gl n.n k p)) (e:π):At P T im n Q p:=At.adv k (h e)
theorem aGV {q:Pt} (h:aMz q=true):∃ arr o l ks st,q = .ops arr (o :: l) ks st:=by
 unfold aMz at h
 split at h
 ·exact ⟨_,_,_,_,_,rfl⟩
 ·cases h
theorem aNs {q:Pt} (h:aO8 q=true):∃ arr o l ks st,q = .ops arr (o :: l) ks st∧gOK arr o st.env=true:=by
 unfold aO8 at h
 split at h
 ·exact ⟨_,_,_,_,_,rfl,h⟩
 ·cases h
theorem At.o1 {q:Pt} {x:AV} {H':List Box} (b:Big P n (aK6 q) (oT q) (fV q) x H') (hg:aO8 q=true) (h:At P T im n Q (aK7 q x H')):At P T im n Q q:=by
 obtain ⟨arr,o,l,ks,st,rfl,hg⟩:=aNs hg
 intro hT hm
 exact aRU b hg (h hT hm)
theorem At.o (k:Nat) {π:Prop} {x:AV} {H':List Box} (b:Big P n (aK6 (Go.UK.adv T im [] n.n k p)) (oT (Go.UK.adv T im [] n.n k p)) (fV (Go.UK.adv T im [] n.n k p)) x H') (h:π→At P T im n Q (aK7 (Go.UK.adv T im [] n.n k p) x H')) (hg:aO8 (Go.UK.adv T im [] n.n k p)=true:=by kernel_rfl) (e:π):At P T im n Q p:=
 At.adv k (At.o1 b hg (h e))
theorem At.b {α β:Type} {x:Option α} {f:α→Option β} {r:β} (k:Nat) {y:α→AV} {H':α→List Box}
  (b:∀ a,x=some a→Big P n (aK6 (Go.UK.adv T im [] n.n k p)) (oT (Go.UK.adv T im [] n.n k p)) (fV (Go.UK.adv T im [] n.n k p)) (y a) (H' a)) (h:∀ a,f a=some r→At P T im n Q (aK7 (Go.UK.adv T im [] n.n k p) (y a) (H' a))) (hg:aO8 (Go.UK.adv T im [] n.n k p)=true:=by kernel_rfl) (e:Option.bind x f=some r):At P T im n Q p:=by
 obtain ⟨a,e1,e2⟩:=aFI e
 exact At.o k (b a e1) (h a) hg e2
theorem At.c {α:Type} {b:Bool} {px py:Option α} {r:α} (k:Nat) (h1:px=some r→At P T im n Q (brPt true (Go.UK.adv T im [] n.n k p))) (h2:py=some r→At P T im n Q (brPt false (Go.UK.adv T im [] n.n k p)))
  (hb:cdPt (Go.UK.adv T im [] n.n k p)=some (.v (.bool b)):=by kernel_rfl) (e:cond b px py=some r):At P T im n Q p:=by
 refine At.adv (gl:=[]) k ?_
 generalize Go.UK.adv T im [] n.n k p=q at *
 unfold cdPt at hb
 split at hb
 ·intro hT hm
  refine aMW hb (fun e'=>?_) (fun e'=>?_)
  ·subst e';exact h1 e hT hm
  ·subst e';exact h2 e hT hm
 ·cases hb
theorem At.s {α:Type} {b:Bool} {px py:Option α} {r:α} (d k:Nat) (h1:px=some r→At P T im n Q (aM5 d true (Go.UK.adv T im [] n.n k p))) (h2:py=some r→At P T im n Q (aM5 d false (Go.UK.adv T im [] n.n k p)))
  (hb:(aMz (Go.UK.adv T im [] n.n k p),get (oT (Go.UK.adv T im [] n.n k p)) d)=(true,some (.v (.bool b))):=by kernel_rfl) (e:cond b px py=some r):At P T im n Q p:=by
 refine At.adv (gl:=[]) k ?_
 generalize Go.UK.adv T im [] n.n k p=q at *
 simp only [Prod.mk.injEq] at hb
 obtain ⟨hi,hb⟩:=hb
 obtain ⟨arr,o,l,ks,st,rfl⟩:=aGV hi
 intro hT hm
 exact aNe d e hb (fun e=>h1 e hT hm) (fun e=>h2 e hT hm)
theorem rt {α:Type} {a r:α} {p:α→Prop} (h:p a) (e:some a=some r):p r:=by cases e;exact h
theorem nn {α:Type} {r:α} {p:Prop} (e:none=some r):p:=by cases e
theorem bi {α β:Type} {x:Option α} {f:α→Option β} {r:β} {p:Prop} (h:∀ a,x=some a→f a=some r→p) (e:Option.bind x f=some r):p:=by obtain ⟨a,e1,e2⟩:=aFI e;exact h a e1 e2
theorem boI {α:Type} {b:Bool} {px py:Option α} {r:α} {p:Prop} (h1:b=true→px=some r→p) (h2:b=false→py=some r→p) (e:cond b px py=some r):p:=boolH e h1 h2
theorem lx {α β:Type} {e:α} {f:α→β} {r:β} {p:Prop} (k:let x:=e;f x=r→p) (h:aT e f=r):p:=k h
theorem sumI {α β γ:Type} {o:Option (Sum α β)} {F:α→Option γ} {G:β→Option γ} {r:γ} {p:Prop} (h1:∀ a,o=some (Sum.inl a)→F a=some r→p) (h2:∀ b,o=some (Sum.inr b)→G b=some r→p) (h:Option.bind o (fun x=>nS x F G)=some r):p:=by
 obtain ⟨x,e,h⟩:=aFI h
 cases x with
 | inl a=>exact h1 a e h
 | inr b=>exact h2 b e h
theorem sumK {α β γ:Type} {o:Sum α β} {F:α→Option γ} {G:β→Option γ} {r:γ} {p:Prop} (h1:∀ a,o=Sum.inl a→F a=some r→p) (h2:∀ b,o=Sum.inr b→G b=some r→p) (h:nS o F G=some r):p:=by
 cases o with
 | inl a=>exact h1 a rfl h
 | inr b=>exact h2 b rfl h
def aFn {α β γ:Type} (o:Sum α β) (F:α→γ) (G:β→γ):γ:=match o with | .inl a=>F a | .inr b=>G b
theorem At.t0 {q:Pt} {s:ASt} (hs:∀ {ctx:Mem} {a:Act} {w:World},Sat n ctx (eN q) a w→Sat n ctx s a w) (h:At P T im n Q (aBB q s)):At P T im n Q q:=by
 intro hT hm
 cases q with
 | code c ks st=>exact fun ctx a w hx=>h hT hm ctx a w (hs hx)
 | ops arr l ks st=>exact fun ctx a w hx=>h hT hm ctx a w (hs hx)
 | out e st=>exact (h hT hm).elim
 | bad=>exact (h hT hm).elim
theorem At.t (k:Nat) {π:Prop} {s:ASt} (hs:∀ {ctx:Mem} {a:Act} {w:World},Sat n ctx (eN (Go.UK.adv T im [] n.n k p)) a w→Sat n ctx s a w) (h:π→At P T im n Q (aBB (Go.UK.adv T im [] n.n k p) s)) (e:π):At P T im n Q p:=At.adv k (At.t0 hs (h e))
theorem At.ownn {π:Prop} (k s z:Nat) (h:π→At P T im n Q (aBB (Go.UK.adv T im [] n.n k p) (aOv s z (eN (Go.UK.adv T im [] n.n k p))))) (hg:aLW (eN (Go.UK.adv T im [] n.n k p)) s=true:=by kernel_rfl) (e0:π):At P T im n Q p:=At.t k (fun hx=>aKA hg hx) h e0
theorem At.grob {π:Prop} (k b z:Nat) (l:List Nat) (h:π→At P T im n Q (aBB (Go.UK.adv T im [] n.n k p) (groB b z l (eN (Go.UK.adv T im [] n.n k p))))) (e0:π):At P T im n Q p:=At.t k (fun hx=>aLB hx) h e0
theorem At.ownb {π:Prop} (k b z:Nat) (l:List Nat) (h:π→At P T im n Q (aBB (Go.UK.adv T im [] n.n k p) (ownB b z l (eN (Go.UK.adv T im [] n.n k p))))) (e0:π):At P T im n Q p:=At.t k (fun hx=>aKS hx) h e0
theorem At.gz {π:Prop} (k id:Nat) (v:AV) (h:π→At P T im n Q (aBB (Go.UK.adv T im [] n.n k p) (gzS id v (eN (Go.UK.adv T im [] n.n k p))))) (hat:gzAt id (eN (Go.UK.adv T im [] n.n k p))=some v:=by kernel_rfl) (hk:aOx n id (eN (Go.UK.adv T im [] n.n k p)) (kY id v 0 (fV (Go.UK.adv T im [] n.n k p)))=true:=by kernel_rfl) (e0:π):At P T im n Q p:=At.t k (fun hx=>aR9 hat hk hx) h e0
theorem At.fz {π:Prop} (k id z ln q:Nat) (es:List AV) (hq:es.length=q) (hln:es.length=ln) (h:π→At P T im n Q (aBB (Go.UK.adv T im [] n.n k p) (fzS id z q es (eN (Go.UK.adv T im [] n.n k p))))) (hat:fzAt id (eN (Go.UK.adv T im [] n.n k p))=some (z,es):=by kernel_rfl) (hk:aPq n id z (eN (Go.UK.adv T im [] n.n k p)) (kX id z q es 0 (fV (Go.UK.adv T im [] n.n k p)))=true:=by kernel_rfl)
  (hl:rH id (oT (Go.UK.adv T im [] n.n k p))++rI id 0 (fV (Go.UK.adv T im [] n.n k p))=List.replicate (rH id (oT (Go.UK.adv T im [] n.n k p))++rI id 0 (fV (Go.UK.adv T im [] n.n k p))).length ln:=by kernel_rfl) (e0:π):At P T im n Q p:=At.t k (fun hx=>aSE hq hat hk hln hl hx) h e0
theorem At.gl {π:Prop} (k:Nat) (ss bs:List Nat) (id m m':Nat) (e:m'=m) (h:π→At P T im n Q (aBB p (glS ss bs id m' (eN p)))) (hc:glS ss bs id m (eN p)=eN p:=by kernel_rfl) (e0:π):At P T im n Q p:=by
 subst e
 exact At.t0 (fun hx=>hx) (by have h:=h e0;rwa [hc] at h)
theorem At.to {π:Prop} (k:Nat) (t:ASt) (h:π→At P T im n Q (aBB (Go.UK.adv T im [] n.n k p) t)) (hc:(cOK n (eN (Go.UK.adv T im [] n.n k p)) t,cSt (eN (Go.UK.adv T im [] n.n k p)) t)=(true,t):=by kernel_rfl) (e0:π):At P T im n Q p:=At.t k (fun hx=>jr hc _ _ _ hx) h e0
theorem At.jr {π:Prop} {c:Code} {ks:List Fo} {s t:ASt} (hj:JR n t s) (h:π→At P T im n Q (.code c ks t)) (e:π):At P T im n Q (.code c ks s):=fun hT hm=>aw_jr hj (h e hT hm)
theorem At.q {π:Prop} (hT0:TOK P T) (k:Nat) {d t e z sz b1:Nat} {z0 x:AV} {es:List AV} (ht:T t=some ⟨sz,b1,z0,.sl e⟩)
  (h1:π→At P T im n Q (aJd (Go.UK.adv T im [] n.n k p) ⟨(oT (Go.UK.adv T im [] n.n k p)).set d (none,.v (.bool false)),fV (Go.UK.adv T im [] n.n k p)⟩)) (h2:es=[]→π→At P T im n Q (aJd (Go.UK.adv T im [] n.n k p) ⟨(oT (Go.UK.adv T im [] n.n k p)).set d (none,.v (.bool true)),fV (Go.UK.adv T im [] n.n k p)⟩))
  (hx:(aMz (Go.UK.adv T im [] n.n k p),(aK6 (Go.UK.adv T im [] n.n k p)).guard,(aK6 (Go.UK.adv T im [] n.n k p)).dst,Nat.ble n.n d,eqE (aK6 (Go.UK.adv T im [] n.n k p)) (oT (Go.UK.adv T im [] n.n k p)) .eql,uU x)
   = (true,none,some d,false,some (t,x,.v (.slice none 0 0)),some (z,es)):=by kernel_rfl) (e0:π):At P T im n Q p:=by
 have h1:=h1 e0
 refine At.adv (gl:=[]) k ?_
 generalize Go.UK.adv T im [] n.n k p=q at *
 simp only [Prod.mk.injEq] at hx
 obtain ⟨h0,g1,g2,g3,g4,g5⟩:=hx
 obtain ⟨arr,o,l,ks,st,rfl⟩:=aGV h0
 intro hT hm
 exact aRF hT g1 g2 g3 ht g4 g5 (h1 hT hm) (fun e=>h2 e e0 hT hm)
def Le (n:Fr) (Q1 Q2:Exit→ASt→Prop):Prop:=∀ e s ctx a w,Q1 e s→Sat n ctx s a w→∃ s',Q2 e s'∧Sat n ctx s' a w
theorem aNH {c:Code} {st:ASt} {Q1 Q2:Exit→ASt→Prop} (hl:Le n Q1 Q2) (h:aw P n c Q1 st):aw P n c Q2 st:=by
 intro ctx a w hs
 refine wpIn_mono (h ctx a w hs) ?_
 rintro e a' w' ⟨s,h1,h2⟩
 exact hl e s _ _ _ h1 h2
theorem aS3 {ops:Array Oper} {l:List Oper} {st:ASt} {K1 K2:ASt→Prop} (hl:∀ s ctx a w,K1 s→Sat n ctx s a w→∃ s',K2 s'∧Sat n ctx s' a w) (h:awl P n ops l K1 st):awl P n ops l K2 st:=by
 intro ctx a w hs
 refine zS ?_ _ _ _ (h ctx a w hs)
 rintro e a' w' ⟨rfl,s,h1,h2⟩
 exact ⟨rfl,hl s _ _ _ h1 h2⟩
theorem aOZ {c:Code} {Q1 Q2:Exit→ASt→Prop} (hl:Le n Q1 Q2):∀ (k:Nat) (s:ASt),unr P n c Q1 k s→unr P n c Q2 k s
 | 0,s,h=>h
 | k+1,s,h=>by
  refine aNH (Q1:=tn (unr P n c Q1 k) Q1) ?_ h
  intro e s ctx a w h1 h2
  cases e with
  | normal=>exact ⟨s,aOZ hl k s h1,h2⟩
  | _=>exact hl _ s ctx a w h1 h2
theorem aC4 {Q1 Q2:Exit→ASt→Prop} (hl:Le n Q1 Q2):∀ (ks:List Fo),Le n (kQ P n Q1 ks) (kQ P n Q2 ks)
 | []=>hl
 | .seq y :: ks=>by
  intro e s ctx a w h1 h2
  cases e with
  | normal=>exact ⟨s,aNH (aC4 hl ks) h1,h2⟩
  | _=>exact aC4 hl ks _ s ctx a w h1 h2
 | .blk id :: ks=>by
  intro e s ctx a w h1 h2
  cases e with
  | exit i=>
   unfold kQ at h1 ⊢
   simp only [inB] at h1 ⊢
   split
   ·rename_i hi;rw [if_pos hi] at h1;exact aC4 hl ks _ s ctx a w h1 h2
   ·rename_i hi;rw [if_neg hi] at h1;exact aC4 hl ks _ s ctx a w h1 h2
  | _=>exact aC4 hl ks _ s ctx a w h1 h2
 | .un k c :: ks=>by
  intro e s ctx a w h1 h2
  cases e with
  | normal=>exact ⟨s,aOZ (aC4 hl ks) k s h1,h2⟩
  | _=>exact aC4 hl ks _ s ctx a w h1 h2
 | .scp :: ks=>by
  intro e s ctx a w h1 h2
  cases e with
  | goto l=>exact h1.elim
  | _=>exact aC4 hl ks _ s ctx a w h1 h2
theorem aEs : ∀ (a b:List Fo),kQ P n (kQ P n Q b) a=kQ P n Q (a++b)
 | [],b=>rfl
 | .seq y :: a,b=>by simp only [kQ,List.cons_append,aEs a b]
 | .blk i :: a,b=>by simp only [kQ,List.cons_append,aEs a b]
 | .un k c :: a,b=>by simp only [kQ,List.cons_append,aEs a b]
 | .scp :: a,b=>by simp only [kQ,List.cons_append,aEs a b]
theorem At.cut {q:Pt} {Q1:Exit→ASt→Prop} (d:Nat) (hl:Le n Q1 (kQ P n Q (pW d q))) (h:At P T im n Q1 (aHO d q)):At P T im n Q q:=by
 intro hT hm
 cases q with
 | code c ks st=>
  have h:=h hT hm
  unfold pW aJk at hl
  have e:kQ P n Q ks=kQ P n (kQ P n Q (aIK d ks)) (aFL d ks):=by rw [aEs,aHA]
  show aw P n c (kQ P n Q ks) st
  rw [e]
  exact aNH (aC4 hl _) h
 | ops arr l ks st=>
  have h:=h hT hm
  unfold pW aJk at hl
  have e:kQ P n Q ks=kQ P n (kQ P n Q (aIK d ks)) (aFL d ks):=by rw [aEs,aHA]
  show awl P n arr l (fun s=>kQ P n Q ks .normal s) st
  rw [e]
  exact aS3 (fun s ctx a w h1 h2=>aC4 hl _ .normal s ctx a w h1 h2) h
 | out e st=>exact (h hT hm).elim
 | bad=>exact (h hT hm).elim
theorem aPD {Q0:Exit→ASt→Prop} {t:ASt} (h:Q0 .normal t):Le n (tn (JR n t) Q0) Q0:=by
 intro e s ctx a w h1 h2
 cases e with
 | normal=>exact ⟨t,h,aOu h1 h2⟩
 | _=>exact ⟨s,h1,h2⟩
theorem At.j {α ρ:Type} {X:Option α} {F:α→Option ρ} {r:ρ} (k d:Nat) (t:α→ASt) (h:∀ x,X=some x→At P T im n (tn (JR n (t x)) (kQ P n Q (pW d (Go.UK.adv T im [] n.n k p)))) (aHO d (Go.UK.adv T im [] n.n k p)))
  (hy:∀ x,F x=some r→At P T im n Q (Go.UK.aBF (pW d (Go.UK.adv T im [] n.n k p)) (t x))) (e:Option.bind X F=some r):At P T im n Q p:=by
 obtain ⟨x,e1,e2⟩:=aFI e
 exact At.adv (gl:=[]) k fun hT hm=>At.cut d (aPD (At.popN hT hm (hy x e2))) (h x e1) hT hm
def JS {α β:Type} (n:Fr) (t:α→ASt) (o:Sum α β) (s:ASt):Prop:=∃ p,o=Sum.inl p∧JR n (t p) s
theorem aRe {α β ρ:Type} {Q0:Exit→ASt→Prop} {t:α→ASt} {o:Sum α β} {F:α→ρ} {G:β→ρ} {r:ρ} (g:nS o F G=r) (h:∀ x,F x=r→Q0 .normal (t x)):Le n (tn (JS n t o) Q0) Q0:=by
 intro e s ctx a w h1 h2
 cases e with
 | normal=>
  obtain ⟨x,rfl,h3⟩:=h1
  exact ⟨t x,h x g,aOu h3 h2⟩
 | _=>exact ⟨s,h1,h2⟩
theorem At.js {α β ρ:Type} {X:Option (Sum α β)} {F:α→Option ρ} {G:β→Option ρ} {r:ρ} (k d:Nat) (t:α→ASt) (h:∀ o,nS o F G=some r→X=some o→At P T im n (tn (JS n t o) (kQ P n Q (pW d (Go.UK.adv T im [] n.n k p)))) (aHO d (Go.UK.adv T im [] n.n k p)))
  (hy:∀ x,F x=some r→At P T im n Q (Go.UK.aBF (pW d (Go.UK.adv T im [] n.n k p)) (t x))) (e:Option.bind X (fun o=>nS o F G)=some r):At P T im n Q p:=by
 obtain ⟨o,e1,g⟩:=aFI e
 exact At.adv (gl:=[]) k fun hT hm=>At.cut d (aRe g (fun x hx=>At.popN hT hm (hy x hx))) (h o g e1) hT hm
def aNA : Pt→Code
 | .code (.loop c) _ _=>c
 | _ => .skip
def idPt : Pt→Nat
 | .code _ (.blk id :: _) _=>id
 | _=>0
def aOf : Pt→Bool
 | .code (.loop _) (.blk _ :: _) _=>true
 | _=>false
theorem lp0 {q:Pt} {Q1:Exit→ASt→Prop} (I:Nat→ASt→Prop) (N:Nat) (hi:aOf q=true) (h0:I N (eN q)) (hl:Le n Q1 (kQ P n Q (pW 1 q)))
  (h:∀ k s,I k s→At P T im n (tn (fun s'=>∃ m,m < k∧I m s') (inB (idPt q) Q1)) (.code (aNA q) [] s)):At P T im n Q q:=by
 intro hT hm
 unfold aOf at hi
 split at hi
 ·rename_i c id ks st
  show aw P n (.loop c) (inB id (kQ P n Q ks)) st
  have:aw P n (.loop c) (inB id Q1) st:=aQ2 I (fun k s hI=>h k s hI hT hm) N st h0
  refine aNH ?_ this
  intro e s ctx a w h1 h2
  cases e with
  | exit i=>
   simp only [inB] at h1 ⊢
   split
   ·rename_i hi;rw [if_pos hi] at h1;exact hl _ s ctx a w h1 h2
   ·rename_i hi;rw [if_neg hi] at h1;exact hl _ s ctx a w h1 h2
  | _=>exact hl _ s ctx a w h1 h2
 ·cases hi
theorem At.l {α ρ:Type} {X:Option α} {F:α→Option ρ} {r:ρ} (k:Nat) (t:α→ASt) (I:α→(ASt→ASt→Prop)→Nat→ASt→Prop) (N:Nat) (h0:∀ x,X=some x→I x (JR n) N (eN (Go.UK.adv T im [] n.n k p)))
  (h:∀ x j s,I x (JR n) j s→At P T im n (tn (fun s'=>∃ m,m < j∧I x (JR n) m s') (inB (idPt (Go.UK.adv T im [] n.n k p)) (tn (JR n (t x)) (kQ P n Q (pW 1 (Go.UK.adv T im [] n.n k p)))))) (.code (aNA (Go.UK.adv T im [] n.n k p)) [] s))
  (hy:∀ x,F x=some r→At P T im n Q (Go.UK.aBF (pW 1 (Go.UK.adv T im [] n.n k p)) (t x))) (hi:aOf (Go.UK.adv T im [] n.n k p)=true:=by kernel_rfl) (e:Option.bind X F=some r):At P T im n Q p:=by
 obtain ⟨x,e1,e2⟩:=aFI e
 exact At.adv (gl:=[]) k fun hT hm=>lp0 (I x (JR n)) N hi (h0 x e1) (aPD (At.popN hT hm (hy x e2))) (h x) hT hm
def aK0 : Pt→Bool
 | .out .normal _=>true
 | _=>false
def outR : Pt→Bool
 | .code .ret _ _=>true
 | _=>false
def outE (id:Nat):Pt→Bool
 | .out (.exit i) _=>Nat.beq i id
 | _=>false
theorem zT {q:Pt} (h:aK0 q=true):q = .out .normal (eN q):=by
 unfold aK0 at h
 split at h
 ·rfl
 ·cases h
theorem aOM {q:Pt} (h:outR q=true):∃ ks,q = .code .ret ks (eN q):=by
 unfold outR at h
 split at h
 ·exact ⟨_,rfl⟩
 ·cases h
theorem aIh {id:Nat} {q:Pt} (h:outE id q=true):q = .out (.exit id) (eN q):=by
 unfold outE at h
 split at h
 ·rw [Nat.eq_of_beq_eq_true h];rfl
 ·cases h
theorem At.jn (k:Nat) {t:ASt} (hc:(aK0 (Go.UK.adv T im [] n.n k p),cOK n (eN (Go.UK.adv T im [] n.n k p)) t,cSt (eN (Go.UK.adv T im [] n.n k p)) t)=(true,true,t):=by kernel_rfl):At P T im n (tn (JR n t) Q) p:=by
 refine At.adv (gl:=[]) k ?_
 generalize Go.UK.adv T im [] n.n k p=q at *
 simp only [Prod.mk.injEq] at hc
 rw [zT hc.1]
 exact fun _ _=>Go.UK.jr (by rw [hc.2.1,hc.2.2])
theorem At.jsn {α β:Type} (k:Nat) {t:α→ASt} {x:α} (hc:(aK0 (Go.UK.adv T im [] n.n k p),cOK n (eN (Go.UK.adv T im [] n.n k p)) (t x),cSt (eN (Go.UK.adv T im [] n.n k p)) (t x))=(true,true,t x):=by kernel_rfl):At P T im n (tn (JS n t (Sum.inl x:Sum α β)) Q) p:=by
 refine At.adv (gl:=[]) k ?_
 generalize Go.UK.adv T im [] n.n k p=q at *
 simp only [Prod.mk.injEq] at hc
 rw [zT hc.1]
 exact fun _ _=>⟨x,rfl,Go.UK.jr (by rw [hc.2.1,hc.2.2])⟩
theorem At.x (k:Nat) {K:ASt→Prop} {id:Nat} {t:ASt} (hc:(outE id (Go.UK.adv T im [] n.n k p),cOK n (eN (Go.UK.adv T im [] n.n k p)) t,cSt (eN (Go.UK.adv T im [] n.n k p)) t)=(true,true,t):=by kernel_rfl):At P T im n (tn K (inB id (tn (JR n t) Q))) p:=by
 refine At.adv (gl:=[]) k ?_
 generalize Go.UK.adv T im [] n.n k p=q at *
 simp only [Prod.mk.injEq] at hc
 rw [aIh hc.1]
 exact fun _ _=>tn_x (aPN (tn_n (Go.UK.jr (by rw [hc.2.1,hc.2.2]))))
theorem At.xs {α β:Type} (k:Nat) {K:ASt→Prop} {id:Nat} {t:α→ASt} {x:α} (hc:(outE id (Go.UK.adv T im [] n.n k p),cOK n (eN (Go.UK.adv T im [] n.n k p)) (t x),cSt (eN (Go.UK.adv T im [] n.n k p)) (t x))=(true,true,t x):=by kernel_rfl):At P T im n (tn K (inB id (tn (JS n t (Sum.inl x:Sum α β)) Q))) p:=by
 refine At.adv (gl:=[]) k ?_
 generalize Go.UK.adv T im [] n.n k p=q at *
 simp only [Prod.mk.injEq] at hc
 rw [aIh hc.1]
 exact fun _ _=>tn_x (aPN (tn_n ⟨x,rfl,Go.UK.jr (by rw [hc.2.1,hc.2.2])⟩))
theorem At.k (j:Nat) {m:Nat} {I:Nat→ASt→Prop} (h:I m (eN (Go.UK.adv T im [] n.n j p))) (hc:aK0 (Go.UK.adv T im [] n.n j p)=true:=by kernel_rfl):At P T im n (tn (fun s'=>∃ i,i < m+1∧I i s') Q) p:=by
 refine At.adv (gl:=[]) j ?_
 generalize Go.UK.adv T im [] n.n j p=q at *
 rw [zT hc]
 exact fun _ _=>⟨m,Nat.lt_succ_self m,h⟩
class aFB (Q:Exit→ASt→Prop) (Q':outParam (Exit→ASt→Prop)):Prop where
 to:∀ st,Q' .ret st→Q .ret st
instance retTo_tn {K:ASt→Prop} {Q Q':Exit→ASt→Prop} [h:aFB Q Q']:aFB (tn K Q) Q':=⟨fun st hq=>h.to st hq⟩
instance retTo_inB {id:Nat} {Q Q':Exit→ASt→Prop} [h:aFB Q Q']:aFB (inB id Q) Q':=⟨fun st hq=>h.to st hq⟩
instance retTo_kQ {Q Q':Exit→ASt→Prop} {ks:List Fo} [h:aFB Q Q']:aFB (kQ P n Q ks) Q':=⟨fun st hq=>kQ_r (h.to st hq)⟩
instance retTo_M {lo:Nat} {rs:List ResultVar} {ret:AV} {H':List Box}:aFB (aEh T lo rs ret H') (aEh T lo rs ret H'):=⟨fun _ h=>h⟩
theorem At.r (k:Nat) {lo:Nat} {rs:List ResultVar} {ret:AV} {H':List Box} [h:aFB Q (aEh T lo rs ret H')] (hc:(outR (Go.UK.adv T im [] n.n k p),aLM lo (fV (Go.UK.adv T im [] n.n k p)) H' ret,aMC T rs (eN (Go.UK.adv T im [] n.n k p)) ret H')=(true,true,some (ret,H')):=by kernel_rfl):At P T im n Q p:=by
 refine At.adv (gl:=[]) k ?_
 generalize Go.UK.adv T im [] n.n k p=q at *
 simp only [Prod.mk.injEq] at hc
 obtain ⟨ks,e⟩:=aOM hc.1
 rw [e]
 exact fun _ _=>aSm (kQ_r (h.to _ (fin_r (by rw [← hc.2.2];exact Prod.ext hc.2.1 rfl))))
theorem At.z (k:Nat) {lo:Nat} {rs:List ResultVar} {ret:AV} {H':List Box} (hc:(aK0 (Go.UK.adv T im [] n.n k p),aLM lo (fV (Go.UK.adv T im [] n.n k p)) H' ret,aMC T rs (eN (Go.UK.adv T im [] n.n k p)) ret H')=(true,true,some (ret,H')):=by kernel_rfl):At P T im n (aEh T lo rs ret H') p:=by
 refine At.adv (gl:=[]) k ?_
 generalize Go.UK.adv T im [] n.n k p=q at *
 simp only [Prod.mk.injEq] at hc
 rw [zT hc.1]
 exact fun _ _=>fin_n (by rw [← hc.2.2];exact Prod.ext hc.2.1 rfl)
theorem At.fn (im:Nat→Bool) (hT:TOK P T) (hmo:P.follows .mixedOrders=true) {f:FuncId} {fn:Func} {c:Code} {rs:List ResultVar} {args:List AV} {ret:AV} {H H':List Box} {m lo:Nat} (hf:P.funcs[f]? = some fn) (hb:fn.body=some c) (hres:fn.results=rs.toArray)
  {π:Prop} (e:π) (h:π→At P T im (Fr.f m lo) (aEh T lo rs ret H') (.code c [] ⟨aBG 0 args,H⟩)) (hk:(Nat.beq fn.ntmps m&&(Nat.ble args.length m&&Nat.beq lo H.length))=true:=by kernel_rfl):FnM P f H args ret H':=
 aIL hT hf hb hk hres (h e hT hmo)
end
end Go.UK

namespace Go.UK
open Go
set_option linter.all false
variable [cI]
section
variable {P:Program} {T:TypeId→Option TI} {im:Nat→Bool} {n:Fr} {Q:Exit→ASt→Prop} {p:Pt}
def aEb (P:Program) (n:Fr) (l:List Oper) (C:List (List Nat)) (ms:List MI) (B:Env) (H0:List Box) (cs:CS):O1→Prop
 | []=>True
 | (i,x) :: r=>aC7 (fun H=>Big P n (pG l i) (eM C ms B i) H x H) (sZ C i H0 cs)∧aEb P n l C ms B H0 cs r
section
variable {l:List Oper} {C:List (List Nat)} {ms:List MI} {B:Env} {H0:List Box} {cs:CS}
theorem aQJ : ∀ {o:O1},aEb P n l C ms B H0 cs o→aNU P n l C ms B o (o.map (fun q=>sZ C q.1 H0 cs))
 | [],_=>trivial
 | (i,x) :: r,h=>⟨h.1,aQJ h.2⟩
theorem aEa {q:List Box→Prop} (h:∀ H,q H):∀ S,aC7 q S
 | []=>trivial
 | H :: r=>⟨h H,aEa h r⟩
theorem dE0 : aEb P n l C ms B H0 cs []:=trivial
theorem dE1 (i:Nat) {x:AV} {r:O1} (b:∀ H,Big P n (pG l i) (eM C ms B i) H x H) (h:aEb P n l C ms B H0 cs r):aEb P n l C ms B H0 cs ((i,x) :: r):=⟨aEa b _,h⟩
theorem dE2 (i:Nat) (x:AV) {r:O1} (b:∀ H,Big P n (pG l i) (eM C ms B i) H x H) (h:aEb P n l C ms B H0 cs r):aEb P n l C ms B H0 cs ((i,x) :: r):=⟨aEa b _,h⟩
theorem dET (i:Nat) (x:AV) (S:List (List Box)) {r:O1} (b:aC7 (fun H=>Big P n (pG l i) (eM C ms B i) H x H) S) (h:aEb P n l C ms B H0 cs r) (hs:sZ C i H0 cs=S:=by kernel_rfl):aEb P n l C ms B H0 cs ((i,x) :: r):=⟨by rw [hs];exact b,h⟩
theorem dC0 : or1 P n l C ms B []:=trivial
theorem dC1 (i:Nat) {x:AV} {r:O1} (b:∀ H,Big P n (pG l i) (eM C ms B i) H x H) (h:or1 P n l C ms B r):or1 P n l C ms B ((i,x) :: r):=⟨b,h⟩
theorem dC2 (i:Nat) (x:AV) {r:O1} (b:∀ H,Big P n (pG l i) (eM C ms B i) H x H) (h:or1 P n l C ms B r):or1 P n l C ms B ((i,x) :: r):=⟨b,h⟩
theorem dF0 : or2 P n l C ms cs B H0 []:=trivial
def aN4 (P:Program) (n:Fr) (l:List Oper) (C:List (List Nat)) (ms:List MI) (B:Env) (H0:List Box) (es:ES):O2S→Prop
 | []=>True
 | (i,f) :: r=>aC7 (fun H=>Big P n (pG l i) (eM C ms B i) H f.x (H.set f.id f.y)) (nH C i H0 es)∧aN4 P n l C ms B H0 es r
theorem aPf {es:ES}:∀ {o:O2S},aN4 P n l C ms B H0 es o→aIc P n l C ms B o (o.map (fun q=>nH C q.1 H0 es))
 | [],_=>trivial
 | (i,x) :: r,h=>⟨h.1,aPf h.2⟩
theorem dS0 {es:ES}:aN4 P n l C ms B H0 es []:=trivial
theorem dS1 {es:ES} (i:Nat) (f:OE) (S:List (List Box)) {r:O2S} (b:aC7 (fun H=>Big P n (pG l i) (eM C ms B i) H f.x (H.set f.id f.y)) S) (h:aN4 P n l C ms B H0 es r) (hs:nH C i H0 es=S:=by kernel_rfl):aN4 P n l C ms B H0 es ((i,f) :: r):=⟨by rw [hs];exact b,h⟩
end
def lPt : Pt→List Oper
 | .code (.region _ arr _) _ _=>arr.toList
 | _=>[]
def aPP : Pt→Bool
 | .code (.region _ _ d) _ _=>d
 | _=>false
theorem aID {q:Pt} (h:aPP q=true):∃ id arr ks st,q = .code (.region id arr true) ks st:=by
 unfold aPP at h
 split at h
 ·subst h;exact ⟨_,_,_,_,rfl⟩
 ·cases h
theorem dn0 {q:Pt} {o1:O1} {o2:O2} (es:List (Nat×AV))
  (h1:aEb P n (lPt q) (lQ (lPt q).toArray) (vB T im n.n (lPt q) (dB0 (lPt q) (eN q)) o1 o2).ms (dB0 (lPt q) (eN q)).env (dB0 (lPt q) (eN q)).H (vB T im n.n (lPt q) (dB0 (lPt q) (eN q)) o1 o2).cs o1)
  (h2:or2 P n (lPt q) (lQ (lPt q).toArray) (vB T im n.n (lPt q) (dB0 (lPt q) (eN q)) o1 o2).ms (vB T im n.n (lPt q) (dB0 (lPt q) (eN q)) o1 o2).cs (dB0 (lPt q) (eN q)).env (dB0 (lPt q) (eN q)).H o2)
  (h:At P T im n Q (aBF (aJk q) (nmS es (dSt T im n.n (lPt q) (dB0 (lPt q) (eN q)) o1 o2))))
  (hB:aK3 (lPt q) (lQ (lPt q).toArray) (vB T im n.n (lPt q) (dB0 (lPt q) (eN q)) o1 o2) (dB0 (lPt q) (eN q)) o1 o2=true)
  (hE:aKG T im n.n (lPt q) (lQ (lPt q).toArray) (vB T im n.n (lPt q) (dB0 (lPt q) (eN q)) o1 o2) (dB0 (lPt q) (eN q)) o1 o2=aKV (lPt q) (lQ (lPt q).toArray) (vB T im n.n (lPt q) (dB0 (lPt q) (eN q)) o1 o2) (dB0 (lPt q) (eN q)) o1 o2)
  (hd:(lPt q).all (fun o=>dOK n.n o.dst)=true) (hi:aPP q=true) (hn:nmL es (dSt T im n.n (lPt q) (dB0 (lPt q) (eN q)) o1 o2)=nmR es):At P T im n Q q:=by
 obtain ⟨id,arr,ks,st,rfl⟩:=aID hi
 intro hT hm
 exact aOI (l:=arr.toList) hT hm im o1 _ o2 hB hE hd rfl (aQJ h1) h2 es hn (At.popN hT hm h)
theorem At.d {π:Prop} (k:Nat) {o1:O1} {o2:O2}
  (h1:aEb P n (lPt (Go.UK.adv T im [] n.n k p)) (lQ (lPt (Go.UK.adv T im [] n.n k p)).toArray) (vB T im n.n (lPt (Go.UK.adv T im [] n.n k p)) (dB0 (lPt (Go.UK.adv T im [] n.n k p)) (eN (Go.UK.adv T im [] n.n k p))) o1 o2).ms (dB0 (lPt (Go.UK.adv T im [] n.n k p)) (eN (Go.UK.adv T im [] n.n k p))).env (dB0 (lPt (Go.UK.adv T im [] n.n k p)) (eN (Go.UK.adv T im [] n.n k p))).H (vB T im n.n (lPt (Go.UK.adv T im [] n.n k p)) (dB0 (lPt (Go.UK.adv T im [] n.n k p)) (eN (Go.UK.adv T im [] n.n k p))) o1 o2).cs o1)
  (h2:or2 P n (lPt (Go.UK.adv T im [] n.n k p)) (lQ (lPt (Go.UK.adv T im [] n.n k p)).toArray) (vB T im n.n (lPt (Go.UK.adv T im [] n.n k p)) (dB0 (lPt (Go.UK.adv T im [] n.n k p)) (eN (Go.UK.adv T im [] n.n k p))) o1 o2).ms (vB T im n.n (lPt (Go.UK.adv T im [] n.n k p)) (dB0 (lPt (Go.UK.adv T im [] n.n k p)) (eN (Go.UK.adv T im [] n.n k p))) o1 o2).cs (dB0 (lPt (Go.UK.adv T im [] n.n k p)) (eN (Go.UK.adv T im [] n.n k p))).env (dB0 (lPt (Go.UK.adv T im [] n.n k p)) (eN (Go.UK.adv T im [] n.n k p))).H o2)
  (h:π→At P T im n Q (Go.UK.aBF (aJk (Go.UK.adv T im [] n.n k p)) (dSt T im n.n (lPt (Go.UK.adv T im [] n.n k p)) (dB0 (lPt (Go.UK.adv T im [] n.n k p)) (eN (Go.UK.adv T im [] n.n k p))) o1 o2)))
  (hB:aK3 (lPt (Go.UK.adv T im [] n.n k p)) (lQ (lPt (Go.UK.adv T im [] n.n k p)).toArray) (vB T im n.n (lPt (Go.UK.adv T im [] n.n k p)) (dB0 (lPt (Go.UK.adv T im [] n.n k p)) (eN (Go.UK.adv T im [] n.n k p))) o1 o2) (dB0 (lPt (Go.UK.adv T im [] n.n k p)) (eN (Go.UK.adv T im [] n.n k p))) o1 o2=true:=by kernel_rfl)
  (hE:aKG T im n.n (lPt (Go.UK.adv T im [] n.n k p)) (lQ (lPt (Go.UK.adv T im [] n.n k p)).toArray) (vB T im n.n (lPt (Go.UK.adv T im [] n.n k p)) (dB0 (lPt (Go.UK.adv T im [] n.n k p)) (eN (Go.UK.adv T im [] n.n k p))) o1 o2) (dB0 (lPt (Go.UK.adv T im [] n.n k p)) (eN (Go.UK.adv T im [] n.n k p))) o1 o2=aKV (lPt (Go.UK.adv T im [] n.n k p)) (lQ (lPt (Go.UK.adv T im [] n.n k p)).toArray) (vB T im n.n (lPt (Go.UK.adv T im [] n.n k p)) (dB0 (lPt (Go.UK.adv T im [] n.n k p)) (eN (Go.UK.adv T im [] n.n k p))) o1 o2) (dB0 (lPt (Go.UK.adv T im [] n.n k p)) (eN (Go.UK.adv T im [] n.n k p))) o1 o2:=by kernel_rfl)
  (hd:(lPt (Go.UK.adv T im [] n.n k p)).all (fun o=>dOK n.n o.dst)=true:=by kernel_rfl) (hi:aPP (Go.UK.adv T im [] n.n k p)=true:=by kernel_rfl) (e0:π):At P T im n Q p:=
 At.adv (gl:=[]) k (dn0 [] h1 h2 (h e0) hB hE hd hi rfl)
theorem At.d2 {π:Prop} (k:Nat) (m:List Bool) {o1:O1} {o2:O2S}
  (h1:or1 P n (lPt (Go.UK.adv T im [] n.n k p)) (lQ (lPt (Go.UK.adv T im [] n.n k p)).toArray) (uM T im n.n (lPt (Go.UK.adv T im [] n.n k p)) (dB0 (lPt (Go.UK.adv T im [] n.n k p)) ⟨oT (Go.UK.adv T im [] n.n k p),fV (Go.UK.adv T im [] n.n k p)++tV m⟩) o1 o2).ms (dB0 (lPt (Go.UK.adv T im [] n.n k p)) ⟨oT (Go.UK.adv T im [] n.n k p),fV (Go.UK.adv T im [] n.n k p)++tV m⟩).env o1)
  (h2:aN4 P n (lPt (Go.UK.adv T im [] n.n k p)) (lQ (lPt (Go.UK.adv T im [] n.n k p)).toArray) (uM T im n.n (lPt (Go.UK.adv T im [] n.n k p)) (dB0 (lPt (Go.UK.adv T im [] n.n k p)) ⟨oT (Go.UK.adv T im [] n.n k p),fV (Go.UK.adv T im [] n.n k p)++tV m⟩) o1 o2).ms (dB0 (lPt (Go.UK.adv T im [] n.n k p)) ⟨oT (Go.UK.adv T im [] n.n k p),fV (Go.UK.adv T im [] n.n k p)++tV m⟩).env (dB0 (lPt (Go.UK.adv T im [] n.n k p)) ⟨oT (Go.UK.adv T im [] n.n k p),fV (Go.UK.adv T im [] n.n k p)++tV m⟩).H (uM T im n.n (lPt (Go.UK.adv T im [] n.n k p)) (dB0 (lPt (Go.UK.adv T im [] n.n k p)) ⟨oT (Go.UK.adv T im [] n.n k p),fV (Go.UK.adv T im [] n.n k p)++tV m⟩) o1 o2).es o2)
  (h:π→At P T im n Q (Go.UK.aBF (aJk (Go.UK.adv T im [] n.n k p)) (aNw T im n.n (lPt (Go.UK.adv T im [] n.n k p)) (dB0 (lPt (Go.UK.adv T im [] n.n k p)) ⟨oT (Go.UK.adv T im [] n.n k p),fV (Go.UK.adv T im [] n.n k p)++tV m⟩) o1 o2)))
  (hB:aJw (lPt (Go.UK.adv T im [] n.n k p)) (lQ (lPt (Go.UK.adv T im [] n.n k p)).toArray) (uM T im n.n (lPt (Go.UK.adv T im [] n.n k p)) (dB0 (lPt (Go.UK.adv T im [] n.n k p)) ⟨oT (Go.UK.adv T im [] n.n k p),fV (Go.UK.adv T im [] n.n k p)++tV m⟩) o1 o2) (dB0 (lPt (Go.UK.adv T im [] n.n k p)) ⟨oT (Go.UK.adv T im [] n.n k p),fV (Go.UK.adv T im [] n.n k p)++tV m⟩) o1 o2=true:=by kernel_rfl)
  (hE:aJp T im n.n (lPt (Go.UK.adv T im [] n.n k p)) (lQ (lPt (Go.UK.adv T im [] n.n k p)).toArray) (uM T im n.n (lPt (Go.UK.adv T im [] n.n k p)) (dB0 (lPt (Go.UK.adv T im [] n.n k p)) ⟨oT (Go.UK.adv T im [] n.n k p),fV (Go.UK.adv T im [] n.n k p)++tV m⟩) o1 o2) (dB0 (lPt (Go.UK.adv T im [] n.n k p)) ⟨oT (Go.UK.adv T im [] n.n k p),fV (Go.UK.adv T im [] n.n k p)++tV m⟩) o1 o2=aJN (lPt (Go.UK.adv T im [] n.n k p)) (lQ (lPt (Go.UK.adv T im [] n.n k p)).toArray) (uM T im n.n (lPt (Go.UK.adv T im [] n.n k p)) (dB0 (lPt (Go.UK.adv T im [] n.n k p)) ⟨oT (Go.UK.adv T im [] n.n k p),fV (Go.UK.adv T im [] n.n k p)++tV m⟩) o1 o2) (dB0 (lPt (Go.UK.adv T im [] n.n k p)) ⟨oT (Go.UK.adv T im [] n.n k p),fV (Go.UK.adv T im [] n.n k p)++tV m⟩) o1 o2:=by kernel_rfl)
  (hd:(lPt (Go.UK.adv T im [] n.n k p)).all (fun o=>dOK n.n o.dst)=true:=by kernel_rfl) (hi:aPP (Go.UK.adv T im [] n.n k p)=true:=by kernel_rfl) (e0:π):At P T im n Q p:=by
 have h:=h e0
 refine At.adv (gl:=[]) k ?_
 generalize Go.UK.adv T im [] n.n k p=q at *
 obtain ⟨id,arr,ks,st,rfl⟩:=aID hi
 intro hT hm
 exact aNX (l:=arr.toList) hT hm im m o1 o2 _ hB hE hd h1 rfl (aPf h2) [] rfl (At.popN hT hm h)
end
end Go.UK

