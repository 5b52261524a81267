/- A part of the proof: what the functions of the program compute. -/
import Derived.Test.YtghnafefpogjjaaGreatJ2
namespace Go.UK
open Go Go.Proofs
set_option maxRecDepth 20000
set_option maxHeartbeats 2000000
set_option linter.all false
theorem aOd {a:Int} (m:Nat) (hm:m < 9223372036854775808):0≤iK .i64 a (m:Int)∧iK .i64 a (m:Int)≤(m:Int):=by
 have h1:(BitVec.ofInt 64 (m:Int)).toNat=m:=aEy m (by omega)
 have h2:(BitVec.ofInt 64 a &&& BitVec.ofInt 64 (m:Int)).toNat≤m:=by
  rw [BitVec.toNat_and,h1];exact Nat.and_le_right
 have h3:iK .i64 a (m:Int)=I64 ((BitVec.ofInt 64 a &&& BitVec.ofInt 64 (m:Int)).toNat:Int):=rfl
 rw [h3]
 generalize (BitVec.ofInt 64 a &&& BitVec.ofInt 64 (m:Int)).toNat=x at *
 rw [bV (by omega) (by omega)]
 omega
theorem keyT (N:Nat) (hN:20 < N) (a:Int):T (wF N a) (fun _=>True):=by
 unfold wF
 refine T.eq (a:=()) (by decide) ?_
 refine T.bind (P:=fun _=>True) ?_ fun v _=>?_
 ·unfold cpV
  rw [dif_pos (by decide)]
  exact T.ret trivial
 refine T.bind (T.loop0 (n:=8) (by decide) (fun _ _=>True) (F:=oJ N a) (fun k s i hi _ Q hk=>?_) (fun k s=>by rw [oJ,df (by omega),cond_false]) (by omega) trivial) fun v _=>T.ret trivial
 rw [oJ,dt (by omega),cond_true,show (8:Int)=((8:Nat):Int) from rfl,i4 (by omega),show (24:Int)=((24:Nat):Int) from rfl,ia (by omega)]
 refine T.eq (aBT .u64 (by omega)) ?_
 refine T.bind (T.inRO (by omega) (by omega)) fun _ _=>T.bind (T.vget (by omega)) fun e _=>?_
 rw [dX (by omega)]
 exact hk _ trivial
theorem aSf (N:Nat) (hN:20 < N) (p:bS) (a:Int):T (lX N p a) (fun _=>True):=by
 unfold lX
 refine T.bind (T.loop0 (n:=4) (by decide) (fun _ _=>True) (F:=iD N p) (fun k s i hi _ Q hk=>?_) (fun k s=>by rw [iD,df (by omega),cond_false]) (by omega) trivial) fun v _=>?_
 ·rw [iD,dt (by omega),cond_true,show (8:Int)=((8:Nat):Int) from rfl,i4 (by omega),show (4:Int)=((4:Nat):Int) from rfl,ia (by omega)]
  refine T.eq (aBT .u32 (by omega)) ?_
  refine T.eq (aBT .u32 (by omega)) ?_
  refine T.bind (T.inRO (by omega) (by omega)) fun _ _=>T.bind (T.vget (by omega)) fun e _=>?_
  refine T.bind (T.inRO (by omega) (by omega)) fun _ _=>T.bind (T.vget (by omega)) fun e _=>?_
  rw [dX (by omega)]
  exact hk _ trivial
 refine T.bind (keyT N hN a) fun _ _=>T.bind (aTR N hN _ _ _) fun _ _=>T.ret trivial
theorem aQk (N:Nat) (b:Vector Int 64) (a:Int):T (rD N b a) (fun _=>True):=by
 unfold rD
 have h:=aOd (a:=a) 15 (by decide)
 simp only [aR]
 generalize hx:iK .i64 a 15=x at *
 rw [show ((15:Nat):Int)=15 from rfl] at h
 rw [show I64 (4*x)=4*x from bV (by omega) (by omega),show I64 (4*x+1)=4*x+1 from bV (by omega) (by omega),show I64 (4*x+2)=4*x+2 from bV (by omega) (by omega),show I64 (4*x+3)=4*x+3 from bV (by omega) (by omega)]
 refine T.bind (T.idx (by omega) (by simp;omega)) fun _ _=>T.bind (T.idx (by omega) (by simp;omega)) fun _ _=>T.bind (T.idx (by omega) (by simp;omega)) fun _ _=>T.bind (T.idx (by omega) (by simp;omega)) fun _ _=>T.ret trivial
theorem aRg (N:Nat) (hN:20 < N) (a b:Int) (s:aB):T (fP N a b s) (fun _=>True):=by
 unfold fP
 refine T.cond (fun _=>T.ret trivial) (fun _=>?_)
 refine T.bind (P:=fun _=>True) ?_ fun p1 _=>T.bind (aQk N _ _) fun _ _=>T.ret trivial
 refine T.bind (P:=fun _=>True) (by unfold wC;simp only [aR];exact T.ret trivial) fun r2 _=>?_
 refine T.bind (P:=fun _=>True) (T.cond (fun _=>T.ret trivial) (fun _=>T.ret trivial)) fun p3 _=>?_
 refine T.cond (fun _=>T.bind (aSf N hN _ _) fun _ _=>T.ret trivial) (fun _=>T.ret trivial)
theorem T.loopG {σ ρ:Type} {n:Nat} (I:Nat→σ→Prop) (Q:ρ→Prop) {F:Nat→σ→Int→Option ρ}
  (hstep:∀ k s i,i < n→I i s→(∀ s',I (i+1) s'→T (F k s' ((i+1:Nat):Int)) Q)→T (F (k+1) s (i:Int)) Q) (hend:∀ k s,I n s→T (F (k+1) s (n:Int)) Q) :
  ∀ (k i:Nat) (s:σ),I i s→i≤n→n - i < k→T (F k s (i:Int)) Q
 | 0,i,_,_,_,h=>by omega
 | k+1,i,s,hs,hi,hk=>by
  by_cases h:i < n
  ·exact hstep k s i h hs fun s' h'=>T.loopG I Q hstep hend k (i+1) s' h' (by omega) (by omega)
  ·obtain rfl:i=n:=by omega
   exact hend _ _ hs
theorem T.loopG0 {σ ρ:Type} {n:Nat} (I:Nat→σ→Prop) (Q:ρ→Prop) {F:Nat→σ→Int→Option ρ}
  (hstep:∀ k s i,i < n→I i s→(∀ s',I (i+1) s'→T (F k s' ((i+1:Nat):Int)) Q)→T (F (k+1) s (i:Int)) Q) (hend:∀ k s,I n s→T (F (k+1) s (n:Int)) Q) {N:Nat} (hN:n < N) {s:σ} (hs:I 0 s):T (F N s 0) Q:=
 T.loopG I Q hstep hend N 0 s hs (by omega) (by omega)
theorem T.true {α:Type} {o:Option α} {P:α→Prop} (h:T o P):T o (fun _=>True):=h.mono fun _ _=>trivial
theorem aEL (N:Nat) {a b:Int} (ha:cG a) (hb:cG b):T (iI N a b) wok:=by
 obtain ⟨w,e,h,_⟩:=aKN N ha hb
 exact ⟨w,e,h⟩
theorem aMM {x y c:Int} (hx:0≤x) (hx':x < 18446744073709551616) (hy:0≤y) (hy':y < 18446744073709551616) (hc:0≤c) (hc':c≤1):T (zG x y c) (fun r=>0≤r.1∧r.1 < 18446744073709551616∧0≤r.2∧r.2≤1):=by
 unfold zG
 rw [dt hx,dt hy,dt hc,dt hc']
 exact ⟨_,rfl,by dsimp only;omega,by dsimp only;omega,by dsimp only;omega,by dsimp only;omega⟩
theorem aP1 (k:Nat) {w:aQ} {y:Int} (hw:wok w) (hy:cG y):T (pK (k+3) w y) (fun r=>wok r.1∧cG r.2.1):=by
 obtain ⟨⟨w1,w2⟩,w3,w4⟩:=hw
 unfold pK
 refine T.cond (fun _=>T.ret ⟨⟨z64,by decide,by decide⟩,z64⟩) (fun hc=>?_)
 have hy0:y≠0:=by simpa using hc
 refine T.bind (P:=fun p=>0≤p.1∧p.1 < 18446744073709551616∧0≤p.2∧p.2 < 18446744073709551616) ?_ fun p hp=>?_
 ·refine T.cond (fun _=>?_) (fun _=>T.ret ⟨aA6 _,aCX _,w3,w4⟩)
  obtain ⟨h',l',e,a1,a2,a3,a4,_⟩:=aFv (k+3) (h:=U64 w.gHi) (l:=w.gLo) (aA6 _) (aCX _) w3 w4
  exact T.eq e (T.ret ⟨a1,a2,a3,a4⟩)
 obtain ⟨p1,p2,p3,p4⟩:=hp
 refine T.eq (wsz (k+3) hy) ?_
 have hY:0 < (if y < 0 then -y else y)∧(if y < 0 then -y else y) < 18446744073709551616:=by obtain ⟨y1,y2⟩:=hy;split <;> omega
 dsimp only
 generalize (if y < 0 then -y else y)=Y at *
 obtain ⟨Y1,Y2⟩:=hY
 refine T.eq (aJg (k+3) Y1 p1 p2) ?_
 refine T.eq (aPd k Y1 Y2 (Int.emod_nonneg _ (by omega)) (Int.emod_lt_of_pos _ Y1) p3 p4) ?_
 dsimp only
 have q1:0≤p.1 / Y∧p.1 / Y < 18446744073709551616:=⟨Int.ediv_nonneg p1 (by omega),Int.lt_of_le_of_lt (Int.ediv_le_self _ p1) p2⟩
 have m1:=Int.emod_nonneg p.1 (show Y≠0 by omega)
 have m2:=Int.emod_lt_of_pos p.1 Y1
 have q2:0≤(p.1 % Y*18446744073709551616+p.2) / Y:=Int.ediv_nonneg (by omega) (by omega)
 have q3:(p.1 % Y*18446744073709551616+p.2) / Y < 18446744073709551616:=by
  rw [Int.ediv_lt_iff_lt_mul Y1]
  generalize p.1 % Y=m at *
  omega
 generalize (p.1 % Y*18446744073709551616+p.2) / Y=Q at *
 generalize (p.1 % Y*18446744073709551616+p.2) % Y=R at *
 generalize p.1 / Y=P1 at *
 refine T.bind (P:=fun p=>0≤p.1∧p.1 < 18446744073709551616∧0≤p.2.1∧p.2.1 < 18446744073709551616) ?_ fun p6 h6=>?_
 ·simp only [aR]
  refine T.cond (fun _=>?_) (fun _=>T.ret ⟨q1.1,q1.2,q2,q3⟩)
  refine T.bind (aMM q2 q3 (by decide) (by decide) (by decide) (by decide)) fun r9 h9=>T.ret ⟨aA6 _,aCX _,h9.1,h9.2.1⟩
 simp only [aR]
 refine T.bind (aRD (k+3) _ h6.1 h6.2.1 h6.2.2.1 h6.2.2.2) fun r11 h11=>?_
 refine T.cond (fun _=>T.ret ⟨⟨z64,by decide,by decide⟩,z64⟩) (fun _=>?_)
 refine T.bind (P:=fun _=>True) (T.cond (fun _=>T.ret trivial) (fun _=>T.ret trivial)) fun p12 _=>T.ret ⟨h11,cT _⟩
theorem aFy (k:Nat) {a b y:Int} (ha:cG a) (hb:cG b) (hy:cG y):T (jC (k+3) a b y) cG:=by
 unfold jC
 refine T.cond (fun _=>T.ret z64) (fun _=>?_)
 refine T.bind (aEL _ ha hb) fun r1 h1=>T.bind (aP1 k h1 hy) fun r2 h2=>T.bind (aGI _ h2.1) fun r3 h3=>?_
 refine T.cond (fun _=>T.ret h3.1) (fun _=>T.cond (fun _=>T.ret ⟨by decide,by decide⟩) (fun _=>T.ret ⟨by decide,by decide⟩))
theorem wofT (N:Nat) {a:Int} (ha:cG a):T (tR N a) wok:=by
 unfold tR
 obtain ⟨h1,h2⟩:=ha
 refine T.ret ⟨?_,aA6 _,aCX _⟩
 show -9223372036854775808≤shr .i64 a 63∧shr .i64 a 63≤9223372036854775807
 rw [aL6]
 omega
theorem aMe (N:Nat) (a b:aQ):T (sJ N a b) (fun _=>True):=by
 unfold sJ
 simp only [aR]
 refine T.cond (fun _=>T.ret trivial) (fun _=>T.bind (P:=fun _=>True) (T.cond (fun _=>T.ret trivial) (fun _=>T.ret trivial)) fun _ _=>T.cond (fun _=>T.ret trivial) (fun _=>T.ret trivial))
theorem aPv (N:Nat) (l:List aQ) (h:∀ w∈l,wok w) (hl:l.length < N) (hb:l.length < 1000000):T (uV N l) (fun r=>wok r.1):=by
 unfold uV
 have w0:wok (aQ.mk 0 0):=⟨z64,by decide,by decide⟩
 refine T.bind (T.loopG0 (n:=l.length) (fun _ s=>wok s) (fun r=>match r with | .inl s=>wok s | .inr p=>wok p.1) (F:=rJ N l) (fun k s i hi hs hk=>?_) (fun k s hs=>?_) hl w0) fun o ho=>?_
 ·rw [rJ,aR,dt (by omega),cond_true,iT,List.getElem?_eq_getElem hi,Option.bind_some]
  have he:=h _ (List.getElem_mem hi)
  refine T.bind (aMM hs.2.1 hs.2.2 he.2.1 he.2.2 (by decide) (by decide)) fun r6 h6=>T.bind (aMM (aA6 _) (aCX _) (aA6 _) (aCX _) h6.2.2.1 h6.2.2.2) fun r7 h7=>?_
  simp only [aR]
  refine T.cond (fun _=>T.ret w0) (fun _=>?_)
  rw [dX (by omega)]
  exact hk _ ⟨cT _,h6.1,h6.2.1⟩
 ·rw [rJ,aR,df (by omega),cond_false]
  exact T.ret hs
 ·cases o with
  | inl s=>exact T.ret ho
  | inr p=>exact T.ret ho
theorem aRa (N:Nat) (l:List Int) (h:∀ x∈l,cG x) (hl:l.length < N) (hb:l.length < 1000000):T (jS N l) cG:=by
 unfold jS
 refine T.bind (T.loopG0 (n:=l.length) (fun _ s=>cG s) cG (F:=nG N l) (fun k s i hi hs hk=>?_) (fun k s hs=>?_) hl z64) fun o ho=>T.ret ho
 ·rw [nG,aR,dt (by omega),cond_true,iT,List.getElem?_eq_getElem hi,Option.bind_some]
  refine T.eq (aGS hs (h _ (List.getElem_mem hi))) ?_
  rw [dX (by omega)]
  exact hk _ (dP _)
 ·rw [nG,aR,df (by omega),cond_false]
  exact T.ret hs
theorem aCr (k:Nat) (l:List aA) (h:∀ x∈l,vin x) (hl:l.length < k+3) (hb:l.length < 1000000):T (iX (k+3) l) vin:=by
 unfold iX
 refine T.bind (T.loopG0 (n:=l.length) (fun _ s=>vin s) vin (F:=kA (k+3) l) (fun k' s i hi hs hk=>?_) (fun k s hs=>?_) hl ⟨⟨by decide,by decide⟩,⟨by decide,by decide⟩,⟨by decide,by decide⟩⟩) fun o ho=>T.ret ho
 ·rw [kA,aR,dt (by omega),cond_true,iT,List.getElem?_eq_getElem hi,Option.bind_some]
  refine T.eq (aPE k hs (h _ (List.getElem_mem hi))) ?_
  rw [dX (by omega)]
  exact hk _ ⟨dP _,dP _,dP _⟩
 ·rw [kA,aR,df (by omega),cond_false]
  exact T.ret hs
theorem aQU (k:Nat) (l:List aA) (h:∀ x∈l,vin x) (hl:l.length < k+3) (hb:l.length < 1000):T (kP (k+3) l) vin:=by
 refine ⟨_,aFx k l h hl hb,?_⟩
 have:∀ (l:List aA) (a:aA),vin a→vin (l.foldl aGu a):=by
  intro l
  induction l with
  | nil=>intro a ha;exact ha
  | cons x l ih=>intro a _;exact ih _ (tG _ _)
 exact this l _ ⟨z64,z64,z64⟩
theorem aNf (k:Nat) {u v:aA} (hu:vin u) (hv:vin v):T (rL (k+4) u v) cG:=by
 unfold rL
 refine T.bind (aCr (k+1) _ (by intro x hx;simp at hx;rcases hx with rfl | rfl;exact hu;exact hv) (by simp) (by simp)) fun r hr=>?_
 refine T.bind (aRa _ _ (by intro x hx;simp at hx;rcases hx with rfl | rfl | rfl;exact hr.1;exact hr.2.1;exact hr.2.2) (by simp) (by simp)) fun r2 h2=>T.ret h2
theorem wok0 {x:Int} (h:cG x):wok (aQ.mk x 0):=⟨h,Int.le_refl _,show (0:Int) < 18446744073709551616 by decide⟩
theorem wval0 {x:Int} (h:0≤x):0≤uG (aQ.mk x 0):=by show 0≤x*18446744073709551616+0;omega
theorem aIy (N:Nat) (a:Int):T (nV N a) (fun r => -1073741824≤r∧r≤1073741824):=by
 unfold nV
 simp only [aR,uX,sK]
 exact T.ret ⟨by omega,by omega⟩
theorem aIo (k:Nat) {a b:Int} (ha:cG a) (hb:cG b):T (kD (k+3) a b) cG:=by
 unfold kD
 refine T.bind (aP1 k (w:=aQ.mk a 0) (wok0 ha) hb) fun r1 h1=>T.bind (aGI _ h1.1) fun r2 h2=>T.ret h2.1
theorem aQN {a:Int} (h:-1073741824≤a∧a≤1073741824):0≤a*a∧a*a≤1152921504606846976:=by
 have h0:a*a=(a.natAbs:Int)*(a.natAbs:Int):=by rw [← Int.natAbs_mul_self' a]
 have h1:a.natAbs≤1073741824:=by omega
 have h2:a.natAbs*a.natAbs≤1073741824*1073741824:=Nat.mul_le_mul h1 h1
 rw [h0]
 constructor
 ·exact_mod_cast Nat.zero_le _
 ·have:((a.natAbs*a.natAbs:Nat):Int)≤((1073741824*1073741824:Nat):Int):=by exact_mod_cast h2
  rw [Int.natCast_mul] at this
  exact this
theorem aAn (k:Nat) (p:aC):T (hP (k+65) p) vin:=by
 unfold hP
 refine T.bind (aIy _ _) fun r1 h1=>T.bind (aIy _ _) fun r2 h2=>T.bind (aIy _ _) fun r3 h3=>?_
 simp only [aR]
 have s1:=aQN h1
 have s2:=aQN h2
 have s3:=aQN h3
 have hx:0≤I64 (I64 (I64 (r1*r1)+I64 (r2*r2))+I64 (r3*r3))∧I64 (I64 (I64 (r1*r1)+I64 (r2*r2))+I64 (r3*r3))≤9223372036854775807:=by
  generalize r1*r1=a at *
  generalize r2*r2=b at *
  generalize r3*r3=c at *
  rw [bV (x:=a) (by omega) (by omega),bV (x:=b) (by omega) (by omega),bV (x:=c) (by omega) (by omega),bV (x:=a+b) (by omega) (by omega),bV (by omega) (by omega)]
  omega
 generalize I64 (I64 (I64 (r1*r1)+I64 (r2*r2))+I64 (r3*r3))=X at *
 obtain ⟨r,e,_⟩:=aRj k (w:=aQ.mk X 0) (wok0 ⟨by omega,hx.2⟩) (wval0 hx.1)
 refine T.eq e ?_
 refine T.cond (fun _=>T.ret ⟨z64,z64,z64⟩) (fun _=>?_)
 have c:∀ {r:Int},(-1073741824≤r∧r≤1073741824)→cG r:=fun h=>⟨by omega,by omega⟩
 refine T.bind (aIo (k+62) (c h1) (cT _)) fun _ a=>T.bind (aIo (k+62) (c h2) (cT _)) fun _ b=>T.bind (aIo (k+62) (c h3) (cT _)) fun _ d=>T.ret ⟨a,b,d⟩
theorem aIk (N:Nat) {a:Int} (ha:cG a):T (nT N a) wok:=by
 unfold nT
 exact T.bind (aEL _ ha ha) fun r h=>T.ret h
theorem aNK (k:Nat) {v:aA} (hv:vin v):T (oP (k+65) v) cG:=by
 unfold oP
 obtain ⟨a,b,c⟩:=hv
 refine T.bind (aIk _ a) fun r1 h1=>T.bind (aIk _ b) fun r2 h2=>T.bind (aIk _ c) fun r3 h3=>T.bind (aPv _ _ (by intro x hx;simp at hx;rcases hx with rfl | rfl | rfl;exact h1;exact h2;exact h3) (by simp) (by simp)) fun r4 h4=>?_
 refine T.cond (fun _=>T.ret ⟨by decide,by decide⟩) (fun _=>?_)
 simp only [aR]
 refine T.bind (P:=fun _=>True) ?_ fun r5 _=>T.ret (cT _)
 by_cases h:r4.1.gHi < 0
 ·unfold sQ
  rw [dt h,cond_true]
  exact T.ret trivial
 ·obtain ⟨r,e,_⟩:=aRj k (w:=r4.1) h4 (by obtain ⟨_,q,_⟩:=h4;show 0≤r4.1.gHi*18446744073709551616+r4.1.gLo;omega)
  exact ⟨_,e,trivial⟩
theorem aG0 {α:Type} (l:List α) (G:α→Option Int) (P:α→Prop) {F:Nat→Int→Option (Sum Unit Int)}
  (hF:∀ k i,F (k+1) i=aT (decide (i < ((l.length:Int)))) fun x=>cond x (Option.bind (idx l i) fun e=>Option.bind (G e) fun r=>cond (r != 0) (some (Sum.inr r)) (F k (I64 (i+1)))) (some (Sum.inl (()))))
  (hG:∀ x∈l,T (G x) (fun r=>r=0→P x)) {N:Nat} (hN:l.length < N) (hl:l.length < 1000000) :
  T (Option.bind (F N 0) fun o=>nS o (fun _=>some 0) (fun r=>some r)) (fun r=>r=0→∀ x∈l,P x):=by
 refine T.bind (T.loopG0 (n:=l.length) (fun i _=>∀ j,(h:j < l.length)→j < i→P l[j]) (fun o=>match o with | .inl _=>∀ x∈l,P x | .inr r=>r≠0) (F:=fun k (_:Unit) i=>F k i) (fun k s i hi hs hk=>?_) (fun k s hs=>?_) hN (s:=()) (fun j _ h=>absurd h (by omega))) fun o ho=>?_
 ·rw [hF,aR,dt (by omega),cond_true,iT,List.getElem?_eq_getElem hi,Option.bind_some]
  refine T.bind (hG _ (List.getElem_mem hi)) fun r hr=>?_
  refine T.cond (fun hc=>T.ret (by simpa using hc)) (fun hc=>?_)
  rw [dX (by omega)]
  refine hk () fun j h hj=>?_
  by_cases e:j=i
  ·subst e;exact hr (by simpa using hc)
  ·exact hs j h (by omega)
 ·rw [hF,aR,df (by omega),cond_false]
  refine T.ret fun x hx=>?_
  obtain ⟨j,h,rfl⟩:=List.getElem_of_mem hx
  exact hs j h h
 ·cases o with
  | inl _=>exact T.ret fun _=>ho
  | inr r=>exact T.ret fun e=>absurd e ho
theorem aP9 {α:Type} (l:List α) (G:α→Option Bool) (P:α→Prop) {F:Nat→Int→Option (Sum Unit Int)}
  (hF:∀ k i,F (k+1) i=aT (decide (i < ((l.length:Int)))) fun x=>cond x (Option.bind (idx l i) fun e=>Option.bind (G e) fun r=>cond r (some (Sum.inr i)) (F k (I64 (i+1)))) (some (Sum.inl (()))))
  (hG:∀ x∈l,T (G x) (fun r=>r=false→P x)) {N:Nat} (hN:l.length < N) (hl:l.length < 1000000) :
  T (Option.bind (F N 0) fun o=>nS o (fun _=>some (-1)) (fun r=>some r)) (fun r=>decide (r≥0)=false→∀ x∈l,P x):=by
 refine T.bind (T.loopG0 (n:=l.length) (fun i _=>∀ j,(h:j < l.length)→j < i→P l[j]) (fun o=>match o with | .inl _=>∀ x∈l,P x | .inr r=>0≤r) (F:=fun k (_:Unit) i=>F k i) (fun k s i hi hs hk=>?_) (fun k s hs=>?_) hN (s:=()) (fun j _ h=>absurd h (by omega))) fun o ho=>?_
 ·rw [hF,aR,dt (by omega),cond_true,iT,List.getElem?_eq_getElem hi,Option.bind_some]
  refine T.bind (hG _ (List.getElem_mem hi)) fun r hr=>?_
  refine T.cond (fun hc=>T.ret (by dsimp only;omega)) (fun hc=>?_)
  rw [dX (by omega)]
  refine hk () fun j h hj=>?_
  by_cases e:j=i
  ·subst e;exact hr hc
  ·exact hs j h (by omega)
 ·rw [hF,aR,df (by omega),cond_false]
  refine T.ret fun x hx=>?_
  obtain ⟨j,h,rfl⟩:=List.getElem_of_mem hx
  exact hs j h h
 ·cases o with
  | inl _=>exact T.ret fun _=>ho
  | inr r=>exact T.ret fun e=>absurd (of_decide_eq_false e) (by simpa using ho)
def pwi (m:Int) (p:aC):Prop:=(-m≤p.gX∧p.gX≤m)∧(-m≤p.gY∧p.gY≤m) ∧ -m≤p.gZ∧p.gZ≤m
theorem aGm {m:Int} {p:aC} (h:pwi m p) (hm:m≤1000000000):pin p:=by
 obtain ⟨⟨a,b⟩,⟨c,d⟩,e,f⟩:=h
 exact ⟨⟨by omega,by omega⟩,⟨by omega,by omega⟩,by omega,by omega⟩
theorem aI4 (N:Nat) (p:aC) {m:Int} (hm:0≤m) (hm':m≤1000000000):T (qZ N p m) (fun r=>r=true↔pwi m p):=by
 unfold qZ
 simp only [aR,sK,uX]
 rw [bV (by omega) (by omega)]
 unfold pwi
 refine T.bind (P:=fun r=>r=true↔((-m≤p.gX∧p.gX≤m)∧(-m≤p.gY∧p.gY≤m) ∧ -m≤p.gZ∧p.gZ≤m)) ?_ fun r h=>T.ret h
 refine T.cond (fun h=>T.ret ?_) (fun h=>T.ret ?_)
 ·have:=of_decide_eq_true h
  rw [decide_eq_true_eq]
  omega
 ·have:=of_decide_eq_false h
  constructor
  ·intro h;cases h
  ·intro h;omega
theorem aPT (N:Nat) (a b:aC):T (tM N a b) (fun r=>r=true→pwi 65536 a∧pwi 131072 b∧aC.eq b (aC.mk 0 0 0)=false):=by
 unfold tM
 refine T.bind (P:=fun r=>r=true→pwi 65536 a∧pwi 131072 b∧aC.eq b (aC.mk 0 0 0)=false) ?_ fun r h=>T.ret h
 refine T.bind (aI4 N a (by decide) (by decide)) fun r2 h2=>?_
 refine T.cond (fun hc=>?_) (fun _=>T.ret fun h=>by cases h)
 refine T.bind (aI4 N b (by decide) (by decide)) fun r3 h3=>?_
 refine T.cond (fun hc'=>?_) (fun _=>T.ret fun h=>by cases h)
 simp only [aR]
 refine T.ret fun h=>⟨h2.1 hc,h3.1 hc',by simpa using h⟩
theorem aKt (N:Nat) (a b:aC):T (pV N a b) pin:=⟨_,rfl,cT _,cT _,cT _⟩
theorem aIp (N:Nat) (a b:aC):T (sP N a b) pin:=⟨_,rfl,cT _,cT _,cT _⟩
theorem aK5 (N:Nat) (a b:aC):T (vI N a b) cG:=⟨_,rfl,cT _⟩
def qA (m:aS):Prop:=cG m.gC1∧cG m.gB7∧cG m.gU∧cG m.gV
theorem aCn : qA (aS.mk 0 0 0 0):=⟨z64,z64,z64,z64⟩
theorem hit1T (N:Nat) (p:aC):T (vT N p) (fun r=>r=false→pwi 65536 p):=by
 unfold vT
 refine T.bind (aI4 N p (by decide) (by decide)) fun r h=>T.ret fun e=>h.1 (by simpa using e)
theorem hitCT (N:Nat) (l:List aC) (hN:l.length < N) (hl:l.length < 1000000):T (bZ N l) (fun r=>r=false→∀ p∈l,pwi 65536 p):=by
 unfold bZ dC
 refine T.bind (aP9 l (vT N) (pwi 65536) (fun k i=>by rw [cU]) (fun p _=>hit1T N p) hN hl) fun r h=>T.ret h
theorem hitT (N:Nat) (hN:3 < N) (o d:aC) (P:Vector aC 3):T (zW N o d P) (fun r=>qA r.1):=by
 unfold zW
 refine T.bind (P:=fun _=>True) ?_ fun p1 _=>?_
 ·refine T.bind (aPT N o d) fun r2 h2=>?_
  refine T.cond (fun _=>T.ret trivial) (fun _=>?_)
  refine T.bind (T.slc (by decide) (by decide) (by simp)) fun s3 h3=>T.bind (hitCT N s3 (by omega) (by omega)) fun r4 _=>T.ret trivial
 refine T.cond (fun _=>T.ret aCn) (fun _=>?_)
 refine T.bind (T.idx (by decide) (by simp)) fun e5 _=>T.bind (T.idx (by decide) (by simp)) fun e6 _=>T.bind (aKt N _ _) fun r7 _=>?_
 refine T.bind (T.idx (by decide) (by simp)) fun e8 _=>T.bind (T.idx (by decide) (by simp)) fun e9 _=>T.bind (aKt N _ _) fun r10 _=>?_
 refine T.bind (aIp N _ _) fun r11 _=>T.bind (T.idx (by decide) (by simp)) fun e12 _=>T.bind (aKt N _ _) fun r13 _=>T.bind (aIp N _ _) fun r14 _=>?_
 refine T.bind (aK5 N _ _) fun r15 h15=>T.bind (aK5 N _ _) fun r16 h16=>T.bind (aK5 N _ _) fun r17 h17=>T.bind (aK5 N _ _) fun r18 h18=>?_
 refine T.bind (P:=qA) (T.cond (fun _=>T.ret ⟨cT _,cT _,cT _,cT _⟩) (fun _=>T.ret ⟨h15,h16,h17,h18⟩)) fun p19 h19=>?_
 simp only [aR]
 exact T.cond (fun _=>T.ret aCn) (fun _=>T.ret h19)
theorem aOz (N:Nat) {m n:aS} (hm:qA m) (hn:qA n):T (uW N m n) (fun _=>True):=by
 unfold uW
 simp only [aR]
 refine T.cond (fun _=>T.ret trivial) (fun _=>T.bind (aEL N hm.1 hn.2.1) fun r2 _=>T.bind (aEL N hn.1 hm.2.1) fun r3 _=>T.bind (aMe N _ _) fun r4 _=>T.ret trivial)
theorem aRw (N:Nat) (hN:2 < N) {a b:Int} (ha:cG a) (hb:cG b):T (xA N a b) cG:=by
 unfold xA
 refine T.bind (wofT N ha) fun r1 h1=>T.bind (wofT N hb) fun r2 h2=>T.bind (aPv N _ (by intro x hx;simp at hx;rcases hx with rfl | rfl;exact h1;exact h2) (by simpa using hN) (by simp)) fun r3 h3=>?_
 refine T.bind (wofT N ⟨by decide,by decide⟩) fun r4 _=>T.bind (wofT N ⟨by decide,by decide⟩) fun r5 _=>T.bind (aMe N _ _) fun r6 _=>?_
 refine T.cond (fun _=>T.ret ⟨by decide,by decide⟩) (fun _=>T.bind (aMe N _ _) fun r7 _=>?_)
 refine T.cond (fun _=>T.ret ⟨by decide,by decide⟩) (fun _=>T.bind (aGI N h3) fun r8 h8=>T.ret h8.1)
theorem aJ8 (k:Nat) {a b:Int} {m:aS} (ha:cG a) (hb:cG b) (hm:qA m):T (kB (k+3) a b m) cG:=by
 unfold kB
 refine T.cond (fun _=>T.bind (aRw _ (by omega) ha z64) fun r h=>T.ret h) (fun _=>?_)
 refine T.bind (aFy k hb hm.1 hm.2.1) fun r2 h2=>T.bind (aRw _ (by omega) ha h2) fun r h=>T.ret h
theorem aQj (k:Nat) {o d:aC} {m:aS} (ho:pin o) (hd:pin d) (hm:qA m):T (sU (k+3) o d m) pin:=by
 unfold sU
 refine T.bind (aJ8 k ho.1 hd.1 hm) fun _ a=>T.bind (aJ8 k ho.2.1 hd.2.1 hm) fun _ b=>T.bind (aJ8 k ho.2.2 hd.2.2 hm) fun _ c=>T.ret ⟨a,b,c⟩
def few (s:aE):Prop:=s.gK.length≤20∧s.gA1.length≤10∧s.gQ.length≤6∧s.gI.length≤5∧(∀ t∈s.gQ,t.gA2.length≤260)
theorem aDr {α:Type} (l:List α) (n:Nat):(l.take n).length≤n:=by rw [List.length_take];omega
theorem T.slcMin {α:Type} (l:List α) (n:Nat):T (vU l 0 (fD (l.length:Int) (n:Int))) (fun r=>r=l.take n):=⟨_,aOw l n,rfl⟩
theorem fewT2 (N:Nat) (hN:10 < N) (s:aE):T (pZ N s) (fun r=>few r∧r.gA1.length≤8∧r.gQ.length≤4∧r.gL.length≤20):=by
 unfold pZ
 have main:∀ (m i:Nat) (a:List aD),i≤4→a.length=i→(∀ t∈a,t.gA2.length≤260)→5 - i≤m→T (mY N s m a (i:Int)) (fun r=>r.length≤4∧∀ t∈r,t.gA2.length≤260):=by
  intro m
  induction m with
  | zero=>intro i a h1 _ _ h;omega
  | succ m ih=>
   intro i a h1 h2 h3 h4
   rw [mY]
   simp only [aR]
   refine T.cond (fun hc=>?_) (fun _=>T.ret ⟨by omega,h3⟩)
   have hc1:(i:Int) < (s.gQ.length:Int)∧(i:Int) < 4:=by
    by_cases h:(i:Int) < (s.gQ.length:Int)
    ·rw [dt h,cond_true] at hc;exact ⟨h,of_decide_eq_true hc⟩
    ·rw [df h,cond_false] at hc;cases hc
   refine T.bind (T.idx (by omega) hc1.1) fun e6 _=>?_
   refine T.bind (T.slcMin e6.gA2 260) fun s8 h8=>?_
   refine T.eq (fK (by simp;omega)) ?_
   rw [dX (by omega)]
   refine ih (i+1) _ (by omega) (by simp;omega) ?_ (by omega)
   intro t ht
   rw [List.mem_append,List.mem_singleton] at ht
   rcases ht with ht | rfl
   ·exact h3 t ht
   ·rw [h8];exact aDr _ _
 refine T.bind (main N 0 [] (by decide) rfl (fun t h=>absurd h (by simp)) (by omega)) fun p1 h1=>?_
 simp only [aR]
 refine T.bind (T.slcMin s.gK 20) fun s11 h11=>T.bind (T.slcMin s.gA1 8) fun s13 h13=>T.bind (T.slcMin s.gI 5) fun s15 h15=>T.bind (T.slcMin s.gL 20) fun s17 h17=>T.bind (T.slcMin s.gA5 20) fun s19 _=>?_
 have m8:s13.length≤8:=by rw [h13];exact aDr _ _
 refine T.ret ⟨⟨?_,Nat.le_trans m8 (by decide),by have:=h1.1;show p1.length≤6;omega,?_,h1.2⟩,m8,h1.1,by show s17.length≤20;rw [h17];exact aDr _ _⟩
 ·show s11.length≤20;rw [h11];exact aDr _ _
 ·show s15.length≤5;rw [h15];exact aDr _ _
def aMR (s:aE) (t:aF):Prop:=(0≤t.gC3∧t.gC3 < (s.gA1.length:Int))∧t.gB4 < (s.gQ.length:Int)∧(∀ v∈t.gUv.toList,∀ x∈v.toList,0≤x∧x≤65535)∧∀ p∈t.gP.toList,pwi 65536 p
theorem v2mem {α:Type} {v:Vector α 2} {P:α→Prop} (h0:∀ x,v.toList[0]? = some x→P x) (h1:∀ x,v.toList[1]? = some x→P x):∀ x∈v.toList,P x:=by
 intro x hx
 obtain ⟨j,h,rfl⟩:=List.getElem_of_mem hx
 have h':j < 2:=by simpa using h
 match j,h' with
 | 0,_=>exact h0 _ (List.getElem?_eq_getElem h)
 | 1,_=>exact h1 _ (List.getElem?_eq_getElem h)
theorem aRo {α:Type} {v:Vector α 3} {P:α→Prop} (h0:∀ x,v.toList[0]? = some x→P x) (h1:∀ x,v.toList[1]? = some x→P x) (h2:∀ x,v.toList[2]? = some x→P x):∀ x∈v.toList,P x:=by
 intro x hx
 obtain ⟨j,h,rfl⟩:=List.getElem_of_mem hx
 have h':j < 3:=by simpa using h
 match j,h' with
 | 0,_=>exact h0 _ (List.getElem?_eq_getElem h)
 | 1,_=>exact h1 _ (List.getElem?_eq_getElem h)
 | 2,_=>exact h2 _ (List.getElem?_eq_getElem h)
theorem T.vg {α:Type} {m:Nat} {v:Vector α m} {i:Nat} (h:i < m):T (v.toList[i]?) (fun x=>v.toList[i]? = some x):=⟨_,Go.UK.aJ4 v i h,Go.UK.aJ4 v i h⟩
theorem T.vgI {α:Type} {m:Nat} {v:Vector α m} {i:Nat} (h:i < m):T (v.toList[(i:Int).toNat]?) (fun x=>v.toList[i]? = some x):=T.vg h
theorem lA {α:Type} {o:Option α} {a b:α} (h:o=some a) (h':o=some b):a=b:=by rw [h] at h';exact Option.some.inj h'
theorem triT (N:Nat) (hN:10 < N) (s:aE) (t:aF):T (lJ N s t) (fun r=>r=0→aMR s t):=by
 unfold lJ
 simp only [aR]
 refine T.cond (fun _=>T.ret fun h=>by cases h) (fun hc=>?_)
 have c1:(0≤t.gC3∧t.gC3 < (s.gA1.length:Int))∧t.gB4 < (s.gQ.length:Int):=by
  have o:∀ {a:Prop} [Decidable a] {b:Bool},cond b true (decide a)=false→b=false∧¬ a:=by
   intro a _ b h
   cases b with
   | true=>cases h
   | false=>exact ⟨rfl,of_decide_eq_false h⟩
  obtain ⟨hc,_⟩:=o hc
  obtain ⟨hc,_⟩:=o hc
  obtain ⟨hc,h4⟩:=o hc
  obtain ⟨hc,_⟩:=o hc
  obtain ⟨hc,h2⟩:=o hc
  exact ⟨⟨by have:=of_decide_eq_false hc;omega,by omega⟩,by omega⟩
 refine T.bind (T.loopG0 (n:=3) (fun i _=>∀ j,(h:j < 3)→j < i→∀ x∈t.gUv[j].toList,0≤x∧x≤65535) (fun o=>match o with | .inl _=>∀ v∈t.gUv.toList,∀ x∈v.toList,0≤x∧x≤65535 | .inr r=>r≠0) (F:=fun k (_:Unit) i=>kO N t k i) (fun k _ i hi hs hk=>?_) (fun k _ hs=>?_) (by omega) (s:=()) (fun j _ h=>absurd h (by omega))) fun o ho=>?_
 ·rw [kO,dt (by omega),cond_true]
  refine T.bind (T.idx (by omega) (by simp;omega)) fun e10 h10=>?_
  have e10e:e10=t.gUv[i]:=lA h10 (by rw [Int.toNat_natCast];exact aJ4 _ _ hi)
  refine T.bind (P:=fun r=>r=false→∀ x∈e10.toList,0≤x∧x≤65535) ?_ fun p11 h11=>?_
  ·refine T.bind (T.inRO (by decide) (by decide)) fun _ _=>T.bind (T.vg (i:=0) (by decide)) fun a ha=>T.bind (T.inRO (by decide) (by decide)) fun _ _=>T.bind (T.vg (i:=1) (by decide)) fun b hb=>?_
   simp only [aR,uX,sK]
   refine T.cond (fun _=>T.ret fun h=>by cases h) (fun h1=>?_)
   refine T.bind (T.inRO (by decide) (by decide)) fun _ _=>T.bind (T.vg (i:=0) (by decide)) fun a' ha'=>T.bind (T.inRO (by decide) (by decide)) fun _ _=>T.bind (T.vg (i:=1) (by decide)) fun b' hb'=>?_
   refine T.ret fun h2=>?_
   obtain rfl:=lA ha ha'
   obtain rfl:=lA hb hb'
   have h1:=of_decide_eq_false h1
   have h2:=of_decide_eq_false h2
   exact v2mem (fun x hx=>by obtain rfl:=lA ha hx;omega) (fun x hx=>by obtain rfl:=lA hb hx;omega)
  refine T.cond (fun _=>T.ret (fun h=>by cases h)) (fun hc=>?_)
  rw [dX (by omega)]
  refine hk () fun j h hj=>?_
  by_cases e:j=i
  ·subst e;rw [← e10e];exact h11 hc
  ·exact hs j h (by omega)
 ·rw [kO,df (by omega),cond_false]
  refine T.ret fun v hv=>?_
  obtain ⟨j,h,rfl⟩:=List.getElem_of_mem hv
  have h':j < 3:=by simpa using h
  have:=hs j h' h'
  simpa using this
 cases o with
 | inr r=>exact T.ret fun e=>absurd e ho
 | inl _=>
 refine T.bind (T.loopG0 (n:=3) (fun i _=>∀ j,(h:j < 3)→j < i→pwi 65536 t.gP[j]) (fun o=>match o with | .inl _=>∀ v∈t.gP.toList,pwi 65536 v | .inr r=>r≠0) (F:=fun k (_:Unit) i=>kR N t k i) (fun k _ i hi hs hk=>?_) (fun k _ hs=>?_) (by omega) (s:=()) (fun j _ h=>absurd h (by omega))) fun o' ho'=>?_
 ·rw [kR,dt (by omega),cond_true]
  refine T.bind (T.idx (by omega) (by simp;omega)) fun e10 h10=>?_
  have e10e:e10=t.gP[i]:=lA h10 (by rw [Int.toNat_natCast];exact aJ4 _ _ hi)
  refine T.bind (aPT N _ _) fun r hr=>?_
  refine T.cond (fun _=>T.ret (fun h=>by cases h)) (fun hc=>?_)
  rw [dX (by omega)]
  refine hk () fun j h hj=>?_
  by_cases e:j=i
  ·subst e;rw [← e10e];exact (hr (by simpa using hc)).1
  ·exact hs j h (by omega)
 ·rw [kR,df (by omega),cond_false]
  refine T.ret fun v hv=>?_
  obtain ⟨j,h,rfl⟩:=List.getElem_of_mem hv
  have h':j < 3:=by simpa using h
  have:=hs j h' h'
  simpa using this
 cases o' with
 | inr r=>exact T.ret fun e=>absurd e ho'
 | inl _=>exact T.ret fun _=>⟨c1.1,c1.2,ho,ho'⟩
theorem aP7 (N:Nat) (hN:30 < N) (s:aE) (h:few s):T (cZ N s.gK s) (fun r=>r=0→∀ t∈s.gK,aMR s t):=by
 unfold cZ
 have h1:=h.1
 refine aG0 s.gK (fun t=>jP N t s) (aMR s) (fun k i=>by rw [eK]) (fun t _=>?_) (by omega) (by omega)
 unfold jP
 exact T.bind (triT N (by omega) s t) fun r h=>T.ret h
theorem aEE (N:Nat) (m:Int) (l:List Int) (hN:l.length < N) (hl:l.length < 1000000):T (kT N m l) (fun r=>r=false→∀ x∈l,0≤x∧x≤m):=by
 unfold kT eC eU
 refine T.bind (P:=fun r=>r=false→∀ x∈l,0≤x∧x≤m) ?_ fun r h=>T.ret h
 refine T.bind (aP9 l (fun e=>mA N e m) (fun x=>0≤x∧x≤m) (fun k i=>by rw [dZ]) (fun x _=>?_) hN hl) fun r h=>T.ret h
 unfold mA
 simp only [aR]
 refine T.ret fun h=>?_
 by_cases h1:x < 0
 ·rw [dt h1,cond_true] at h;cases h
 ·rw [df h1,cond_false] at h
  have:=of_decide_eq_false h
  omega
def aBz (m:aN):Prop:=(∀ x∈m.gA4.toList,0≤x∧x≤65535)∧0≤m.gD3∧m.gD3≤65535
theorem matT (N:Nat) (hN:10 < N) (m:aN):T (nM N m) (fun r=>r=0→aBz m):=by
 unfold nM
 refine T.bind (P:=fun r=>r=false→aBz m) ?_ fun p1 h1=>T.cond (fun _=>T.ret fun h=>by cases h) (fun hc=>T.ret fun _=>h1 hc)
 refine T.bind (aEE N 4 _ (by simp;omega) (by simp)) fun r2 _=>?_
 refine T.cond (fun _=>T.ret fun h=>by cases h) (fun _=>?_)
 refine T.bind (T.idx (by decide) (by simp)) fun a ha=>T.bind (T.idx (by decide) (by simp)) fun b hb=>T.bind (T.idx (by decide) (by simp)) fun c hc=>?_
 refine T.bind (aEE N 65535 _ (by simp;omega) (by simp)) fun r6 h6=>T.ret fun e=>?_
 have h:=h6 e
 refine ⟨aRo (fun x hx=>?_) (fun x hx=>?_) (fun x hx=>?_),h _ (by simp)⟩
 ·obtain rfl:=lA ha hx;exact h _ (by simp)
 ·obtain rfl:=lA hb hx;exact h _ (by simp)
 ·obtain rfl:=lA hc hx;exact h _ (by simp)
theorem aOi (N:Nat) (hN:30 < N) (s:aE) (h:few s):T (dN N s.gA1) (fun r=>r=0→∀ t∈s.gA1,aBz t):=by
 unfold dN
 have h1:=h.2.1
 exact aG0 s.gA1 (nM N) aBz (fun k i=>by rw [eH]) (fun t _=>matT N (by omega) t) (by omega) (by omega)
def aM0 (t:aD):Prop:=(t.gE=1∨t.gE=2∨t.gE=4∨t.gE=8∨t.gE=16)∧(t.gA2.length:Int)=t.gE*t.gE∧∀ v∈t.gA2,∀ x∈v.toList,0≤x∧x≤255
theorem aN5 (N:Nat) (l:List Int) (a:Int) (hN:l.length < N) (hl:l.length < 1000000):T (iS N l a) (fun r=>r=true→a∈l):=by
 unfold iS nF
 refine T.bind (P:=fun r=>0≤r→a∈l) ?_ fun r h=>T.ret fun e=>h (of_decide_eq_true e)
 refine T.bind (T.loopG0 (n:=l.length) (fun _ _=>True) (fun o=>match o with | .inl _=>True | .inr r=>a∈l) (F:=fun k (_:Unit) i=>fH N l a k i) (fun k _ i hi hs hk=>?_) (fun k _ hs=>?_) hN (s:=()) trivial) fun o ho=>?_
 ·rw [fH,aR,dt (by omega),cond_true,iT,List.getElem?_eq_getElem hi,Option.bind_some]
  refine T.cond (fun hc=>T.ret ?_) (fun _=>?_)
  ·have e:a=l[i]:=by simpa using hc
   show a∈l
   rw [e];exact List.getElem_mem hi
  ·rw [dX (by omega)];exact hk () trivial
 ·rw [fH,aR,df (by omega),cond_false];exact T.ret trivial
 ·cases o with
  | inl _=>exact T.ret fun h=>absurd h (by decide)
  | inr r=>exact T.ret fun _=>ho
theorem texT (N:Nat) (t:aD) (hN:t.gA2.length < N) (hN':10 < N) (hl:t.gA2.length < 1000000):T (jF N t) (fun r=>r=0→aM0 t):=by
 unfold jF
 refine T.bind (aN5 N _ _ (by simp;omega) (by simp)) fun r1 h1=>?_
 simp only [aR]
 refine T.cond (fun _=>T.ret fun h=>by cases h) (fun hc=>?_)
 have c:t.gE∈[1,2,4,8,16]∧(t.gA2.length:Int)=I64 (t.gE*t.gE):=by
  cases r1 with
  | false=>cases hc
  | true=>exact ⟨h1 rfl,by simpa using hc⟩
 have c1:t.gE=1∨t.gE=2∨t.gE=4∨t.gE=8∨t.gE=16:=by simpa using c.1
 have c2:(t.gA2.length:Int)=t.gE*t.gE:=by
  rw [c.2];rcases c1 with h | h | h | h | h <;> rw [h] <;> decide
 refine T.bind (T.loopG0 (n:=t.gA2.length) (fun i _=>∀ j,(h:j < t.gA2.length)→j < i→∀ x∈t.gA2[j].toList,0≤x∧x≤255) (fun o=>match o with | .inl _=>∀ v∈t.gA2,∀ x∈v.toList,0≤x∧x≤255 | .inr r=>r≠0) (F:=fun k (_:Unit) i=>lE N (t.gA2.length:Int) t k i) (fun k _ i hi hs hk=>?_) (fun k _ hs=>?_) hN (s:=()) (fun j _ h=>absurd h (by omega))) fun o ho=>?_
 ·rw [lE,dt (by omega),cond_true,iT,List.getElem?_eq_getElem hi,Option.bind_some]
  refine T.bind (P:=fun r=>r=false→∀ x∈(t.gA2[i]).toList,0≤x∧x≤255) ?_ fun p11 h11=>?_
  ·refine T.bind (T.inRO (by decide) (by decide)) fun _ _=>T.bind (T.vg (i:=0) (by decide)) fun a ha=>T.bind (T.inRO (by decide) (by decide)) fun _ _=>T.bind (T.vg (i:=1) (by decide)) fun b hb=>T.bind (T.inRO (by decide) (by decide)) fun _ _=>T.bind (T.vg (i:=2) (by decide)) fun d hd=>?_
   simp only [aR,uX,sK]
   refine T.cond (fun _=>T.ret fun h=>by cases h) (fun h1=>?_)
   refine T.bind (T.inRO (by decide) (by decide)) fun _ _=>T.bind (T.vg (i:=0) (by decide)) fun a' ha'=>T.bind (T.inRO (by decide) (by decide)) fun _ _=>T.bind (T.vg (i:=1) (by decide)) fun b' hb'=>T.bind (T.inRO (by decide) (by decide)) fun _ _=>T.bind (T.vg (i:=2) (by decide)) fun d' hd'=>?_
   refine T.ret fun h2=>?_
   obtain rfl:=lA ha ha'
   obtain rfl:=lA hb hb'
   obtain rfl:=lA hd hd'
   have h1:=of_decide_eq_false h1
   have h2:=of_decide_eq_false h2
   exact aRo (fun x hx=>by obtain rfl:=lA ha hx;omega) (fun x hx=>by obtain rfl:=lA hb hx;omega) (fun x hx=>by obtain rfl:=lA hd hx;omega)
  refine T.cond (fun _=>T.ret (fun h=>by cases h)) (fun hc=>?_)
  rw [dX (by omega)]
  refine hk () fun j h hj=>?_
  by_cases e:j=i
  ·subst e;exact h11 hc
  ·exact hs j h (by omega)
 ·rw [lE,df (by omega),cond_false]
  refine T.ret fun v hv=>?_
  obtain ⟨j,h,rfl⟩:=List.getElem_of_mem hv
  exact hs j h h
 cases o with
 | inr r=>exact T.ret fun e=>absurd e ho
 | inl _=>exact T.ret fun _=>⟨c1,c2,ho⟩
theorem aOq (N:Nat) (hN:300 < N) (s:aE) (h:few s):T (eS N s.gQ) (fun r=>r=0→∀ t∈s.gQ,aM0 t):=by
 unfold eS
 have h1:=h.2.2.1
 exact aG0 s.gQ (jF N) aM0 (fun k i=>by rw [fL]) (fun t ht=>texT N t (by have:=h.2.2.2.2 t ht;omega) (by omega) (by have:=h.2.2.2.2 t ht;omega)) (by omega) (by omega)
def wL (l:aP):Prop:=(∀ x∈l.gA4.toList,0≤x∧x≤1048576)∧pwi 4096 l.gAt∧pwi 4096 l.gU∧pwi 4096 l.gV
theorem aJm (N:Nat) (p:aC):T (mQ N p) (fun r=>r=false→pwi 4096 p):=by
 unfold mQ pwi
 simp only [aR,sK,uX]
 refine T.bind (P:=fun r=>r=false→(-4096≤p.gX∧p.gX≤4096)∧(-4096≤p.gY∧p.gY≤4096) ∧ -4096≤p.gZ∧p.gZ≤4096) ?_ fun r h=>T.ret h
 refine T.cond (fun _=>T.ret fun h=>by cases h) (fun h=>T.ret fun h2=>?_)
 have h:=of_decide_eq_false h
 have h2:=of_decide_eq_false h2
 omega
theorem aPS (N:Nat) (hN:10 < N) (l:aP):T (pM N l) (fun r=>r=0→wL l):=by
 unfold pM
 refine T.bind (P:=fun r=>r=false→∀ x∈l.gA4.toList,0≤x∧x≤1048576) ?_ fun p1 h1=>?_
 ·refine T.bind (aEE N 2 _ (by simp;omega) (by simp)) fun r2 _=>?_
  refine T.cond (fun _=>T.ret fun h=>by cases h) (fun _=>?_)
  refine T.bind (T.slc (by decide) (by decide) (by simp)) fun s3 h3=>T.bind (aEE N _ s3 (by omega) (by omega)) fun r4 h4=>T.ret fun e=>?_
  have hs:s3=l.gA4.toList:=by rw [h3.1];exact List.take_of_length_le (show l.gA4.toList.length≤3 by simp)
  rw [← hs];exact h4 e
 refine T.cond (fun _=>T.ret fun h=>by cases h) (fun hc=>?_)
 refine T.bind (P:=fun r=>r=false→pwi 4096 l.gAt∧pwi 4096 l.gU∧pwi 4096 l.gV) ?_ fun p5 h5=>?_
 ·refine T.bind (aJm N _) fun r6 h6=>T.cond (fun _=>T.ret fun h=>by cases h) (fun c6=>?_)
  refine T.bind (aJm N _) fun r7 h7=>T.cond (fun _=>T.ret fun h=>by cases h) (fun c7=>?_)
  exact T.bind (aJm N _) fun r8 h8=>T.ret fun c8=>⟨h6 c6,h7 c7,h8 c8⟩
 refine T.cond (fun _=>T.ret fun h=>by cases h) (fun hc5=>?_)
 have ok:wL l:=⟨h1 hc,h5 hc5⟩
 simp only [aR]
 refine T.bind (P:=fun _=>True) ?_ fun o _=>?_
 ·refine T.cond (fun _=>T.cond (fun _=>T.ret trivial) (fun _=>?_)) (fun _=>T.cond (fun _=>?_) (fun _=>T.ret trivial))
  ·exact T.bind (P:=fun _=>True) (T.cond (fun _=>T.ret trivial) (fun _=>T.ret trivial)) fun _ _=>T.cond (fun _=>T.ret trivial) (fun _=>T.ret trivial)
  ·exact T.bind (P:=fun _=>True) (T.cond (fun _=>T.ret trivial) (fun _=>T.ret trivial)) fun _ _=>T.cond (fun _=>T.ret trivial) (fun _=>T.ret trivial)
 ·cases o with
  | inl _=>exact T.ret fun _=>ok
  | inr r=>exact T.ret fun _=>ok
theorem aLT (N:Nat) (hN:30 < N) (s:aE) (h:few s):T (fC N s.gI) (fun r=>r=0→∀ t∈s.gI,wL t):=by
 unfold fC
 have h1:=h.2.2.2.1
 exact aG0 s.gI (pM N) wL (fun k i=>by rw [hK]) (fun t _=>aPS N (by omega) t) (by omega) (by omega)
structure aRT (s:aE):Prop where
 few:few s
 tri:∀ t∈s.gK,aMR s t
 mat:∀ t∈s.gA1,aBz t
 tex:∀ t∈s.gQ,aM0 t
 light:∀ t∈s.gI,wL t
theorem aSS (N:Nat) (hN:300 < N) (s:aE) (h:few s):T (jA N s) (fun r=>r=0→aRT s):=by
 unfold jA
 simp only [aR]
 refine T.cond (fun _=>T.ret fun h=>by cases h) (fun _=>?_)
 have nz:∀ {r:Int} {P:Prop},(r != 0)=true→(r=0→P):=fun h e=>by rw [e] at h;cases h
 refine T.bind (aP7 N (by omega) s h) fun r3 h3=>T.cond (fun c=>T.ret (nz c)) (fun c3=>?_)
 refine T.bind (aOi N (by omega) s h) fun r4 h4=>T.cond (fun c=>T.ret (nz c)) (fun c4=>?_)
 refine T.bind (aOq N (by omega) s h) fun r5 h5=>T.cond (fun c=>T.ret (nz c)) (fun c5=>?_)
 refine T.bind (aLT N (by omega) s h) fun r6 h6=>T.ret fun e=>?_
 exact ⟨h,h3 (by simpa using c3),h4 (by simpa using c4),h5 (by simpa using c5),h6 e⟩
def aLs (v:aI):Prop:=aM2 v.gC8 v.gW v.gH∧(1≤v.gB2∧v.gB2≤16)∧(0≤v.gM∧v.gM≤8)∧0≤v.gJ∧v.gJ≤2
theorem mayVT (N:Nat) (v:aI):T (tD N v) (fun r=>r=0→aLs v):=by
 unfold tD
 refine T.bind (aGO N _ _ _) fun r1 h1=>?_
 refine T.cond (fun c=>T.ret fun e=>by rw [e] at c;cases c) (fun c=>?_)
 simp only [aR]
 refine T.cond (fun _=>T.ret fun h=>by cases h) (fun hc=>T.ret fun _=>?_)
 have o:∀ {a:Prop} [Decidable a] {b:Bool},cond b true (decide a)=false→b=false∧¬ a:=by
  intro a _ b h
  cases b with
  | true=>cases h
  | false=>exact ⟨rfl,of_decide_eq_false h⟩
 obtain ⟨hc,c6⟩:=o hc
 obtain ⟨hc,c5⟩:=o hc
 obtain ⟨hc,c4⟩:=o hc
 obtain ⟨hc,c3⟩:=o hc
 obtain ⟨hc,c2⟩:=o hc
 have c1:=of_decide_eq_false hc
 exact ⟨h1 (by simpa using c),by omega,by omega,by omega,by omega⟩
def eF (c:Int):Int×Int:=cond (c==0) (16,4) (cond (c==1) (64,4) (cond (c==2) (256,8) (0,0)))
theorem aLj (N:Nat) (c:Int):jI N c=some (eF c):=by
 unfold jI eF
 cases (c==0) <;> cases (c==1) <;> cases (c==2) <;> rfl
theorem aSe (N:Nat) (c:Int):T (jI N c) (fun r=>r=eF c):=⟨_,aLj N c,rfl⟩
def fits (s:aE) (c:Int):Prop:=(s.gK.length:Int)≤(eF c).1∧(s.gI.length:Int)≤(eF c).2
theorem aRt (N:Nat) (s:aE) (c:Int):T (nW N s c) (fun r=>r=0→fits s c):=by
 unfold nW
 refine T.eq (aLj N c) ?_
 simp only [aR]
 refine T.cond (fun _=>T.ret fun h=>by cases h) (fun hc=>T.ret fun _=>?_)
 by_cases h:(s.gK.length:Int) > (eF c).1
 ·rw [dt h,cond_true] at hc;cases hc
 ·rw [df h,cond_false] at hc
  have:=of_decide_eq_false hc
  exact ⟨by omega,by omega⟩
theorem aJG (k:Nat) {a b:Int} (ha:cG a) (hb:cG b) (h0:S64 (b*4294967296)≠0):T (jO (k+3) a b) cG:=by
 unfold jO
 refine T.eq (qW _ ha) (T.eq (qW _ hb) (T.eq (vZ k (dP _) (dP _) h0) (T.ret (dP _))))
theorem aO7 (k:Nat) (c:Vector Int 3) {b:Int} (hc:∀ x∈c.toList,cG x) (hb:cG b) (h0:S64 (b*4294967296)≠0):T (rP (k+3) c b) vin:=by
 unfold rP
 refine T.bind (T.idx (by decide) (by simp)) fun e1 h1=>T.bind (aJG k (hc _ (List.mem_of_getElem? h1)) hb h0) fun r2 a=>?_
 refine T.bind (T.idx (by decide) (by simp)) fun e3 h3=>T.bind (aJG k (hc _ (List.mem_of_getElem? h3)) hb h0) fun r4 b=>?_
 refine T.bind (T.idx (by decide) (by simp)) fun e5 h5=>T.bind (aJG k (hc _ (List.mem_of_getElem? h5)) hb h0) fun r6 d=>T.ret ⟨a,b,d⟩
theorem aJ2 (k:Nat) {l:aP} (h:wL l):T (pE (k+3) l) vin:=by
 unfold pE
 exact T.bind (aO7 k _ (fun x hx=>by have:=h.1 x hx;exact ⟨by omega,by omega⟩) ⟨by decide,by decide⟩ (by decide)) fun r h=>T.ret h
theorem skyT (k:Nat) (hk:10 < k) (l:List aP) (h:∀ x∈l,wL x) (hl:l.length≤5):T (xI (k+3) l) (fun r=>vin r∧(l=[]→r=aA.mk 0 0 0)):=by
 unfold xI
 refine T.bind (T.loopG0 (n:=l.length) (fun i s=>s.length≤i∧∀ v∈s,vin v) (fun r=>r.length≤l.length∧∀ v∈r,vin v) (F:=rN (k+3) l) (fun k' s i hi hs hk'=>?_) (fun k' s hs=>?_) (by omega) (s:=[]) ⟨by simp,fun v h=>absurd h (by simp)⟩) fun r hr=>?_
 ·rw [rN,aR,dt (by omega),cond_true]
  refine T.bind (P:=fun p=>p.1.length≤i+1∧∀ v∈p.1,vin v) ?_ fun p5 h5=>?_
  ·rw [iT,List.getElem?_eq_getElem hi,Option.bind_some]
   refine T.cond (fun _=>?_) (fun _=>T.ret ⟨by dsimp only;omega,hs.2⟩)
   refine T.bind (aJ2 k (h _ (List.getElem_mem hi))) fun r7 h7=>T.eq (fK (by simp;omega)) (T.ret ⟨by simp;omega,?_⟩)
   intro v hv
   rw [List.mem_append,List.mem_singleton] at hv
   rcases hv with hv | rfl
   ·exact hs.2 v hv
   ·exact h7
  ·rw [dX (by omega)];exact hk' _ h5
 ·rw [rN,aR,df (by omega),cond_false];exact T.ret hs
 ·refine T.eq (aFx k r hr.2 (by omega) (by omega)) (T.ret ⟨?_,fun h=>?_⟩)
  ·obtain ⟨x,e,hx⟩:=aQU k r hr.2 (by omega) (by omega)
   rw [aFx k r hr.2 (by omega) (by omega)] at e
   cases e
   exact hx
  ·subst h
   have:r=[]:=List.eq_nil_of_length_eq_zero (by have:=hr.1;simpa using this)
   subst this
   rfl
def aKr (t:aD):Prop:=(t.gE=1∨t.gE=2∨t.gE=4∨t.gE=8∨t.gE=16)∧(t.gA2.length:Int)=t.gE*t.gE
theorem aGU (N:Nat) {t:aD} (h:aKr t) (x y:Int):T (nD N t x y) (fun _=>True):=by
 obtain ⟨h1,h2⟩:=h
 unfold nD
 simp only [aR]
 have b:∀ (a:Int) (m:Nat),t.gE=(m:Int)+1→m < 100→0≤iK .i64 a (I64 (t.gE - 1))∧iK .i64 a (I64 (t.gE - 1))≤(m:Int):=by
  intro a m h hm
  rw [h,show I64 ((m:Int)+1 - 1)=(m:Int) by rw [bV (by omega) (by omega)];omega]
  exact aOd m (by omega)
 have key:∀ m:Nat,t.gE=(m:Int)+1→m < 100→T (Option.bind (idx t.gA2 (I64 (I64 (iK .i64 y (I64 (t.gE - 1))*t.gE)+iK .i64 x (I64 (t.gE - 1))))) fun e4=>some e4) (fun _=>True):=by
  intro m hm hb
  have bx:=b x m hm hb
  have by':=b y m hm hb
  generalize iK .i64 x (I64 (t.gE - 1))=X at *
  generalize iK .i64 y (I64 (t.gE - 1))=Y at *
  rw [hm] at h2 ⊢
  have n1:0≤Y*((m:Int)+1):=Int.mul_nonneg by'.1 (by omega)
  have n2:Y*((m:Int)+1)≤(m:Int)*((m:Int)+1):=Int.mul_le_mul_of_nonneg_right by'.2 (by omega)
  have n3:(m:Int)*((m:Int)+1)≤100*101:=by
   have:(m:Int)*((m:Int)+1)≤100*((m:Int)+1):=Int.mul_le_mul_of_nonneg_right (by omega) (by omega)
   omega
  have n4:((m:Int)+1)*((m:Int)+1)=(m:Int)*((m:Int)+1)+((m:Int)+1):=by rw [Int.add_mul,Int.one_mul]
  rw [n4] at h2
  generalize Y*((m:Int)+1)=Z at *
  generalize (m:Int)*((m:Int)+1)=W at *
  rw [bV (x:=Z) (by omega) (by omega),bV (by omega) (by omega)]
  exact T.bind (T.idx (by omega) (by omega)) fun _ _=>T.ret trivial
 rcases h1 with h | h | h | h | h
 ·exact key 0 h (by decide)
 ·exact key 1 h (by decide)
 ·exact key 3 h (by decide)
 ·exact key 7 h (by decide)
 ·exact key 15 h (by decide)
theorem aS2 (N:Nat) (hN:10 < N) (a b c d:Vector Int 3):T (kJ N a b c d N (#v[0,0,0]) 0) (fun _=>True):=by
 refine T.loopG0 (n:=3) (fun _ _=>True) _ (F:=kJ N a b c d) (fun k s i hi _ hk=>?_) (fun k s _=>?_) (by omega) trivial
 ·rw [kJ,dt (by omega),cond_true]
  refine T.bind (T.inRO (by omega) (by omega)) fun _ _=>T.bind (T.vg hi) fun _ _=>T.bind (T.inRO (by omega) (by omega)) fun _ _=>T.bind (T.vg hi) fun _ _=>T.bind (T.inRO (by omega) (by omega)) fun _ _=>T.bind (T.vg hi) fun _ _=>?_
  simp only [aR]
  refine T.bind (T.inRO (by omega) (by omega)) fun _ _=>T.bind (T.vg hi) fun _ _=>T.bind (T.inRO (by omega) (by omega)) fun _ _=>T.bind (T.vg hi) fun _ _=>?_
  rw [dX (by omega)]
  exact hk _ trivial
 ·rw [kJ,df (by omega),cond_false];exact T.ret trivial
theorem halfT (N:Nat) (hN:100 < N) {t:aD} (h:aKr t) (h1:t.gE > 1):T (sM N t) (fun r=>aKr r∧r.gE*2=t.gE):=by
 unfold sM
 obtain ⟨H,e1,e2,e3⟩:∃ H:Nat,I64 (Int.tdiv t.gE 2)=(H:Int)∧t.gE=(H:Int)*2∧(H=1∨H=2∨H=4∨H=8):=by
  rcases h.1 with e | e | e | e | e
  ·omega
  ·exact ⟨1,by rw [e];decide,by rw [e];decide,by simp⟩
  ·exact ⟨2,by rw [e];decide,by rw [e];decide,by simp⟩
  ·exact ⟨4,by rw [e];decide,by rw [e];decide,by simp⟩
  ·exact ⟨8,by rw [e];decide,by rw [e];decide,by simp⟩
 simp only [aR,e1]
 have sq:I64 ((H:Int)*(H:Int))=((H*H:Nat):Int):=by rcases e3 with e | e | e | e <;> subst e <;> decide
 have sb:H*H≤64:=by rcases e3 with e | e | e | e <;> subst e <;> decide
 have nz:(H:Int)≠0:=by omega
 refine T.bind (T.loopG0 (n:=H*H) (fun i s=>s.length=i) (fun r=>r.length=H*H) (F:=mK N (H:Int) (H:Int) t) (fun k s i hi hs hk=>?_) (fun k s hs=>?_) (by omega) (s:=[]) rfl) fun p4 h4=>T.ret ⟨⟨?_,?_⟩,?_⟩
 ·rw [mK]
  simp only [aR,e1,sq]
  rw [dt (by omega),cond_true]
  refine T.eq (aND .i64 nz) (T.eq (aCp .i64 nz) ?_)
  refine T.bind (aGU N h _ _) fun r12 _=>T.bind (aGU N h _ _) fun r14 _=>T.bind (aGU N h _ _) fun r16 _=>T.bind (aGU N h _ _) fun r19 _=>T.bind (aS2 N (by omega) _ _ _ _) fun p20 _=>?_
  refine T.eq (fK (by simp;omega)) ?_
  rw [dX (by omega)]
  exact hk _ (by simp;omega)
 ·rw [mK]
  simp only [aR,sq]
  rw [df (by omega),cond_false]
  exact T.ret hs
 ·show (H:Int)=1∨(H:Int)=2∨(H:Int)=4∨(H:Int)=8∨(H:Int)=16
  omega
 ·show (p4.length:Int)=(H:Int)*(H:Int)
  rw [h4];push_cast;rfl
 ·show (H:Int)*2=t.gE
  exact e2.symm
def aFo (l:List aD):Prop:=l.length≤20∧∀ t∈l,t.gA2.length≤260
theorem aIU {t:aD} (h:aKr t):t.gA2.length≤260:=by
 obtain ⟨h1,h2⟩:=h
 rcases h1 with e | e | e | e | e <;> rw [e] at h2 <;> omega
theorem lvR2 (N:Nat) (l:List aD) (a t:aD) (h:l.length≤1000):nA N l a t=some (l++[t]):=by
 unfold nA
 rw [fK (by simp;omega)]
 rfl
theorem aPW (N:Nat) (hN:100 < N):∀ (j k:Nat) (l:List aD) (t:aD),aKr t→t.gE≤2 ^ j→j < k→(l.length+j≤10∧∀ t∈l,t.gA2.length≤260)→T (bU N k l t) (fun r=>aFo r.1):=by
 intro j
 induction j with
 | zero=>
  intro k l t ht hs hk hl
  obtain ⟨k,rfl⟩:∃ k',k=k'+1:=⟨k - 1,by omega⟩
  rw [bU]
  refine T.eq (lvR2 N _ _ _ (by omega)) ?_
  rw [df (by simpa using hs),cond_false]
  refine T.ret ⟨by simp;omega,?_⟩
  intro u hu
  rw [List.mem_append,List.mem_singleton] at hu
  rcases hu with hu | rfl
  ·exact hl.2 u hu
  ·exact aIU ht
 | succ j ih=>
  intro k l t ht hs hk hl
  obtain ⟨k,rfl⟩:∃ k',k=k'+1:=⟨k - 1,by omega⟩
  rw [bU]
  refine T.eq (lvR2 N _ _ _ (by omega)) ?_
  have all:∀ u∈l++[t],u.gA2.length≤260:=by
   intro u hu
   rw [List.mem_append,List.mem_singleton] at hu
   rcases hu with hu | rfl
   ·exact hl.2 u hu
   ·exact aIU ht
  refine T.cond (fun hc=>?_) (fun _=>T.ret ⟨by simp;omega,all⟩)
  refine T.bind (halfT N hN ht (of_decide_eq_true hc)) fun r5 h5=>?_
  have hp:(2:Int) ^ (j+1)=2 ^ j*2:=Int.pow_succ _ _
  exact ih k _ r5 h5.1 (by have:=h5.2;omega) (by omega) ⟨by simp;omega,all⟩
theorem aQv (N:Nat) (l:List (Vector Int 3)) (h:l.length≤1000):T (iJ N l) (fun r=>r=l):=by
 unfold iJ
 exact T.eq (fK (by simp;omega)) (T.ret (by simp))
theorem aQu (N:Nat) (hN:300 < N) (t:aD) (h:t.gA2.length≤260):T (pX N t) (fun r=>aFo r.1):=by
 unfold pX
 refine T.bind (texT N t (by omega) (by omega) (by omega)) fun r1 h1=>?_
 refine T.cond (fun _=>T.ret ⟨by simp,fun t h=>absurd h (by simp)⟩) (fun hc=>?_)
 have ok:=h1 (by simpa using hc)
 refine T.bind (aQv N _ (by omega)) fun r2 h2=>?_
 subst h2
 unfold tO dU
 refine T.eq rfl ?_
 refine T.bind (P:=fun r=>aFo r.1) ?_ fun r4 h4=>T.ret h4
 refine T.bind (aPW N (by omega) 4 N [] _ ⟨ok.1,ok.2.1⟩ (by have:=ok.1;show t.gE≤2 ^ 4;omega) (by omega) ⟨by simp,fun t h=>absurd h (by simp)⟩) fun p1 h1=>T.ret h1
theorem aNv (N:Nat) (l:List aF) (m:Int) (hm':0≤m∧m≤4096) (hl':(l.length:Int)≤m):T (rY N l m) (fun q=>match q with | .inl e=>False | .inr r=>r.2=0∧(r.1.length:Int)=m∧r.1.length≤4096∧(∀ i,l.length≤i→∀ t,r.1[i]? = some t→t.gD2=0)∧∀ i,i < l.length→r.1[i]? = l[i]?):=by
 unfold rY
 simp only [aR]
 rw [df (show ¬ m < 0 by omega),df (show ¬ m > 4096 by omega)]
 refine T.cond (fun hc=>by cases hc) (fun hc=>?_)
 have hm:=hm'
 obtain ⟨n,rfl⟩:=Int.eq_ofNat_of_zero_le hm.1
 refine T.cond (fun hc=>absurd (of_decide_eq_true hc) (by omega)) (fun hc2=>?_)
 have hl:=of_decide_eq_false hc2
 refine T.eq (a:=()) (by unfold mkO;rw [dt (by omega),dt (by omega),dt (by omega)];rfl) ?_
 rw [Int.toNat_natCast]
 unfold cpD
 rw [dt (by simp),cond_true,Option.bind_some]
 have hlen:∀ z:aF,(cpy (List.replicate n z) l 0 n).length=n:=by intro z;unfold cpy;simp;omega
 refine T.eq (a:=()) (by unfold aAA;rw [hlen,Nat.beq_refl];rfl) ?_
 refine T.ret ⟨rfl,by rw [hlen],by rw [hlen];omega,?_,fun i hi=>?_⟩
 case refine_2=>
  unfold cpy
  rw [show min l.length n=l.length by omega,List.take_zero,List.nil_append,List.take_length,List.getElem?_append_left hi]
 intro i hi t ht
 unfold cpy at ht
 rw [show min l.length n=l.length by omega,List.take_zero,List.nil_append,List.take_length,List.getElem?_append_right hi,List.getElem?_drop] at ht
 have hm:=List.mem_of_getElem? ht
 rw [List.mem_replicate] at hm
 rw [hm.2]
def ple (p q:aC):Prop:=p.gX≤q.gX∧p.gY≤q.gY∧p.gZ≤q.gZ
theorem aNr (N:Nat) (l:List aC) {m:Int} (hm:0≤m) (h:∀ p∈l,pwi m p) (hN:l.length < N) (hl:l.length < 1000000):T (nL N l) (fun r=>pwi m r.1∧pwi m r.2∧∀ p∈l,ple r.1 p∧ple p r.2):=by
 unfold nL
 have z:pwi m (aC.mk 0 0 0):=by unfold pwi;dsimp only;omega
 refine T.bind (T.loopG0 (n:=l.length) (fun i (s:aC×aC)=>pwi m s.1∧pwi m s.2∧∀ j,(hj:j < l.length)→j < i→ple s.1 l[j]∧ple l[j] s.2) (fun r=>pwi m r.1∧pwi m r.2∧∀ p∈l,ple r.1 p∧ple p r.2) (F:=fun k (s:aC×aC) i=>tW N l k s.1 s.2 i) (fun k s i hi hs hk=>?_) (fun k s hs=>?_) hN (s:=(aC.mk 0 0 0,aC.mk 0 0 0)) ⟨z,z,fun j _ h=>absurd h (by omega)⟩) fun r hr=>T.ret hr
 ·rw [tW,aR,dt (by omega),cond_true,iT,List.getElem?_eq_getElem hi,Option.bind_some]
  have he:=h _ (List.getElem_mem hi)
  generalize hx:l[i]=x at *
  refine T.bind (P:=fun p=>pwi m p.1∧pwi m p.2∧∀ j,(hj:j < l.length)→j < i→ple p.1 l[j]∧ple l[j] p.2) ?_ fun p7 h7=>?_
  ·refine T.cond (fun hc=>?_) (fun _=>T.ret hs)
   have:i=0:=by have:=of_decide_eq_true hc;omega
   exact T.ret ⟨he,he,fun j _ h=>absurd h (by omega)⟩
  ·rw [dX (by omega)]
   obtain ⟨a,b,c⟩:=h7
   refine hk (_,_) ⟨?_,?_,fun j hj hji=>?_⟩
   ·unfold pwi at *;simp only [uX];omega
   ·unfold pwi at *;simp only [sK];omega
   ·by_cases e:j=i
    ·subst e
     rw [hx]
     unfold ple;simp only [uX,sK];omega
    ·have:=c j hj (by omega)
     unfold ple at *;simp only [uX,sK];omega
 ·rw [tW,aR,df (by omega),cond_false]
  refine T.ret ⟨hs.1,hs.2.1,fun p hp=>?_⟩
  obtain ⟨j,hj,rfl⟩:=List.getElem_of_mem hp
  exact hs.2.2 j hj hj
def tpw (t:aF):Prop:=∀ p∈t.gP.toList,pwi 65536 p
theorem T.slc3 {α:Type} (v:Vector α 3):T (vU v.toList 0 3) (fun r=>r=v.toList):=by
 refine ⟨_,aES (by decide) (by decide) (by simp),?_⟩
 exact List.take_of_length_le (show v.toList.length≤3 by simp)
theorem aJF (N:Nat) (hN:3 < N) {t:aF} (h:tpw t):T (nL N t.gP.toList) (fun r=>pwi 65536 r.1∧pwi 65536 r.2∧∀ p∈t.gP.toList,ple r.1 p∧ple p r.2):=
 aNr N _ (by decide) h (by simpa using hN) (by simp)
theorem aGC (N:Nat) (hN:3 < N) {t:aF} (h:tpw t):T (jE N t) (pwi 131072):=by
 unfold jE
 refine T.bind (T.slc3 t.gP) fun s hs=>?_
 subst hs
 refine T.bind (aJF N hN h) fun r2 h2=>?_
 simp only [aR]
 obtain ⟨a,b,_⟩:=h2
 refine T.ret ?_
 unfold pwi at *
 dsimp only
 rw [bV (by omega) (by omega),bV (by omega) (by omega),bV (by omega) (by omega)]
 omega
def ax (p:aC) (i:Int):Int:=if i=0 then p.gX else if i=1 then p.gY else p.gZ
theorem aDF (N:Nat) (p:aC) {i:Int} (h0:0≤i) (h3:i < 3):T (lO N p i) (fun r=>r=ax p i):=by
 have:i=0∨i=1∨i=2:=by omega
 rcases this with rfl | rfl | rfl <;> exact ⟨_,rfl,rfl⟩
theorem ax_b {m:Int} {p:aC} (h:pwi m p) (i:Int) : -m≤ax p i∧ax p i≤m:=by
 unfold pwi at h;unfold ax;split
 ·omega
 ·split <;> omega
def ord (n:Nat) (l:List Int):Prop:=∀ x∈l,0≤x∧x < (n:Int)
def aAb (l:List aF):Prop:=(∀ t∈l,tpw t)∧l.length≤20
theorem T.tri {l:List aF} (h:aAb l) {e:Int} (he:0≤e∧e < (l.length:Int)):T (Go.UK.idx l e) tpw:=
 (T.idx he.1 he.2).mono fun t ht=>h.1 t (List.mem_of_getElem? ht)
theorem aS1 (N:Nat) (hN:3 < N) {l:List aF} (h:aAb l) {a b i:Int} (ha:0≤a∧a < (l.length:Int)) (hb:0≤b∧b < (l.length:Int)) (hi:0≤i∧i < 3):T (pB N a b l i) (fun _=>True):=by
 unfold pB
 refine T.bind (T.tri h ha) fun _ h1=>T.bind (aGC N hN h1) fun _ _=>T.bind (aDF N _ hi.1 hi.2) fun _ _=>?_
 refine T.bind (T.tri h hb) fun _ h1=>T.bind (aGC N hN h1) fun _ _=>T.bind (aDF N _ hi.1 hi.2) fun _ _=>T.ret trivial
def aHu (a b:Int):Prop:=a≠b∧(-131072≤a∧a≤131072)∧(-131072≤b∧b≤131072)
theorem binT0 (N:Nat) {x a b:Int} (h:aHu a b):T (vH N x a b) (fun _=>True):=by
 unfold vH
 simp only [aR]
 obtain ⟨h1,h2,h3⟩:=h
 rw [bV (x:=b - a) (by omega) (by omega)]
 exact T.eq (aCp .i64 (by omega)) (T.ret trivial)
theorem binT (N:Nat) {x a b:Int} (h:aHu a b) (hx:a≤x∧x≤b):T (vH N x a b) (fun r=>0≤r∧r < 8):=by
 unfold vH
 simp only [aR]
 obtain ⟨h1,h2,h3⟩:=h
 rw [bV (x:=b - a) (by omega) (by omega),bV (x:=x - a) (by omega) (by omega),bV (x:=(x - a)*8) (by omega) (by omega)]
 refine T.eq (aCp .i64 (by omega)) (T.ret ?_)
 rw [Int.tdiv_eq_ediv_of_nonneg (by omega)]
 have q0:0≤(x - a)*8 / (b - a):=Int.ediv_nonneg (by omega) (by omega)
 have q1:(x - a)*8 / (b - a)≤(x - a)*8:=Int.ediv_le_self _ (by omega)
 rw [show IntKind.i64.wrap ((x - a)*8 / (b - a))=(x - a)*8 / (b - a) from bV (by omega) (by omega),uX]
 omega
theorem aJ6 (N:Nat) (hN:3 < N) {l:List aF} (h:aAb l) {e a b c i:Int} (he:0≤e∧e < (l.length:Int)) (hab:aHu a b) (hi:0≤i∧i < 3):T (fU N e l a b c i) (fun _=>True):=by
 unfold fU
 refine T.bind (T.tri h he) fun _ h1=>T.bind (aGC N hN h1) fun _ _=>T.bind (aDF N _ hi.1 hi.2) fun _ _=>T.bind (binT0 N hab) fun _ _=>T.ret trivial
theorem aSG (N:Nat) (hN:3 < N) {l:List aF} (h:aAb l) {e e' a b c i:Int} (he:0≤e∧e < (l.length:Int)) (he':0≤e'∧e' < (l.length:Int)) (hab:aHu a b) (hi:0≤i∧i < 3):T (qE N e e' l a b c i) (fun _=>True):=by
 unfold qE
 refine T.bind (aJ6 N hN h he hab hi) fun _ _=>T.bind (aJ6 N hN h he' hab hi) fun _ _=>T.cond (fun _=>T.ret trivial) (fun _=>?_)
 refine T.bind (aJ6 N hN h he' hab hi) fun _ _=>T.cond (fun _=>T.ret trivial) (fun _=>T.ret trivial)
theorem T.inRS {L lo n:Nat} {i:Int} (h1:lo+n≤L) (h2:0≤i) (h3:i < (n:Int)):T (yR L lo n i) (fun _=>True):=⟨(),by unfold Go.UK.yR;rw [dt h1,dt h2,dt h3];rfl,trivial⟩
theorem T.slcG {L lo0 n:Nat} {lo hi:Int} (h1:lo0+n≤L) (h2:0≤lo) (h3:lo≤hi) (h4:hi≤(n:Int)) (h5:lo=0∨lo < (n:Int)):T (aJ3 L lo0 n lo hi) (fun _=>True):=⟨(),by unfold Go.UK.aJ3;rw [dt h1,dt h2,dt h3,dt h4,dt h5];rfl,trivial⟩
theorem T.lenO {α:Type} {l:List α} {n:Nat} (h:l.length=n):T (aAA l n) (fun _=>True):=⟨(),by unfold Go.UK.aAA;rw [h,Nat.beq_refl];rfl,trivial⟩
theorem T.setO {α:Type} {l:List α} {j:Nat} {e:α} (h:j < l.length):T (aGZ l j e) (fun r=>r=l.set j e):=⟨_,by unfold Go.UK.aGZ;rw [show Nat.blt j l.length=Bool.true by rw [Nat.blt_eq];exact h];rfl,rfl⟩
theorem T.appG {α:Type} {b m:Nat} {l r:List α} (h:m≤l.length) (h':(m+r.length)*b≤140737488355328):T (aK4 b l m r) (fun x=>x=uP l m r):=⟨_,by unfold Go.UK.aK4;rw [dt h,show Nat.ble ((m+r.length)*b) 140737488355328=Bool.true by rw [Nat.ble_eq];exact h'];rfl,rfl⟩
theorem T.get0 {α:Type} {l:List α} {j:Nat} (h:j < l.length):T (l[j]?) (fun e=>e∈l):=⟨l[j],List.getElem?_eq_getElem h,List.getElem_mem h⟩
theorem aF0 {n:Nat} {l:List Int} {j:Nat} {e:Int} (h:ord n l) (he:0≤e∧e < (n:Int)):ord n (l.set j e):=by
 intro x hx
 rcases List.mem_or_eq_of_mem_set hx with hx | rfl
 ·exact h x hx
 ·exact he
structure qN (lo m:Nat) (b r:List Int):Prop where
 len:r.length=b.length
 out:∀ j,j < lo∨lo+m≤j→r[j]? = b[j]?
 sub:∀ j,lo≤j→j < lo+m→∃ j',lo≤j'∧j' < lo+m∧r[j]? = b[j']?
 sup:∀ j,lo≤j→j < lo+m→∃ j',lo≤j'∧j' < lo+m∧b[j]? = r[j']?
theorem qN.rfl' (lo m:Nat) (b:List Int):qN lo m b b:=⟨rfl,fun _ _=>rfl,fun j h h'=>⟨j,h,h',rfl⟩,fun j h h'=>⟨j,h,h',rfl⟩⟩
theorem qN.trans {lo m:Nat} {a b c:List Int} (h:qN lo m a b) (g:qN lo m b c):qN lo m a c:=by
 refine ⟨g.len.trans h.len,fun j hj=>(g.out j hj).trans (h.out j hj),fun j h1 h2=>?_,fun j h1 h2=>?_⟩
 ·obtain ⟨j1,a1,a2,a3⟩:=g.sub j h1 h2
  obtain ⟨j2,b1,b2,b3⟩:=h.sub j1 a1 a2
  exact ⟨j2,b1,b2,a3.trans b3⟩
 ·obtain ⟨j1,a1,a2,a3⟩:=h.sup j h1 h2
  obtain ⟨j2,b1,b2,b3⟩:=g.sup j1 a1 a2
  exact ⟨j2,b1,b2,a3.trans b3⟩
theorem qN.swap {lo m:Nat} {b:List Int} {x y:Nat} {e f:Int} (hx:lo≤x∧x < lo+m) (hy:lo≤y∧y < lo+m) (he:b[y]? = some e) (hf:b[x]? = some f):qN lo m b ((b.set x e).set y f):=by
 have lx:x < b.length:=by obtain ⟨h,_⟩:=List.getElem?_eq_some_iff.1 hf;exact h
 have ly:y < b.length:=by obtain ⟨h,_⟩:=List.getElem?_eq_some_iff.1 he;exact h
 have g:∀ j,((b.set x e).set y f)[j]? = if j=y then some f else if j=x then some e else b[j]? := by
  intro j
  by_cases h1:j=y
  ·subst h1;rw [if_pos rfl,List.getElem?_set_self (by rw [List.length_set];exact ly)]
  ·rw [if_neg h1,List.getElem?_set_ne (by omega)]
   by_cases h2:j=x
   ·subst h2;rw [if_pos rfl,List.getElem?_set_self lx]
   ·rw [if_neg h2,List.getElem?_set_ne (by omega)]
 refine ⟨by rw [List.length_set,List.length_set],fun j hj=>?_,fun j h1 h2=>?_,fun j h1 h2=>?_⟩
 ·rw [g,if_neg (by omega),if_neg (by omega)]
 ·rw [g]
  by_cases c1:j=y
  ·rw [if_pos c1];exact ⟨x,hx.1,hx.2,hf.symm⟩
  ·rw [if_neg c1]
   by_cases c2:j=x
   ·rw [if_pos c2];exact ⟨y,hy.1,hy.2,he.symm⟩
   ·rw [if_neg c2];exact ⟨j,h1,h2,rfl⟩
 ·by_cases c1:j=y
  ·refine ⟨if x=y then y else x,by split <;> omega,by split <;> omega,?_⟩
   rw [g]
   by_cases c3:x=y
   ·rw [if_pos c3,if_pos rfl,c1,← c3,hf]
   ·rw [if_neg c3,if_neg c3,if_pos rfl,c1,he]
  ·by_cases c2:j=x
   ·refine ⟨y,hy.1,hy.2,?_⟩
    rw [g,if_pos rfl,c2,hf]
   ·refine ⟨j,h1,h2,?_⟩
    rw [g,if_neg c1,if_neg c2]
def okS (n lo m:Nat) (b:List Int) (s:List Int×Nat):Prop:=ord n s.1∧qN lo m b s.1∧s.2=m
theorem ia1 {a:Nat} (h:a < 900000):I64 ((a:Int)+1)=((a+1:Nat):Int):=dX (by omega)
theorem ins2A (N:Nat) (hN:3 < N) {R:List aF} (hT:aAb R) {lo m:Nat} {a:Int} {i:Int} (hi:0≤i∧i < 3) (ha:0≤a) {b:List Int} (hL:lo+m≤b.length) (hm:m≤20) :
  ∀ (j k:Nat) (s:List Int),j < m→j < k→ord R.length s→qN lo m b s→T (bL N a lo R i k s m (j:Int)) (okS R.length lo m b):=by
 intro j
 induction j with
 | zero=>
  intro k s hj hk ho hs
  have hsl:=hs.len
  obtain ⟨k,rfl⟩:∃ k',k=k'+1:=⟨k - 1,by omega⟩
  rw [bL,df (by omega),cond_false]
  exact T.eq rfl (T.ret ⟨ho,hs,rfl⟩)
 | succ j ih=>
  intro k s hj hk ho hs
  have hsl:=hs.len
  obtain ⟨k,rfl⟩:∃ k',k=k'+1:=⟨k - 1,by omega⟩
  rw [bL,show I64 (((j+1:Nat):Int) - 1)=(j:Int) by rw [bV (by omega) (by omega)];omega]
  simp only [zJ,Int.toNat_natCast]
  refine T.bind (P:=fun _=>True) ?_ fun p9 _=>T.cond (fun _=>?_) (fun _=>T.ret ⟨ho,hs,rfl⟩)
  ·refine T.cond (fun _=>?_) (fun _=>T.ret trivial)
   refine T.bind (T.inRS (by omega) (by omega) (by omega)) fun _ _=>T.bind (T.get0 (by omega)) fun e11 h11=>T.bind (T.inRS (by omega) (by omega) (by omega)) fun _ _=>T.bind (T.get0 (by omega)) fun e13 h13=>?_
   exact T.bind (aS1 N hN hT (ho _ h11) (ho _ h13) hi) fun _ _=>T.ret trivial
  ·refine T.bind (T.inRS (by omega) (by omega) (by omega)) fun _ _=>T.bind (T.get (by omega)) fun e16 h16=>T.bind (T.inRS (by omega) (by omega) (by omega)) fun _ _=>T.bind (T.get (by omega)) fun e18 h18=>?_
   refine T.bind (T.inRS (by omega) (by omega) (by omega)) fun _ _=>T.bind (T.setO (by omega)) fun z20 h20=>T.bind (T.inRS (by omega) (by omega) (by omega)) fun _ _=>T.bind (T.setO (by rw [h20,List.length_set];omega)) fun z22 h22=>?_
   subst h22
   subst h20
   exact ih k _ (by omega) (by omega) (aF0 (aF0 ho (ho _ (List.mem_of_getElem? h16))) (ho _ (List.mem_of_getElem? h18))) (hs.trans (qN.swap ⟨by omega,by omega⟩ ⟨by omega,by omega⟩ h16 h18))
theorem insA (N:Nat) (hN:50 < N) {R:List aF} (hT:aAb R) {L lo m:Nat} {a b:Nat} {i:Int} (hi:0≤i∧i < 3) (ha:a≤20) (hb:b≤m) (hL:lo+m≤L) (hm:m≤20) {s:List Int} (ho:ord R.length s) (hs0:s.length=L):T (bI N s lo m (a:Int) (b:Int) R i) (fun r=>ord R.length r∧qN lo m s r):=by
 unfold bI
 have main:∀ (k j:Nat) (q:List Int),b - j < k→j < 1000→ord R.length q→qN lo m s q→T (bW N (b:Int) (a:Int) lo R i k q m (j:Int)) (fun r=>ord R.length r∧qN lo m s r):=by
  intro k
  induction k with
  | zero=>intro j q h;omega
  | succ k ih=>
   intro j q hj hj' ho hs
   rw [bW]
   refine T.cond (fun hc=>?_) (fun _=>T.ret ⟨ho,hs⟩)
   have hjb:j < b:=by have:=of_decide_eq_true hc;omega
   refine T.bind (ins2A N (by omega) hT hi (by omega) (b:=s) (by rw [hs0];exact hL) hm j N q (by omega) (by omega) ho hs) fun p5 h5=>?_
   obtain ⟨q',m'⟩:=p5
   obtain ⟨o1,o2,o3⟩:=h5
   dsimp only at o1 o2 o3
   subst o3
   rw [dX (by omega)]
   exact ih (j+1) q' (by omega) (by omega) o1 o2
 by_cases h:True
 ·rw [ia1 (by omega)]
  exact T.bind (main N (a+1) s (by omega) (by omega) ho (qN.rfl' lo m s)) fun r h=>T.ret h
 ·exact absurd trivial h
theorem aRY (N:Nat) (hN:50 < N) {R:List aF} (hT:aAb R) {L lo m:Nat} {i:Int} (hi:0≤i∧i < 3) (hL:lo+m≤L) (hm:m≤20) {s:List Int} (ho:ord R.length s) (hs:s.length=L):T (cJ N s lo m R i) (fun r=>ord R.length r∧qN lo m s r):=by
 unfold cJ eJ
 refine T.bind (P:=fun r=>ord R.length r∧qN lo m s r) ?_ fun r h=>T.ret h
 obtain ⟨N,rfl⟩:∃ n,N=n+2:=⟨N - 2,by omega⟩
 have fin:∀ (q:List Int) (a:Nat),a≤m→ord R.length q→qN lo m s q→T (Option.bind (bI (N+2) q lo m (a:Int) (m:Int) R i) fun r8=>Option.bind (aAA r8 q.length) fun _=>Option.bind (cP (N+2) (m:Int) (N+2) 20) fun p10=>some r8) (fun r=>ord R.length r∧qN lo m s r):=by
  intro q a ha ho hq
  refine T.bind (insA (N+2) (by omega) hT hi (by omega) (Nat.le_refl _) hL hm ho (hq.len.trans hs)) fun r8 h8=>T.bind (T.lenO h8.2.len) fun _ _=>?_
  rw [cP,df (by omega),cond_false]
  exact T.eq rfl (T.ret ⟨h8.1,hq.trans h8.2⟩)
 by_cases h:m=20
 ·rw [bX,dt (by omega),cond_true]
  have r1:=insA (N+2) (by omega) hT hi (a:=0) (b:=20) (by omega) (by omega) hL hm ho hs
  obtain ⟨q,e,oq,lq⟩:=r1
  rw [show ((0:Nat):Int)=0 from rfl,show ((20:Nat):Int)=20 from rfl] at e
  refine T.eq (a:=(q,m,20)) ?_ (fin q 20 (by omega) oq lq)
  rw [e,Option.bind_some,show aAA q s.length=some () by unfold aAA;rw [lq.len,Nat.beq_refl];rfl,Option.bind_some]
  rw [bX,show I64 (20+20)=40 by decide,df (by omega),cond_false]
 ·rw [bX,df (by omega),cond_false]
  exact T.eq rfl (fin s 0 (by omega) ho (qN.rfl' lo m s))
theorem ins2B (N:Nat) (hN:3 < N) {R:List aF} (hT:aAb R) {lo m:Nat} {a:Int} {u v w i:Int} (hab:aHu u v) (hi:0≤i∧i < 3) (ha:0≤a) {b:List Int} (hL:lo+m≤b.length) (hm:m≤20) :
  ∀ (j k:Nat) (s:List Int),j < m→j < k→ord R.length s→qN lo m b s→T (bM N a lo R u v w i k s m (j:Int)) (okS R.length lo m b):=by
 intro j
 induction j with
 | zero=>
  intro k s hj hk ho hs
  have hsl:=hs.len
  obtain ⟨k,rfl⟩:∃ k',k=k'+1:=⟨k - 1,by omega⟩
  rw [bM,df (by omega),cond_false]
  exact T.eq rfl (T.ret ⟨ho,hs,rfl⟩)
 | succ j ih=>
  intro k s hj hk ho hs
  have hsl:=hs.len
  obtain ⟨k,rfl⟩:∃ k',k=k'+1:=⟨k - 1,by omega⟩
  rw [bM,show I64 (((j+1:Nat):Int) - 1)=(j:Int) by rw [bV (by omega) (by omega)];omega]
  simp only [zJ,Int.toNat_natCast]
  refine T.bind (P:=fun _=>True) ?_ fun p9 _=>T.cond (fun _=>?_) (fun _=>T.ret ⟨ho,hs,rfl⟩)
  ·refine T.cond (fun _=>?_) (fun _=>T.ret trivial)
   refine T.bind (T.inRS (by omega) (by omega) (by omega)) fun _ _=>T.bind (T.get0 (by omega)) fun e11 h11=>T.bind (T.inRS (by omega) (by omega) (by omega)) fun _ _=>T.bind (T.get0 (by omega)) fun e13 h13=>?_
   exact T.bind (aSG N hN hT (ho _ h11) (ho _ h13) hab hi) fun _ _=>T.ret trivial
  ·refine T.bind (T.inRS (by omega) (by omega) (by omega)) fun _ _=>T.bind (T.get (by omega)) fun e16 h16=>T.bind (T.inRS (by omega) (by omega) (by omega)) fun _ _=>T.bind (T.get (by omega)) fun e18 h18=>?_
   refine T.bind (T.inRS (by omega) (by omega) (by omega)) fun _ _=>T.bind (T.setO (by omega)) fun z20 h20=>T.bind (T.inRS (by omega) (by omega) (by omega)) fun _ _=>T.bind (T.setO (by rw [h20,List.length_set];omega)) fun z22 h22=>?_
   subst h22
   subst h20
   exact ih k _ (by omega) (by omega) (aF0 (aF0 ho (ho _ (List.mem_of_getElem? h16))) (ho _ (List.mem_of_getElem? h18))) (hs.trans (qN.swap ⟨by omega,by omega⟩ ⟨by omega,by omega⟩ h16 h18))
theorem insB (N:Nat) (hN:50 < N) {R:List aF} (hT:aAb R) {L lo m:Nat} {a b:Nat} {u v w i:Int} (hab:aHu u v) (hi:0≤i∧i < 3) (ha:a≤20) (hb:b≤m) (hL:lo+m≤L) (hm:m≤20) {s:List Int} (ho:ord R.length s) (hs0:s.length=L):T (bJ N s lo m (a:Int) (b:Int) R u v w i) (fun r=>ord R.length r∧qN lo m s r):=by
 unfold bJ
 have main:∀ (k j:Nat) (q:List Int),b - j < k→j < 1000→ord R.length q→qN lo m s q→T (cA N (b:Int) (a:Int) lo R u v w i k q m (j:Int)) (fun r=>ord R.length r∧qN lo m s r):=by
  intro k
  induction k with
  | zero=>intro j q h;omega
  | succ k ih=>
   intro j q hj hj' ho hs
   rw [cA]
   refine T.cond (fun hc=>?_) (fun _=>T.ret ⟨ho,hs⟩)
   have hjb:j < b:=by have:=of_decide_eq_true hc;omega
   refine T.bind (ins2B N (by omega) hT hab hi (by omega) (b:=s) (by rw [hs0];exact hL) hm j N q (by omega) (by omega) ho hs) fun p5 h5=>?_
   obtain ⟨q',m'⟩:=p5
   obtain ⟨o1,o2,o3⟩:=h5
   dsimp only at o1 o2 o3
   subst o3
   rw [dX (by omega)]
   exact ih (j+1) q' (by omega) (by omega) o1 o2
 by_cases h:True
 ·rw [ia1 (by omega)]
  exact T.bind (main N (a+1) s (by omega) (by omega) ho (qN.rfl' lo m s)) fun r h=>T.ret h
 ·exact absurd trivial h
theorem aQn (N:Nat) (hN:50 < N) {R:List aF} (hT:aAb R) {L lo m:Nat} {u v w i:Int} (hab:aHu u v) (hi:0≤i∧i < 3) (hL:lo+m≤L) (hm:m≤20) {s:List Int} (ho:ord R.length s) (hs:s.length=L):T (cM N s lo m R u v w i) (fun r=>ord R.length r∧qN lo m s r):=by
 unfold cM eR
 refine T.bind (P:=fun r=>ord R.length r∧qN lo m s r) ?_ fun r h=>T.ret h
 obtain ⟨N,rfl⟩:∃ n,N=n+2:=⟨N - 2,by omega⟩
 have fin:∀ (q:List Int) (a:Nat),a≤m→ord R.length q→qN lo m s q→T (Option.bind (bJ (N+2) q lo m (a:Int) (m:Int) R u v w i) fun r8=>Option.bind (aAA r8 q.length) fun _=>Option.bind (cR (N+2) (m:Int) (N+2) 20) fun p10=>some r8) (fun r=>ord R.length r∧qN lo m s r):=by
  intro q a ha ho hq
  refine T.bind (insB (N+2) (by omega) hT hab hi (by omega) (Nat.le_refl _) hL hm ho (hq.len.trans hs)) fun r8 h8=>T.bind (T.lenO h8.2.len) fun _ _=>?_
  rw [cR,df (by omega),cond_false]
  exact T.eq rfl (T.ret ⟨h8.1,hq.trans h8.2⟩)
 by_cases h:m=20
 ·rw [cB,dt (by omega),cond_true]
  have r1:=insB (N+2) (by omega) hT (w:=w) hab hi (a:=0) (b:=20) (by omega) (by omega) hL hm ho hs
  obtain ⟨q,e,oq,lq⟩:=r1
  rw [show ((0:Nat):Int)=0 from rfl,show ((20:Nat):Int)=20 from rfl] at e
  refine T.eq (a:=(q,m,20)) ?_ (fin q 20 (by omega) oq lq)
  rw [e,Option.bind_some,show aAA q s.length=some () by unfold aAA;rw [lq.len,Nat.beq_refl];rfl,Option.bind_some]
  rw [cB,show I64 (20+20)=40 by decide,df (by omega),cond_false]
 ·rw [cB,df (by omega),cond_false]
  exact T.eq rfl (fin s 0 (by omega) ho (qN.rfl' lo m s))
structure aJY (R:List aF) (b:List Int) (lo m:Nat):Prop where
 tris:aAb R
 ord:ord R.length b
 len:lo+m≤b.length
 few:m≤20
theorem aJY.get {R:List aF} {b:List Int} {lo m:Nat} (h:aJY R b lo m) {i:Nat} (hi:i < m):T (b[zF lo ((i:Int).toNat)]?) (fun e=>0≤e∧e < (R.length:Int)):=by
 rw [zJ,Int.toNat_natCast]
 have:=h.len
 exact (T.get0 (by omega)).mono fun e he=>h.ord e he
theorem aJY.rs {R:List aF} {b:List Int} {lo m:Nat} (h:aJY R b lo m) {i:Nat} (hi:i < m):T (yR b.length lo m (i:Int)) (fun _=>True):=T.inRS h.len (by omega) (by omega)
def tinB (lo hi:aC) (t:aF):Prop:=∀ p∈t.gP.toList,ple lo p∧ple p hi
def aCO (R:List aF) (b:List Int) (lo m:Nat) (x y:aC):Prop:=∀ j,lo≤j→j < lo+m→∀ e,b[j]? = some e→∀ t,R[e.toNat]? = some t→tinB x y t
theorem aM9 {a b c:aC} (h:ple a b) (g:ple b c):ple a c:=by unfold ple at *;omega
theorem boxDT (N:Nat) (hN:30 < N) {R:List aF} {b:List Int} {lo m:Nat} (h:aJY R b lo m):T (vY N b R lo m) (fun r=>(pwi 65536 r.1∧pwi 65536 r.2)∧aCO R b lo m r.1 r.2):=by
 unfold vY
 have z:pwi 65536 (aC.mk 0 0 0):=by unfold pwi;dsimp only;omega
 have fw:=h.few
 refine T.bind (T.loopG0 (n:=m) (fun i (s:aC×aC)=>(pwi 65536 s.1∧pwi 65536 s.2)∧aCO R b lo i s.1 s.2) (fun r=>(pwi 65536 r.1∧pwi 65536 r.2)∧aCO R b lo m r.1 r.2) (F:=fun k (s:aC×aC) i=>oG N m b lo R k s.1 s.2 i) (fun k s i hi hs hk=>?_) (fun k s hs=>?_) (by omega) (s:=(aC.mk 0 0 0,aC.mk 0 0 0)) ⟨⟨z,z⟩,fun j _ h=>absurd h (by omega)⟩) fun r hr=>T.ret hr
 ·rw [oG,aR,dt (by omega),cond_true]
  refine T.bind (P:=fun p=>(pwi 65536 p.1∧pwi 65536 p.2.1)∧aCO R b lo (i+1) p.1 p.2.1) ?_ fun p6 h6=>by rw [dX (by omega)];exact hk (_,_) h6
  refine T.bind (h.rs hi) fun _ _=>?_
  obtain ⟨e8,ee,h8⟩:=h.get hi
  refine T.eq ee ?_
  rw [zJ,Int.toNat_natCast] at ee
  have hidx:e8.toNat < R.length:=by omega
  have et:R[e8.toNat]? = some R[e8.toNat]:=List.getElem?_eq_getElem hidx
  have h9:tpw R[e8.toNat]:=h.tris.1 _ (List.getElem_mem hidx)
  refine T.eq (a:=R[e8.toNat]) ?_ (T.bind (T.slc3 _) fun s10 h10=>?_)
  ·have:e8=((e8.toNat:Nat):Int):=by omega
   exact (congrArg (idx R) this).trans ((iT R e8.toNat).trans et)
  generalize R[e8.toNat]=t at *
  subst h10
  refine T.bind (aJF N (by omega) h9) fun r11 h11=>?_
  have one:∀ {x y:aC},(∀ p∈t.gP.toList,ple x p∧ple p y)→(∀ j,lo≤j→j < lo+i→∀ e,b[j]? = some e→∀ t,R[e.toNat]? = some t→tinB x y t)→aCO R b lo (i+1) x y:=by
   intro x y hx hy j j1 j2 e he t' ht'
   by_cases c:j=lo+i
   ·subst c
    have:e8=e:=lA ee he
    subst this
    rw [et] at ht'
    cases ht'
    exact hx
   ·exact hy j j1 (by omega) e he t' ht'
  refine T.cond (fun hc=>T.ret ⟨⟨h11.1,h11.2.1⟩,one h11.2.2 fun j j1 j2=>?_⟩) (fun _=>?_)
  ·have:=of_decide_eq_true hc;omega
  refine T.bind (aNr N _ (m:=65536) (by decide) (by intro p hp;simp at hp;rcases hp with rfl | rfl;exact hs.1.1;exact h11.1) (by simp;omega) (by simp)) fun r12 h12=>?_
  refine T.bind (aNr N _ (m:=65536) (by decide) (by intro p hp;simp at hp;rcases hp with rfl | rfl;exact hs.1.2;exact h11.2.1) (by simp;omega) (by simp)) fun r13 h13=>T.ret ⟨⟨h12.1,h13.2.1⟩,one (fun p hp=>⟨aM9 (h12.2.2 _ (by simp)).1 (h11.2.2 p hp).1,aM9 (h11.2.2 p hp).2 (h13.2.2 _ (by simp)).2⟩) fun j j1 j2 e he t' ht' p hp=>?_⟩
  have q:=hs.2 j j1 j2 e he t' ht' p hp
  exact ⟨aM9 (h12.2.2 s.1 (by simp)).1 q.1,aM9 q.2 (h13.2.2 s.2 (by simp)).2⟩
 ·rw [oG,aR,df (by omega),cond_false];exact T.ret hs
def aC6 (s:bE):Prop:=pwi 65536 s.glo∧pwi 65536 s.ghi
theorem aOR : aC6 (bE.mk 0 (aC.mk 0 0 0) (aC.mk 0 0 0)):=by unfold aC6 pwi;dsimp only;omega
theorem aOg (N:Nat) (hN:10 < N) {s:bE} (hs:aC6 s) (n:Int) {a b:aC} (ha:pwi 65536 a) (hb:pwi 65536 b):T (nP N s n a b) aC6:=by
 unfold nP
 refine T.cond (fun _=>T.ret hs) (fun _=>?_)
 refine T.bind (P:=fun p=>pwi 65536 p.1∧pwi 65536 p.2) ?_ fun p1 h1=>T.ret ⟨h1.1,h1.2⟩
 refine T.cond (fun _=>?_) (fun _=>T.ret ⟨ha,hb⟩)
 refine T.bind (aNr N _ (m:=65536) (by decide) (by intro p hp;simp at hp;rcases hp with rfl | rfl;exact hs.1;exact ha) (by simp;omega) (by simp)) fun r12 h12=>?_
 refine T.bind (aNr N _ (m:=65536) (by decide) (by intro p hp;simp at hp;rcases hp with rfl | rfl;exact hs.2;exact hb) (by simp;omega) (by simp)) fun r13 h13=>T.ret ⟨h12.1,h13.2.1⟩
theorem aR0 (N:Nat) (s:bE):T (oE N s) (fun _=>True):=by
 unfold oE
 refine T.cond (fun _=>T.ret trivial) (fun _=>T.bind (P:=fun _=>True) (by unfold aBb;simp only [aR];exact T.ret trivial) fun _ _=>T.ret trivial)
def midP (N:Nat) (R:List aF) (b:List Int) (lo m:Nat) (i u v:Int):Prop:=∀ j,j < m→∀ e,b[lo+j]? = some e→T (Option.bind (idx R e) fun t=>jE N t) (fun p=>u≤ax p i∧ax p i≤v)
theorem cutT (N:Nat) (hN:30 < N) {R:List aF} {b:List Int} {lo m:Nat} (h:aJY R b lo m) {i u v:Int} (hi:0≤i∧i < 3) (hab:aHu u v) (hm:midP N R b lo m i u v):T (rC N b R lo m i u v) (fun _=>True):=by
 unfold rC
 have fw:=h.few
 refine T.bind (P:=fun p1=>∀ s∈p1.toList,aC6 s) ?_ fun p1 h1=>?_
 ·refine T.loopG0 (n:=m) (fun _ (s:Vector bE 8)=>∀ x∈s.toList,aC6 x) _ (F:=lL N m b lo R i u v) (fun k s j hj hs hk=>?_) (fun k s hs=>?_) (by omega) (by intro x hx;simp at hx;rw [hx];exact aOR)
  ·rw [lL,aR,dt (by omega),cond_true]
   have hmj:=hm j hj
   refine T.bind (h.rs hj) fun _ _=>?_
   have hg:=h.get hj
   obtain ⟨e6,ee6,he6⟩:=hg
   refine T.eq ee6 ?_
   rw [zJ,Int.toNat_natCast] at ee6
   have hmid:=hmj e6 ee6
   obtain ⟨t,et,ht⟩:=T.tri h.tris he6
   refine T.eq et (T.bind (T.slc3 _) fun s8 h8=>?_)
   subst h8
   refine T.bind (aJF N (by omega) ht) fun r9 h9=>T.eq et ?_
   rw [et,Option.bind_some] at hmid
   obtain ⟨q,eq1,hq⟩:=hmid
   refine T.eq eq1 (T.bind (aDF N q hi.1 hi.2) fun r12 h12=>?_)
   subst h12
   refine T.bind (binT N hab hq) fun r13 h13=>T.bind (T.inRO h13.1 (by omega)) fun _ _=>?_
   have hv:r13.toNat < 8:=by omega
   refine T.eq (aJ4 s _ hv) (T.bind (aOg N (by omega) (hs _ (vmem s hv)) 1 h9.1 h9.2.1) fun r16 h16=>T.bind (T.inRO h13.1 (by omega)) fun _ _=>T.eq (aJ4 s _ hv) ?_)
   rw [dX (by omega)]
   refine hk _ fun x hx=>?_
   rw [Vector.toList_setIfInBounds] at hx
   rcases List.mem_or_eq_of_mem_set hx with hx | rfl
   ·exact hs x hx
   ·exact h16
  ·rw [lL,aR,df (by omega),cond_false];exact T.ret hs
 refine T.bind (P:=fun _=>True) ?_ fun p19 _=>T.ret trivial
 have main:∀ (k j:Nat) (a c:Int),8 - j < k→j≤8→T (nZ N p1 k a c (j:Int)) (fun _=>True):=by
  intro k
  induction k with
  | zero=>intro j a c h;omega
  | succ k ih=>
   intro j a c hk hj
   rw [nZ]
   refine T.cond (fun hc=>?_) (fun _=>T.ret trivial)
   have hj8:j < 8:=by have:=of_decide_eq_true hc;omega
   refine T.bind (P:=fun _=>True) ?_ fun p23 _=>by rw [dX (by omega)];exact ih (j+1) _ _ (by omega) (by omega)
   refine T.bind (P:=fun _=>True) ?_ fun p24 _=>?_
   ·refine (T.loopG0 (n:=8) (fun _ (s:bE×bE)=>aC6 s.1∧aC6 s.2) (fun _=>True) (F:=fun k (s:bE×bE) x=>lF N p1 (j:Int) k s.1 s.2 x) (fun k s x hx hs hk=>?_) (fun k s hs=>?_) (by omega) (s:=(bE.mk 0 (aC.mk 0 0 0) (aC.mk 0 0 0),bE.mk 0 (aC.mk 0 0 0) (aC.mk 0 0 0))) ⟨aOR,aOR⟩)
    ·rw [lF,dt (by omega),cond_true]
     refine T.bind (P:=fun p=>aC6 p.1∧aC6 p.2.1) ?_ fun p28 h28=>by rw [dX (by omega)];exact hk (_,_) h28
     refine T.bind (T.idx (by omega) (by simp;omega)) fun e29 h29=>?_
     have he:=h1 _ (List.mem_of_getElem? h29)
     refine T.cond (fun _=>T.bind (aOg N (by omega) hs.1 _ he.1 he.2) fun r h=>T.ret ⟨h,hs.2⟩) (fun _=>T.bind (aOg N (by omega) hs.2 _ he.1 he.2) fun r h=>T.ret ⟨hs.1,h⟩)
    ·rw [lF,df (by omega),cond_false];exact T.ret trivial
   refine T.bind (aR0 N _) fun _ _=>T.letO fun _ _=>T.bind (aR0 N _) fun _ _=>?_
   simp only [aR]
   exact T.cond (fun _=>T.ret trivial) (fun _=>T.ret trivial)
 exact main N 1 _ _ (by omega) (by decide)
theorem aRb (N:Nat) (hN:30 < N) {R:List aF} {b:List Int} {lo m:Nat} (h:aJY R b lo m) {i u v w:Int} (hi:0≤i∧i < 3) (hab:aHu u v):T (cO N b lo m R u v w i) (fun r=>r < (m:Int)∧r≤20):=by
 unfold cO
 have fw:=h.few
 by_cases hm:m=0
 ·subst hm
  obtain ⟨N,rfl⟩:∃ n,N=n+1:=⟨N - 1,by omega⟩
  rw [bK,aR,df (by omega),cond_false]
  exact T.eq rfl (T.ret ⟨by decide,by decide⟩)
 refine T.bind (T.loopG0 (n:=m) (fun _ _=>True) (fun o=>match o with | .inl _=>True | .inr r=>r < (m:Int)∧r≤20) (F:=fun k (_:Unit) x=>bK N m b lo R u v w i k x) (fun k _ x hx _ hk=>?_) (fun k _ _=>?_) (by omega) (s:=()) trivial) fun o ho=>?_
 ·rw [bK,aR,dt (by omega),cond_true]
  refine T.bind (h.rs hx) fun _ _=>T.bind (h.get hx) fun e he=>T.bind (aJ6 N (by omega) h.tris he hab hi) fun r _=>T.cond (fun _=>T.ret (show (x:Int) < (m:Int)∧(x:Int)≤20 by omega)) (fun _=>by rw [dX (by omega)];exact hk () trivial)
 ·rw [bK,aR,df (by omega),cond_false];exact T.ret trivial
 ·cases o with
  | inl _=>exact T.ret ⟨by omega,by decide⟩
  | inr r=>exact T.ret ho
theorem aOW {p q:aC} (h:ple p q) (i:Int):ax p i≤ax q i:=by
 obtain ⟨a,b,c⟩:=h
 unfold ax;split
 ·exact a
 ·split
  ·exact b
  ·exact c
theorem partT (N:Nat) (hN:50 < N) {R:List aF} {b:List Int} {lo m:Nat} (h:aJY R b lo m) (d:Int):T (sE N b R lo m d) (fun r=>ord R.length r.1∧qN lo m b r.1∧(r.2 > 0→r.2 < (m:Int))):=by
 unfold sE
 have fw:=h.few
 rw [aR]
 refine T.cond (fun _=>T.ret ⟨h.ord,qN.rfl' lo m b,fun h=>absurd h (show ¬ (0:Int) > 0 by decide)⟩) (fun hc=>?_)
 have hm4:=of_decide_eq_false hc
 refine T.bind (P:=fun p2=>p2.length=m∧(∀ p∈p2,pwi 131072 p)∧∀ j,j < m→∀ e,b[lo+j]? = some e→T (Option.bind (idx R e) fun t=>jE N t) (fun p=>p∈p2)) ?_ fun p2 h2=>?_
 ·refine T.loopG0 (n:=m) (fun x (s:List aC)=>s.length=x∧(∀ p∈s,pwi 131072 p)∧∀ j,j < x→∀ e,b[lo+j]? = some e→T (Option.bind (idx R e) fun t=>jE N t) (fun p=>p∈s)) _ (F:=mJ N m b lo R) (fun k s x hx hs hk=>?_) (fun k s hs=>?_) (by omega) ⟨rfl,fun p h=>absurd h (by simp),fun j h=>absurd h (by omega)⟩
  ·rw [mJ,aR,dt (by omega),cond_true]
   refine T.bind (h.rs hx) fun _ _=>?_
   obtain ⟨e,ee,he⟩:=h.get hx
   refine T.eq ee ?_
   rw [zJ,Int.toNat_natCast] at ee
   obtain ⟨t,et,ht⟩:=T.tri h.tris he
   refine T.eq et ?_
   obtain ⟨q,eq1,hq⟩:=aGC N (by omega) ht
   refine T.eq eq1 (T.eq (fK (by simp;omega)) ?_)
   rw [dX (by omega)]
   refine hk _ ⟨by simp;omega,?_,?_⟩
   ·intro p hp
    rw [List.mem_append,List.mem_singleton] at hp
    rcases hp with hp | rfl
    ·exact hs.2.1 p hp
    ·exact hq
   ·intro j hj e' he'
    by_cases ej:j=x
    ·subst ej
     obtain rfl:=lA ee he'
     rw [et,Option.bind_some]
     exact ⟨q,eq1,by simp⟩
    ·exact (hs.2.2 j (by omega) e' he').mono fun p hp=>by rw [List.mem_append];exact Or.inl hp
  ·rw [mJ,aR,df (by omega),cond_false];exact T.ret hs
 refine T.bind (aNr N p2 (m:=131072) (by decide) h2.2.1 (by omega) (by omega)) fun r11 h11=>?_
 refine T.bind (P:=fun i=>0≤i∧i < 3) ?_ fun i hi=>?_
 ·have main:∀ (k j:Nat) (a:Int),3 - j < k→j≤3→(0≤a∧a < 3)→T (pA N r11 k a (j:Int)) (fun i=>0≤i∧i < 3):=by
   intro k
   induction k with
   | zero=>intro j a h;omega
   | succ k ih=>
    intro j a hk hj ha
    rw [pA]
    refine T.cond (fun hc=>?_) (fun _=>T.ret ha)
    have hj3:j < 3:=by have:=of_decide_eq_true hc;omega
    refine T.bind (P:=fun i=>0≤i∧i < 3) ?_ fun p h=>by rw [dX (by omega)];exact ih (j+1) _ (by omega) (by omega) h
    refine T.bind (aDF N _ (by omega) (by omega)) fun _ _=>T.bind (aDF N _ (by omega) (by omega)) fun _ _=>T.bind (aDF N _ ha.1 ha.2) fun _ _=>T.bind (aDF N _ ha.1 ha.2) fun _ _=>?_
    rw [aR]
    exact T.cond (fun _=>T.ret ⟨by omega,by omega⟩) (fun _=>T.ret ha)
  exact main N 1 0 (by omega) (by decide) (by decide)
 refine T.bind (aDF N _ hi.1 hi.2) fun u hu=>T.bind (aDF N _ hi.1 hi.2) fun v hv=>?_
 refine T.cond (fun _=>T.ret ⟨h.ord,qN.rfl' lo m b,fun h=>absurd h (show ¬ (0:Int) > 0 by decide)⟩) (fun hc2=>?_)
 have hab:aHu u v:=⟨by simpa using hc2,by rw [hu];exact ax_b h11.1 i,by rw [hv];exact ax_b h11.2.1 i⟩
 refine T.cond (fun _=>?_) (fun _=>?_)
 ·refine T.bind (aRY N hN h.tris hi h.len fw h.ord rfl) fun r23 h23=>T.bind (T.lenO h23.2.len) fun _ _=>?_
  rw [aR]
  refine T.ret ⟨h23.1,h23.2,fun _=>?_⟩
  show I64 (Int.tdiv (m:Int) 2) < (m:Int)
  rw [Int.tdiv_eq_ediv_of_nonneg (by omega),bV (by omega) (by omega)]
  omega
 ·refine T.bind (cutT N (by omega) h hi hab ?_) fun w _=>?_
  ·intro j hj e he
   refine (h2.2.2 j hj e he).mono fun p hp=>?_
   have:=h11.2.2 p hp
   rw [hu,hv]
   exact ⟨aOW this.1 i,aOW this.2 i⟩
  refine T.bind (aQn N hN h.tris (w:=w) hab hi h.len fw h.ord rfl) fun r27 h27=>T.bind (T.lenO h27.2.len) fun _ _=>?_
  refine T.bind (aRb N (by omega) (b:=r27) (lo:=lo) (m:=m) ⟨h.tris,h27.1,by rw [h27.2.len];exact h.len,fw⟩ (w:=w) hi hab) fun r29 h29=>T.ret ⟨h27.1,h27.2,fun _=>h29.1⟩
def aIG (n len i:Nat) (d:bA):Prop:=(0≤d.gB0→((i:Int) < d.gB0∧d.gB0 < (len:Int))∧(i:Int) < d.gB3∧d.gB3 < (len:Int))∧(d.gB0 < 0→0≤d.gC6∧1≤d.gC0∧d.gC6+d.gC0≤(n:Int))
def aFW (n len:Nat) (t:aZ):Prop:=(0≤t.gT∧t.gT < (len:Int))∧0≤t.gB∧1≤t.gR∧t.gB+t.gR≤(n:Int)
def zX (l:List aZ):Int:=(l.map fun t=>2*t.gR - 1).sum
def aCh (l:List aZ):Int:=(l.map fun t=>2*t.gR - 2).sum
theorem aEo (a b:List aZ):zX (a++b)=zX a+zX b:=by unfold zX;rw [List.map_append,List.sum_append]
theorem aIe (a b:List aZ):aCh (a++b)=aCh a+aCh b:=by unfold aCh;rw [List.map_append,List.sum_append]
theorem aGa {n len:Nat} {l:List aZ} (h:∀ t∈l,aFW n len t):(l.length:Int)≤zX l:=by
 induction l with
 | nil=>exact Int.le_refl _
 | cons t l ih=>
  have h1:=ih fun t ht=>h t (List.mem_cons_of_mem _ ht)
  have h2:=h t (List.mem_cons_self ..)
  obtain ⟨_,_,h3,_⟩:=h2
  show ((l.length+1:Nat):Int)≤(2*t.gR - 1)+zX l
  omega
theorem aOT {n len:Nat} {l:List aZ} (h:∀ t∈l,aFW n len t):0≤aCh l:=by
 induction l with
 | nil=>exact Int.le_refl _
 | cons t l ih=>
  have h1:=ih fun t ht=>h t (List.mem_cons_of_mem _ ht)
  have h2:=h t (List.mem_cons_self ..)
  obtain ⟨_,_,h3,_⟩:=h2
  show 0≤(2*t.gR - 2)+aCh l
  omega
theorem aMJ {n len len' i:Nat} {d:bA} (h:aIG n len i d) (hl:len≤len'):aIG n len' i d:=by
 unfold aIG at *
 refine ⟨fun h0=>?_,h.2⟩
 have:=h.1 h0
 omega
theorem aLN {n len len':Nat} {t:aZ} (h:aFW n len t) (hl:len≤len'):aFW n len' t:=by unfold aFW at *;omega
theorem aEz {α:Type} (l:List α) (m:Nat) (r:List α) (h:m≤l.length):(uP l m r).take (m+r.length)=l.take m++r:=by
 unfold uP
 rw [List.take_append_of_le_length (by rw [List.length_append,List.length_take];omega)]
 exact List.take_of_length_le (by rw [List.length_append,List.length_take];omega)
theorem aJu {α:Type} (l:List α) (m:Nat) (r:List α) (h:m≤l.length):m+r.length≤(uP l m r).length:=by rw [aKR h];omega
theorem aA0 {α:Type} {l:List α} {m:Nat} {e:α} (h:l[m]? = some e):l.take (m+1)=l.take m++[e]:=by
 rw [List.take_succ,h];rfl
theorem xO {R:List aF} {o o':List Int} {lo m f c:Nat} {x y:aC} (h:aCO R o f c x y) (s:qN lo m o o') (hr:(f≤lo∧lo+m≤f+c)∨f+c≤lo∨lo+m≤f):aCO R o' f c x y:=by
 intro j j1 j2 e he t ht
 by_cases hj:lo≤j∧j < lo+m
 ·obtain ⟨j',a1,a2,a3⟩:=s.sub j hj.1 hj.2
  rw [a3] at he
  exact h j' (by omega) (by omega) e he t ht
 ·rw [s.out j (by omega)] at he
  exact h j j1 j2 e he t ht
def nodB (nd:bA):Prop:=pwi 65536 nd.gLo∧pwi 65536 nd.gHi
inductive Cv (R:List aF) (o:List Int) (d:List bA) (D:Int→Prop):Int→Nat→Nat→List aZ→Prop
 | pend (t:aZ) (f c:Nat):t.gB=(f:Int)→t.gR=(c:Int)→Cv R o d D t.gT f c [t]
 | leaf (i:Int) (f c:Nat) (nd:bA):D i→d[i.toNat]? = some nd→nd.gB0 < 0→nd.gC6=(f:Int)→nd.gC0=(c:Int)→aCO R o f c nd.gLo nd.gHi→nodB nd→Cv R o d D i f c []
 | node (i:Int) (f c1 c2:Nat) (nd:bA) (L1 L2:List aZ):D i→d[i.toNat]? = some nd→0≤nd.gB0→Cv R o d D nd.gB0 f c1 L1→Cv R o d D nd.gB3 (f+c1) c2 L2→aCO R o f (c1+c2) nd.gLo nd.gHi→nodB nd→Cv R o d D i f (c1+c2) (L1++L2)
theorem Cv.rng {R:List aF} {o:List Int} {d:List bA} {D:Int→Prop} {i:Int} {f c:Nat} {L:List aZ} (h:Cv R o d D i f c L):∀ t∈L,∃ f' c':Nat,t.gB=(f':Int)∧t.gR=(c':Int)∧f≤f'∧f'+c'≤f+c:=by
 induction h with
 | pend t f c h1 h2=>
  intro u hu
  have:u=t:=by simpa using hu
  subst this;exact ⟨f,c,h1,h2,by omega,by omega⟩
 | leaf=>intro u hu;exact absurd hu (by simp)
 | node i f c1 c2 nd L1 L2 _ _ _ _ _ _ _ i1 i2=>
  intro u hu
  rw [List.mem_append] at hu
  rcases hu with hu | hu
  ·obtain ⟨f',c',a,b,x,y⟩:=i1 u hu;exact ⟨f',c',a,b,by omega,by omega⟩
  ·obtain ⟨f',c',a,b,x,y⟩:=i2 u hu;exact ⟨f',c',a,b,by omega,by omega⟩
theorem Cv.far {R:List aF} {o o':List Int} {d d':List bA} {D D':Int→Prop} {lo m:Nat} (s:qN lo m o o') (hD:∀ i,D i→D' i∧d'[i.toNat]? = d[i.toNat]?) {i:Int} {f c:Nat} {L:List aZ} (h:Cv R o d D i f c L):(f+c≤lo∨lo+m≤f)→Cv R o' d' D' i f c L:=by
 induction h with
 | pend t f c h1 h2=>intro _;exact .pend t f c h1 h2
 | leaf i f c nd h1 h2 h3 h4 h5 h6 h7=>intro hr;exact .leaf i f c nd (hD i h1).1 ((hD i h1).2.trans h2) h3 h4 h5 (xO h6 s (Or.inr hr)) h7
 | node i f c1 c2 nd L1 L2 h1 h2 h3 _ _ h6 h7 i1 i2=>intro hr;exact .node i f c1 c2 nd L1 L2 (hD i h1).1 ((hD i h1).2.trans h2) h3 (i1 (by omega)) (i2 (by omega)) (xO h6 s (Or.inr hr)) h7
theorem Cv.mono {R:List aF} {o:List Int} {d:List bA} {D D':Int→Prop} (hD:∀ i,D i→D' i) {i:Int} {f c:Nat} {L:List aZ} (h:Cv R o d D i f c L):Cv R o d D' i f c L:=by
 induction h with
 | pend t f c h1 h2=>exact .pend t f c h1 h2
 | leaf i f c nd h1 h2 h3 h4 h5 h6 h7=>exact .leaf i f c nd (hD i h1) h2 h3 h4 h5 h6 h7
 | node i f c1 c2 nd L1 L2 h1 h2 h3 _ _ h6 h7 i1 i2=>exact .node i f c1 c2 nd L1 L2 (hD i h1) h2 h3 i1 i2 h6 h7
theorem Cv.near {R:List aF} {o o':List Int} {d d':List bA} {D D':Int→Prop} {lo m:Nat} (s:qN lo m o o') (hD:∀ i,D i→D' i∧d'[i.toNat]? = d[i.toNat]?) {t:aZ} (ht1:t.gB=(lo:Int)) (ht2:t.gR=(m:Int)) {Ln:List aZ} (hn:Cv R o' d' D' t.gT lo m Ln) {i:Int} {f c:Nat} {L:List aZ} (h:Cv R o d D i f c L):t∈L→∃ La Lb,L=La++t :: Lb∧Cv R o' d' D' i f c (La++(Ln++Lb)):=by
 induction h with
 | pend u f c h1 h2=>
  intro hu
  have:t=u:=by simpa using hu
  subst this
  obtain rfl:f=lo:=by omega
  obtain rfl:c=m:=by omega
  exact ⟨[],[],rfl,by simpa using hn⟩
 | leaf=>intro hu;exact absurd hu (by simp)
 | node i f c1 c2 nd L1 L2 h1 h2 h3 g1 g2 h6 h7 i1 i2=>
  intro hu
  rw [List.mem_append] at hu
  rcases hu with hu | hu
  ·obtain ⟨f',c',a,b,x,y⟩:=g1.rng t hu
   obtain ⟨La,Lb,e,q⟩:=i1 hu
   refine ⟨La,Lb++L2,by rw [e];simp,?_⟩
   have:=Cv.node i f c1 c2 nd _ L2 (hD i h1).1 ((hD i h1).2.trans h2) h3 q (g2.far s hD (by omega)) (xO h6 s (by omega)) h7
   simpa [List.append_assoc] using this
  ·obtain ⟨f',c',a,b,x,y⟩:=g2.rng t hu
   obtain ⟨La,Lb,e,q⟩:=i2 hu
   refine ⟨L1++La,Lb,by rw [e];simp,?_⟩
   have:=Cv.node i f c1 c2 nd L1 _ (hD i h1).1 ((hD i h1).2.trans h2) h3 (g1.far s hD (by omega)) q (xO h6 s (by omega)) h7
   simpa [List.append_assoc] using this
def aMP (n:Nat) (o:List Int):Prop:=∀ e:Nat,e < n→∃ j:Nat,j < n∧o[j]? = some (e:Int)
theorem aGf {n lo m:Nat} {o o':List Int} (h:aMP n o) (s:qN lo m o o') (hn:lo+m≤n):aMP n o':=by
 intro e he
 obtain ⟨j,h1,h2⟩:=h e he
 by_cases hj:lo≤j∧j < lo+m
 ·obtain ⟨j',a1,a2,a3⟩:=s.sup j hj.1 hj.2
  exact ⟨j',by omega,by rw [← a3];exact h2⟩
 ·exact ⟨j,h1,by rw [s.out j (by omega)];exact h2⟩
def aHL (d:List bA) (l:List aZ) (i:Int):Prop:=(0≤i∧i < (d.length:Int))∧∀ t∈l,t.gT≠i
structure Bld (R:List aF) (o:List Int) (d:List bA) (l:List aZ):Prop where
 tris:aAb R
 ord:ord R.length o
 len:o.length=R.length
 todo:∀ t∈l,aFW R.length d.length t
 good:∀ i,(h:i < d.length)→(∃ t∈l,t.gT=(i:Int))∨aIG R.length d.length i d[i]
 room:(d.length:Int)+aCh l≤39
 full:aMP R.length o
 one:(l.map (·.gT)).Nodup
 tree:∃ L,Cv R o d (aHL d l) 0 0 R.length L∧L.Perm l
def aBS (n:Nat) (b:aX):Prop:=ord n b.gC9∧b.gC9.length=n∧b.gA6.length≤39∧∀ i,(h:i < b.gA6.length)→aIG n b.gA6.length i b.gA6[i]
def wJ (R:List aF) (b:aX):Prop:=(R.length=0∧b.gA6=[])∨(0 < R.length∧aMP R.length b.gC9∧Cv R b.gC9 b.gA6 (fun _=>True) 0 0 R.length [])
theorem aGy {l:List aZ} {t:aZ} (h:((l++[t]).map (·.gT)).Nodup):(l.map (·.gT)).Nodup∧∀ u∈l,u.gT≠t.gT:=by
 rw [List.map_append,List.nodup_append] at h
 refine ⟨h.1,fun u hu e=>?_⟩
 exact h.2.2 _ (List.mem_map_of_mem hu) _ (by simp) e
theorem aIE {L La Lb l Ln:List aZ} {t:aZ} (e:L=La++t :: Lb) (h:L.Perm (l++[t])):(La++(Ln++Lb)).Perm (l++Ln):=by
 subst e
 have h1:(t :: (La++Lb)).Perm (t :: l):=(List.perm_middle.symm.trans h).trans (List.perm_append_comm (l₁:=l) (l₂:=[t]))
 have h2:(La++Lb).Perm l:=List.Perm.cons_inv h1
 have h3:(La++(Ln++Lb)).Perm (La++(Lb++Ln)):=List.Perm.append_left La List.perm_append_comm
 rw [← List.append_assoc] at h3
 rw [← List.append_assoc]
 refine (by rw [List.append_assoc];exact List.Perm.append_left La List.perm_append_comm:(La++Ln++Lb).Perm (La++(Lb++Ln))).trans ?_
 rw [← List.append_assoc]
 exact List.Perm.append_right Ln h2
theorem Bld.leaf {R:List aF} {o o':List Int} {d:List bA} {l:List aZ} {t:aZ} {x:bA} (h:Bld R o d (l++[t])) (ho:Go.UK.ord R.length o') (hl:qN t.gB.toNat t.gR.toNat o o') (hx:x.gB0 < 0) (hf:x.gC6=t.gB) (hc:x.gC0=t.gR) (hb:aCO R o t.gB.toNat t.gR.toNat x.gLo x.gHi) (hn:nodB x):Bld R o' (d.set t.gT.toNat x) l:=by
 have ht:=h.todo t (by simp)
 obtain ⟨n1,n2⟩:=aGy h.one
 refine ⟨h.tris,ho,hl.len.trans h.len,fun u hu=>by rw [List.length_set];exact h.todo u (by simp [hu]),fun i hi=>?_,?_,aGf h.full hl (by obtain ⟨_,a,b,c⟩:=ht;omega),n1,?_⟩
 ·rw [List.length_set] at hi ⊢
  by_cases e:i=t.gT.toNat
  ·subst e
   right
   rw [List.getElem_set_self]
   obtain ⟨_,a,b,c⟩:=ht
   exact ⟨fun h=>by omega,fun _=>by rw [hf,hc];omega⟩
  ·rw [List.getElem_set_ne (by omega)]
   rcases h.good i hi with ⟨u,hu,e'⟩ | g
   ·rw [List.mem_append,List.mem_singleton] at hu
    rcases hu with hu | rfl
    ·exact Or.inl ⟨u,hu,e'⟩
    ·omega
   ·exact Or.inr g
 ·rw [List.length_set]
  have r:=h.room
  rw [aIe] at r
  have:aCh [t]=2*t.gR - 2+0:=rfl
  obtain ⟨_,_,b,_⟩:=ht
  omega
 ·obtain ⟨L,cv,pm⟩:=h.tree
  obtain ⟨⟨a1,a2⟩,b1,b2,b3⟩:=ht
  have hD:∀ i,aHL d (l++[t]) i→aHL (d.set t.gT.toNat x) l i∧(d.set t.gT.toNat x)[i.toNat]? = d[i.toNat]? := by
   intro i ⟨q1,q2⟩
   have:=q2 t (by simp)
   exact ⟨⟨by rw [List.length_set];exact q1,fun u hu=>q2 u (by simp [hu])⟩,List.getElem?_set_ne (by omega)⟩
  have new:Cv R o' (d.set t.gT.toNat x) (aHL (d.set t.gT.toNat x) l) t.gT t.gB.toNat t.gR.toNat []:=
   .leaf _ _ _ x ⟨by rw [List.length_set];exact ⟨a1,a2⟩,n2⟩ (List.getElem?_set_self (by omega)) hx (by omega) (by omega) (xO hb hl (by omega)) hn
  obtain ⟨La,Lb,e,q⟩:=Cv.near (t:=t) hl hD (by omega) (by omega) new cv (pm.mem_iff.2 (by simp))
  exact ⟨_,q,by have:=aIE (Ln:=[]) e pm;simpa using this⟩
theorem Bld.inner {R:List aF} {o o':List Int} {d:List bA} {l:List aZ} {t u v:aZ} {x:bA} {e1 e2:bA} {c:Int} (h:Bld R o d (l++[t])) (ho:Go.UK.ord R.length o') (hl:qN t.gB.toNat t.gR.toNat o o') (hx:x.gB0=(d.length:Int)) (hy:x.gB3=(d.length:Int)+1) (hc:0 < c∧c < t.gR)
  (hu:u.gT=(d.length:Int)+1∧u.gB=t.gB+c∧u.gR=t.gR - c) (hv:v.gT=(d.length:Int)∧v.gB=t.gB∧v.gR=c) (hb:aCO R o t.gB.toNat t.gR.toNat x.gLo x.gHi) (hn:nodB x):Bld R o' ((d++[e1,e2]).set t.gT.toNat x) (l++[u,v]):=by
 have ht:=h.todo t (by simp)
 obtain ⟨n1,n2⟩:=aGy h.one
 have dl:((d++[e1,e2]).set t.gT.toNat x).length=d.length+2:=by rw [List.length_set,List.length_append];rfl
 have old:∀ w∈l,w.gT < (d.length:Int):=fun w hw=>(h.todo w (by simp [hw])).1.2
 refine ⟨h.tris,ho,hl.len.trans h.len,fun w hw=>?_,fun i hi=>?_,?_,aGf h.full hl (by obtain ⟨_,a,b,c⟩:=ht;omega),?_,?_⟩
 ·rw [dl]
  rw [List.mem_append] at hw
  rcases hw with hw | hw
  ·exact aLN (h.todo w (by simp [hw])) (by omega)
  ·obtain ⟨_,a,b,c'⟩:=ht
   simp at hw
   rcases hw with rfl | rfl
   ·unfold aFW;omega
   ·unfold aFW;omega
 ·simp only [dl]
  rw [dl] at hi
  by_cases e:i=t.gT.toNat
  ·subst e
   right
   rw [List.getElem_set_self]
   obtain ⟨⟨a1,a2⟩,a,b,c⟩:=ht
   exact ⟨fun _=>by rw [hx,hy];omega,fun h=>by omega⟩
  ·rw [List.getElem_set_ne (by omega)]
   by_cases hd:i < d.length
   ·rcases h.good i hd with ⟨w,hw,e'⟩ | g
    ·rw [List.mem_append,List.mem_singleton] at hw
     rcases hw with hw | rfl
     ·exact Or.inl ⟨w,by rw [List.mem_append];exact Or.inl hw,e'⟩
     ·omega
    ·right
     rw [List.getElem_append_left hd]
     exact aMJ g (by omega)
   ·left
    have:i=d.length∨i=d.length+1:=by omega
    rcases this with rfl | rfl
    ·exact ⟨v,by simp,hv.1⟩
    ·exact ⟨u,by simp,by rw [hu.1];omega⟩
 ·rw [dl]
  have r:=h.room
  rw [aIe] at r ⊢
  have e1:aCh [t]=2*t.gR - 2+0:=rfl
  have e2:aCh [u,v]=2*u.gR - 2+(2*v.gR - 2+0):=rfl
  omega
 ·rw [List.map_append,List.nodup_append]
  refine ⟨n1,by simp;rw [hu.1,hv.1];omega,fun a ha b hb e=>?_⟩
  rw [List.mem_map] at ha
  obtain ⟨w,hw,rfl⟩:=ha
  have:=old w hw
  simp at hb
  rcases hb with rfl | rfl
  ·rw [hu.1] at e;omega
  ·rw [hv.1] at e;omega
 ·obtain ⟨L,cv,pm⟩:=h.tree
  obtain ⟨⟨a1,a2⟩,b1,b2,b3⟩:=ht
  have hD:∀ i,aHL d (l++[t]) i→aHL ((d++[e1,e2]).set t.gT.toNat x) (l++[u,v]) i∧((d++[e1,e2]).set t.gT.toNat x)[i.toNat]? = d[i.toNat]? := by
   intro i ⟨q1,q2⟩
   have:=q2 t (by simp)
   refine ⟨⟨by rw [dl];omega,fun w hw=>?_⟩,by rw [List.getElem?_set_ne (by omega),List.getElem?_append_left (by omega)]⟩
   rw [List.mem_append] at hw
   rcases hw with hw | hw
   ·exact q2 w (by simp [hw])
   ·simp at hw
    rcases hw with rfl | rfl
    ·rw [hu.1];omega
    ·rw [hv.1];omega
  obtain ⟨cn,rfl⟩:=Int.eq_ofNat_of_zero_le (show 0≤c by omega)
  have new:Cv R o' ((d++[e1,e2]).set t.gT.toNat x) (aHL ((d++[e1,e2]).set t.gT.toNat x) (l++[u,v])) t.gT t.gB.toNat t.gR.toNat ([v]++[u]):=by
   have hm:t.gR.toNat=cn+(t.gR.toNat - cn):=by omega
   rw [hm]
   refine .node _ _ cn (t.gR.toNat - cn) x [v] [u] ⟨by rw [dl];omega,fun w hw=>?_⟩ (List.getElem?_set_self (by rw [List.length_append];omega)) (by omega) ?_ ?_ (by rw [← hm];exact xO hb hl (by omega)) hn
   ·rw [List.mem_append] at hw
    rcases hw with hw | hw
    ·exact n2 w hw
    ·simp at hw
     rcases hw with rfl | rfl
     ·rw [hu.1];omega
     ·rw [hv.1];omega
   ·rw [hx,← hv.1];exact .pend v _ _ (by omega) (by omega)
   ·rw [hy,← hu.1];exact .pend u _ _ (by omega) (by omega)
  obtain ⟨La,Lb,e,q⟩:=Cv.near (t:=t) hl hD (by omega) (by omega) new cv (pm.mem_iff.2 (by simp))
  refine ⟨_,q,(aIE (Ln:=[v]++[u]) e pm).trans ?_⟩
  exact List.Perm.append_left l (List.Perm.swap u v [])
theorem aQ4 (N:Nat) (hN:100 < N) {R:List aF}:∀ (k:Nat) (o:List Int) (d:List bA) (s:List aZ) (m:Nat),m≤s.length→Bld R o d (s.take m)→zX (s.take m) < (k:Int)→zX (s.take m)≤100 →
  T (pU N R k o d s m) (fun r=>Bld R r.1 r.2.1 []):=by
 intro k
 induction k with
 | zero=>
  intro o d s m hm h hw
  have:=aGa h.todo
  omega
 | succ k ih=>
  intro o d s m hm h hw hw'
  rw [pU,aR]
  have lenT:(s.take m).length=m:=by rw [List.length_take];omega
  have wl:=aGa h.todo
  rw [lenT] at wl
  refine T.cond (fun hc=>?_) (fun hc=>?_)
  ·obtain ⟨m,rfl⟩:∃ m',m=m'+1:=⟨m - 1,by have:=of_decide_eq_true hc;omega⟩
   have im:I64 (((m+1:Nat):Int) - 1)=(m:Int):=by rw [bV (by omega) (by omega)];omega
   simp only [aR,im,Int.toNat_natCast]
   obtain ⟨t,et⟩:∃ t,s[m]? = some t:=⟨_,List.getElem?_eq_getElem (by omega)⟩
   have hs:=aA0 et
   rw [hs] at h hw hw'
   have ht:=h.todo t (by simp)
   obtain ⟨⟨tn1,tn2⟩,t1,t2,t3⟩:=ht
   have n20:=h.tris.2
   have ol:=h.len
   have rm:=h.room
   have rg:=aOT h.todo
   rw [aEo,show zX [t]=2*t.gR - 1+0 from rfl] at hw hw'
   have wl2:=aGa (l:=s.take m) fun u hu=>h.todo u (by simp [hu])
   rw [show (s.take m).length=m by rw [List.length_take];omega] at wl2
   refine T.bind (T.inRS (by omega) (by omega) (by omega)) fun _ _=>T.eq et (T.bind (T.slcG (by omega) (by omega) (by omega) (by omega) (Or.inl rfl)) fun _ _=>?_)
   have ifc:I64 (t.gB+t.gR)=t.gB+t.gR:=bV (by omega) (by omega)
   rw [ifc]
   refine T.bind (T.slcG (by omega) t1 (by omega) (by omega) (by omega)) fun _ _=>?_
   have hp:aJY R o t.gB.toNat ((t.gB+t.gR).toNat - t.gB.toNat):=⟨h.tris,h.ord,by omega,by omega⟩
   have cnt:(t.gB+t.gR).toNat - t.gB.toNat=t.gR.toNat:=by omega
   rw [cnt] at hp ⊢
   refine T.bind (boxDT N (by omega) hp) fun r30 h30=>?_
   have step:∀ (o':List Int) (d':List bA) (s':List aZ) (x:bA) (m':Nat),m'≤s'.length→t.gT < (d'.length:Int)→Bld R o' (d'.set t.gT.toNat x) (s'.take m')→zX (s'.take m') < (k:Int)→zX (s'.take m')≤100 →
     T (Option.bind (eY t.gT d'.length) fun _=>Option.bind (aGZ d' t.gT.toNat x) fun z41=>pU N R k o' z41 s' m') (fun r=>Bld R r.1 r.2.1 []):=by
    intro o' d' s' x m' h1 h2 h3 h4 h5
    refine T.bind (T.inRO tn1 h2) fun _ _=>T.bind (T.setO (by omega)) fun z hz=>?_
    subst hz
    exact ih _ _ _ _ h1 h3 h4 h5
   refine T.bind (P:=fun p=>p.2.2.2.2≤p.2.2.1.length∧t.gT < (p.2.1.length:Int)∧Bld R p.1 (p.2.1.set t.gT.toNat p.2.2.2.1) (p.2.2.1.take p.2.2.2.2)∧zX (p.2.2.1.take p.2.2.2.2) < (k:Int)∧zX (p.2.2.1.take p.2.2.2.2)≤100) ?_ fun p31 h31=>step _ _ _ _ _ h31.1 h31.2.1 h31.2.2.1 h31.2.2.2.1 h31.2.2.2.2
   refine T.bind (partT N (by omega) hp t.gD5) fun r32 h32=>T.bind (T.lenO h32.2.1.len) fun _ _=>?_
   refine T.cond (fun hc=>?_) (fun _=>?_)
   ·have c0:=of_decide_eq_true hc
    have c1:=h32.2.2 c0
    have i1:I64 ((d.length:Int)+1)=(d.length:Int)+1:=bV (by omega) (by omega)
    have i2:I64 (t.gB+r32.2)=t.gB+r32.2:=bV (by omega) (by omega)
    have i3:I64 (t.gR - r32.2)=t.gR - r32.2:=bV (by omega) (by omega)
    rw [i1,i2,i3]
    refine T.eq (fK (by simp;omega)) (T.bind (T.appG (by omega) (show (m+2)*32≤140737488355328 by omega)) fun z39 h39=>T.ret ?_)
    subst h39
    have tk:∀ a b:aZ,(uP s m [a,b]).take (m+2)=s.take m++[a,b]:=fun a b=>aEz s m [a,b] (by omega)
    dsimp only
    refine ⟨aJu s m [_,_] (by omega),by rw [List.length_append];simp;omega,?_,?_,?_⟩
    ·rw [tk]
     exact h.inner (c:=r32.2) h32.1 h32.2.1 rfl rfl ⟨c0,by omega⟩ ⟨rfl,rfl,rfl⟩ ⟨rfl,rfl,rfl⟩ h30.2 h30.1
    ·rw [tk,aEo]
     show zX (s.take m)+(2*(t.gR - r32.2) - 1+(2*r32.2 - 1+0)) < (k:Int)
     omega
    ·rw [tk,aEo]
     show zX (s.take m)+(2*(t.gR - r32.2) - 1+(2*r32.2 - 1+0))≤100
     omega
   ·refine T.ret ⟨by dsimp only;omega,tn2,?_,by dsimp only;omega,by dsimp only;omega⟩
    exact h.leaf h32.1 h32.2.1 (show (-1:Int) < 0 by decide) rfl rfl h30.2 h30.1
  ·have:m=0:=by have:=of_decide_eq_false hc;omega
   subst this
   exact T.ret h
theorem aP6 (N:Nat) (hN:10 < N) {t:aF} (h:tpw t):T (yD N t) (fun r=>pwi 65536 r.1∧pwi 65536 r.2):=by
 unfold yD
 refine T.bind (P:=fun r=>pwi 65536 r.1∧pwi 65536 r.2) ?_ fun _ h=>T.ret h
 have z:pwi 65536 (aC.mk 0 0 0):=by unfold pwi;dsimp only;omega
 refine T.loopG0 (n:=3) (fun _ (s:aC×aC)=>pwi 65536 s.1∧pwi 65536 s.2) _ (F:=fun k (s:aC×aC) i=>qG N t k s.1 s.2 i) (fun k s i hi hs hk=>?_) (fun k s hs=>?_) (by omega) (s:=(aC.mk 0 0 0,aC.mk 0 0 0)) ⟨z,z⟩
 ·rw [qG,aR,dt (by omega),cond_true]
  refine T.bind (T.inRO (by omega) (by omega)) fun _ _=>T.eq (aJ4 t.gP i hi) ?_
  have he:=h _ (vmem t.gP hi)
  generalize t.gP[i]=e at *
  refine T.bind (P:=fun p=>pwi 65536 p.1∧pwi 65536 p.2) (T.cond (fun _=>T.ret ⟨he,he⟩) (fun _=>T.ret hs)) fun p hp=>?_
  rw [dX (by omega)]
  refine hk (_,_) ⟨?_,?_⟩
  ·unfold pwi at *;simp only [uX];omega
  ·unfold pwi at *;simp only [sK];omega
 ·rw [qG,aR,df (by omega),cond_false];exact T.ret hs
theorem aSk (N:Nat) (hN:100 < N) {R:List aF} (hR:aAb R):T (yA N R) (fun r=>r.2=0∧aBS R.length r.1∧wJ R r.1):=by
 unfold yA
 have n20:=hR.2
 rw [aR]
 refine T.cond (fun hc=>absurd (of_decide_eq_true hc) (by omega)) (fun _=>?_)
 refine T.bind (T.loopG0 (n:=R.length) (fun _ _=>True) (fun o=>match o with | .inl _=>True | .inr r=>False) (F:=fun k (_:Unit) i=>pY N R k i) (fun k _ i hi _ hk=>?_) (fun k _ _=>?_) (by omega) (s:=()) trivial) fun o ho=>?_
 ·rw [pY,aR,dt (by omega),cond_true]
  refine T.bind (T.tri hR ⟨by omega,by omega⟩) fun _ ht=>T.eq (a:=()) (by decide) (T.bind (aP6 N (by omega) ht) fun r7 h7=>T.bind (P:=fun p=>p=false) ?_ fun p8 h8=>?_)
  ·obtain ⟨g1,g2⟩:=h7
   unfold pwi at g1 g2
   simp only [aR,uX,sK]
   rw [df (show ¬ min (min r7.1.gX r7.1.gY) r7.1.gZ < -1048576 by omega),df (show ¬ max (max r7.2.gX r7.2.gY) r7.2.gZ > 1048576 by omega)]
   exact ⟨_,rfl,rfl⟩
  ·rw [h8,cond_false,dX (by omega)];exact hk () trivial
 ·rw [pY,aR,df (by omega),cond_false];exact T.ret trivial
 cases o with
 | inr r=>exact ho.elim
 | inl _=>
 show T (aT _ _) _
 rw [aR]
 refine T.cond (fun hc=>T.ret ⟨rfl,?_⟩) (fun hc=>?_)
 ·have:R.length=0:=by have h0:(R.length:Int)=0:=(by simpa using hc);omega
  refine ⟨?_,Or.inl ⟨this,rfl⟩⟩
  rw [this]
  exact ⟨fun x h=>absurd h (by simp),rfl,by simp,fun i h=>absurd h (by simp)⟩
 ·have n0:R.length≠0:=by intro e;rw [e] at hc;cases hc
  refine T.bind (T.loopG0 (n:=R.length) (fun i (s:List Int)=>s.length=i∧ord R.length s∧∀ j:Nat,j < i→s[j]? = some (j:Int)) (fun r=>r.length=R.length∧ord R.length r∧∀ j:Nat,j < R.length→r[j]? = some (j:Int)) (F:=qK N R) (fun k s i hi hs hk=>?_) (fun k s hs=>?_) (by omega) (s:=[]) ⟨rfl,fun x h=>absurd h (by simp),fun j h=>absurd h (by omega)⟩) fun p12 h12=>?_
  ·rw [qK,aR,dt (by omega),cond_true]
   refine T.eq (fK (by simp;omega)) ?_
   rw [dX (by omega)]
   refine hk _ ⟨by simp;omega,fun x hx=>?_,fun j hj=>?_⟩
   ·rw [List.mem_append,List.mem_singleton] at hx
    rcases hx with hx | rfl
    ·exact hs.2.1 x hx
    ·omega
   ·by_cases c:j=i
    ·subst c;rw [List.getElem?_append_right (by omega),hs.1];simp
    ·rw [List.getElem?_append_left (by omega)];exact hs.2.2 j (by omega)
  ·rw [qK,aR,df (by omega),cond_false];exact T.ret hs
  ·refine T.bind (aQ4 N hN N p12 _ _ 1 (Nat.le_refl _) ⟨hR,h12.2.1,h12.1,?_,?_,?_,fun e he=>⟨e,he,h12.2.2 e he⟩,by simp,⟨_,.pend (aZ.mk 0 0 (R.length:Int) 1) 0 R.length rfl rfl,List.Perm.refl _⟩⟩ ?_ ?_) fun p17 h17=>T.ret ⟨rfl,?_⟩
   ·intro t ht
    have:t=aZ.mk 0 0 (R.length:Int) 1:=by simpa using ht
    subst this
    exact ⟨⟨Int.le_refl _,by simp⟩,Int.le_refl _,by show 1≤(R.length:Int);omega,by show 0+(R.length:Int)≤(R.length:Int);omega⟩
   ·intro i hi
    have:i=0:=by simpa using hi
    subst this
    exact Or.inl ⟨aZ.mk 0 0 (R.length:Int) 1,by simp,rfl⟩
   ·show (1:Int)+(2*(R.length:Int) - 2+0)≤39
    omega
   ·show 2*(R.length:Int) - 1+0 < (N:Int)
    omega
   ·show 2*(R.length:Int) - 1+0≤100
    omega
   ·obtain ⟨L,cv,pm⟩:=h17.tree
    have:=pm.eq_nil
    subst this
    refine ⟨⟨h17.ord,h17.len,?_,fun i hi=>?_⟩,Or.inr ⟨by omega,h17.full,Cv.mono (fun _ _=>trivial) cv⟩⟩
    ·have:=h17.room
     have e:aCh ([]:List aZ)=0:=rfl
     show p17.2.1.length≤39
     omega
    ·rcases h17.good i hi with ⟨t,ht,_⟩ | g
     ·exact absurd ht (by simp)
     ·exact g
theorem aO0 (N:Nat) (hN:100 < N) {R:List aF} (hR:aAb R):T (vC N R) (fun q=>match q with | .inl e=>False | .inr r=>r.2.2=0∧r.2.1=aL.mk r.1 true R 0∧aBS R.length r.1∧wJ R r.1):=by
 unfold vC
 refine T.bind (aSk N hN hR) fun r1 h1=>?_
 refine T.cond (fun hc=>by rw [h1.1] at hc;cases hc) (fun hc=>?_)
 have n20:=hR.2
 unfold iM
 refine T.eq (a:=R) (by rw [fK (by simp;omega)];simp) (T.ret ⟨rfl,rfl,h1.2⟩)
structure Rdy (b:List (List aD)) (s:aE) (v:aI) (sky:aA):Prop where
 tri:∀ t∈s.gK,(0≤t.gC3∧t.gC3 < (s.gA1.length:Int))∧t.gB4 < (b.length:Int)∧(∀ v∈t.gUv.toList,∀ x∈v.toList,0≤x∧x≤65535)∧∀ p∈t.gP.toList,pwi 65536 p
 few:s.gK.length≤20
 mat:∀ m∈s.gA1,aBz m
 light:∀ l∈s.gI,wL l
 lights:s.gI.length≤5
 lev:∀ l∈b,aFo l
 dark:s.gI=[]→sky=aA.mk 0 0 0
 sky:vin sky
 view:aLs v
def aJJ (n:Nat) (gl:List aF):Prop:=gl.length≤4096∧∀ i,n≤i→∀ t,gl[i]? = some t→t.gD2=0
def newS (s:aE) (v:aI) (r:(List aF)×(List aN)×(List aP)×(List (List aD))×aA×(List aF)×Int):Prop:=
 r.1=s.gK∧r.2.1=s.gA1∧r.2.2.1=s.gI∧Rdy r.2.2.2.1 s v r.2.2.2.2.1∧aJJ s.gK.length r.2.2.2.2.2.1∧r.2.2.2.2.2.2=0∧v.gS=true∧(r.2.2.2.2.2.1.length:Int)=(eF v.gJ).1∧fits s v.gJ∧∀ i,i < s.gK.length→r.2.2.2.2.2.1[i]? = s.gK[i]?
def newW (s:aE) (v:aI) (r:(List aF)×(List aN)×(List aP)×(List (List aD))×aA×aX×aL×Int):Prop:=
 r.1=s.gK∧r.2.1=s.gA1∧r.2.2.1=s.gI∧Rdy r.2.2.2.1 s v r.2.2.2.2.1∧(aBS s.gK.length r.2.2.2.2.2.1∧r.2.2.2.2.2.2.1=aL.mk r.2.2.2.2.2.1 true s.gK 0)∧r.2.2.2.2.2.2.2=0∧v.gS=false∧wJ s.gK r.2.2.2.2.2.1
def aPr (N:Nat) (s:aE) (v:aI) (r:Int):Prop:=(jA N s=some r∧r≠0)∨(jA N s=some 0∧tD N v=some r∧r≠0)∨(jA N s=some 0∧tD N v=some 0∧nW N s v.gJ=some r)
def newL (N:Nat) (s:aE) (b:List (List aD)) (sky:aA):Prop:=lZ N (s.gQ.length:Int) s N [] 0=some b∧xI N s.gI=some sky
theorem newT (N:Nat) (hN:300 < N) (s:aE) (v:aI) (hs:few s):T (jQ N s v) (fun q=>match q with
  | .inl e=>e≠0∧aPr N s v e
  | .inr (.inl r)=>False
  | .inr (.inr (.inl r))=>newS s v r∧aPr N s v 0∧newL N s r.2.2.2.1 r.2.2.2.2.1
  | .inr (.inr (.inr (.inl r)))=>False
  | .inr (.inr (.inr (.inr r)))=>newW s v r∧aPr N s v 0∧newL N s r.2.2.2.1 r.2.2.2.2.1):=by
 unfold jQ
 have nz:∀ {r:Int},(r != 0)=true→r≠0:=fun h=>by simpa using h
 have ez:∀ {r:Int},(r != 0)=false→r=0:=fun h=>by simpa using h
 obtain ⟨r1,e1,h1⟩:=aSS N hN s hs
 refine T.eq e1 (T.cond (fun hc=>T.ret ⟨nz hc,Or.inl ⟨e1,nz hc⟩⟩) (fun hc1=>?_))
 rw [ez hc1] at e1
 have ok:=h1 (ez hc1)
 obtain ⟨r2,e2,h2⟩:=mayVT N v
 refine T.eq e2 (T.cond (fun hc=>T.ret ⟨nz hc,Or.inr (Or.inl ⟨e1,e2,nz hc⟩)⟩) (fun hc2=>?_))
 rw [ez hc2] at e2
 have vok:=h2 (ez hc2)
 obtain ⟨r3,e3,h3⟩:=aRt N s v.gJ
 refine T.eq e3 (T.cond (fun hc=>T.ret ⟨nz hc,Or.inr (Or.inr ⟨e1,e2,e3⟩)⟩) (fun hc3=>?_))
 rw [ez hc3] at e3
 have nv:aPr N s v 0:=Or.inr (Or.inr ⟨e1,e2,e3⟩)
 have cb:0≤(eF v.gJ).1∧(eF v.gJ).1≤4096:=by unfold eF;cases (v.gJ==0) <;> cases (v.gJ==1) <;> cases (v.gJ==2) <;> decide
 have fit:=h3 (ez hc3)
 obtain ⟨⟨f1,f2,f3,f4,f5⟩,okt,okm,okx,okl⟩:=ok
 obtain ⟨N,rfl⟩:∃ n,N=n+3:=⟨N - 3,by omega⟩
 obtain ⟨r4,e4,h4⟩:=skyT N (by omega) _ okl f4
 refine T.eq e4 ?_
 refine T.eq (fK (by simp;omega)) (T.eq (fK (by simp;omega)) (T.eq (fK (by simp;omega)) ?_))
 simp only [aR,List.nil_append]
 have lvT:T (lZ (N+3) (s.gQ.length:Int) s (N+3) [] 0) (fun r=>r.length=s.gQ.length∧∀ x∈r,aFo x):=by
  refine T.loopG0 (n:=s.gQ.length) (fun i (l:List (List aD))=>l.length=i∧∀ x∈l,aFo x) (fun r=>r.length=s.gQ.length∧∀ x∈r,aFo x) (F:=lZ (N+3) (s.gQ.length:Int) s) (fun k l i hi hl hk=>?_) (fun k l hl=>?_) (by omega) (s:=[]) ⟨rfl,fun x h=>absurd h (by simp)⟩
  ·rw [lZ,dt (by omega),cond_true,iT,List.getElem?_eq_getElem hi,Option.bind_some]
   refine T.bind (aQu (N+3) hN _ (f5 _ (List.getElem_mem hi))) fun r13 h13=>T.eq (fK (by simp;omega)) ?_
   rw [dX (by omega)]
   refine hk _ ⟨by simp;omega,fun x hx=>?_⟩
   rw [List.mem_append,List.mem_singleton] at hx
   rcases hx with hx | rfl
   ·exact hl.2 x hx
   ·exact h13
  ·rw [lZ,df (by omega),cond_false];exact T.ret hl
 obtain ⟨p9,e9,h9⟩:=lvT
 refine T.eq e9 ?_
 have rdy:Rdy p9 s v r4:=⟨fun t ht=>by have:=okt t ht;exact ⟨this.1,by rw [h9.1];exact this.2.1,this.2.2.1,this.2.2.2⟩,f1,okm,okl,f4,h9.2,h4.2,h4.1,vok⟩
 refine T.cond (fun hc=>?_) (fun hc=>?_)
 ·refine T.bind (aSe _ _) fun r15 h15=>T.bind (aNv (N+3) s.gK r15.1 (by rw [h15];exact cb) (by rw [h15];exact fit.1)) fun q hq=>?_
  cases q with
  | inl e=>exact hq.elim
  | inr r=>exact T.ret ⟨⟨rfl,rfl,rfl,rdy,⟨hq.2.2.1,hq.2.2.2.1⟩,hq.1,hc,by rw [← h15];exact hq.2.1,fit,hq.2.2.2.2⟩,nv,e9,e4⟩
 ·refine T.bind (aO0 (N+3) (by omega) (R:=s.gK) ⟨fun t ht=>(okt t ht).2.2.2,f1⟩) fun q hq=>?_
  cases q with
  | inl e=>exact hq.elim
  | inr r=>exact T.ret ⟨⟨rfl,rfl,rfl,rdy,⟨hq.2.2.1,hq.2.1⟩,hq.1,hc,hq.2.2.2⟩,nv,e9,e4⟩
def TU {ι ρ α:Type} (f:ι→Option ρ) (P:α→Prop) (S:ι→α→ρ→Prop):Prop:=∃ a,P a∧∀ i,∃ r,f i=some r∧S i a r
section
variable {ι ρ ρ' α β:Type}
theorem TU.bind {A:ι→Option ρ} {B:ι→ρ→Option ρ'} {P:α→Prop} {S:ι→α→ρ→Prop} {Q:β→Prop} {S':ι→β→ρ'→Prop} (h:TU A P S)
  (hf:∀ a,P a→∀ r:ι→ρ,(∀ i,S i a (r i))→TU (fun i=>B i (r i)) Q S'):TU (fun i=>Option.bind (A i) (B i)) Q S':=by
 obtain ⟨a,pa,h⟩:=h
 have h':∃ r:ι→ρ,∀ i,A i=some (r i)∧S i a (r i):=⟨fun i=>(h i).choose,fun i=>(h i).choose_spec⟩
 obtain ⟨r,hr⟩:=h'
 obtain ⟨b,qb,hb⟩:=hf a pa r fun i=>(hr i).2
 refine ⟨b,qb,fun i=>?_⟩
 obtain ⟨x,e,s⟩:=hb i
 exact ⟨x,by show Option.bind (A i) (B i)=some x;rw [(hr i).1];exact e,s⟩
theorem TU.t {o:Option α} {B:ι→α→Option ρ} {P:α→Prop} {Q:β→Prop} {S:ι→β→ρ→Prop} (h:T o P) (hf:∀ a,P a→TU (fun i=>B i a) Q S):TU (fun i=>Option.bind o (B i)) Q S:=by
 obtain ⟨a,rfl,pa⟩:=h
 exact hf a pa
theorem TU.e {A:ι→Option ρ} {B:ι→ρ→Option ρ'} {a:ρ} {Q:β→Prop} {S':ι→β→ρ'→Prop} (e:∀ i,A i=some a) (h:TU (fun i=>B i a) Q S'):TU (fun i=>Option.bind (A i) (B i)) Q S':=by
 rw [show (fun i=>Option.bind (A i) (B i))=fun i=>B i a from funext fun i=>by rw [e i];rfl];exact h
theorem TU.cond {c:Bool} {A B:ι→Option ρ} {Q:β→Prop} {S:ι→β→ρ→Prop} (h1:c=true→TU A Q S) (h2:c=false→TU B Q S):TU (fun i=>_root_.cond c (A i) (B i)) Q S:=by
 cases c with
 | true=>exact h1 rfl
 | false=>exact h2 rfl
theorem TU.ret {g:ι→ρ} (b:β) {Q:β→Prop} {S:ι→β→ρ→Prop} (hq:Q b) (h:∀ i,S i b (g i)):TU (fun i=>some (g i)) Q S:=⟨b,hq,fun i=>⟨g i,rfl,h i⟩⟩
theorem TU.mono {f:ι→Option ρ} {P P':α→Prop} {S S':ι→α→ρ→Prop} (h:TU f P S) (hp:∀ a,P a→P' a) (hs:∀ i a r,P a→S i a r→S' i a r):TU f P' S':=by
 obtain ⟨a,pa,h⟩:=h
 refine ⟨a,hp a pa,fun i=>?_⟩
 obtain ⟨r,e,s⟩:=h i
 exact ⟨r,e,hs i a r pa s⟩
theorem TU.loop {σ τ:Type} {n:Nat} {P:α→Prop} {S:ι→α→ρ→Prop} (I:Nat→σ→(ι→τ)→Prop) {F:ι→Nat→τ→σ→Int→Option ρ}
  (hstep:∀ k (h:ι→τ) s j,j < n→I j s h→(∀ s' h',I (j+1) s' h'→TU (fun i=>F i k (h' i) s' ((j+1:Nat):Int)) P S)→TU (fun i=>F i (k+1) (h i) s (j:Int)) P S)
  (hend:∀ k (h:ι→τ) s,I n s h→TU (fun i=>F i (k+1) (h i) s (n:Int)) P S):∀ (k j:Nat) (s:σ) (h:ι→τ),I j s h→j≤n→n - j < k→TU (fun i=>F i k (h i) s (j:Int)) P S
 | 0,j,_,_,_,_,hk=>by omega
 | k+1,j,s,h,hi,hj,hk=>by
  by_cases hn:j < n
  ·exact hstep k h s j hn hi fun s' h' hi'=>TU.loop I hstep hend k (j+1) s' h' hi' (by omega) (by omega)
  ·obtain rfl:j=n:=by omega
   exact hend k h s hi
theorem TU.loop0 {σ τ:Type} {n:Nat} {P:α→Prop} {S:ι→α→ρ→Prop} (I:Nat→σ→(ι→τ)→Prop) {F:ι→Nat→τ→σ→Int→Option ρ}
  (hstep:∀ k (h:ι→τ) s j,j < n→I j s h→(∀ s' h',I (j+1) s' h'→TU (fun i=>F i k (h' i) s' ((j+1:Nat):Int)) P S)→TU (fun i=>F i (k+1) (h i) s (j:Int)) P S)
  (hend:∀ k (h:ι→τ) s,I n s h→TU (fun i=>F i (k+1) (h i) s (n:Int)) P S) {N:Nat} (hN:n < N) {s:σ} {h:ι→τ} (hi:I 0 s h):TU (fun i=>F i N (h i) s 0) P S:=
 TU.loop I hstep hend N 0 s h hi (by omega) (by omega)
end
def swp (gl:List aF) (t:Int):aJ:=aJ.mk (jW.mk t) true gl
def cV (a b n:Int):Prop:=I64 b=I64 (a+n)∧(cG a→cG b)
theorem aCb {a b:Int} {n:Nat} (h:cV a b (n:Int)):cV a (I64 (b+1)) ((n+1:Nat):Int):=by
 obtain ⟨h,_⟩:=h
 refine ⟨?_,fun _=>cT _⟩
 rw [wR] at *;rw [wR] at *;rw [wR] at *;omega
theorem kC (a:Int):cV a a 0:=⟨by rw [Int.add_zero],fun h=>h⟩
theorem nX {a b c n m:Int} (h:cV a b n) (h':cV b c m):cV a c (n+m):=by
 obtain ⟨h,g⟩:=h
 obtain ⟨h',g'⟩:=h'
 refine ⟨?_,fun x=>g' (g x)⟩
 rw [wR] at *;rw [wR] at *;omega
theorem aOo (N:Nat) (hN:3 < N) {n:Nat} {gl:List aF} (h:aJJ n gl) (o d:aC) (m s:Int) {j:Nat} (hj:j < gl.length):∃ a:aS×Bool,qA a.1∧(a.2=true→j < n)∧∀ t,dQ N o d m s (j:Int) (swp gl t)=some a:=by
 have key:T (dQ N o d m s (j:Int) (swp gl 0)) (fun a=>qA a.1∧(a.2=true→j < n)):=by
  unfold dQ oS swp
  refine T.eq rfl ?_
  refine T.bind (T.idx (by omega) (by dsimp only;omega)) fun e2 h2=>T.bind (hitT N hN _ _ _) fun r3 h3=>?_
  refine T.bind (P:=fun r=>r=true→j < n) ?_ fun p4 h4=>T.ret ⟨h3,h4⟩
  refine T.cond (fun _=>?_) (fun _=>T.ret fun h=>by cases h)
  refine T.bind (T.idx (by omega) (by dsimp only;omega)) fun e5 h5=>?_
  rw [aR]
  refine T.cond (fun hc=>T.ret fun _=>?_) (fun _=>T.ret fun h=>by cases h)
  by_cases hn:j < n
  ·exact hn
  ·have:=h.2 j (by omega) e5 (by rw [Int.toNat_natCast] at h5;exact h5)
   rw [this] at hc
   exfalso
   have z:iK .u8 0 m=0:=by
    unfold iK
    have:BitVec.ofInt IntKind.u8.bits 0 &&& BitVec.ofInt IntKind.u8.bits m=0:=by
     rw [show BitVec.ofInt IntKind.u8.bits 0=0 from rfl]
     exact BitVec.zero_and
    rw [this];rfl
   rw [z] at hc
   cases hc
 obtain ⟨a,e,h1,h2⟩:=key
 exact ⟨a,h1,h2,fun t=>e⟩
theorem aPM {ι:Type} (N:Nat) (hN:4100 < N) {n:Nat} {gl:List aF} (h:aJJ n gl) (o d:aC) (m s:Int) (t:ι→Int) :
  TU (fun i=>hO N o d m s (swp gl (t i))) (fun a:Int×aS=>a.1 < (n:Int)∧qA a.2) (fun i a r=>∃ t',r=(swp gl t',a)∧cV (t i) t' (gl.length:Int)):=by
 unfold hO iH
 refine TU.e (a:=false) (fun i=>rfl) ?_
 simp only [cond_false]
 have h4:=h.1
 refine TU.bind (P:=fun a:aS×Int=>a.2 < (n:Int)∧qA a.1) (S:=fun i a r=>∃ t',r=(swp gl t',a)∧cV (t i) t' (gl.length:Int)) ?_ fun a ha r hr=>?_
 ·refine TU.loop0 (n:=gl.length) (fun j (s:aS×Int) t'=>(s.2 < (n:Int)∧qA s.1)∧∀ i,cV (t i) (t' i) (j:Int)) (F:=fun i k t' (x:aS×Int) j=>dO N (swp gl (t i)) o d m s k (swp gl t') x.1 x.2 j) (fun k t' x j hj hx hk=>?_) (fun k t' x hx=>?_) (by omega) (s:=(aS.mk 0 0 0 0,-1)) (h:=t) ⟨⟨by dsimp only;omega,aCn⟩,fun i=>kC _⟩
  ·obtain ⟨a,a1,a2,a3⟩:=aOo N (by omega) h o d m s hj
   simp only [dO,aR]
   simp only [show ∀ t,(swp gl t).gl=gl from fun _=>rfl,dt (show (j:Int) < (gl.length:Int) by omega),cond_true,a3,Option.bind_some]
   refine TU.t (P:=fun p:aS×aS×Int=>p.2.2 < (n:Int)∧qA p.1) ?_ fun p hp=>?_
   ·refine T.bind (P:=fun _=>True) (T.cond (fun _=>T.ret trivial) (fun _=>T.bind (aOz N a1 hx.1.2) fun _ _=>T.ret trivial)) fun p10 _=>?_
    refine T.cond (fun hc=>T.ret ⟨?_,a1⟩) (fun _=>T.ret ⟨hx.1.1,hx.1.2⟩)
    have:a.2=true:=by
     cases h2:a.2 with
     | true=>rfl
     | false=>rw [h2] at hc;cases hc
    have:=a2 this
    show (j:Int) < (n:Int)
    omega
   ·rw [dX (by omega)]
    exact hk (p.1,p.2.2) (fun i=>I64 (t' i+1)) ⟨hp,fun i=>aCb (hx.2 i)⟩
  ·simp only [dO,aR]
   simp only [show ∀ t,(swp gl t).gl=gl from fun _=>rfl,df (show ¬ (gl.length:Int) < (gl.length:Int) by omega),cond_false]
   exact TU.ret x hx.1 fun i=>⟨t' i,rfl,hx.2 i⟩
 ·refine TU.ret (a.2,a.1) ha fun i=>?_
  obtain ⟨t',e,p⟩:=hr i
  rw [e]
  exact ⟨t',rfl,p⟩
theorem anyU {ι:Type} (N:Nat) (hN:4100 < N) {n:Nat} {gl:List aF} (h:aJJ n gl) (o d:aC) (m s:Int) (w:Bool) (t:ι→Int) :
  TU (fun i=>fO N o d m s w (swp gl (t i))) (fun _:Bool=>True) (fun i a r=>∃ t',r=(swp gl t',a)∧cV (t i) t' (gl.length:Int)):=by
 unfold fO iH
 refine TU.e (a:=false) (fun i=>rfl) ?_
 simp only [cond_false]
 have h4:=h.1
 refine TU.bind (P:=fun a:Bool=>True) (S:=fun i a r=>∃ t',r=(swp gl t',a)∧cV (t i) t' (gl.length:Int)) ?_ fun a ha r hr=>?_
 ·refine TU.loop0 (n:=gl.length) (fun j (s:Bool) t'=>∀ i,cV (t i) (t' i) (j:Int)) (F:=fun i k t' (x:Bool) j=>dJ N (swp gl (t i)) o d m s w k (swp gl t') x j) (fun k t' x j hj hx hk=>?_) (fun k t' x hx=>?_) (by omega) (s:=false) (h:=t) (fun i=>kC _)
  ·obtain ⟨a,a1,a2,a3⟩:=aOo N (by omega) h o d m s hj
   simp only [dJ,aR]
   simp only [show ∀ t,(swp gl t).gl=gl from fun _=>rfl,dt (show (j:Int) < (gl.length:Int) by omega),cond_true,a3,Option.bind_some]
   rw [dX (by omega)]
   refine TU.cond (fun _=>?_) (fun _=>?_)
   ·exact hk _ (fun i=>I64 (t' i+1)) (fun i=>aCb (hx i))
   ·exact hk _ (fun i=>I64 (t' i+1)) (fun i=>aCb (hx i))
  ·simp only [dJ,aR]
   simp only [show ∀ t,(swp gl t).gl=gl from fun _=>rfl,df (show ¬ (gl.length:Int) < (gl.length:Int) by omega),cond_false]
   exact TU.ret x trivial fun i=>⟨t' i,rfl,hx i⟩
 ·refine TU.ret a trivial fun i=>?_
  obtain ⟨t',e,p⟩:=hr i
  rw [e]
  exact ⟨t',rfl,p⟩
def wlk (b:aX) (gl:List aF) (t:Int):aL:=aL.mk b true gl t
def yS (r:bB):Prop:=cG r.gn∧cG r.gd
theorem aEe (N:Nat) {a b:bB} (ha:yS a) (hb:yS b):T (fB N a b) (fun _=>True):=by
 unfold fB
 exact T.bind (aEL N ha.1 hb.2) fun _ _=>T.bind (aEL N hb.1 ha.2) fun _ _=>T.bind (aMe N _ _) fun _ _=>T.ret trivial
theorem aRm (N:Nat) (hN:10 < N) (lo hi o:aC) {d:aC} (hd:pin d):T (vG N lo hi o d) (fun r=>yS r.1):=by
 unfold vG
 have z1:yS (bB.mk 0 1):=⟨z64,by decide,by decide⟩
 have z0:yS (bB.mk 0 0):=⟨z64,z64⟩
 refine T.bind (T.loopG0 (n:=3) (fun _ (s:bB×bB×Bool)=>yS s.1∧yS s.2.1) (fun o=>match o with | .inl p=>yS p.1∧yS p.2.1 | .inr p=>yS p.1) (F:=fun k (s:bB×bB×Bool) i=>qH N lo hi o d k s.1 s.2.1 s.2.2 i) (fun k s i hi' hs hk=>?_) (fun k s hs=>?_) (by omega) (s:=(bB.mk 0 1,bB.mk 0 0,false)) ⟨z1,z0⟩) fun q hq=>?_
 ·rw [qH,dt (by omega),cond_true]
  refine T.bind (P:=fun o=>match o with | .inl p=>yS p.1∧yS p.2.1 | .inr p=>yS p.1) ?_ fun q hq=>?_
  ·refine T.bind (P:=fun e:Vector Int 4=>∃ x,e.toList[3]? = some x∧cG x) ?_ fun e7 h7=>?_
   ·have:i=0∨i=1∨i=2:=by omega
    rcases this with rfl | rfl | rfl
    ·exact ⟨_,rfl,_,rfl,hd.1⟩
    ·exact ⟨_,rfl,_,rfl,hd.2.1⟩
    ·exact ⟨_,rfl,_,rfl,hd.2.2⟩
   obtain ⟨x,ex,hx⟩:=h7
   refine T.bind (T.inRO (by decide) (by decide)) fun _ _=>T.bind (T.vg (i:=0) (by decide)) fun e9 _=>T.bind (T.inRO (by decide) (by decide)) fun _ _=>T.bind (T.vg (i:=2) (by decide)) fun e11 _=>?_
   refine T.bind (T.inRO (by decide) (by decide)) fun _ _=>T.bind (T.vg (i:=1) (by decide)) fun e13 _=>T.bind (T.inRO (by decide) (by decide)) fun _ _=>T.bind (T.vg (i:=2) (by decide)) fun e15 _=>?_
   refine T.bind (T.inRO (by decide) (by decide)) fun _ _=>T.eq (a:=x) ex ?_
   simp only [aR]
   refine T.cond (fun _=>T.ret hs.1) (fun _=>?_)
   refine T.bind (P:=fun _=>True) (T.cond (fun _=>T.ret trivial) (fun _=>T.ret trivial)) fun p19 _=>?_
   refine T.cond (fun _=>T.ret hs.1) (fun _=>T.cond (fun _=>T.ret hs) (fun _=>?_))
   have r1:∀ a b:Int,cG b→yS (bB.mk (I64 a) b):=fun a b h=>⟨cT _,h⟩
   refine T.cond (fun _=>?_) (fun _=>?_)
   ·refine T.bind (P:=yS) (T.bind (aEe N hs.1 (r1 _ _ (cT _))) fun _ _=>T.cond (fun _=>T.ret (r1 _ _ (cT _))) (fun _=>T.ret hs.1)) fun p24 h24=>?_
    refine T.bind (P:=fun _=>True) (T.cond (fun _=>T.ret trivial) (fun _=>T.bind (aEe N (r1 _ _ (cT _)) hs.2) fun _ _=>T.ret trivial)) fun p26 _=>?_
    exact T.cond (fun _=>T.ret ⟨h24,r1 _ _ (cT _)⟩) (fun _=>T.ret ⟨h24,hs.2⟩)
   ·refine T.bind (P:=yS) (T.bind (aEe N hs.1 (r1 _ _ hx)) fun _ _=>T.cond (fun _=>T.ret (r1 _ _ hx)) (fun _=>T.ret hs.1)) fun p24 h24=>?_
    refine T.bind (P:=fun _=>True) (T.cond (fun _=>T.ret trivial) (fun _=>T.bind (aEe N (r1 _ _ hx) hs.2) fun _ _=>T.ret trivial)) fun p26 _=>?_
    exact T.cond (fun _=>T.ret ⟨h24,r1 _ _ hx⟩) (fun _=>T.ret ⟨h24,hs.2⟩)
  ·cases q with
   | inl p=>rw [dX (by omega)];exact hk (_,_,_) hq
   | inr p=>exact T.ret hq
 ·rw [qH,df (by omega),cond_false];exact T.ret hs
 ·cases q with
  | inl p=>exact T.bind (P:=fun _=>True) (T.cond (fun _=>T.ret trivial) (fun _=>T.bind (aEe N hq.2 hq.1) fun _ _=>T.ret trivial)) fun _ _=>T.ret hq.1
  | inr p=>exact T.ret hq
theorem aMv (N:Nat) (hN:3 < N) (b:aX) {gl:List aF} (o d:aC) (m s:Int) {j:Int} (hj:0≤j∧j < (gl.length:Int)):∃ a:aS×Bool,qA a.1∧∀ t,cY N o d m s j (wlk b gl t)=some a:=by
 have key:T (cY N o d m s j (wlk b gl 0)) (fun a=>qA a.1):=by
  unfold cY wlk
  refine T.bind (T.idx hj.1 hj.2) fun e1 _=>?_
  simp only [aR]
  refine T.cond (fun _=>T.ret aCn) (fun _=>?_)
  exact T.bind (T.idx hj.1 hj.2) fun e1 _=>T.bind (hitT N hN _ _ _) fun r h=>T.ret h
 obtain ⟨a,e,h1⟩:=key
 exact ⟨a,h1,fun t=>e⟩
def aOS (b:aX) (l:List Int):Prop:=∀ x∈l,0≤x∧x < (b.gA6.length:Int)
theorem T.slcN {α:Type} {l:List α} {lo hi:Int} (h0:0≤lo) (h1:lo≤hi) (h2:hi≤(l.length:Int)):T (vU l lo hi) (fun r=>r=(l.take hi.toNat).drop lo.toNat∧(∀ x∈r,x∈l)∧r.length≤l.length):=by
 refine ⟨_,aES h0 h1 h2,rfl,fun x hx=>List.mem_of_mem_take (List.mem_of_mem_drop hx),?_⟩
 rw [List.length_drop,List.length_take];omega
theorem aIf {α:Type} {l:List α} {e:Int} (h0:0≤e) (h:e.toNat < l.length):idx l e=some l[e.toNat]:=by
 have:e=((e.toNat:Nat):Int):=by omega
 exact (congrArg (idx l) this).trans ((iT l e.toNat).trans (List.getElem?_eq_getElem h))
theorem aQT (k:Nat) {n:aA} (hn:vin n) (d:aC):T (lR (k+70) n d) vin:=by
 unfold lR
 refine T.bind (aAn (k+5) d) fun r1 h1=>T.bind (aNf (k+66) hn h1) fun r2 _=>T.cond (fun _=>T.ret hn) (fun _=>?_)
 exact T.eq (qI (k+67) hn ⟨by decide,by decide⟩) (T.ret (oD _ _))
theorem pickT (N:Nat) {l:List aD} (h:aFo l) (i:Int):T (vW N l i) (fun r=>r.1.gA2.length≤260):=by
 unfold vW
 rw [aR]
 refine T.cond (fun _=>T.ret (by simp)) (fun hc=>?_)
 have h0:(l.length:Int)≠0:=by simpa using hc
 have h20:=h.1
 rw [aR,bV (x:=(l.length:Int) - 1) (by omega) (by omega),uX,sK]
 exact T.bind (T.idx (by omega) (by omega)) fun e3 h3=>T.ret (h.2 _ (List.mem_of_getElem? h3))
def aO6 (u:Vector (Vector Int 2) 3):Prop:=∀ v∈u.toList,∀ x∈v.toList,0≤x∧x≤65535
theorem uvT {u:Vector (Vector Int 2) 3} (h:aO6 u) {i j:Int} (hi:0≤i∧i < 3) (hj:0≤j∧j < 2) {β:Type} {f:Int→Option β} {Q:β→Prop} (hf:∀ e,cG e→T (f e) Q):T (Option.bind (idx u.toList i) fun e=>Option.bind (idx e.toList j) f) Q:=by
 refine T.bind (T.idx hi.1 (by simp;omega)) fun e he=>T.bind (T.idx hj.1 (by simp;omega)) fun x hx=>hf x ?_
 have:=h _ (List.mem_of_getElem? he) _ (List.mem_of_getElem? hx)
 exact ⟨by omega,by omega⟩
theorem aOQ (k:Nat) {j:Int} (hj:0≤j∧j < 2) {m:aS} (hm:qA m) {u:Vector (Vector Int 2) 3} (hu:aO6 u):T (lN (k+5) j m u) (fun _=>True):=by
 unfold lN
 rw [aR]
 refine uvT hu ⟨by decide,by decide⟩ hj fun e3 h3=>T.bind (aEL _ (cT _) h3) fun r4 h4=>?_
 refine uvT hu ⟨by decide,by decide⟩ hj fun e6 h6=>T.bind (aEL _ hm.2.2.1 h6) fun r7 h7=>?_
 refine uvT hu ⟨by decide,by decide⟩ hj fun e9 h9=>T.bind (aEL _ hm.2.2.2 h9) fun r10 h10=>?_
 refine T.bind (aPv _ _ (by intro x hx;simp at hx;rcases hx with rfl | rfl | rfl;exact h4;exact h7;exact h10) (by simp) (by simp)) fun r11 h11=>?_
 refine T.cond (fun _=>T.ret trivial) (fun _=>T.bind (aP1 (k+2) h11 hm.2.1) fun r12 h12=>T.bind (aGI _ h12.1) fun r13 h13=>?_)
 simp only [aR]
 exact T.cond (fun _=>T.ret trivial) (fun _=>T.cond (fun _=>T.ret trivial) (fun _=>T.ret trivial))
theorem baryT (k:Nat) {m:aS} (hm:qA m) {u:Vector (Vector Int 2) 3} (hu:aO6 u):T (wB (k+5) m u) (fun _=>True):=by
 unfold wB
 refine T.bind (P:=fun _=>True) ?_ fun p1 _=>?_
 ·simp only [aR]
  exact T.cond (fun _=>T.ret trivial) (fun _=>T.cond (fun _=>T.ret trivial) (fun _=>T.ret trivial))
 ·exact T.cond (fun _=>T.ret trivial) (fun _=>T.bind (aOQ k ⟨by decide,by decide⟩ hm hu) fun _ _=>T.bind (aOQ k ⟨by decide,by decide⟩ hm hu) fun _ _=>T.ret trivial)
theorem aRZ (N:Nat) (hN:300 < N) (t:aD) (h:t.gA2.length≤260) (x y:Int):T (wD N t x y) (fun _=>True):=by
 unfold wD
 refine T.bind (texT N t (by omega) (by omega) (by omega)) fun r1 h1=>T.cond (fun _=>T.ret trivial) (fun hc=>?_)
 have ok:=h1 (by simpa using hc)
 exact T.bind (aGU N ⟨ok.1,ok.2.1⟩ _ _) fun _ _=>T.ret trivial
theorem aQY (N:Nat) (hN:300 < N) (t:aD) (h:t.gA2.length≤260) (x y:Int):T (sO N t x y) (fun r=>vin r.1):=by
 unfold sO
 refine T.bind (texT N t (by omega) (by omega) (by omega)) fun r1 h1=>T.cond (fun _=>T.ret ⟨z64,z64,z64⟩) (fun hc=>?_)
 rw [aR,aR]
 refine T.cond (fun _=>T.ret ⟨z64,z64,z64⟩) (fun _=>?_)
 refine T.letO fun x4 _=>T.letO fun x5 _=>?_
 simp only [aR]
 have s:∀ a b:Int,T (eG N a b t x4 x5) (fun _=>True):=by
  intro a b
  unfold eG
  simp only [aR]
  exact T.bind (aRZ N hN t h _ _) fun _ _=>T.ret trivial
 refine T.bind (s _ _) fun r13 _=>T.bind (s _ _) fun r14 _=>T.bind (s _ _) fun r15 _=>T.bind (s _ _) fun r16 _=>?_
 refine T.bind (P:=fun _=>True) ?_ fun p17 _=>?_
 ·refine T.loopG0 (n:=4) (fun _ _=>True) _ (F:=mN N r13 r14 r15 r16 x4 x5) (fun k v i hi _ hk=>?_) (fun k v _=>?_) (by omega) trivial
  ·rw [mN,dt (by omega),cond_true]
   refine T.bind (T.idx (by omega) (by simp;omega)) fun e20 _=>T.bind (P:=fun _=>True) ?_ fun _ _=>by rw [dX (by omega)];exact hk _ trivial
   refine T.loopG0 (n:=3) (fun _ _=>True) _ (F:=mE N e20 (i:Int) x4 x5) (fun k v j hj _ hk=>?_) (fun k v _=>?_) (by omega) trivial
   ·rw [mE,dt (by omega),cond_true]
    refine T.bind (T.inRO (by omega) (by omega)) fun _ _=>T.bind (T.vgI hj) fun _ _=>T.bind (T.inRO (by omega) (by omega)) fun _ _=>T.bind (T.vgI hj) fun _ _=>T.bind (T.inRO (by omega) (by omega)) fun _ _=>T.bind (T.vgI hi) fun _ _=>?_
    rw [aR]
    refine T.bind (T.inRO (by omega) (by omega)) fun _ _=>T.bind (T.vgI hj) fun _ _=>?_
    rw [dX (by omega)]
    exact hk _ trivial
   ·rw [mE,df (by omega),cond_false];exact T.ret trivial
  ·rw [mN,df (by omega),cond_false];exact T.ret trivial
 ·refine T.bind (T.inRO (by decide) (by decide)) fun _ _=>T.bind (T.vg (i:=0) (by decide)) fun _ _=>T.bind (T.inRO (by decide) (by decide)) fun _ _=>T.bind (T.vg (i:=1) (by decide)) fun _ _=>T.bind (T.inRO (by decide) (by decide)) fun _ _=>T.bind (T.vg (i:=2) (by decide)) fun _ _=>T.ret ⟨cT _,cT _,cT _⟩
theorem aQQ (k:Nat) {c:Vector Int 3} (hc:∀ x∈c.toList,0≤x∧x≤65535) {l:List aD} (hl:aFo l) {u:Vector (Vector Int 2) 3} (hu:aO6 u) {m:aS} (hm:qA m) (i:Int):T (mS (k+400) c l u m i) vin:=by
 unfold mS
 refine T.bind (aO7 (k+397) c (fun x hx=>by have:=hc x hx;exact ⟨by omega,by omega⟩) ⟨by decide,by decide⟩ (by decide)) fun r1 h1=>T.bind (pickT _ hl i) fun r2 h2=>T.cond (fun _=>T.ret h1) (fun _=>?_)
 refine T.bind (baryT (k+395) hm hu) fun r3 _=>T.letO fun x4 _=>T.letO fun x5 _=>T.bind (aQY _ (by omega) _ h2 _ _) fun r6 h6=>T.cond (fun _=>T.ret h1) (fun _=>?_)
 exact T.bind (aCr (k+397) _ (by intro x hx;simp at hx;rcases hx with rfl | rfl;exact h1;exact h6) (by simp) (by simp)) fun r7 h7=>T.ret h7
theorem aJZ (k:Nat) {a b c:Int} (hb:cG b) (hc:cG c) (v:Vector Int 2):T (iU (k+3) a b c v) cG:=by
 unfold iU
 refine T.bind (T.idx (by decide) (by simp)) fun e1 _=>T.bind (aFy k hb (cT _) ⟨by decide,by decide⟩) fun r2 h2=>T.bind (T.idx (by decide) (by simp)) fun e3 _=>T.bind (aFy k hc (cT _) ⟨by decide,by decide⟩) fun r4 h4=>?_
 rw [aR]
 exact T.ret (cT _)
theorem aSH (k:Nat) {l:aP} (h:wL l) (v:Vector Int 2):T (vV (k+3) l v) pin:=by
 unfold vV
 obtain ⟨_,a,b,c⟩:=h
 have b':=aGm b (by decide)
 have c':=aGm c (by decide)
 refine T.cond (fun _=>T.ret (aGm a (by decide))) (fun _=>?_)
 exact T.bind (aJZ k b'.1 c'.1 v) fun _ x=>T.bind (aJZ k b'.2.1 c'.2.1 v) fun _ y=>T.bind (aJZ k b'.2.2 c'.2.2 v) fun _ z=>T.ret ⟨x,y,z⟩
theorem absT (N:Nat) {a:Int} (h:cG a):T (mB N a) cG:=by unfold mB;exact T.cond (fun _=>T.ret (cT _)) (fun _=>T.ret h)
theorem aPB (N:Nat) {a:Int} (b:Int) (h:cG a):T (rG N a b) cG:=by unfold rG;exact T.cond (fun _=>T.ret (cT _)) (fun _=>T.ret h)
theorem foldT (N:Nat) {a b:Int} (ha:cG a) (hb:cG b):T (xW N a b) (fun r=>cG r.1∧cG r.2):=by
 unfold xW
 exact T.bind (absT N hb) fun _ _=>T.bind (aPB N _ (cT _)) fun _ x=>T.bind (absT N ha) fun _ _=>T.bind (aPB N _ (cT _)) fun _ y=>T.ret ⟨x,y⟩
theorem aRq (N:Nat) (a:Int):T (oH N a) cG:=by unfold oH;rw [aR];exact T.ret (cT _)
theorem aRJ (N:Nat) (a:Int):T (uI N a) pin:=by
 unfold uI
 refine T.bind (aRq N _) fun r1 h1=>T.bind (aRq N _) fun r2 h2=>T.bind (absT N h1) fun r3 _=>T.bind (absT N h2) fun r4 _=>?_
 rw [aR]
 refine T.bind (P:=fun p=>cG p.1∧cG p.2) (T.cond (fun _=>T.bind (foldT N h1 h2) fun r h=>T.ret h) (fun _=>T.ret ⟨h1,h2⟩)) fun p h=>T.ret ⟨h.1,h.2,cT _⟩
theorem aLf (N:Nat) (a:Int):T (sV N a) pin:=by
 unfold sV uH
 simp only [aR,Option.bind_some]
 exact T.bind (aRJ N _) fun r h=>T.ret h
theorem aNC (k:Nat) {a b:Int} (ha:cG a) (hb:cG b):T (jS (k+3) [a,b]) cG:=⟨_,aAr k ha hb,dP _⟩
theorem negT (N:Nat) {a:Int} (ha:cG a):T (tX N a) cG:=⟨_,aMx N ha,dP _⟩
theorem farT (k:Nat) {f:vE} (hf:pin f.gD6) (p:aC) {n:aA} (hn:vin n):T (qJ (k+70) f p n) (fun r=>pin r.1∧cG r.2):=by
 unfold qJ
 refine T.bind (aAn (k+5) _) fun r1 h1=>T.bind (aNf (k+66) hn h1) fun r2 h2=>T.cond (fun _=>?_) (fun _=>?_)
 ·exact T.bind (negT _ h2) fun _ a=>T.bind (negT _ h2) fun _ b=>T.bind (aNC (k+67) a b) fun _ c=>T.ret ⟨⟨cT _,cT _,cT _⟩,c⟩
 ·exact T.bind (aNC (k+67) h2 h2) fun _ c=>T.ret ⟨hf,c⟩
theorem aTA (k:Nat) (f:vN) (p:aC) {n:aA} (hn:vin n):T (oU (k+70) f p n) (fun r=>pin r.1∧cG r.2):=by
 unfold oU
 refine T.bind (aKt _ _ _) fun r1 h1=>T.bind (aAn (k+5) _) fun r2 h2=>T.bind (aNf (k+66) hn h2) fun r3 h3=>?_
 simp only [aR]
 refine T.cond (fun _=>T.ret ⟨⟨z64,z64,z64⟩,z64⟩) (fun _=>T.bind (aK5 _ _ _) fun r6 h6=>T.bind (aFy (k+67) h3 ⟨by decide,by decide⟩ h6) fun r7 h7=>T.ret ⟨h1,h7⟩)
theorem lampT (k:Nat) {l:aP} (h:wL l) (p:aC) {n:aA} (hn:vin n) (v:Vector Int 2):T (pL (k+70) l p n v) (fun r=>vin r.gC2):=by
 unfold pL
 have v0:vin (aA.mk 0 0 0):=⟨z64,z64,z64⟩
 refine T.bind (P:=fun _=>True) (T.bind (aPS _ (by omega) l) fun _ _=>T.cond (fun _=>T.ret trivial) (fun _=>T.bind (aPT _ _ _) fun _ _=>T.ret trivial)) fun p1 _=>T.cond (fun _=>T.ret v0) (fun _=>?_)
 refine T.bind (aSH (k+67) h v) fun r4 h4=>T.cond (fun _=>?_) (fun _=>?_)
 ·refine T.bind (T.idx (by decide) (by simp)) fun e5 _=>T.bind (aLf _ _) fun r6 h6=>T.bind (farT k (f:=vE.mk r6) h6 _ hn) fun r7 h7=>T.cond (fun _=>T.ret v0) (fun _=>?_)
  exact T.bind (aJ2 (k+67) h) fun r8 h8=>T.eq (qI (k+67) h8 h7.2) (T.ret (oD _ _))
 ·refine T.bind (aTA k _ _ hn) fun r10 h10=>T.cond (fun _=>T.ret v0) (fun _=>?_)
  exact T.bind (aJ2 (k+67) h) fun r8 h8=>T.eq (qI (k+67) h8 h10.2) (T.ret (oD _ _))
def aGN (t:cL):Prop:=pin t.gE7∧vin t.gC2
theorem aM6 : aGN (cL.mk (aC.mk 0 0 0) (aA.mk 0 0 0) true):=⟨⟨z64,z64,z64⟩,z64,z64,z64⟩
theorem aPu (k:Nat) {c n:aA} (hc:vin c) (hn:vin n) (a:Int):T (oN (k+70) c n a) aGN:=by
 unfold oN
 refine T.bind (aLf _ _) fun r1 h1=>T.bind (aAn (k+5) _) fun r2 h2=>T.bind (aNf (k+66) hn h2) fun r3 h3=>?_
 refine T.bind (P:=fun p=>pin p.1∧cG p.2) (T.cond (fun _=>T.bind (negT _ h3) fun _ b=>T.ret ⟨⟨cT _,cT _,cT _⟩,b⟩) (fun _=>T.ret ⟨h1,h3⟩)) fun p4 h4=>T.cond (fun _=>T.ret aM6) (fun _=>?_)
 exact T.bind (aNC (k+67) h4.2 h4.2) fun r6 h6=>T.eq (qI (k+67) hc h6) (T.ret ⟨h4.1,oD _ _⟩)
theorem aJa (k:Nat) {n:aA} (hn:vin n) (d:aC):T (lI (k+70) n d) vin:=by
 unfold lI
 exact T.bind (aAn (k+5) _) fun r1 h1=>T.bind (aNf (k+66) hn h1) fun r2 h2=>T.bind (aNC (k+67) h2 h2) fun r3 h3=>T.eq (qI (k+67) hn h3) (T.eq (aF1 _ h1 (oD _ _)) (T.ret (aGE _ _)))
theorem aJj (k:Nat) {a c:aA} (ha:vin a) (hc:vin c):T (kS (k+3) a c) aGN:=by
 unfold kS
 exact T.eq (aOc k ha) (T.cond (fun _=>T.ret aM6) (fun _=>T.ret ⟨aDc (aIb ha),hc⟩))
theorem aPZ (k:Nat) {m:aN} (hm:aBz m) {c n:aA} (hc:vin c) (hn:vin n) (d:aC) (v:Vector Int 2):T (kI (k+70) m c n d v) aGN:=by
 unfold kI
 obtain ⟨_,r1,r2⟩:=hm
 refine T.cond (fun _=>T.bind (T.idx (by decide) (by simp)) fun e1 _=>T.bind (aPu k hc hn _) fun r h=>T.ret h) (fun _=>?_)
 refine T.cond (fun _=>?_) (fun _=>?_)
 ·refine T.eq (qW _ ⟨by omega,by omega⟩) (T.eq (qW _ ⟨by decide,by decide⟩) (T.eq (vZ (k+67) (dP _) (dP _) (by decide)) ?_))
  refine T.bind (aJa k hn d) fun r6 h6=>T.bind (T.idx (by decide) (by simp)) fun e7 _=>T.bind (aLf _ _) fun r8 _=>T.bind (aAn (k+5) _) fun r9 h9=>T.eq (qI (k+67) h9 (dP _)) ?_
  refine T.eq (aGM (k+67) h6 (oD _ _)) (T.bind (aNf (k+66) hn (tG _ _)) fun r12 _=>T.cond (fun _=>T.ret aM6) (fun _=>T.bind (aJj (k+67) (tG _ _) hc) fun r h=>T.ret h))
 refine T.cond (fun _=>?_) (fun _=>?_)
 ·refine T.bind (T.idx (by decide) (by simp)) fun e14 _=>T.bind (aPO _ _ _) fun r15 _=>?_
  rw [aR]
  exact T.cond (fun _=>T.bind (aAn (k+5) _) fun r17 h17=>T.bind (aJj (k+67) h17 hc) fun r h=>T.ret h) (fun _=>T.bind (aJa k hn d) fun r19 h19=>T.bind (aJj (k+67) h19 hc) fun r h=>T.ret h)
 ·exact T.cond (fun _=>T.bind (aJa k hn d) fun r19 h19=>T.bind (aJj (k+67) h19 hc) fun r h=>T.ret h) (fun _=>T.ret aM6)
theorem T.eqo {α:Type} {o:Option α} {a:α} (h:o=some a):(Option.bind o fun r=>some r)=some a:=by rw [h];rfl
theorem aNx (k:Nat) {f:aA} (hf:vin f) (a:Int):T (jM (k+70) f a) (fun r=>vin r.1):=by
 unfold jM vS pH iC
 refine T.eq (aKJ _ hf) (T.eq rfl (T.eq rfl (T.cond (fun _=>T.ret ⟨z64,z64,z64⟩) (fun _=>?_))))
 rw [uX,sK]
 generalize hx:min (max (wQ f) 268435456) 4294967296=x
 have hx1:cG x∧x≠0:=by unfold cG;omega
 refine T.eq (T.eqo (vZ (k+67) hf.1 hx1.1 hx1.2)) ?_
 refine T.eq (T.eqo (vZ (k+67) hf.2.1 hx1.1 hx1.2)) ?_
 refine T.eq (T.eqo (vZ (k+67) hf.2.2 hx1.1 hx1.2)) ?_
 exact T.ret ⟨dP _,dP _,dP _⟩
theorem aPG (k:Nat) (c:bP) (w h x y:Int) (v:Vector Int 4):T (vA (k+6) c w h x y v) (fun r=>pin r.1∧pin r.2.1):=by
 unfold vA
 have p0:pin (aC.mk 0 0 0):=⟨z64,z64,z64⟩
 refine T.bind (T.idx (by decide) (by simp)) fun e1 _=>T.bind (T.idx (by decide) (by simp)) fun e2 _=>?_
 refine T.bind (aKm k c w h x y _) fun r hr=>?_
 refine T.cond (fun hc=>T.ret ⟨p0,p0⟩) (fun hc=>?_)
 have h0:r.2=0:=by simpa using hc
 obtain ⟨hv,cam⟩:=hr
 obtain ⟨⟨w1,w2⟩,⟨h1,h2⟩,hl,hf,o1,o2,o3,ee1,ee2⟩:=cam h0
 have eye:pin c.gA3:=by
  simp only [sK,uX] at ee1 ee2
  exact ⟨⟨by omega,by omega⟩,⟨by omega,by omega⟩,by omega,by omega⟩
 refine T.bind (P:=fun p=>pin p.1∧vin p.2) ?_ fun p hp=>?_
 ·refine T.cond (fun _=>?_) (fun _=>T.ret ⟨eye,hv⟩)
  refine T.bind (aTL k c v (aDc (aCU o1)) (aDc (aCU o2))) fun r5 h5=>?_
  simp only [aR]
  refine T.eq (qW _ ⟨by omega,by omega⟩) ?_
  refine T.eq (qW _ ⟨by decide,by decide⟩) ?_
  refine T.eq (vZ (k+3) (dP _) (dP _) (by decide)) ?_
  refine T.eq (qI (k+3) hv (dP _)) ?_
  refine T.eq (aAs _ h5) ?_
  refine T.eq (aF1 _ (oD _ _) (aA5 _)) ?_
  exact T.ret ⟨⟨cT _,cT _,cT _⟩,aGE _ _⟩
 ·refine T.eq (aOc (k+3) hp.2) ?_
  exact T.cond (fun hc=>T.ret ⟨p0,p0⟩) (fun _=>T.ret ⟨hp.1,aDc (aIb hp.2)⟩)
theorem nk {N c:Nat} (h:c≤N):∃ k,N=k+c:=⟨N - c,by omega⟩
section
variable {N:Nat} (hN:1000 < N)
include hN
theorem aM1 (p:aC):T (hP N p) vin:=by obtain ⟨k,rfl⟩:=nk (show 65≤N by omega);exact aAn k p
theorem aMs {n:aA} (hn:vin n) (d:aC):T (lR N n d) vin:=by obtain ⟨k,rfl⟩:=nk (show 70≤N by omega);exact aQT k hn d
theorem aKD {c:Vector Int 3} (hc:∀ x∈c.toList,0≤x∧x≤65535) {l:List aD} (hl:aFo l) {u:Vector (Vector Int 2) 3} (hu:aO6 u) {m:aS} (hm:qA m) (i:Int):T (mS N c l u m i) vin:=by obtain ⟨k,rfl⟩:=nk (show 400≤N by omega);exact aQQ k hc hl hu hm i
theorem aPi {o d:aC} {m:aS} (ho:pin o) (hd:pin d) (hm:qA m):T (sU N o d m) pin:=by obtain ⟨k,rfl⟩:=nk (show 3≤N by omega);exact aQj k ho hd hm
theorem aMV {v:aA} (hv:vin v):T (oP N v) cG:=by obtain ⟨k,rfl⟩:=nk (show 65≤N by omega);exact aNK k hv
theorem aRx {l:aP} (h:wL l) (p:aC) {n:aA} (hn:vin n) (v:Vector Int 2):T (pL N l p n v) (fun r=>vin r.gC2):=by obtain ⟨k,rfl⟩:=nk (show 70≤N by omega);exact lampT k h p hn v
theorem aKs {m:aN} (hm:aBz m) {c n:aA} (hc:vin c) (hn:vin n) (d:aC) (v:Vector Int 2):T (kI N m c n d v) aGN:=by obtain ⟨k,rfl⟩:=nk (show 70≤N by omega);exact aPZ k hm hc hn d v
theorem aIT {f:aA} (hf:vin f) (a:Int):T (jM N f a) (fun r=>vin r.1):=by obtain ⟨k,rfl⟩:=nk (show 70≤N by omega);exact aNx k hf a
theorem aJX (l:List aA) (h:∀ x∈l,vin x) (hl:l.length≤10):T (iX N l) vin:=by obtain ⟨k,rfl⟩:=nk (show 3≤N by omega);exact aCr k l h (by omega) (by omega)
theorem aRh {u v:aA} (hu:vin u) (hv:vin v):kP N [u,v]=some (aGu u v):=by obtain ⟨k,rfl⟩:=nk (show 3≤N by omega);exact aGM k hu hv
theorem rayN (c:bP) (w h x y:Int) (v:Vector Int 4):T (vA N c w h x y v) (fun r=>pin r.1∧pin r.2.1):=by obtain ⟨k,rfl⟩:=nk (show 6≤N by omega);exact aPG k c w h x y v
theorem aPY {f:aA} (hf:vin f):iX N [f,aA.mk 0 0 0]=some (aA.mk 0 0 0):=by
 obtain ⟨k,rfl⟩:=nk (show 3≤N by omega)
 have h:=qI k hf z64
 unfold fE at h
 obtain ⟨r,e,_⟩:=aCr k [f,aA.mk 0 0 0] (by intro x hx;simp at hx;rcases hx with rfl | rfl;exact hf;exact ⟨z64,z64,z64⟩) (by simp) (by simp)
 rw [e] at h ⊢
 have h':r=aJh f 0:=Option.some.inj h
 rw [h']
 unfold aJh
 simp [S64]
end
def v0 : aA:=aA.mk 0 0 0
theorem aC9 : vin v0:=⟨z64,z64,z64⟩
def aFz (p:aV):Prop:=pin p.gat∧vin p.gn∧vin p.gc∧aBz p.gB1
def aDH (r:aK):Prop:=pin r.go∧pin r.gd
theorem mat0 : aBz (aN.mk 0 (#v[0,0,0]) 0):=⟨by intro x hx;simp at hx;omega,by decide,by decide⟩
section
variable {ι ρ ρ' β:Type}
def TC (A:ι→Option ρ) (P:ρ→Prop):Prop:=∃ a,P a∧∀ i,A i=some a
theorem TU.c {A:ι→Option ρ} {B:ι→ρ→Option ρ'} {P:ρ→Prop} {Q:β→Prop} {S:ι→β→ρ'→Prop} (h:TC A P) (hf:∀ a,P a→TU (fun i=>B i a) Q S):TU (fun i=>Option.bind (A i) (B i)) Q S:=by
 obtain ⟨a,pa,e⟩:=h
 exact TU.e e (hf a pa)
theorem TC.of {o:Option ρ} {A:ι→Option ρ} {P:ρ→Prop} (h:T o P) (e:∀ i,A i=o):TC A P:=by
 obtain ⟨a,rfl,pa⟩:=h
 exact ⟨a,pa,e⟩
theorem TC.bind {A:ι→Option ρ} {B:ι→ρ→Option ρ'} {P:ρ→Prop} {Q:ρ'→Prop} (h:TC A P) (hf:∀ a,P a→TC (fun i=>B i a) Q):TC (fun i=>Option.bind (A i) (B i)) Q:=by
 obtain ⟨a,pa,e⟩:=h
 obtain ⟨b,qb,e'⟩:=hf a pa
 exact ⟨b,qb,fun i=>by show Option.bind (A i) (B i)=_;rw [e i];exact e' i⟩
theorem TC.t {α:Type} {o:Option α} {B:ι→α→Option ρ} {P:α→Prop} {Q:ρ→Prop} (h:T o P) (hf:∀ a,P a→TC (fun i=>B i a) Q):TC (fun i=>Option.bind o (B i)) Q:=by
 obtain ⟨a,rfl,pa⟩:=h
 exact hf a pa
theorem TC.cond {c:Bool} {A B:ι→Option ρ} {Q:ρ→Prop} (h1:c=true→TC A Q) (h2:c=false→TC B Q):TC (fun i=>_root_.cond c (A i) (B i)) Q:=by
 cases c with
 | true=>exact h1 rfl
 | false=>exact h2 rfl
theorem TC.ret (a:ρ) {Q:ρ→Prop} (h:Q a):TC (fun _:ι=>some a) Q:=⟨a,h,fun _=>rfl⟩
end
theorem aRi : vin (aA.mk 4294967296 4294967296 4294967296):=⟨⟨by decide,by decide⟩,⟨by decide,by decide⟩,by decide,by decide⟩
theorem aOs {a b n m:Int} (h:cV a b n) (e:n=m):cV a b m:=e▸h
end Go.UK
