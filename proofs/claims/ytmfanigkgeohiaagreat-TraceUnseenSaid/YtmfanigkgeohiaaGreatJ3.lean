/- A part of the proof: what the functions of the program compute. -/
import Derived.Test.YtmfanigkgeohiaaGreatJ2
namespace Go.UK
open Go Go.Proofs
set_option maxRecDepth 20000
set_option maxHeartbeats 2000000
set_option linter.all false
theorem aOK {a:Int} (m:Nat) (hm:m < 9223372036854775808):0≤eK .i64 a (m:Int)∧eK .i64 a (m:Int)≤(m:Int):=by
 have h1:(BitVec.ofInt 64 (m:Int)).toNat=m:=aED m (by omega)
 have h2:(BitVec.ofInt 64 a &&& BitVec.ofInt 64 (m:Int)).toNat≤m:=by
  rw [BitVec.toNat_and,h1];exact Nat.and_le_right
 have h3:eK .i64 a (m:Int)=I64 ((BitVec.ofInt 64 a &&& BitVec.ofInt 64 (m:Int)).toNat:Int):=rfl
 rw [h3]
 generalize (BitVec.ofInt 64 a &&& BitVec.ofInt 64 (m:Int)).toNat=x at *
 rw [bF (by omega) (by omega)]
 omega
theorem keyT (N:Nat) (hN:20 < N) (a:Int):T (vO N a) (fun _=>True):=by
 unfold vO
 refine T.eq (a:=()) (by decide) ?_
 refine T.bind (P:=fun _=>True) ?_ fun v _=>?_
 ·unfold cpV
  rw [dif_pos (by decide)]
  exact T.ret trivial
 refine T.bind (T.loop0 (n:=8) (by decide) (fun _ _=>True) (F:=oC N a) (fun k s i hi _ Q hk=>?_) (fun k s=>by rw [oC,df (by omega),cond_false]) (by omega) trivial) fun v _=>T.ret trivial
 rw [oC,dt (by omega),cond_true,show (8:Int)=((8:Nat):Int) from rfl,i4 (by omega),show (24:Int)=((24:Nat):Int) from rfl,ia (by omega)]
 refine T.eq (aA4 .u64 (by omega)) ?_
 refine T.bind (T.inRO (by omega) (by omega)) fun _ _=>T.bind (T.vget (by omega)) fun e _=>?_
 rw [eG (by omega)]
 exact hk _ trivial
theorem aR6 (N:Nat) (hN:20 < N) (p:bK) (a:Int):T (iI N p a) (fun _=>True):=by
 unfold iI
 refine T.bind (T.loop0 (n:=4) (by decide) (fun _ _=>True) (F:=iE N p) (fun k s i hi _ Q hk=>?_) (fun k s=>by rw [iE,df (by omega),cond_false]) (by omega) trivial) fun v _=>?_
 ·rw [iE,dt (by omega),cond_true,show (8:Int)=((8:Nat):Int) from rfl,i4 (by omega),show (4:Int)=((4:Nat):Int) from rfl,ia (by omega)]
  refine T.eq (aA4 .u32 (by omega)) ?_
  refine T.eq (aA4 .u32 (by omega)) ?_
  refine T.bind (T.inRO (by omega) (by omega)) fun _ _=>T.bind (T.vget (by omega)) fun e _=>?_
  refine T.bind (T.inRO (by omega) (by omega)) fun _ _=>T.bind (T.vget (by omega)) fun e _=>?_
  rw [eG (by omega)]
  exact hk _ trivial
 refine T.bind (keyT N hN a) fun _ _=>T.bind (aSI N hN _ _ _) fun _ _=>T.ret trivial
theorem aQM (N:Nat) (b:Vector Int 64) (a:Int):T (oA N b a) (fun _=>True):=by
 unfold oA
 have h:=aOK (a:=a) 15 (by decide)
 simp only [aS]
 generalize hx:eK .i64 a 15=x at *
 rw [show ((15:Nat):Int)=15 from rfl] at h
 rw [show I64 (4*x)=4*x from bF (by omega) (by omega),show I64 (4*x+1)=4*x+1 from bF (by omega) (by omega),show I64 (4*x+2)=4*x+2 from bF (by omega) (by omega),show I64 (4*x+3)=4*x+3 from bF (by omega) (by omega)]
 refine T.bind (T.idx (by omega) (by simp;omega)) fun _ _=>T.bind (T.idx (by omega) (by simp;omega)) fun _ _=>T.bind (T.idx (by omega) (by simp;omega)) fun _ _=>T.bind (T.idx (by omega) (by simp;omega)) fun _ _=>T.ret trivial
theorem T.loopG {σ ρ:Type} {n:Nat} (I:Nat→σ→Prop) (Q:ρ→Prop) {F:Nat→σ→Int→Option ρ}
  (hstep:∀ k s i,i < n→I i s→(∀ s',I (i+1) s'→T (F k s' ((i+1:Nat):Int)) Q)→T (F (k+1) s (i:Int)) Q) (hend:∀ k s,I n s→T (F (k+1) s (n:Int)) Q) :
  ∀ (k i:Nat) (s:σ),I i s→i≤n→n - i < k→T (F k s (i:Int)) Q
 | 0,i,_,_,_,h=>by omega
 | k+1,i,s,hs,hi,hk=>by
  by_cases h:i < n
  ·exact hstep k s i h hs fun s' h'=>T.loopG I Q hstep hend k (i+1) s' h' (by omega) (by omega)
  ·obtain rfl:i=n:=by omega
   exact hend _ _ hs
theorem T.loopG0 {σ ρ:Type} {n:Nat} (I:Nat→σ→Prop) (Q:ρ→Prop) {F:Nat→σ→Int→Option ρ}
  (hstep:∀ k s i,i < n→I i s→(∀ s',I (i+1) s'→T (F k s' ((i+1:Nat):Int)) Q)→T (F (k+1) s (i:Int)) Q) (hend:∀ k s,I n s→T (F (k+1) s (n:Int)) Q) {N:Nat} (hN:n < N) {s:σ} (hs:I 0 s):T (F N s 0) Q:=
 T.loopG I Q hstep hend N 0 s hs (by omega) (by omega)
theorem T.true {α:Type} {o:Option α} {P:α→Prop} (h:T o P):T o (fun _=>True):=h.mono fun _ _=>trivial
theorem aDJ (N:Nat) {a b:Int} (ha:cU a) (hb:cU b):T (fN N a b) wok:=by
 obtain ⟨w,e,h,_⟩:=aGe N ha hb
 exact ⟨w,e,h⟩
theorem aKO {x y c:Int} (hx:0≤x) (hx':x < 18446744073709551616) (hy:0≤y) (hy':y < 18446744073709551616) (hc:0≤c) (hc':c≤1):T (yE x y c) (fun r=>0≤r.1∧r.1 < 18446744073709551616∧0≤r.2∧r.2≤1):=by
 unfold yE
 rw [dt hx,dt hy,dt hc,dt hc']
 exact ⟨_,rfl,by dsimp only;omega,by dsimp only;omega,by dsimp only;omega,by dsimp only;omega⟩
theorem aNy (k:Nat) {w:aP} {y:Int} (hw:wok w) (hy:cU y):T (oX (k+3) w y) (fun r=>wok r.1∧cU r.2.1):=by
 obtain ⟨⟨w1,w2⟩,w3,w4⟩:=hw
 unfold oX
 refine T.cond (fun _=>T.ret ⟨⟨z64,by decide,by decide⟩,z64⟩) (fun hc=>?_)
 have hy0:y≠0:=by simpa using hc
 refine T.bind (P:=fun p=>0≤p.1∧p.1 < 18446744073709551616∧0≤p.2∧p.2 < 18446744073709551616) ?_ fun p hp=>?_
 ·refine T.cond (fun _=>?_) (fun _=>T.ret ⟨aAT _,aBz _,w3,w4⟩)
  obtain ⟨h',l',e,a1,a2,a3,a4,_⟩:=aFE (k+3) (h:=U64 w.gHi) (l:=w.gLo) (aAT _) (aBz _) w3 w4
  exact T.eq e (T.ret ⟨a1,a2,a3,a4⟩)
 obtain ⟨p1,p2,p3,p4⟩:=hp
 refine T.eq (wsz (k+3) hy) ?_
 have hY:0 < (if y < 0 then -y else y)∧(if y < 0 then -y else y) < 18446744073709551616:=by obtain ⟨y1,y2⟩:=hy;split <;> omega
 dsimp only
 generalize (if y < 0 then -y else y)=Y at *
 obtain ⟨Y1,Y2⟩:=hY
 refine T.eq (aH7 (k+3) Y1 p1 p2) ?_
 refine T.eq (aOz k Y1 Y2 (Int.emod_nonneg _ (by omega)) (Int.emod_lt_of_pos _ Y1) p3 p4) ?_
 dsimp only
 have q1:0≤p.1 / Y∧p.1 / Y < 18446744073709551616:=⟨Int.ediv_nonneg p1 (by omega),Int.lt_of_le_of_lt (Int.ediv_le_self _ p1) p2⟩
 have m1:=Int.emod_nonneg p.1 (show Y≠0 by omega)
 have m2:=Int.emod_lt_of_pos p.1 Y1
 have q2:0≤(p.1 % Y*18446744073709551616+p.2) / Y:=Int.ediv_nonneg (by omega) (by omega)
 have q3:(p.1 % Y*18446744073709551616+p.2) / Y < 18446744073709551616:=by
  rw [Int.ediv_lt_iff_lt_mul Y1]
  generalize p.1 % Y=m at *
  omega
 generalize (p.1 % Y*18446744073709551616+p.2) / Y=Q at *
 generalize (p.1 % Y*18446744073709551616+p.2) % Y=R at *
 generalize p.1 / Y=P1 at *
 refine T.bind (P:=fun p=>0≤p.1∧p.1 < 18446744073709551616∧0≤p.2.1∧p.2.1 < 18446744073709551616) ?_ fun p6 h6=>?_
 ·simp only [aS]
  refine T.cond (fun _=>?_) (fun _=>T.ret ⟨q1.1,q1.2,q2,q3⟩)
  refine T.bind (aKO q2 q3 (by decide) (by decide) (by decide) (by decide)) fun r9 h9=>T.ret ⟨aAT _,aBz _,h9.1,h9.2.1⟩
 simp only [aS]
 refine T.bind (aPt (k+3) _ h6.1 h6.2.1 h6.2.2.1 h6.2.2.2) fun r11 h11=>?_
 refine T.cond (fun _=>T.ret ⟨⟨z64,by decide,by decide⟩,z64⟩) (fun _=>?_)
 refine T.bind (P:=fun _=>True) (T.cond (fun _=>T.ret trivial) (fun _=>T.ret trivial)) fun p12 _=>T.ret ⟨h11,dH _⟩
theorem aFR (k:Nat) {a b y:Int} (ha:cU a) (hb:cU b) (hy:cU y):T (iY (k+3) a b y) cU:=by
 unfold iY
 refine T.cond (fun _=>T.ret z64) (fun _=>?_)
 refine T.bind (aDJ _ ha hb) fun r1 h1=>T.bind (aNy k h1 hy) fun r2 h2=>T.bind (aFJ _ h2.1) fun r3 h3=>?_
 refine T.cond (fun _=>T.ret h3.1) (fun _=>T.cond (fun _=>T.ret ⟨by decide,by decide⟩) (fun _=>T.ret ⟨by decide,by decide⟩))
theorem wofT (N:Nat) {a:Int} (ha:cU a):T (sZ N a) wok:=by
 unfold sZ
 obtain ⟨h1,h2⟩:=ha
 refine T.ret ⟨?_,aAT _,aBz _⟩
 show -9223372036854775808≤shr .i64 a 63∧shr .i64 a 63≤9223372036854775807
 rw [aKR]
 omega
theorem aMR (N:Nat) (a b:aP):T (nK N a b) (fun _=>True):=by
 unfold nK
 simp only [aS]
 refine T.cond (fun _=>T.ret trivial) (fun _=>T.bind (P:=fun _=>True) (T.cond (fun _=>T.ret trivial) (fun _=>T.ret trivial)) fun _ _=>T.cond (fun _=>T.ret trivial) (fun _=>T.ret trivial))
theorem aO0 (N:Nat) (l:List aP) (h:∀ w∈l,wok w) (hl:l.length < N) (hb:l.length < 1000000):T (uJ N l) (fun r=>wok r.1):=by
 unfold uJ
 have w0:wok (aP.mk 0 0):=⟨z64,by decide,by decide⟩
 refine T.bind (T.loopG0 (n:=l.length) (fun _ s=>wok s) (fun r=>match r with | .inl s=>wok s | .inr p=>wok p.1) (F:=qT N l) (fun k s i hi hs hk=>?_) (fun k s hs=>?_) hl w0) fun o ho=>?_
 ·rw [qT,aS,dt (by omega),cond_true,dU,List.getElem?_eq_getElem hi,Option.bind_some]
  have he:=h _ (List.getElem_mem hi)
  refine T.bind (aKO hs.2.1 hs.2.2 he.2.1 he.2.2 (by decide) (by decide)) fun r6 h6=>T.bind (aKO (aAT _) (aBz _) (aAT _) (aBz _) h6.2.2.1 h6.2.2.2) fun r7 h7=>?_
  simp only [aS]
  refine T.cond (fun _=>T.ret w0) (fun _=>?_)
  rw [eG (by omega)]
  exact hk _ ⟨dH _,h6.1,h6.2.1⟩
 ·rw [qT,aS,df (by omega),cond_false]
  exact T.ret hs
 ·cases o with
  | inl s=>exact T.ret ho
  | inr p=>exact T.ret ho
theorem aQp (N:Nat) (l:List Int) (h:∀ x∈l,cU x) (hl:l.length < N) (hb:l.length < 1000000):T (mF N l) cU:=by
 unfold mF
 refine T.bind (T.loopG0 (n:=l.length) (fun _ s=>cU s) cU (F:=mS N l) (fun k s i hi hs hk=>?_) (fun k s hs=>?_) hl z64) fun o ho=>T.ret ho
 ·rw [mS,aS,dt (by omega),cond_true,dU,List.getElem?_eq_getElem hi,Option.bind_some]
  refine T.eq (aFw hs (h _ (List.getElem_mem hi))) ?_
  rw [eG (by omega)]
  exact hk _ (fF _)
 ·rw [mS,aS,df (by omega),cond_false]
  exact T.ret hs
theorem aDu (k:Nat) (l:List aB) (h:∀ x∈l,vin x) (hl:l.length < k+3) (hb:l.length < 1000000):T (iL (k+3) l) vin:=by
 unfold iL
 refine T.bind (T.loopG0 (n:=l.length) (fun _ s=>vin s) vin (F:=jP (k+3) l) (fun k' s i hi hs hk=>?_) (fun k s hs=>?_) hl ⟨⟨by decide,by decide⟩,⟨by decide,by decide⟩,⟨by decide,by decide⟩⟩) fun o ho=>T.ret ho
 ·rw [jP,aS,dt (by omega),cond_true,dU,List.getElem?_eq_getElem hi,Option.bind_some]
  refine T.eq (aN4 k hs (h _ (List.getElem_mem hi))) ?_
  rw [eG (by omega)]
  exact hk _ ⟨fF _,fF _,fF _⟩
 ·rw [jP,aS,df (by omega),cond_false]
  exact T.ret hs
theorem aQJ (k:Nat) (l:List aB) (h:∀ x∈l,vin x) (hl:l.length < k+3) (hb:l.length < 1000):T (kZ (k+3) l) vin:=by
 refine ⟨_,aFX k l h hl hb,?_⟩
 have:∀ (l:List aB) (a:aB),vin a→vin (l.foldl aF9 a):=by
  intro l
  induction l with
  | nil=>intro a ha;exact ha
  | cons x l ih=>intro a _;exact ih _ (aA5 _ _)
 exact this l _ ⟨z64,z64,z64⟩
theorem aMd (k:Nat) {u v:aB} (hu:vin u) (hv:vin v):T (rA (k+4) u v) cU:=by
 unfold rA
 refine T.bind (aDu (k+1) _ (by intro x hx;simp at hx;rcases hx with rfl | rfl;exact hu;exact hv) (by simp) (by simp)) fun r hr=>?_
 refine T.bind (aQp _ _ (by intro x hx;simp at hx;rcases hx with rfl | rfl | rfl;exact hr.1;exact hr.2.1;exact hr.2.2) (by simp) (by simp)) fun r2 h2=>T.ret h2
theorem wok0 {x:Int} (h:cU x):wok (aP.mk x 0):=⟨h,Int.le_refl _,show (0:Int) < 18446744073709551616 by decide⟩
theorem wval0 {x:Int} (h:0≤x):0≤nU (aP.mk x 0):=by show 0≤x*18446744073709551616+0;omega
theorem aIY (N:Nat) (a:Int):T (nL N a) (fun r => -1073741824≤r∧r≤1073741824):=by
 unfold nL
 simp only [aS,uF,rZ]
 exact T.ret ⟨by omega,by omega⟩
theorem aIn (k:Nat) {a b:Int} (ha:cU a) (hb:cU b):T (jV (k+3) a b) cU:=by
 unfold jV
 refine T.bind (aNy k (w:=aP.mk a 0) (wok0 ha) hb) fun r1 h1=>T.bind (aFJ _ h1.1) fun r2 h2=>T.ret h2.1
theorem aOw {a:Int} (h:-1073741824≤a∧a≤1073741824):0≤a*a∧a*a≤1152921504606846976:=by
 have h0:a*a=(a.natAbs:Int)*(a.natAbs:Int):=by rw [← Int.natAbs_mul_self' a]
 have h1:a.natAbs≤1073741824:=by omega
 have h2:a.natAbs*a.natAbs≤1073741824*1073741824:=Nat.mul_le_mul h1 h1
 rw [h0]
 constructor
 ·exact_mod_cast Nat.zero_le _
 ·have:((a.natAbs*a.natAbs:Nat):Int)≤((1073741824*1073741824:Nat):Int):=by exact_mod_cast h2
  rw [Int.natCast_mul] at this
  exact this
theorem zS (k:Nat) (p:aC):T (fM (k+65) p) vin:=by
 unfold fM
 refine T.bind (aIY _ _) fun r1 h1=>T.bind (aIY _ _) fun r2 h2=>T.bind (aIY _ _) fun r3 h3=>?_
 simp only [aS]
 have s1:=aOw h1
 have s2:=aOw h2
 have s3:=aOw h3
 have hx:0≤I64 (I64 (I64 (r1*r1)+I64 (r2*r2))+I64 (r3*r3))∧I64 (I64 (I64 (r1*r1)+I64 (r2*r2))+I64 (r3*r3))≤9223372036854775807:=by
  generalize r1*r1=a at *
  generalize r2*r2=b at *
  generalize r3*r3=c at *
  rw [bF (x:=a) (by omega) (by omega),bF (x:=b) (by omega) (by omega),bF (x:=c) (by omega) (by omega),bF (x:=a+b) (by omega) (by omega),bF (by omega) (by omega)]
  omega
 generalize I64 (I64 (I64 (r1*r1)+I64 (r2*r2))+I64 (r3*r3))=X at *
 obtain ⟨r,e,_⟩:=aQ7 k (w:=aP.mk X 0) (wok0 ⟨by omega,hx.2⟩) (wval0 hx.1)
 refine T.eq e ?_
 refine T.cond (fun _=>T.ret ⟨z64,z64,z64⟩) (fun _=>?_)
 have c:∀ {r:Int},(-1073741824≤r∧r≤1073741824)→cU r:=fun h=>⟨by omega,by omega⟩
 refine T.bind (aIn (k+62) (c h1) (dH _)) fun _ a=>T.bind (aIn (k+62) (c h2) (dH _)) fun _ b=>T.bind (aIn (k+62) (c h3) (dH _)) fun _ d=>T.ret ⟨a,b,d⟩
theorem aIl (N:Nat) {a:Int} (ha:cU a):T (nH N a) wok:=by
 unfold nH
 exact T.bind (aDJ _ ha ha) fun r h=>T.ret h
theorem aQD (k:Nat) {v:aB} (hv:vin v):T (oH (k+65) v) cU:=by
 unfold oH
 obtain ⟨a,b,c⟩:=hv
 refine T.bind (aIl _ a) fun r1 h1=>T.bind (aIl _ b) fun r2 h2=>T.bind (aIl _ c) fun r3 h3=>T.bind (aO0 _ _ (by intro x hx;simp at hx;rcases hx with rfl | rfl | rfl;exact h1;exact h2;exact h3) (by simp) (by simp)) fun r4 h4=>?_
 refine T.cond (fun _=>T.ret ⟨by decide,by decide⟩) (fun _=>?_)
 simp only [aS]
 refine T.bind (P:=fun _=>True) ?_ fun r5 _=>T.ret (dH _)
 by_cases h:r4.1.gHi < 0
 ·unfold rY
  rw [dt h,cond_true]
  exact T.ret trivial
 ·obtain ⟨r,e,_⟩:=aQ7 k (w:=r4.1) h4 (by obtain ⟨_,q,_⟩:=h4;show 0≤r4.1.gHi*18446744073709551616+r4.1.gLo;omega)
  exact ⟨_,e,trivial⟩
theorem aI6 {α:Type} (l:List α) (G:α→Option Int) (P:α→Prop) {F:Nat→Int→Option (Sum Unit Int)}
  (hF:∀ k i,F (k+1) i=aV (decide (i < ((l.length:Int)))) fun x=>cond x (Option.bind (idx l i) fun e=>Option.bind (G e) fun r=>cond (r != 0) (some (Sum.inr r)) (F k (I64 (i+1)))) (some (Sum.inl (()))))
  (hG:∀ x∈l,T (G x) (fun r=>r=0→P x)) {N:Nat} (hN:l.length < N) (hl:l.length < 1000000) :
  T (Option.bind (F N 0) fun o=>kK o (fun _=>some 0) (fun r=>some r)) (fun r=>r=0→∀ x∈l,P x):=by
 refine T.bind (T.loopG0 (n:=l.length) (fun i _=>∀ j,(h:j < l.length)→j < i→P l[j]) (fun o=>match o with | .inl _=>∀ x∈l,P x | .inr r=>r≠0) (F:=fun k (_:Unit) i=>F k i) (fun k s i hi hs hk=>?_) (fun k s hs=>?_) hN (s:=()) (fun j _ h=>absurd h (by omega))) fun o ho=>?_
 ·rw [hF,aS,dt (by omega),cond_true,dU,List.getElem?_eq_getElem hi,Option.bind_some]
  refine T.bind (hG _ (List.getElem_mem hi)) fun r hr=>?_
  refine T.cond (fun hc=>T.ret (by simpa using hc)) (fun hc=>?_)
  rw [eG (by omega)]
  refine hk () fun j h hj=>?_
  by_cases e:j=i
  ·subst e;exact hr (by simpa using hc)
  ·exact hs j h (by omega)
 ·rw [hF,aS,df (by omega),cond_false]
  refine T.ret fun x hx=>?_
  obtain ⟨j,h,rfl⟩:=List.getElem_of_mem hx
  exact hs j h h
 ·cases o with
  | inl _=>exact T.ret fun _=>ho
  | inr r=>exact T.ret fun e=>absurd e ho
theorem aNf {α:Type} (l:List α) (G:α→Option Bool) (P:α→Prop) {F:Nat→Int→Option (Sum Unit Int)}
  (hF:∀ k i,F (k+1) i=aV (decide (i < ((l.length:Int)))) fun x=>cond x (Option.bind (idx l i) fun e=>Option.bind (G e) fun r=>cond r (some (Sum.inr i)) (F k (I64 (i+1)))) (some (Sum.inl (()))))
  (hG:∀ x∈l,T (G x) (fun r=>r=false→P x)) {N:Nat} (hN:l.length < N) (hl:l.length < 1000000) :
  T (Option.bind (F N 0) fun o=>kK o (fun _=>some (-1)) (fun r=>some r)) (fun r=>decide (r≥0)=false→∀ x∈l,P x):=by
 refine T.bind (T.loopG0 (n:=l.length) (fun i _=>∀ j,(h:j < l.length)→j < i→P l[j]) (fun o=>match o with | .inl _=>∀ x∈l,P x | .inr r=>0≤r) (F:=fun k (_:Unit) i=>F k i) (fun k s i hi hs hk=>?_) (fun k s hs=>?_) hN (s:=()) (fun j _ h=>absurd h (by omega))) fun o ho=>?_
 ·rw [hF,aS,dt (by omega),cond_true,dU,List.getElem?_eq_getElem hi,Option.bind_some]
  refine T.bind (hG _ (List.getElem_mem hi)) fun r hr=>?_
  refine T.cond (fun hc=>T.ret (by dsimp only;omega)) (fun hc=>?_)
  rw [eG (by omega)]
  refine hk () fun j h hj=>?_
  by_cases e:j=i
  ·subst e;exact hr hc
  ·exact hs j h (by omega)
 ·rw [hF,aS,df (by omega),cond_false]
  refine T.ret fun x hx=>?_
  obtain ⟨j,h,rfl⟩:=List.getElem_of_mem hx
  exact hs j h h
 ·cases o with
  | inl _=>exact T.ret fun _=>ho
  | inr r=>exact T.ret fun e=>absurd (of_decide_eq_false e) (by simpa using ho)
def pwi (m:Int) (p:aC):Prop:=(-m≤p.gX∧p.gX≤m)∧(-m≤p.gY∧p.gY≤m) ∧ -m≤p.gZ∧p.gZ≤m
theorem aCq {m:Int} {p:aC} (h:pwi m p) (hm:m≤1000000000):pin p:=by
 obtain ⟨⟨a,b⟩,⟨c,d⟩,e,f⟩:=h
 exact ⟨⟨by omega,by omega⟩,⟨by omega,by omega⟩,by omega,by omega⟩
theorem aIE (N:Nat) (p:aC) {m:Int} (hm:0≤m) (hm':m≤1000000000):T (qN N p m) (fun r=>r=true↔pwi m p):=by
 unfold qN
 simp only [aS,rZ,uF]
 rw [bF (by omega) (by omega)]
 unfold pwi
 refine T.bind (P:=fun r=>r=true↔((-m≤p.gX∧p.gX≤m)∧(-m≤p.gY∧p.gY≤m) ∧ -m≤p.gZ∧p.gZ≤m)) ?_ fun r h=>T.ret h
 refine T.cond (fun h=>T.ret ?_) (fun h=>T.ret ?_)
 ·have:=of_decide_eq_true h
  rw [decide_eq_true_eq]
  omega
 ·have:=of_decide_eq_false h
  constructor
  ·intro h;cases h
  ·intro h;omega
theorem aJQ (N:Nat) (a b:aC):T (pU N a b) (fun r=>r=true→pwi 65536 a∧pwi 131072 b∧aC.eq b (aC.mk 0 0 0)=false):=by
 unfold pU
 refine T.bind (P:=fun r=>r=true→pwi 65536 a∧pwi 131072 b∧aC.eq b (aC.mk 0 0 0)=false) ?_ fun r h=>T.ret h
 refine T.bind (aIE N a (by decide) (by decide)) fun r2 h2=>?_
 refine T.cond (fun hc=>?_) (fun _=>T.ret fun h=>by cases h)
 refine T.bind (aIE N b (by decide) (by decide)) fun r3 h3=>?_
 refine T.cond (fun hc'=>?_) (fun _=>T.ret fun h=>by cases h)
 simp only [aS]
 refine T.ret fun h=>⟨h2.1 hc,h3.1 hc',by simpa using h⟩
theorem aJU (N:Nat) (a b:aC):T (kY N a b) pin:=⟨_,rfl,dH _,dH _,dH _⟩
theorem aH3 (N:Nat) (a b:aC):T (nA N a b) pin:=⟨_,rfl,dH _,dH _,dH _⟩
theorem aJB (N:Nat) (a b:aC):T (rD N a b) cU:=⟨_,rfl,dH _⟩
def lH (m:aL):Prop:=cU m.gT∧cU m.gM∧cU m.gU∧cU m.gV
theorem wR : lH (aL.mk 0 0 0 0):=⟨z64,z64,z64,z64⟩
theorem hit1T (N:Nat) (p:aC):T (uT N p) (fun r=>r=false→pwi 65536 p):=by
 unfold uT
 refine T.bind (aIE N p (by decide) (by decide)) fun r h=>T.ret fun e=>h.1 (by simpa using e)
theorem aQ6 (N:Nat) (l:List aC) (hN:l.length < N) (hl:l.length < 1000000):T (cA N l) (fun r=>r=false→∀ p∈l,pwi 65536 p):=by
 unfold cA dQ
 refine T.bind (aNf l (uT N) (pwi 65536) (fun k i=>by rw [dD]) (fun p _=>hit1T N p) hN hl) fun r h=>T.ret h
theorem hitT (N:Nat) (hN:3 < N) (o d:aC) (P:Vector aC 3):T (pR N o d P) (fun r=>lH r.1):=by
 unfold pR
 refine T.bind (P:=fun _=>True) ?_ fun p1 _=>?_
 ·refine T.bind (aJQ N o d) fun r2 h2=>?_
  refine T.cond (fun _=>T.ret trivial) (fun _=>?_)
  refine T.bind (T.slc (by decide) (by decide) (by simp)) fun s3 h3=>T.bind (aQ6 N s3 (by omega) (by omega)) fun r4 _=>T.ret trivial
 refine T.cond (fun _=>T.ret wR) (fun _=>?_)
 refine T.bind (T.idx (by decide) (by simp)) fun e5 _=>T.bind (T.idx (by decide) (by simp)) fun e6 _=>T.bind (aJU N _ _) fun r7 _=>?_
 refine T.bind (T.idx (by decide) (by simp)) fun e8 _=>T.bind (T.idx (by decide) (by simp)) fun e9 _=>T.bind (aJU N _ _) fun r10 _=>?_
 refine T.bind (aH3 N _ _) fun r11 _=>T.bind (T.idx (by decide) (by simp)) fun e12 _=>T.bind (aJU N _ _) fun r13 _=>T.bind (aH3 N _ _) fun r14 _=>?_
 refine T.bind (aJB N _ _) fun r15 h15=>T.bind (aJB N _ _) fun r16 h16=>T.bind (aJB N _ _) fun r17 h17=>T.bind (aJB N _ _) fun r18 h18=>?_
 refine T.bind (P:=lH) (T.cond (fun _=>T.ret ⟨dH _,dH _,dH _,dH _⟩) (fun _=>T.ret ⟨h15,h16,h17,h18⟩)) fun p19 h19=>?_
 simp only [aS]
 exact T.cond (fun _=>T.ret wR) (fun _=>T.ret h19)
theorem aLf (N:Nat) {m n:aL} (hm:lH m) (hn:lH n):T (qO N m n) (fun _=>True):=by
 unfold qO
 simp only [aS]
 refine T.cond (fun _=>T.ret trivial) (fun _=>T.bind (aDJ N hm.1 hn.2.1) fun r2 _=>T.bind (aDJ N hn.1 hm.2.1) fun r3 _=>T.bind (aMR N _ _) fun r4 _=>T.ret trivial)
theorem aRJ (N:Nat) (hN:2 < N) {a b:Int} (ha:cU a) (hb:cU b):T (wO N a b) cU:=by
 unfold wO
 refine T.bind (wofT N ha) fun r1 h1=>T.bind (wofT N hb) fun r2 h2=>T.bind (aO0 N _ (by intro x hx;simp at hx;rcases hx with rfl | rfl;exact h1;exact h2) (by simpa using hN) (by simp)) fun r3 h3=>?_
 refine T.bind (wofT N ⟨by decide,by decide⟩) fun r4 _=>T.bind (wofT N ⟨by decide,by decide⟩) fun r5 _=>T.bind (aMR N _ _) fun r6 _=>?_
 refine T.cond (fun _=>T.ret ⟨by decide,by decide⟩) (fun _=>T.bind (aMR N _ _) fun r7 _=>?_)
 refine T.cond (fun _=>T.ret ⟨by decide,by decide⟩) (fun _=>T.bind (aFJ N h3) fun r8 h8=>T.ret h8.1)
theorem aIQ (k:Nat) {a b:Int} {m:aL} (ha:cU a) (hb:cU b) (hm:lH m):T (jT (k+3) a b m) cU:=by
 unfold jT
 refine T.cond (fun _=>T.bind (aRJ _ (by omega) ha z64) fun r h=>T.ret h) (fun _=>?_)
 refine T.bind (aFR k hb hm.1 hm.2.1) fun r2 h2=>T.bind (aRJ _ (by omega) ha h2) fun r h=>T.ret h
theorem aQc (k:Nat) {o d:aC} {m:aL} (ho:pin o) (hd:pin d) (hm:lH m):T (qH (k+3) o d m) pin:=by
 unfold qH
 refine T.bind (aIQ k ho.1 hd.1 hm) fun _ a=>T.bind (aIQ k ho.2.1 hd.2.1 hm) fun _ b=>T.bind (aIQ k ho.2.2 hd.2.2 hm) fun _ c=>T.ret ⟨a,b,c⟩
def few (s:aF):Prop:=s.gE.length≤20∧s.gA5.length≤10∧s.gR.length≤6∧s.gF.length≤5∧(∀ t∈s.gR,t.gA7.length≤260)
theorem aFY {α:Type} (l:List α) (n:Nat):(l.take n).length≤n:=by rw [List.length_take];omega
theorem T.slcMin {α:Type} (l:List α) (n:Nat):T (wG l 0 (kL (l.length:Int) (n:Int))) (fun r=>r=l.take n):=⟨_,aOW l n,rfl⟩
theorem fewT2 (N:Nat) (hN:10 < N) (s:aF):T (qB N s) (fun r=>few r∧r.gA5.length≤8∧r.gR.length≤4):=by
 unfold qB
 have main:∀ (m i:Nat) (a:List aD),i≤4→a.length=i→(∀ t∈a,t.gA7.length≤260)→5 - i≤m→T (mQ N s m a (i:Int)) (fun r=>r.length≤4∧∀ t∈r,t.gA7.length≤260):=by
  intro m
  induction m with
  | zero=>intro i a h1 _ _ h;omega
  | succ m ih=>
   intro i a h1 h2 h3 h4
   rw [mQ]
   simp only [aS]
   refine T.cond (fun hc=>?_) (fun _=>T.ret ⟨by omega,h3⟩)
   have hc1:(i:Int) < (s.gR.length:Int)∧(i:Int) < 4:=by
    by_cases h:(i:Int) < (s.gR.length:Int)
    ·rw [dt h,cond_true] at hc;exact ⟨h,of_decide_eq_true hc⟩
    ·rw [df h,cond_false] at hc;cases hc
   refine T.bind (T.idx (by omega) hc1.1) fun e6 _=>?_
   refine T.bind (T.slcMin e6.gA7 260) fun s8 h8=>?_
   refine T.eq (lK (by simp;omega)) ?_
   rw [eG (by omega)]
   refine ih (i+1) _ (by omega) (by simp;omega) ?_ (by omega)
   intro t ht
   rw [List.mem_append,List.mem_singleton] at ht
   rcases ht with ht | rfl
   ·exact h3 t ht
   ·rw [h8];exact aFY _ _
 refine T.bind (main N 0 [] (by decide) rfl (fun t h=>absurd h (by simp)) (by omega)) fun p1 h1=>?_
 simp only [aS]
 refine T.bind (T.slcMin s.gE 20) fun s11 h11=>T.bind (T.slcMin s.gA5 8) fun s13 h13=>T.bind (T.slcMin s.gF 5) fun s15 h15=>T.bind (T.slcMin s.gA1 20) fun s17 _=>T.bind (T.slcMin s.gA2 20) fun s19 _=>?_
 have m8:s13.length≤8:=by rw [h13];exact aFY _ _
 refine T.ret ⟨⟨?_,Nat.le_trans m8 (by decide),by have:=h1.1;show p1.length≤6;omega,?_,h1.2⟩,m8,h1.1⟩
 ·show s11.length≤20;rw [h11];exact aFY _ _
 ·show s15.length≤5;rw [h15];exact aFY _ _
def aLe (s:aF) (t:aE):Prop:=(0≤t.gC1∧t.gC1 < (s.gA5.length:Int))∧t.gA6 < (s.gR.length:Int)∧(∀ v∈t.gUv.toList,∀ x∈v.toList,0≤x∧x≤65535)∧∀ p∈t.gP.toList,pwi 65536 p
theorem v2mem {α:Type} {v:Vector α 2} {P:α→Prop} (h0:∀ x,v.toList[0]? = some x→P x) (h1:∀ x,v.toList[1]? = some x→P x):∀ x∈v.toList,P x:=by
 intro x hx
 obtain ⟨j,h,rfl⟩:=List.getElem_of_mem hx
 have h':j < 2:=by simpa using h
 match j,h' with
 | 0,_=>exact h0 _ (List.getElem?_eq_getElem h)
 | 1,_=>exact h1 _ (List.getElem?_eq_getElem h)
theorem aQ4 {α:Type} {v:Vector α 3} {P:α→Prop} (h0:∀ x,v.toList[0]? = some x→P x) (h1:∀ x,v.toList[1]? = some x→P x) (h2:∀ x,v.toList[2]? = some x→P x):∀ x∈v.toList,P x:=by
 intro x hx
 obtain ⟨j,h,rfl⟩:=List.getElem_of_mem hx
 have h':j < 3:=by simpa using h
 match j,h' with
 | 0,_=>exact h0 _ (List.getElem?_eq_getElem h)
 | 1,_=>exact h1 _ (List.getElem?_eq_getElem h)
 | 2,_=>exact h2 _ (List.getElem?_eq_getElem h)
theorem T.vg {α:Type} {m:Nat} {v:Vector α m} {i:Nat} (h:i < m):T (v.toList[i]?) (fun x=>v.toList[i]? = some x):=⟨_,Go.UK.aAV v i h,Go.UK.aAV v i h⟩
theorem T.vgI {α:Type} {m:Nat} {v:Vector α m} {i:Nat} (h:i < m):T (v.toList[(i:Int).toNat]?) (fun x=>v.toList[i]? = some x):=T.vg h
theorem eF {α:Type} {o:Option α} {a b:α} (h:o=some a) (h':o=some b):a=b:=by rw [h] at h';exact Option.some.inj h'
theorem triT (N:Nat) (hN:10 < N) (s:aF) (t:aE):T (pV N s t) (fun r=>r=0→aLe s t):=by
 unfold pV
 simp only [aS]
 refine T.cond (fun _=>T.ret fun h=>by cases h) (fun hc=>?_)
 have c1:(0≤t.gC1∧t.gC1 < (s.gA5.length:Int))∧t.gA6 < (s.gR.length:Int):=by
  have o:∀ {a:Prop} [Decidable a] {b:Bool},cond b true (decide a)=false→b=false∧¬ a:=by
   intro a _ b h
   cases b with
   | true=>cases h
   | false=>exact ⟨rfl,of_decide_eq_false h⟩
  obtain ⟨hc,_⟩:=o hc
  obtain ⟨hc,_⟩:=o hc
  obtain ⟨hc,h4⟩:=o hc
  obtain ⟨hc,_⟩:=o hc
  obtain ⟨hc,h2⟩:=o hc
  exact ⟨⟨by have:=of_decide_eq_false hc;omega,by omega⟩,by omega⟩
 refine T.bind (T.loopG0 (n:=3) (fun i _=>∀ j,(h:j < 3)→j < i→∀ x∈t.gUv[j].toList,0≤x∧x≤65535) (fun o=>match o with | .inl _=>∀ v∈t.gUv.toList,∀ x∈v.toList,0≤x∧x≤65535 | .inr r=>r≠0) (F:=fun k (_:Unit) i=>kD N t k i) (fun k _ i hi hs hk=>?_) (fun k _ hs=>?_) (by omega) (s:=()) (fun j _ h=>absurd h (by omega))) fun o ho=>?_
 ·rw [kD,dt (by omega),cond_true]
  refine T.bind (T.idx (by omega) (by simp;omega)) fun e10 h10=>?_
  have e10e:e10=t.gUv[i]:=eF h10 (by rw [Int.toNat_natCast];exact aAV _ _ hi)
  refine T.bind (P:=fun r=>r=false→∀ x∈e10.toList,0≤x∧x≤65535) ?_ fun p11 h11=>?_
  ·refine T.bind (T.inRO (by decide) (by decide)) fun _ _=>T.bind (T.vg (i:=0) (by decide)) fun a ha=>T.bind (T.inRO (by decide) (by decide)) fun _ _=>T.bind (T.vg (i:=1) (by decide)) fun b hb=>?_
   simp only [aS,uF,rZ]
   refine T.cond (fun _=>T.ret fun h=>by cases h) (fun h1=>?_)
   refine T.bind (T.inRO (by decide) (by decide)) fun _ _=>T.bind (T.vg (i:=0) (by decide)) fun a' ha'=>T.bind (T.inRO (by decide) (by decide)) fun _ _=>T.bind (T.vg (i:=1) (by decide)) fun b' hb'=>?_
   refine T.ret fun h2=>?_
   obtain rfl:=eF ha ha'
   obtain rfl:=eF hb hb'
   have h1:=of_decide_eq_false h1
   have h2:=of_decide_eq_false h2
   exact v2mem (fun x hx=>by obtain rfl:=eF ha hx;omega) (fun x hx=>by obtain rfl:=eF hb hx;omega)
  refine T.cond (fun _=>T.ret (fun h=>by cases h)) (fun hc=>?_)
  rw [eG (by omega)]
  refine hk () fun j h hj=>?_
  by_cases e:j=i
  ·subst e;rw [← e10e];exact h11 hc
  ·exact hs j h (by omega)
 ·rw [kD,df (by omega),cond_false]
  refine T.ret fun v hv=>?_
  obtain ⟨j,h,rfl⟩:=List.getElem_of_mem hv
  have h':j < 3:=by simpa using h
  have:=hs j h' h'
  simpa using this
 cases o with
 | inr r=>exact T.ret fun e=>absurd e ho
 | inl _=>
 refine T.bind (T.loopG0 (n:=3) (fun i _=>∀ j,(h:j < 3)→j < i→pwi 65536 t.gP[j]) (fun o=>match o with | .inl _=>∀ v∈t.gP.toList,pwi 65536 v | .inr r=>r≠0) (F:=fun k (_:Unit) i=>kE N t k i) (fun k _ i hi hs hk=>?_) (fun k _ hs=>?_) (by omega) (s:=()) (fun j _ h=>absurd h (by omega))) fun o' ho'=>?_
 ·rw [kE,dt (by omega),cond_true]
  refine T.bind (T.idx (by omega) (by simp;omega)) fun e10 h10=>?_
  have e10e:e10=t.gP[i]:=eF h10 (by rw [Int.toNat_natCast];exact aAV _ _ hi)
  refine T.bind (aJQ N _ _) fun r hr=>?_
  refine T.cond (fun _=>T.ret (fun h=>by cases h)) (fun hc=>?_)
  rw [eG (by omega)]
  refine hk () fun j h hj=>?_
  by_cases e:j=i
  ·subst e;rw [← e10e];exact (hr (by simpa using hc)).1
  ·exact hs j h (by omega)
 ·rw [kE,df (by omega),cond_false]
  refine T.ret fun v hv=>?_
  obtain ⟨j,h,rfl⟩:=List.getElem_of_mem hv
  have h':j < 3:=by simpa using h
  have:=hs j h' h'
  simpa using this
 cases o' with
 | inr r=>exact T.ret fun e=>absurd e ho'
 | inl _=>exact T.ret fun _=>⟨c1.1,c1.2,ho,ho'⟩
theorem aPM (N:Nat) (hN:30 < N) (s:aF) (h:few s):T (fK N s.gE s) (fun r=>r=0→∀ t∈s.gE,aLe s t):=by
 unfold fK
 have h1:=h.1
 refine aI6 s.gE (fun t=>nP N t s) (aLe s) (fun k i=>by rw [iC]) (fun t _=>?_) (by omega) (by omega)
 unfold nP
 exact T.bind (triT N (by omega) s t) fun r h=>T.ret h
theorem aDS (N:Nat) (m:Int) (l:List Int) (hN:l.length < N) (hl:l.length < 1000000):T (kF N m l) (fun r=>r=false→∀ x∈l,0≤x∧x≤m):=by
 unfold kF eH fB
 refine T.bind (P:=fun r=>r=false→∀ x∈l,0≤x∧x≤m) ?_ fun r h=>T.ret h
 refine T.bind (aNf l (fun e=>lT N e m) (fun x=>0≤x∧x≤m) (fun k i=>by rw [eJ]) (fun x _=>?_) hN hl) fun r h=>T.ret h
 unfold lT
 simp only [aS]
 refine T.ret fun h=>?_
 by_cases h1:x < 0
 ·rw [dt h1,cond_true] at h;cases h
 ·rw [df h1,cond_false] at h
  have:=of_decide_eq_false h
  omega
def aBO (m:aQ):Prop:=(∀ x∈m.gB6.toList,0≤x∧x≤65535)∧0≤m.gD6∧m.gD6≤65535
theorem matT (N:Nat) (hN:10 < N) (m:aQ):T (nD N m) (fun r=>r=0→aBO m):=by
 unfold nD
 refine T.bind (P:=fun r=>r=false→aBO m) ?_ fun p1 h1=>T.cond (fun _=>T.ret fun h=>by cases h) (fun hc=>T.ret fun _=>h1 hc)
 refine T.bind (aDS N 4 _ (by simp;omega) (by simp)) fun r2 _=>?_
 refine T.cond (fun _=>T.ret fun h=>by cases h) (fun _=>?_)
 refine T.bind (T.idx (by decide) (by simp)) fun a ha=>T.bind (T.idx (by decide) (by simp)) fun b hb=>T.bind (T.idx (by decide) (by simp)) fun c hc=>?_
 refine T.bind (aDS N 65535 _ (by simp;omega) (by simp)) fun r6 h6=>T.ret fun e=>?_
 have h:=h6 e
 refine ⟨aQ4 (fun x hx=>?_) (fun x hx=>?_) (fun x hx=>?_),h _ (by simp)⟩
 ·obtain rfl:=eF ha hx;exact h _ (by simp)
 ·obtain rfl:=eF hb hx;exact h _ (by simp)
 ·obtain rfl:=eF hc hx;exact h _ (by simp)
theorem aOg (N:Nat) (hN:30 < N) (s:aF) (h:few s):T (dY N s.gA5) (fun r=>r=0→∀ t∈s.gA5,aBO t):=by
 unfold dY
 have h1:=h.2.1
 exact aI6 s.gA5 (nD N) aBO (fun k i=>by rw [eQ]) (fun t _=>matT N (by omega) t) (by omega) (by omega)
def aMJ (t:aD):Prop:=(t.gG=1∨t.gG=2∨t.gG=4∨t.gG=8∨t.gG=16)∧(t.gA7.length:Int)=t.gG*t.gG∧∀ v∈t.gA7,∀ x∈v.toList,0≤x∧x≤255
theorem aMV (N:Nat) (l:List Int) (a:Int) (hN:l.length < N) (hl:l.length < 1000000):T (iO N l a) (fun r=>r=true→a∈l):=by
 unfold iO mU
 refine T.bind (P:=fun r=>0≤r→a∈l) ?_ fun r h=>T.ret fun e=>h (of_decide_eq_true e)
 refine T.bind (T.loopG0 (n:=l.length) (fun _ _=>True) (fun o=>match o with | .inl _=>True | .inr r=>a∈l) (F:=fun k (_:Unit) i=>fL N l a k i) (fun k _ i hi hs hk=>?_) (fun k _ hs=>?_) hN (s:=()) trivial) fun o ho=>?_
 ·rw [fL,aS,dt (by omega),cond_true,dU,List.getElem?_eq_getElem hi,Option.bind_some]
  refine T.cond (fun hc=>T.ret ?_) (fun _=>?_)
  ·have e:a=l[i]:=by simpa using hc
   show a∈l
   rw [e];exact List.getElem_mem hi
  ·rw [eG (by omega)];exact hk () trivial
 ·rw [fL,aS,df (by omega),cond_false];exact T.ret trivial
 ·cases o with
  | inl _=>exact T.ret fun h=>absurd h (by decide)
  | inr r=>exact T.ret fun _=>ho
theorem texT (N:Nat) (t:aD) (hN:t.gA7.length < N) (hN':10 < N) (hl:t.gA7.length < 1000000):T (jC N t) (fun r=>r=0→aMJ t):=by
 unfold jC
 refine T.bind (aMV N _ _ (by simp;omega) (by simp)) fun r1 h1=>?_
 simp only [aS]
 refine T.cond (fun _=>T.ret fun h=>by cases h) (fun hc=>?_)
 have c:t.gG∈[1,2,4,8,16]∧(t.gA7.length:Int)=I64 (t.gG*t.gG):=by
  cases r1 with
  | false=>cases hc
  | true=>exact ⟨h1 rfl,by simpa using hc⟩
 have c1:t.gG=1∨t.gG=2∨t.gG=4∨t.gG=8∨t.gG=16:=by simpa using c.1
 have c2:(t.gA7.length:Int)=t.gG*t.gG:=by
  rw [c.2];rcases c1 with h | h | h | h | h <;> rw [h] <;> decide
 refine T.bind (T.loopG0 (n:=t.gA7.length) (fun i _=>∀ j,(h:j < t.gA7.length)→j < i→∀ x∈t.gA7[j].toList,0≤x∧x≤255) (fun o=>match o with | .inl _=>∀ v∈t.gA7,∀ x∈v.toList,0≤x∧x≤255 | .inr r=>r≠0) (F:=fun k (_:Unit) i=>lF N (t.gA7.length:Int) t k i) (fun k _ i hi hs hk=>?_) (fun k _ hs=>?_) hN (s:=()) (fun j _ h=>absurd h (by omega))) fun o ho=>?_
 ·rw [lF,dt (by omega),cond_true,dU,List.getElem?_eq_getElem hi,Option.bind_some]
  refine T.bind (P:=fun r=>r=false→∀ x∈(t.gA7[i]).toList,0≤x∧x≤255) ?_ fun p11 h11=>?_
  ·refine T.bind (T.inRO (by decide) (by decide)) fun _ _=>T.bind (T.vg (i:=0) (by decide)) fun a ha=>T.bind (T.inRO (by decide) (by decide)) fun _ _=>T.bind (T.vg (i:=1) (by decide)) fun b hb=>T.bind (T.inRO (by decide) (by decide)) fun _ _=>T.bind (T.vg (i:=2) (by decide)) fun d hd=>?_
   simp only [aS,uF,rZ]
   refine T.cond (fun _=>T.ret fun h=>by cases h) (fun h1=>?_)
   refine T.bind (T.inRO (by decide) (by decide)) fun _ _=>T.bind (T.vg (i:=0) (by decide)) fun a' ha'=>T.bind (T.inRO (by decide) (by decide)) fun _ _=>T.bind (T.vg (i:=1) (by decide)) fun b' hb'=>T.bind (T.inRO (by decide) (by decide)) fun _ _=>T.bind (T.vg (i:=2) (by decide)) fun d' hd'=>?_
   refine T.ret fun h2=>?_
   obtain rfl:=eF ha ha'
   obtain rfl:=eF hb hb'
   obtain rfl:=eF hd hd'
   have h1:=of_decide_eq_false h1
   have h2:=of_decide_eq_false h2
   exact aQ4 (fun x hx=>by obtain rfl:=eF ha hx;omega) (fun x hx=>by obtain rfl:=eF hb hx;omega) (fun x hx=>by obtain rfl:=eF hd hx;omega)
  refine T.cond (fun _=>T.ret (fun h=>by cases h)) (fun hc=>?_)
  rw [eG (by omega)]
  refine hk () fun j h hj=>?_
  by_cases e:j=i
  ·subst e;exact h11 hc
  ·exact hs j h (by omega)
 ·rw [lF,df (by omega),cond_false]
  refine T.ret fun v hv=>?_
  obtain ⟨j,h,rfl⟩:=List.getElem_of_mem hv
  exact hs j h h
 cases o with
 | inr r=>exact T.ret fun e=>absurd e ho
 | inl _=>exact T.ret fun _=>⟨c1,c2,ho⟩
theorem aPb (N:Nat) (hN:300 < N) (s:aF) (h:few s):T (eX N s.gR) (fun r=>r=0→∀ t∈s.gR,aMJ t):=by
 unfold eX
 have h1:=h.2.2.1
 exact aI6 s.gR (jC N) aMJ (fun k i=>by rw [fP]) (fun t ht=>texT N t (by have:=h.2.2.2.2 t ht;omega) (by omega) (by have:=h.2.2.2.2 t ht;omega)) (by omega) (by omega)
def vN (l:aT):Prop:=(∀ x∈l.gB6.toList,0≤x∧x≤1048576)∧pwi 4096 l.gAt∧pwi 4096 l.gU∧pwi 4096 l.gV
theorem aHw (N:Nat) (p:aC):T (mJ N p) (fun r=>r=false→pwi 4096 p):=by
 unfold mJ pwi
 simp only [aS,rZ,uF]
 refine T.bind (P:=fun r=>r=false→(-4096≤p.gX∧p.gX≤4096)∧(-4096≤p.gY∧p.gY≤4096) ∧ -4096≤p.gZ∧p.gZ≤4096) ?_ fun r h=>T.ret h
 refine T.cond (fun _=>T.ret fun h=>by cases h) (fun h=>T.ret fun h2=>?_)
 have h:=of_decide_eq_false h
 have h2:=of_decide_eq_false h2
 omega
theorem aPE (N:Nat) (hN:10 < N) (l:aT):T (oY N l) (fun r=>r=0→vN l):=by
 unfold oY
 refine T.bind (P:=fun r=>r=false→∀ x∈l.gB6.toList,0≤x∧x≤1048576) ?_ fun p1 h1=>?_
 ·refine T.bind (aDS N 2 _ (by simp;omega) (by simp)) fun r2 _=>?_
  refine T.cond (fun _=>T.ret fun h=>by cases h) (fun _=>?_)
  refine T.bind (T.slc (by decide) (by decide) (by simp)) fun s3 h3=>T.bind (aDS N _ s3 (by omega) (by omega)) fun r4 h4=>T.ret fun e=>?_
  have hs:s3=l.gB6.toList:=by rw [h3.1];exact List.take_of_length_le (show l.gB6.toList.length≤3 by simp)
  rw [← hs];exact h4 e
 refine T.cond (fun _=>T.ret fun h=>by cases h) (fun hc=>?_)
 refine T.bind (P:=fun r=>r=false→pwi 4096 l.gAt∧pwi 4096 l.gU∧pwi 4096 l.gV) ?_ fun p5 h5=>?_
 ·refine T.bind (aHw N _) fun r6 h6=>T.cond (fun _=>T.ret fun h=>by cases h) (fun c6=>?_)
  refine T.bind (aHw N _) fun r7 h7=>T.cond (fun _=>T.ret fun h=>by cases h) (fun c7=>?_)
  exact T.bind (aHw N _) fun r8 h8=>T.ret fun c8=>⟨h6 c6,h7 c7,h8 c8⟩
 refine T.cond (fun _=>T.ret fun h=>by cases h) (fun hc5=>?_)
 have ok:vN l:=⟨h1 hc,h5 hc5⟩
 simp only [aS]
 refine T.bind (P:=fun _=>True) ?_ fun o _=>?_
 ·refine T.cond (fun _=>T.cond (fun _=>T.ret trivial) (fun _=>?_)) (fun _=>T.cond (fun _=>?_) (fun _=>T.ret trivial))
  ·exact T.bind (P:=fun _=>True) (T.cond (fun _=>T.ret trivial) (fun _=>T.ret trivial)) fun _ _=>T.cond (fun _=>T.ret trivial) (fun _=>T.ret trivial)
  ·exact T.bind (P:=fun _=>True) (T.cond (fun _=>T.ret trivial) (fun _=>T.ret trivial)) fun _ _=>T.cond (fun _=>T.ret trivial) (fun _=>T.ret trivial)
 ·cases o with
  | inl _=>exact T.ret fun _=>ok
  | inr r=>exact T.ret fun _=>ok
theorem aKt (N:Nat) (hN:30 < N) (s:aF) (h:few s):T (fG N s.gF) (fun r=>r=0→∀ t∈s.gF,vN t):=by
 unfold fG
 have h1:=h.2.2.2.1
 exact aI6 s.gF (oY N) vN (fun k i=>by rw [iA]) (fun t _=>aPE N (by omega) t) (by omega) (by omega)
structure aQf (s:aF):Prop where
 few:few s
 tri:∀ t∈s.gE,aLe s t
 mat:∀ t∈s.gA5,aBO t
 tex:∀ t∈s.gR,aMJ t
 light:∀ t∈s.gF,vN t
theorem aSK (N:Nat) (hN:300 < N) (s:aF) (h:few s):T (mX N s) (fun r=>r=0→aQf s):=by
 unfold mX
 simp only [aS]
 refine T.cond (fun _=>T.ret fun h=>by cases h) (fun _=>?_)
 have nz:∀ {r:Int} {P:Prop},(r != 0)=true→(r=0→P):=fun h e=>by rw [e] at h;cases h
 refine T.bind (aPM N (by omega) s h) fun r3 h3=>T.cond (fun c=>T.ret (nz c)) (fun c3=>?_)
 refine T.bind (aOg N (by omega) s h) fun r4 h4=>T.cond (fun c=>T.ret (nz c)) (fun c4=>?_)
 refine T.bind (aPb N (by omega) s h) fun r5 h5=>T.cond (fun c=>T.ret (nz c)) (fun c5=>?_)
 refine T.bind (aKt N (by omega) s h) fun r6 h6=>T.ret fun e=>?_
 exact ⟨h,h3 (by simpa using c3),h4 (by simpa using c4),h5 (by simpa using c5),h6 e⟩
def aOm (v:aI):Prop:=aLy v.gD8 v.gW v.gH∧(1≤v.gD0∧v.gD0≤16)∧(0≤v.gN∧v.gN≤8)∧0≤v.gA3∧v.gA3≤2
theorem mayVT (N:Nat) (v:aI):T (sJ N v) (fun r=>r=0→aOm v):=by
 unfold sJ
 refine T.bind (aFy N _ _ _) fun r1 h1=>?_
 refine T.cond (fun c=>T.ret fun e=>by rw [e] at c;cases c) (fun c=>?_)
 simp only [aS]
 refine T.cond (fun _=>T.ret fun h=>by cases h) (fun hc=>T.ret fun _=>?_)
 have o:∀ {a:Prop} [Decidable a] {b:Bool},cond b true (decide a)=false→b=false∧¬ a:=by
  intro a _ b h
  cases b with
  | true=>cases h
  | false=>exact ⟨rfl,of_decide_eq_false h⟩
 obtain ⟨hc,c6⟩:=o hc
 obtain ⟨hc,c5⟩:=o hc
 obtain ⟨hc,c4⟩:=o hc
 obtain ⟨hc,c3⟩:=o hc
 obtain ⟨hc,c2⟩:=o hc
 have c1:=of_decide_eq_false hc
 exact ⟨h1 (by simpa using c),by omega,by omega,by omega,by omega⟩
def lG (c:Int):Int×Int:=cond (c==0) (16,4) (cond (c==1) (64,4) (cond (c==2) (256,8) (0,0)))
theorem aK4 (N:Nat) (c:Int):jB N c=some (lG c):=by
 unfold jB lG
 cases (c==0) <;> cases (c==1) <;> cases (c==2) <;> rfl
theorem aRy (N:Nat) (c:Int):T (jB N c) (fun r=>r=lG c):=⟨_,aK4 N c,rfl⟩
def fits (s:aF) (c:Int):Prop:=(s.gE.length:Int)≤(lG c).1∧(s.gF.length:Int)≤(lG c).2
theorem fitsT (N:Nat) (s:aF) (c:Int):T (pO N s c) (fun r=>r=0→fits s c):=by
 unfold pO
 refine T.eq (aK4 N c) ?_
 simp only [aS]
 refine T.cond (fun _=>T.ret fun h=>by cases h) (fun hc=>T.ret fun _=>?_)
 by_cases h:(s.gE.length:Int) > (lG c).1
 ·rw [dt h,cond_true] at hc;cases hc
 ·rw [df h,cond_false] at hc
  have:=of_decide_eq_false hc
  exact ⟨by omega,by omega⟩
theorem aHu (k:Nat) {a b:Int} (ha:cU a) (hb:cU b) (h0:S64 (b*4294967296)≠0):T (jE (k+3) a b) cU:=by
 unfold jE
 refine T.eq (uH _ ha) (T.eq (uH _ hb) (T.eq (yG k (fF _) (fF _) h0) (T.ret (fF _))))
theorem aNm (k:Nat) (c:Vector Int 3) {b:Int} (hc:∀ x∈c.toList,cU x) (hb:cU b) (h0:S64 (b*4294967296)≠0):T (rB (k+3) c b) vin:=by
 unfold rB
 refine T.bind (T.idx (by decide) (by simp)) fun e1 h1=>T.bind (aHu k (hc _ (List.mem_of_getElem? h1)) hb h0) fun r2 a=>?_
 refine T.bind (T.idx (by decide) (by simp)) fun e3 h3=>T.bind (aHu k (hc _ (List.mem_of_getElem? h3)) hb h0) fun r4 b=>?_
 refine T.bind (T.idx (by decide) (by simp)) fun e5 h5=>T.bind (aHu k (hc _ (List.mem_of_getElem? h5)) hb h0) fun r6 d=>T.ret ⟨a,b,d⟩
theorem aHy (k:Nat) {l:aT} (h:vN l):T (oT (k+3) l) vin:=by
 unfold oT
 exact T.bind (aNm k _ (fun x hx=>by have:=h.1 x hx;exact ⟨by omega,by omega⟩) ⟨by decide,by decide⟩ (by decide)) fun r h=>T.ret h
theorem skyT (k:Nat) (hk:10 < k) (l:List aT) (h:∀ x∈l,vN x) (hl:l.length≤5):T (wI (k+3) l) (fun r=>vin r∧(l=[]→r=aB.mk 0 0 0)):=by
 unfold wI
 refine T.bind (T.loopG0 (n:=l.length) (fun i s=>s.length≤i∧∀ v∈s,vin v) (fun r=>r.length≤l.length∧∀ v∈r,vin v) (F:=qZ (k+3) l) (fun k' s i hi hs hk'=>?_) (fun k' s hs=>?_) (by omega) (s:=[]) ⟨by simp,fun v h=>absurd h (by simp)⟩) fun r hr=>?_
 ·rw [qZ,aS,dt (by omega),cond_true]
  refine T.bind (P:=fun p=>p.1.length≤i+1∧∀ v∈p.1,vin v) ?_ fun p5 h5=>?_
  ·rw [dU,List.getElem?_eq_getElem hi,Option.bind_some]
   refine T.cond (fun _=>?_) (fun _=>T.ret ⟨by dsimp only;omega,hs.2⟩)
   refine T.bind (aHy k (h _ (List.getElem_mem hi))) fun r7 h7=>T.eq (lK (by simp;omega)) (T.ret ⟨by simp;omega,?_⟩)
   intro v hv
   rw [List.mem_append,List.mem_singleton] at hv
   rcases hv with hv | rfl
   ·exact hs.2 v hv
   ·exact h7
  ·rw [eG (by omega)];exact hk' _ h5
 ·rw [qZ,aS,df (by omega),cond_false];exact T.ret hs
 ·refine T.eq (aFX k r hr.2 (by omega) (by omega)) (T.ret ⟨?_,fun h=>?_⟩)
  ·obtain ⟨x,e,hx⟩:=aQJ k r hr.2 (by omega) (by omega)
   rw [aFX k r hr.2 (by omega) (by omega)] at e
   cases e
   exact hx
  ·subst h
   have:r=[]:=List.eq_nil_of_length_eq_zero (by have:=hr.1;simpa using this)
   subst this
   rfl
def aJw (t:aD):Prop:=(t.gG=1∨t.gG=2∨t.gG=4∨t.gG=8∨t.gG=16)∧(t.gA7.length:Int)=t.gG*t.gG
theorem aGC (N:Nat) {t:aD} (h:aJw t) (x y:Int):T (mT N t x y) (fun _=>True):=by
 obtain ⟨h1,h2⟩:=h
 unfold mT
 simp only [aS]
 have b:∀ (a:Int) (m:Nat),t.gG=(m:Int)+1→m < 100→0≤eK .i64 a (I64 (t.gG - 1))∧eK .i64 a (I64 (t.gG - 1))≤(m:Int):=by
  intro a m h hm
  rw [h,show I64 ((m:Int)+1 - 1)=(m:Int) by rw [bF (by omega) (by omega)];omega]
  exact aOK m (by omega)
 have key:∀ m:Nat,t.gG=(m:Int)+1→m < 100→T (Option.bind (idx t.gA7 (I64 (I64 (eK .i64 y (I64 (t.gG - 1))*t.gG)+eK .i64 x (I64 (t.gG - 1))))) fun e4=>some e4) (fun _=>True):=by
  intro m hm hb
  have bx:=b x m hm hb
  have by':=b y m hm hb
  generalize eK .i64 x (I64 (t.gG - 1))=X at *
  generalize eK .i64 y (I64 (t.gG - 1))=Y at *
  rw [hm] at h2 ⊢
  have n1:0≤Y*((m:Int)+1):=Int.mul_nonneg by'.1 (by omega)
  have n2:Y*((m:Int)+1)≤(m:Int)*((m:Int)+1):=Int.mul_le_mul_of_nonneg_right by'.2 (by omega)
  have n3:(m:Int)*((m:Int)+1)≤100*101:=by
   have:(m:Int)*((m:Int)+1)≤100*((m:Int)+1):=Int.mul_le_mul_of_nonneg_right (by omega) (by omega)
   omega
  have n4:((m:Int)+1)*((m:Int)+1)=(m:Int)*((m:Int)+1)+((m:Int)+1):=by rw [Int.add_mul,Int.one_mul]
  rw [n4] at h2
  generalize Y*((m:Int)+1)=Z at *
  generalize (m:Int)*((m:Int)+1)=W at *
  rw [bF (x:=Z) (by omega) (by omega),bF (by omega) (by omega)]
  exact T.bind (T.idx (by omega) (by omega)) fun _ _=>T.ret trivial
 rcases h1 with h | h | h | h | h
 ·exact key 0 h (by decide)
 ·exact key 1 h (by decide)
 ·exact key 3 h (by decide)
 ·exact key 7 h (by decide)
 ·exact key 15 h (by decide)
theorem aRt (N:Nat) (hN:10 < N) (a b c d:Vector Int 3):T (jY N a b c d N (#v[0,0,0]) 0) (fun _=>True):=by
 refine T.loopG0 (n:=3) (fun _ _=>True) _ (F:=jY N a b c d) (fun k s i hi _ hk=>?_) (fun k s _=>?_) (by omega) trivial
 ·rw [jY,dt (by omega),cond_true]
  refine T.bind (T.inRO (by omega) (by omega)) fun _ _=>T.bind (T.vg hi) fun _ _=>T.bind (T.inRO (by omega) (by omega)) fun _ _=>T.bind (T.vg hi) fun _ _=>T.bind (T.inRO (by omega) (by omega)) fun _ _=>T.bind (T.vg hi) fun _ _=>?_
  simp only [aS]
  refine T.bind (T.inRO (by omega) (by omega)) fun _ _=>T.bind (T.vg hi) fun _ _=>T.bind (T.inRO (by omega) (by omega)) fun _ _=>T.bind (T.vg hi) fun _ _=>?_
  rw [eG (by omega)]
  exact hk _ trivial
 ·rw [jY,df (by omega),cond_false];exact T.ret trivial
theorem halfT (N:Nat) (hN:100 < N) {t:aD} (h:aJw t) (h1:t.gG > 1):T (sD N t) (fun r=>aJw r∧r.gG*2=t.gG):=by
 unfold sD
 obtain ⟨H,e1,e2,e3⟩:∃ H:Nat,I64 (Int.tdiv t.gG 2)=(H:Int)∧t.gG=(H:Int)*2∧(H=1∨H=2∨H=4∨H=8):=by
  rcases h.1 with e | e | e | e | e
  ·omega
  ·exact ⟨1,by rw [e];decide,by rw [e];decide,by simp⟩
  ·exact ⟨2,by rw [e];decide,by rw [e];decide,by simp⟩
  ·exact ⟨4,by rw [e];decide,by rw [e];decide,by simp⟩
  ·exact ⟨8,by rw [e];decide,by rw [e];decide,by simp⟩
 simp only [aS,e1]
 have sq:I64 ((H:Int)*(H:Int))=((H*H:Nat):Int):=by rcases e3 with e | e | e | e <;> subst e <;> decide
 have sb:H*H≤64:=by rcases e3 with e | e | e | e <;> subst e <;> decide
 have nz:(H:Int)≠0:=by omega
 refine T.bind (T.loopG0 (n:=H*H) (fun i s=>s.length=i) (fun r=>r.length=H*H) (F:=lZ N (H:Int) (H:Int) t) (fun k s i hi hs hk=>?_) (fun k s hs=>?_) (by omega) (s:=[]) rfl) fun p4 h4=>T.ret ⟨⟨?_,?_⟩,?_⟩
 ·rw [lZ]
  simp only [aS,e1,sq]
  rw [dt (by omega),cond_true]
  refine T.eq (aLW .i64 nz) (T.eq (aDU .i64 nz) ?_)
  refine T.bind (aGC N h _ _) fun r12 _=>T.bind (aGC N h _ _) fun r14 _=>T.bind (aGC N h _ _) fun r16 _=>T.bind (aGC N h _ _) fun r19 _=>T.bind (aRt N (by omega) _ _ _ _) fun p20 _=>?_
  refine T.eq (lK (by simp;omega)) ?_
  rw [eG (by omega)]
  exact hk _ (by simp;omega)
 ·rw [lZ]
  simp only [aS,sq]
  rw [df (by omega),cond_false]
  exact T.ret hs
 ·show (H:Int)=1∨(H:Int)=2∨(H:Int)=4∨(H:Int)=8∨(H:Int)=16
  omega
 ·show (p4.length:Int)=(H:Int)*(H:Int)
  rw [h4];push_cast;rfl
 ·show (H:Int)*2=t.gG
  exact e2.symm
def aFB (l:List aD):Prop:=l.length≤20∧∀ t∈l,t.gA7.length≤260
theorem aHk {t:aD} (h:aJw t):t.gA7.length≤260:=by
 obtain ⟨h1,h2⟩:=h
 rcases h1 with e | e | e | e | e <;> rw [e] at h2 <;> omega
theorem lvR2 (N:Nat) (l:List aD) (a t:aD) (h:l.length≤1000):mL N l a t=some (l++[t]):=by
 unfold mL
 rw [lK (by simp;omega)]
 rfl
theorem aNn (N:Nat) (hN:100 < N):∀ (j k:Nat) (l:List aD) (t:aD),aJw t→t.gG≤2 ^ j→j < k→(l.length+j≤10∧∀ t∈l,t.gA7.length≤260)→T (bT N k l t) (fun r=>aFB r.1):=by
 intro j
 induction j with
 | zero=>
  intro k l t ht hs hk hl
  obtain ⟨k,rfl⟩:∃ k',k=k'+1:=⟨k - 1,by omega⟩
  rw [bT]
  refine T.eq (lvR2 N _ _ _ (by omega)) ?_
  rw [df (by simpa using hs),cond_false]
  refine T.ret ⟨by simp;omega,?_⟩
  intro u hu
  rw [List.mem_append,List.mem_singleton] at hu
  rcases hu with hu | rfl
  ·exact hl.2 u hu
  ·exact aHk ht
 | succ j ih=>
  intro k l t ht hs hk hl
  obtain ⟨k,rfl⟩:∃ k',k=k'+1:=⟨k - 1,by omega⟩
  rw [bT]
  refine T.eq (lvR2 N _ _ _ (by omega)) ?_
  have all:∀ u∈l++[t],u.gA7.length≤260:=by
   intro u hu
   rw [List.mem_append,List.mem_singleton] at hu
   rcases hu with hu | rfl
   ·exact hl.2 u hu
   ·exact aHk ht
  refine T.cond (fun hc=>?_) (fun _=>T.ret ⟨by simp;omega,all⟩)
  refine T.bind (halfT N hN ht (of_decide_eq_true hc)) fun r5 h5=>?_
  have hp:(2:Int) ^ (j+1)=2 ^ j*2:=Int.pow_succ _ _
  exact ih k _ r5 h5.1 (by have:=h5.2;omega) (by omega) ⟨by simp;omega,all⟩
theorem aPw (N:Nat) (l:List (Vector Int 3)) (h:l.length≤1000):T (iG N l) (fun r=>r=l):=by
 unfold iG
 exact T.eq (lK (by simp;omega)) (T.ret (by simp))
theorem aQN (N:Nat) (hN:300 < N) (t:aD) (h:t.gA7.length≤260):T (nG N t) (fun r=>aFB r.1):=by
 unfold nG
 refine T.bind (texT N t (by omega) (by omega) (by omega)) fun r1 h1=>?_
 refine T.cond (fun _=>T.ret ⟨by simp,fun t h=>absurd h (by simp)⟩) (fun hc=>?_)
 have ok:=h1 (by simpa using hc)
 refine T.bind (aPw N _ (by omega)) fun r2 h2=>?_
 subst h2
 unfold tG eD
 refine T.eq rfl ?_
 refine T.bind (P:=fun r=>aFB r.1) ?_ fun r4 h4=>T.ret h4
 refine T.bind (aNn N (by omega) 4 N [] _ ⟨ok.1,ok.2.1⟩ (by have:=ok.1;show t.gG≤2 ^ 4;omega) (by omega) ⟨by simp,fun t h=>absurd h (by simp)⟩) fun p1 h1=>T.ret h1
theorem aMn (N:Nat) (l:List aE) (m:Int) (hm':0≤m∧m≤4096) (hl':(l.length:Int)≤m):T (sG N l m) (fun q=>match q with | .inl e=>False | .inr r=>r.2=0∧(r.1.length:Int)=m∧r.1.length≤4096∧(∀ i,l.length≤i→∀ t,r.1[i]? = some t→t.gB1=0)∧∀ i,i < l.length→r.1[i]? = l[i]?):=by
 unfold sG
 simp only [aS]
 rw [df (show ¬ m < 0 by omega),df (show ¬ m > 4096 by omega)]
 refine T.cond (fun hc=>by cases hc) (fun hc=>?_)
 have hm:=hm'
 obtain ⟨n,rfl⟩:=Int.eq_ofNat_of_zero_le hm.1
 refine T.cond (fun hc=>absurd (of_decide_eq_true hc) (by omega)) (fun hc2=>?_)
 have hl:=of_decide_eq_false hc2
 refine T.eq (a:=()) (by unfold mkO;rw [dt (by omega),dt (by omega),dt (by omega)];rfl) ?_
 rw [Int.toNat_natCast]
 unfold cpD
 rw [dt (by simp),cond_true,Option.bind_some]
 have hlen:∀ z:aE,(cpy (List.replicate n z) l 0 n).length=n:=by intro z;unfold cpy;simp;omega
 refine T.eq (a:=()) (by unfold aAW;rw [hlen,Nat.beq_refl];rfl) ?_
 refine T.ret ⟨rfl,by rw [hlen],by rw [hlen];omega,?_,fun i hi=>?_⟩
 case refine_2=>
  unfold cpy
  rw [show min l.length n=l.length by omega,List.take_zero,List.nil_append,List.take_length,List.getElem?_append_left hi]
 intro i hi t ht
 unfold cpy at ht
 rw [show min l.length n=l.length by omega,List.take_zero,List.nil_append,List.take_length,List.getElem?_append_right hi,List.getElem?_drop] at ht
 have hm:=List.mem_of_getElem? ht
 rw [List.mem_replicate] at hm
 rw [hm.2]
def ple (p q:aC):Prop:=p.gX≤q.gX∧p.gY≤q.gY∧p.gZ≤q.gZ
theorem aNR (N:Nat) (l:List aC) {m:Int} (hm:0≤m) (h:∀ p∈l,pwi m p) (hN:l.length < N) (hl:l.length < 1000000):T (nF N l) (fun r=>pwi m r.1∧pwi m r.2∧∀ p∈l,ple r.1 p∧ple p r.2):=by
 unfold nF
 have z:pwi m (aC.mk 0 0 0):=by unfold pwi;dsimp only;omega
 refine T.bind (T.loopG0 (n:=l.length) (fun i (s:aC×aC)=>pwi m s.1∧pwi m s.2∧∀ j,(hj:j < l.length)→j < i→ple s.1 l[j]∧ple l[j] s.2) (fun r=>pwi m r.1∧pwi m r.2∧∀ p∈l,ple r.1 p∧ple p r.2) (F:=fun k (s:aC×aC) i=>sP N l k s.1 s.2 i) (fun k s i hi hs hk=>?_) (fun k s hs=>?_) hN (s:=(aC.mk 0 0 0,aC.mk 0 0 0)) ⟨z,z,fun j _ h=>absurd h (by omega)⟩) fun r hr=>T.ret hr
 ·rw [sP,aS,dt (by omega),cond_true,dU,List.getElem?_eq_getElem hi,Option.bind_some]
  have he:=h _ (List.getElem_mem hi)
  generalize hx:l[i]=x at *
  refine T.bind (P:=fun p=>pwi m p.1∧pwi m p.2∧∀ j,(hj:j < l.length)→j < i→ple p.1 l[j]∧ple l[j] p.2) ?_ fun p7 h7=>?_
  ·refine T.cond (fun hc=>?_) (fun _=>T.ret hs)
   have:i=0:=by have:=of_decide_eq_true hc;omega
   exact T.ret ⟨he,he,fun j _ h=>absurd h (by omega)⟩
  ·rw [eG (by omega)]
   obtain ⟨a,b,c⟩:=h7
   refine hk (_,_) ⟨?_,?_,fun j hj hji=>?_⟩
   ·unfold pwi at *;simp only [uF];omega
   ·unfold pwi at *;simp only [rZ];omega
   ·by_cases e:j=i
    ·subst e
     rw [hx]
     unfold ple;simp only [uF,rZ];omega
    ·have:=c j hj (by omega)
     unfold ple at *;simp only [uF,rZ];omega
 ·rw [sP,aS,df (by omega),cond_false]
  refine T.ret ⟨hs.1,hs.2.1,fun p hp=>?_⟩
  obtain ⟨j,hj,rfl⟩:=List.getElem_of_mem hp
  exact hs.2.2 j hj hj
def tpw (t:aE):Prop:=∀ p∈t.gP.toList,pwi 65536 p
theorem T.slc3 {α:Type} (v:Vector α 3):T (wG v.toList 0 3) (fun r=>r=v.toList):=by
 refine ⟨_,aFS (by decide) (by decide) (by simp),?_⟩
 exact List.take_of_length_le (show v.toList.length≤3 by simp)
theorem aIm (N:Nat) (hN:3 < N) {t:aE} (h:tpw t):T (nF N t.gP.toList) (fun r=>pwi 65536 r.1∧pwi 65536 r.2∧∀ p∈t.gP.toList,ple r.1 p∧ple p r.2):=
 aNR N _ (by decide) h (by simpa using hN) (by simp)
theorem aFN (N:Nat) (hN:3 < N) {t:aE} (h:tpw t):T (jA N t) (pwi 131072):=by
 unfold jA
 refine T.bind (T.slc3 t.gP) fun s hs=>?_
 subst hs
 refine T.bind (aIm N hN h) fun r2 h2=>?_
 simp only [aS]
 obtain ⟨a,b,_⟩:=h2
 refine T.ret ?_
 unfold pwi at *
 dsimp only
 rw [bF (by omega) (by omega),bF (by omega) (by omega),bF (by omega) (by omega)]
 omega
def ax (p:aC) (i:Int):Int:=if i=0 then p.gX else if i=1 then p.gY else p.gZ
theorem aCa (N:Nat) (p:aC) {i:Int} (h0:0≤i) (h3:i < 3):T (lB N p i) (fun r=>r=ax p i):=by
 have:i=0∨i=1∨i=2:=by omega
 rcases this with rfl | rfl | rfl <;> exact ⟨_,rfl,rfl⟩
theorem ax_b {m:Int} {p:aC} (h:pwi m p) (i:Int) : -m≤ax p i∧ax p i≤m:=by
 unfold pwi at h;unfold ax;split
 ·omega
 ·split <;> omega
def ord (n:Nat) (l:List Int):Prop:=∀ x∈l,0≤x∧x < (n:Int)
def zT (l:List aE):Prop:=(∀ t∈l,tpw t)∧l.length≤20
theorem T.tri {l:List aE} (h:zT l) {e:Int} (he:0≤e∧e < (l.length:Int)):T (Go.UK.idx l e) tpw:=
 (T.idx he.1 he.2).mono fun t ht=>h.1 t (List.mem_of_getElem? ht)
theorem aRg (N:Nat) (hN:3 < N) {l:List aE} (h:zT l) {a b i:Int} (ha:0≤a∧a < (l.length:Int)) (hb:0≤b∧b < (l.length:Int)) (hi:0≤i∧i < 3):T (oP N a b l i) (fun _=>True):=by
 unfold oP
 refine T.bind (T.tri h ha) fun _ h1=>T.bind (aFN N hN h1) fun _ _=>T.bind (aCa N _ hi.1 hi.2) fun _ _=>?_
 refine T.bind (T.tri h hb) fun _ h1=>T.bind (aFN N hN h1) fun _ _=>T.bind (aCa N _ hi.1 hi.2) fun _ _=>T.ret trivial
def aG3 (a b:Int):Prop:=a≠b∧(-131072≤a∧a≤131072)∧(-131072≤b∧b≤131072)
theorem binT0 (N:Nat) {x a b:Int} (h:aG3 a b):T (uU N x a b) (fun _=>True):=by
 unfold uU
 simp only [aS]
 obtain ⟨h1,h2,h3⟩:=h
 rw [bF (x:=b - a) (by omega) (by omega)]
 exact T.eq (aDU .i64 (by omega)) (T.ret trivial)
theorem binT (N:Nat) {x a b:Int} (h:aG3 a b) (hx:a≤x∧x≤b):T (uU N x a b) (fun r=>0≤r∧r < 8):=by
 unfold uU
 simp only [aS]
 obtain ⟨h1,h2,h3⟩:=h
 rw [bF (x:=b - a) (by omega) (by omega),bF (x:=x - a) (by omega) (by omega),bF (x:=(x - a)*8) (by omega) (by omega)]
 refine T.eq (aDU .i64 (by omega)) (T.ret ?_)
 rw [Int.tdiv_eq_ediv_of_nonneg (by omega)]
 have q0:0≤(x - a)*8 / (b - a):=Int.ediv_nonneg (by omega) (by omega)
 have q1:(x - a)*8 / (b - a)≤(x - a)*8:=Int.ediv_le_self _ (by omega)
 rw [show IntKind.i64.wrap ((x - a)*8 / (b - a))=(x - a)*8 / (b - a) from bF (by omega) (by omega),uF]
 omega
theorem aIS (N:Nat) (hN:3 < N) {l:List aE} (h:zT l) {e a b c i:Int} (he:0≤e∧e < (l.length:Int)) (hab:aG3 a b) (hi:0≤i∧i < 3):T (hJ N e l a b c i) (fun _=>True):=by
 unfold hJ
 refine T.bind (T.tri h he) fun _ h1=>T.bind (aFN N hN h1) fun _ _=>T.bind (aCa N _ hi.1 hi.2) fun _ _=>T.bind (binT0 N hab) fun _ _=>T.ret trivial
theorem aRi (N:Nat) (hN:3 < N) {l:List aE} (h:zT l) {e e' a b c i:Int} (he:0≤e∧e < (l.length:Int)) (he':0≤e'∧e' < (l.length:Int)) (hab:aG3 a b) (hi:0≤i∧i < 3):T (qC N e e' l a b c i) (fun _=>True):=by
 unfold qC
 refine T.bind (aIS N hN h he hab hi) fun _ _=>T.bind (aIS N hN h he' hab hi) fun _ _=>T.cond (fun _=>T.ret trivial) (fun _=>?_)
 refine T.bind (aIS N hN h he' hab hi) fun _ _=>T.cond (fun _=>T.ret trivial) (fun _=>T.ret trivial)
theorem T.inRS {L lo n:Nat} {i:Int} (h1:lo+n≤L) (h2:0≤i) (h3:i < (n:Int)):T (xN L lo n i) (fun _=>True):=⟨(),by unfold Go.UK.xN;rw [dt h1,dt h2,dt h3];rfl,trivial⟩
theorem T.slcG {L lo0 n:Nat} {lo hi:Int} (h1:lo0+n≤L) (h2:0≤lo) (h3:lo≤hi) (h4:hi≤(n:Int)) (h5:lo=0∨lo < (n:Int)):T (aI2 L lo0 n lo hi) (fun _=>True):=⟨(),by unfold Go.UK.aI2;rw [dt h1,dt h2,dt h3,dt h4,dt h5];rfl,trivial⟩
theorem T.lenO {α:Type} {l:List α} {n:Nat} (h:l.length=n):T (aAW l n) (fun _=>True):=⟨(),by unfold Go.UK.aAW;rw [h,Nat.beq_refl];rfl,trivial⟩
theorem T.setO {α:Type} {l:List α} {j:Nat} {e:α} (h:j < l.length):T (aF0 l j e) (fun r=>r=l.set j e):=⟨_,by unfold Go.UK.aF0;rw [show Nat.blt j l.length=Bool.true by rw [Nat.blt_eq];exact h];rfl,rfl⟩
theorem T.appG {α:Type} {b m:Nat} {l r:List α} (h:m≤l.length) (h':(m+r.length)*b≤140737488355328):T (aJq b l m r) (fun x=>x=sS l m r):=⟨_,by unfold Go.UK.aJq;rw [dt h,show Nat.ble ((m+r.length)*b) 140737488355328=Bool.true by rw [Nat.ble_eq];exact h'];rfl,rfl⟩
theorem T.get0 {α:Type} {l:List α} {j:Nat} (h:j < l.length):T (l[j]?) (fun e=>e∈l):=⟨l[j],List.getElem?_eq_getElem h,List.getElem_mem h⟩
theorem aFW {n:Nat} {l:List Int} {j:Nat} {e:Int} (h:ord n l) (he:0≤e∧e < (n:Int)):ord n (l.set j e):=by
 intro x hx
 rcases List.mem_or_eq_of_mem_set hx with hx | rfl
 ·exact h x hx
 ·exact he
structure qE (lo m:Nat) (b r:List Int):Prop where
 len:r.length=b.length
 out:∀ j,j < lo∨lo+m≤j→r[j]? = b[j]?
 sub:∀ j,lo≤j→j < lo+m→∃ j',lo≤j'∧j' < lo+m∧r[j]? = b[j']?
 sup:∀ j,lo≤j→j < lo+m→∃ j',lo≤j'∧j' < lo+m∧b[j]? = r[j']?
theorem qE.rfl' (lo m:Nat) (b:List Int):qE lo m b b:=⟨rfl,fun _ _=>rfl,fun j h h'=>⟨j,h,h',rfl⟩,fun j h h'=>⟨j,h,h',rfl⟩⟩
theorem qE.trans {lo m:Nat} {a b c:List Int} (h:qE lo m a b) (g:qE lo m b c):qE lo m a c:=by
 refine ⟨g.len.trans h.len,fun j hj=>(g.out j hj).trans (h.out j hj),fun j h1 h2=>?_,fun j h1 h2=>?_⟩
 ·obtain ⟨j1,a1,a2,a3⟩:=g.sub j h1 h2
  obtain ⟨j2,b1,b2,b3⟩:=h.sub j1 a1 a2
  exact ⟨j2,b1,b2,a3.trans b3⟩
 ·obtain ⟨j1,a1,a2,a3⟩:=h.sup j h1 h2
  obtain ⟨j2,b1,b2,b3⟩:=g.sup j1 a1 a2
  exact ⟨j2,b1,b2,a3.trans b3⟩
theorem qE.swap {lo m:Nat} {b:List Int} {x y:Nat} {e f:Int} (hx:lo≤x∧x < lo+m) (hy:lo≤y∧y < lo+m) (he:b[y]? = some e) (hf:b[x]? = some f):qE lo m b ((b.set x e).set y f):=by
 have lx:x < b.length:=by obtain ⟨h,_⟩:=List.getElem?_eq_some_iff.1 hf;exact h
 have ly:y < b.length:=by obtain ⟨h,_⟩:=List.getElem?_eq_some_iff.1 he;exact h
 have g:∀ j,((b.set x e).set y f)[j]? = if j=y then some f else if j=x then some e else b[j]? := by
  intro j
  by_cases h1:j=y
  ·subst h1;rw [if_pos rfl,List.getElem?_set_self (by rw [List.length_set];exact ly)]
  ·rw [if_neg h1,List.getElem?_set_ne (by omega)]
   by_cases h2:j=x
   ·subst h2;rw [if_pos rfl,List.getElem?_set_self lx]
   ·rw [if_neg h2,List.getElem?_set_ne (by omega)]
 refine ⟨by rw [List.length_set,List.length_set],fun j hj=>?_,fun j h1 h2=>?_,fun j h1 h2=>?_⟩
 ·rw [g,if_neg (by omega),if_neg (by omega)]
 ·rw [g]
  by_cases c1:j=y
  ·rw [if_pos c1];exact ⟨x,hx.1,hx.2,hf.symm⟩
  ·rw [if_neg c1]
   by_cases c2:j=x
   ·rw [if_pos c2];exact ⟨y,hy.1,hy.2,he.symm⟩
   ·rw [if_neg c2];exact ⟨j,h1,h2,rfl⟩
 ·by_cases c1:j=y
  ·refine ⟨if x=y then y else x,by split <;> omega,by split <;> omega,?_⟩
   rw [g]
   by_cases c3:x=y
   ·rw [if_pos c3,if_pos rfl,c1,← c3,hf]
   ·rw [if_neg c3,if_neg c3,if_pos rfl,c1,he]
  ·by_cases c2:j=x
   ·refine ⟨y,hy.1,hy.2,?_⟩
    rw [g,if_pos rfl,c2,hf]
   ·refine ⟨j,h1,h2,?_⟩
    rw [g,if_neg c1,if_neg c2]
def okS (n lo m:Nat) (b:List Int) (s:List Int×Nat):Prop:=ord n s.1∧qE lo m b s.1∧s.2=m
theorem ia1 {a:Nat} (h:a < 900000):I64 ((a:Int)+1)=((a+1:Nat):Int):=eG (by omega)
theorem ins2A (N:Nat) (hN:3 < N) {R:List aE} (hT:zT R) {lo m:Nat} {a:Int} {i:Int} (hi:0≤i∧i < 3) (ha:0≤a) {b:List Int} (hL:lo+m≤b.length) (hm:m≤20) :
  ∀ (j k:Nat) (s:List Int),j < m→j < k→ord R.length s→qE lo m b s→T (bL N a lo R i k s m (j:Int)) (okS R.length lo m b):=by
 intro j
 induction j with
 | zero=>
  intro k s hj hk ho hs
  have hsl:=hs.len
  obtain ⟨k,rfl⟩:∃ k',k=k'+1:=⟨k - 1,by omega⟩
  rw [bL,df (by omega),cond_false]
  exact T.eq rfl (T.ret ⟨ho,hs,rfl⟩)
 | succ j ih=>
  intro k s hj hk ho hs
  have hsl:=hs.len
  obtain ⟨k,rfl⟩:∃ k',k=k'+1:=⟨k - 1,by omega⟩
  rw [bL,show I64 (((j+1:Nat):Int) - 1)=(j:Int) by rw [bF (by omega) (by omega)];omega]
  simp only [xV,Int.toNat_natCast]
  refine T.bind (P:=fun _=>True) ?_ fun p9 _=>T.cond (fun _=>?_) (fun _=>T.ret ⟨ho,hs,rfl⟩)
  ·refine T.cond (fun _=>?_) (fun _=>T.ret trivial)
   refine T.bind (T.inRS (by omega) (by omega) (by omega)) fun _ _=>T.bind (T.get0 (by omega)) fun e11 h11=>T.bind (T.inRS (by omega) (by omega) (by omega)) fun _ _=>T.bind (T.get0 (by omega)) fun e13 h13=>?_
   exact T.bind (aRg N hN hT (ho _ h11) (ho _ h13) hi) fun _ _=>T.ret trivial
  ·refine T.bind (T.inRS (by omega) (by omega) (by omega)) fun _ _=>T.bind (T.get (by omega)) fun e16 h16=>T.bind (T.inRS (by omega) (by omega) (by omega)) fun _ _=>T.bind (T.get (by omega)) fun e18 h18=>?_
   refine T.bind (T.inRS (by omega) (by omega) (by omega)) fun _ _=>T.bind (T.setO (by omega)) fun z20 h20=>T.bind (T.inRS (by omega) (by omega) (by omega)) fun _ _=>T.bind (T.setO (by rw [h20,List.length_set];omega)) fun z22 h22=>?_
   subst h22
   subst h20
   exact ih k _ (by omega) (by omega) (aFW (aFW ho (ho _ (List.mem_of_getElem? h16))) (ho _ (List.mem_of_getElem? h18))) (hs.trans (qE.swap ⟨by omega,by omega⟩ ⟨by omega,by omega⟩ h16 h18))
theorem insA (N:Nat) (hN:50 < N) {R:List aE} (hT:zT R) {L lo m:Nat} {a b:Nat} {i:Int} (hi:0≤i∧i < 3) (ha:a≤20) (hb:b≤m) (hL:lo+m≤L) (hm:m≤20) {s:List Int} (ho:ord R.length s) (hs0:s.length=L):T (bH N s lo m (a:Int) (b:Int) R i) (fun r=>ord R.length r∧qE lo m s r):=by
 unfold bH
 have main:∀ (k j:Nat) (q:List Int),b - j < k→j < 1000→ord R.length q→qE lo m s q→T (bW N (b:Int) (a:Int) lo R i k q m (j:Int)) (fun r=>ord R.length r∧qE lo m s r):=by
  intro k
  induction k with
  | zero=>intro j q h;omega
  | succ k ih=>
   intro j q hj hj' ho hs
   rw [bW]
   refine T.cond (fun hc=>?_) (fun _=>T.ret ⟨ho,hs⟩)
   have hjb:j < b:=by have:=of_decide_eq_true hc;omega
   refine T.bind (ins2A N (by omega) hT hi (by omega) (b:=s) (by rw [hs0];exact hL) hm j N q (by omega) (by omega) ho hs) fun p5 h5=>?_
   obtain ⟨q',m'⟩:=p5
   obtain ⟨o1,o2,o3⟩:=h5
   dsimp only at o1 o2 o3
   subst o3
   rw [eG (by omega)]
   exact ih (j+1) q' (by omega) (by omega) o1 o2
 by_cases h:True
 ·rw [ia1 (by omega)]
  exact T.bind (main N (a+1) s (by omega) (by omega) ho (qE.rfl' lo m s)) fun r h=>T.ret h
 ·exact absurd trivial h
theorem aPg (N:Nat) (hN:50 < N) {R:List aE} (hT:zT R) {L lo m:Nat} {i:Int} (hi:0≤i∧i < 3) (hL:lo+m≤L) (hm:m≤20) {s:List Int} (ho:ord R.length s) (hs:s.length=L):T (cO N s lo m R i) (fun r=>ord R.length r∧qE lo m s r):=by
 unfold cO eP
 refine T.bind (P:=fun r=>ord R.length r∧qE lo m s r) ?_ fun r h=>T.ret h
 obtain ⟨N,rfl⟩:∃ n,N=n+2:=⟨N - 2,by omega⟩
 have fin:∀ (q:List Int) (a:Nat),a≤m→ord R.length q→qE lo m s q→T (Option.bind (bH (N+2) q lo m (a:Int) (m:Int) R i) fun r8=>Option.bind (aAW r8 q.length) fun _=>Option.bind (cW (N+2) (m:Int) (N+2) 20) fun p10=>some r8) (fun r=>ord R.length r∧qE lo m s r):=by
  intro q a ha ho hq
  refine T.bind (insA (N+2) (by omega) hT hi (by omega) (Nat.le_refl _) hL hm ho (hq.len.trans hs)) fun r8 h8=>T.bind (T.lenO h8.2.len) fun _ _=>?_
  rw [cW,df (by omega),cond_false]
  exact T.eq rfl (T.ret ⟨h8.1,hq.trans h8.2⟩)
 by_cases h:m=20
 ·rw [bZ,dt (by omega),cond_true]
  have r1:=insA (N+2) (by omega) hT hi (a:=0) (b:=20) (by omega) (by omega) hL hm ho hs
  obtain ⟨q,e,oq,lq⟩:=r1
  rw [show ((0:Nat):Int)=0 from rfl,show ((20:Nat):Int)=20 from rfl] at e
  refine T.eq (a:=(q,m,20)) ?_ (fin q 20 (by omega) oq lq)
  rw [e,Option.bind_some,show aAW q s.length=some () by unfold aAW;rw [lq.len,Nat.beq_refl];rfl,Option.bind_some]
  rw [bZ,show I64 (20+20)=40 by decide,df (by omega),cond_false]
 ·rw [bZ,df (by omega),cond_false]
  exact T.eq rfl (fin s 0 (by omega) ho (qE.rfl' lo m s))
theorem ins2B (N:Nat) (hN:3 < N) {R:List aE} (hT:zT R) {lo m:Nat} {a:Int} {u v w i:Int} (hab:aG3 u v) (hi:0≤i∧i < 3) (ha:0≤a) {b:List Int} (hL:lo+m≤b.length) (hm:m≤20) :
  ∀ (j k:Nat) (s:List Int),j < m→j < k→ord R.length s→qE lo m b s→T (bM N a lo R u v w i k s m (j:Int)) (okS R.length lo m b):=by
 intro j
 induction j with
 | zero=>
  intro k s hj hk ho hs
  have hsl:=hs.len
  obtain ⟨k,rfl⟩:∃ k',k=k'+1:=⟨k - 1,by omega⟩
  rw [bM,df (by omega),cond_false]
  exact T.eq rfl (T.ret ⟨ho,hs,rfl⟩)
 | succ j ih=>
  intro k s hj hk ho hs
  have hsl:=hs.len
  obtain ⟨k,rfl⟩:∃ k',k=k'+1:=⟨k - 1,by omega⟩
  rw [bM,show I64 (((j+1:Nat):Int) - 1)=(j:Int) by rw [bF (by omega) (by omega)];omega]
  simp only [xV,Int.toNat_natCast]
  refine T.bind (P:=fun _=>True) ?_ fun p9 _=>T.cond (fun _=>?_) (fun _=>T.ret ⟨ho,hs,rfl⟩)
  ·refine T.cond (fun _=>?_) (fun _=>T.ret trivial)
   refine T.bind (T.inRS (by omega) (by omega) (by omega)) fun _ _=>T.bind (T.get0 (by omega)) fun e11 h11=>T.bind (T.inRS (by omega) (by omega) (by omega)) fun _ _=>T.bind (T.get0 (by omega)) fun e13 h13=>?_
   exact T.bind (aRi N hN hT (ho _ h11) (ho _ h13) hab hi) fun _ _=>T.ret trivial
  ·refine T.bind (T.inRS (by omega) (by omega) (by omega)) fun _ _=>T.bind (T.get (by omega)) fun e16 h16=>T.bind (T.inRS (by omega) (by omega) (by omega)) fun _ _=>T.bind (T.get (by omega)) fun e18 h18=>?_
   refine T.bind (T.inRS (by omega) (by omega) (by omega)) fun _ _=>T.bind (T.setO (by omega)) fun z20 h20=>T.bind (T.inRS (by omega) (by omega) (by omega)) fun _ _=>T.bind (T.setO (by rw [h20,List.length_set];omega)) fun z22 h22=>?_
   subst h22
   subst h20
   exact ih k _ (by omega) (by omega) (aFW (aFW ho (ho _ (List.mem_of_getElem? h16))) (ho _ (List.mem_of_getElem? h18))) (hs.trans (qE.swap ⟨by omega,by omega⟩ ⟨by omega,by omega⟩ h16 h18))
theorem insB (N:Nat) (hN:50 < N) {R:List aE} (hT:zT R) {L lo m:Nat} {a b:Nat} {u v w i:Int} (hab:aG3 u v) (hi:0≤i∧i < 3) (ha:a≤20) (hb:b≤m) (hL:lo+m≤L) (hm:m≤20) {s:List Int} (ho:ord R.length s) (hs0:s.length=L):T (bI N s lo m (a:Int) (b:Int) R u v w i) (fun r=>ord R.length r∧qE lo m s r):=by
 unfold bI
 have main:∀ (k j:Nat) (q:List Int),b - j < k→j < 1000→ord R.length q→qE lo m s q→T (cB N (b:Int) (a:Int) lo R u v w i k q m (j:Int)) (fun r=>ord R.length r∧qE lo m s r):=by
  intro k
  induction k with
  | zero=>intro j q h;omega
  | succ k ih=>
   intro j q hj hj' ho hs
   rw [cB]
   refine T.cond (fun hc=>?_) (fun _=>T.ret ⟨ho,hs⟩)
   have hjb:j < b:=by have:=of_decide_eq_true hc;omega
   refine T.bind (ins2B N (by omega) hT hab hi (by omega) (b:=s) (by rw [hs0];exact hL) hm j N q (by omega) (by omega) ho hs) fun p5 h5=>?_
   obtain ⟨q',m'⟩:=p5
   obtain ⟨o1,o2,o3⟩:=h5
   dsimp only at o1 o2 o3
   subst o3
   rw [eG (by omega)]
   exact ih (j+1) q' (by omega) (by omega) o1 o2
 by_cases h:True
 ·rw [ia1 (by omega)]
  exact T.bind (main N (a+1) s (by omega) (by omega) ho (qE.rfl' lo m s)) fun r h=>T.ret h
 ·exact absurd trivial h
theorem aPr (N:Nat) (hN:50 < N) {R:List aE} (hT:zT R) {L lo m:Nat} {u v w i:Int} (hab:aG3 u v) (hi:0≤i∧i < 3) (hL:lo+m≤L) (hm:m≤20) {s:List Int} (ho:ord R.length s) (hs:s.length=L):T (cQ N s lo m R u v w i) (fun r=>ord R.length r∧qE lo m s r):=by
 unfold cQ eU
 refine T.bind (P:=fun r=>ord R.length r∧qE lo m s r) ?_ fun r h=>T.ret h
 obtain ⟨N,rfl⟩:∃ n,N=n+2:=⟨N - 2,by omega⟩
 have fin:∀ (q:List Int) (a:Nat),a≤m→ord R.length q→qE lo m s q→T (Option.bind (bI (N+2) q lo m (a:Int) (m:Int) R u v w i) fun r8=>Option.bind (aAW r8 q.length) fun _=>Option.bind (cZ (N+2) (m:Int) (N+2) 20) fun p10=>some r8) (fun r=>ord R.length r∧qE lo m s r):=by
  intro q a ha ho hq
  refine T.bind (insB (N+2) (by omega) hT hab hi (by omega) (Nat.le_refl _) hL hm ho (hq.len.trans hs)) fun r8 h8=>T.bind (T.lenO h8.2.len) fun _ _=>?_
  rw [cZ,df (by omega),cond_false]
  exact T.eq rfl (T.ret ⟨h8.1,hq.trans h8.2⟩)
 by_cases h:m=20
 ·rw [cC,dt (by omega),cond_true]
  have r1:=insB (N+2) (by omega) hT (w:=w) hab hi (a:=0) (b:=20) (by omega) (by omega) hL hm ho hs
  obtain ⟨q,e,oq,lq⟩:=r1
  rw [show ((0:Nat):Int)=0 from rfl,show ((20:Nat):Int)=20 from rfl] at e
  refine T.eq (a:=(q,m,20)) ?_ (fin q 20 (by omega) oq lq)
  rw [e,Option.bind_some,show aAW q s.length=some () by unfold aAW;rw [lq.len,Nat.beq_refl];rfl,Option.bind_some]
  rw [cC,show I64 (20+20)=40 by decide,df (by omega),cond_false]
 ·rw [cC,df (by omega),cond_false]
  exact T.eq rfl (fin s 0 (by omega) ho (qE.rfl' lo m s))
structure aIi (R:List aE) (b:List Int) (lo m:Nat):Prop where
 tris:zT R
 ord:ord R.length b
 len:lo+m≤b.length
 few:m≤20
theorem aIi.get {R:List aE} {b:List Int} {lo m:Nat} (h:aIi R b lo m) {i:Nat} (hi:i < m):T (b[yC lo ((i:Int).toNat)]?) (fun e=>0≤e∧e < (R.length:Int)):=by
 rw [xV,Int.toNat_natCast]
 have:=h.len
 exact (T.get0 (by omega)).mono fun e he=>h.ord e he
theorem aIi.rs {R:List aE} {b:List Int} {lo m:Nat} (h:aIi R b lo m) {i:Nat} (hi:i < m):T (xN b.length lo m (i:Int)) (fun _=>True):=T.inRS h.len (by omega) (by omega)
def tinB (lo hi:aC) (t:aE):Prop:=∀ p∈t.gP.toList,ple lo p∧ple p hi
def aBN (R:List aE) (b:List Int) (lo m:Nat) (x y:aC):Prop:=∀ j,lo≤j→j < lo+m→∀ e,b[j]? = some e→∀ t,R[e.toNat]? = some t→tinB x y t
theorem aMF {a b c:aC} (h:ple a b) (g:ple b c):ple a c:=by unfold ple at *;omega
theorem boxDT (N:Nat) (hN:30 < N) {R:List aE} {b:List Int} {lo m:Nat} (h:aIi R b lo m):T (vG N b R lo m) (fun r=>(pwi 65536 r.1∧pwi 65536 r.2)∧aBN R b lo m r.1 r.2):=by
 unfold vG
 have z:pwi 65536 (aC.mk 0 0 0):=by unfold pwi;dsimp only;omega
 have fw:=h.few
 refine T.bind (T.loopG0 (n:=m) (fun i (s:aC×aC)=>(pwi 65536 s.1∧pwi 65536 s.2)∧aBN R b lo i s.1 s.2) (fun r=>(pwi 65536 r.1∧pwi 65536 r.2)∧aBN R b lo m r.1 r.2) (F:=fun k (s:aC×aC) i=>nY N m b lo R k s.1 s.2 i) (fun k s i hi hs hk=>?_) (fun k s hs=>?_) (by omega) (s:=(aC.mk 0 0 0,aC.mk 0 0 0)) ⟨⟨z,z⟩,fun j _ h=>absurd h (by omega)⟩) fun r hr=>T.ret hr
 ·rw [nY,aS,dt (by omega),cond_true]
  refine T.bind (P:=fun p=>(pwi 65536 p.1∧pwi 65536 p.2.1)∧aBN R b lo (i+1) p.1 p.2.1) ?_ fun p6 h6=>by rw [eG (by omega)];exact hk (_,_) h6
  refine T.bind (h.rs hi) fun _ _=>?_
  obtain ⟨e8,ee,h8⟩:=h.get hi
  refine T.eq ee ?_
  rw [xV,Int.toNat_natCast] at ee
  have hidx:e8.toNat < R.length:=by omega
  have et:R[e8.toNat]? = some R[e8.toNat]:=List.getElem?_eq_getElem hidx
  have h9:tpw R[e8.toNat]:=h.tris.1 _ (List.getElem_mem hidx)
  refine T.eq (a:=R[e8.toNat]) ?_ (T.bind (T.slc3 _) fun s10 h10=>?_)
  ·have:e8=((e8.toNat:Nat):Int):=by omega
   exact (congrArg (idx R) this).trans ((dU R e8.toNat).trans et)
  generalize R[e8.toNat]=t at *
  subst h10
  refine T.bind (aIm N (by omega) h9) fun r11 h11=>?_
  have one:∀ {x y:aC},(∀ p∈t.gP.toList,ple x p∧ple p y)→(∀ j,lo≤j→j < lo+i→∀ e,b[j]? = some e→∀ t,R[e.toNat]? = some t→tinB x y t)→aBN R b lo (i+1) x y:=by
   intro x y hx hy j j1 j2 e he t' ht'
   by_cases c:j=lo+i
   ·subst c
    have:e8=e:=eF ee he
    subst this
    rw [et] at ht'
    cases ht'
    exact hx
   ·exact hy j j1 (by omega) e he t' ht'
  refine T.cond (fun hc=>T.ret ⟨⟨h11.1,h11.2.1⟩,one h11.2.2 fun j j1 j2=>?_⟩) (fun _=>?_)
  ·have:=of_decide_eq_true hc;omega
  refine T.bind (aNR N _ (m:=65536) (by decide) (by intro p hp;simp at hp;rcases hp with rfl | rfl;exact hs.1.1;exact h11.1) (by simp;omega) (by simp)) fun r12 h12=>?_
  refine T.bind (aNR N _ (m:=65536) (by decide) (by intro p hp;simp at hp;rcases hp with rfl | rfl;exact hs.1.2;exact h11.2.1) (by simp;omega) (by simp)) fun r13 h13=>T.ret ⟨⟨h12.1,h13.2.1⟩,one (fun p hp=>⟨aMF (h12.2.2 _ (by simp)).1 (h11.2.2 p hp).1,aMF (h11.2.2 p hp).2 (h13.2.2 _ (by simp)).2⟩) fun j j1 j2 e he t' ht' p hp=>?_⟩
  have q:=hs.2 j j1 j2 e he t' ht' p hp
  exact ⟨aMF (h12.2.2 s.1 (by simp)).1 q.1,aMF q.2 (h13.2.2 s.2 (by simp)).2⟩
 ·rw [nY,aS,df (by omega),cond_false];exact T.ret hs
def aCY (s:bE):Prop:=pwi 65536 s.glo∧pwi 65536 s.ghi
theorem aOu : aCY (bE.mk 0 (aC.mk 0 0 0) (aC.mk 0 0 0)):=by unfold aCY pwi;dsimp only;omega
theorem aO4 (N:Nat) (hN:10 < N) {s:bE} (hs:aCY s) (n:Int) {a b:aC} (ha:pwi 65536 a) (hb:pwi 65536 b):T (nO N s n a b) aCY:=by
 unfold nO
 refine T.cond (fun _=>T.ret hs) (fun _=>?_)
 refine T.bind (P:=fun p=>pwi 65536 p.1∧pwi 65536 p.2) ?_ fun p1 h1=>T.ret ⟨h1.1,h1.2⟩
 refine T.cond (fun _=>?_) (fun _=>T.ret ⟨ha,hb⟩)
 refine T.bind (aNR N _ (m:=65536) (by decide) (by intro p hp;simp at hp;rcases hp with rfl | rfl;exact hs.1;exact ha) (by simp;omega) (by simp)) fun r12 h12=>?_
 refine T.bind (aNR N _ (m:=65536) (by decide) (by intro p hp;simp at hp;rcases hp with rfl | rfl;exact hs.2;exact hb) (by simp;omega) (by simp)) fun r13 h13=>T.ret ⟨h12.1,h13.2.1⟩
theorem aRL (N:Nat) (s:bE):T (oD N s) (fun _=>True):=by
 unfold oD
 refine T.cond (fun _=>T.ret trivial) (fun _=>T.bind (P:=fun _=>True) (by unfold aA1;simp only [aS];exact T.ret trivial) fun _ _=>T.ret trivial)
def midP (N:Nat) (R:List aE) (b:List Int) (lo m:Nat) (i u v:Int):Prop:=∀ j,j < m→∀ e,b[lo+j]? = some e→T (Option.bind (idx R e) fun t=>jA N t) (fun p=>u≤ax p i∧ax p i≤v)
theorem cutT (N:Nat) (hN:30 < N) {R:List aE} {b:List Int} {lo m:Nat} (h:aIi R b lo m) {i u v:Int} (hi:0≤i∧i < 3) (hab:aG3 u v) (hm:midP N R b lo m i u v):T (qP N b R lo m i u v) (fun _=>True):=by
 unfold qP
 have fw:=h.few
 refine T.bind (P:=fun p1=>∀ s∈p1.toList,aCY s) ?_ fun p1 h1=>?_
 ·refine T.loopG0 (n:=m) (fun _ (s:Vector bE 8)=>∀ x∈s.toList,aCY x) _ (F:=lA N m b lo R i u v) (fun k s j hj hs hk=>?_) (fun k s hs=>?_) (by omega) (by intro x hx;simp at hx;rw [hx];exact aOu)
  ·rw [lA,aS,dt (by omega),cond_true]
   have hmj:=hm j hj
   refine T.bind (h.rs hj) fun _ _=>?_
   have hg:=h.get hj
   obtain ⟨e6,ee6,he6⟩:=hg
   refine T.eq ee6 ?_
   rw [xV,Int.toNat_natCast] at ee6
   have hmid:=hmj e6 ee6
   obtain ⟨t,et,ht⟩:=T.tri h.tris he6
   refine T.eq et (T.bind (T.slc3 _) fun s8 h8=>?_)
   subst h8
   refine T.bind (aIm N (by omega) ht) fun r9 h9=>T.eq et ?_
   rw [et,Option.bind_some] at hmid
   obtain ⟨q,eq1,hq⟩:=hmid
   refine T.eq eq1 (T.bind (aCa N q hi.1 hi.2) fun r12 h12=>?_)
   subst h12
   refine T.bind (binT N hab hq) fun r13 h13=>T.bind (T.inRO h13.1 (by omega)) fun _ _=>?_
   have hv:r13.toNat < 8:=by omega
   refine T.eq (aAV s _ hv) (T.bind (aO4 N (by omega) (hs _ (aII s hv)) 1 h9.1 h9.2.1) fun r16 h16=>T.bind (T.inRO h13.1 (by omega)) fun _ _=>T.eq (aAV s _ hv) ?_)
   rw [eG (by omega)]
   refine hk _ fun x hx=>?_
   rw [Vector.toList_setIfInBounds] at hx
   rcases List.mem_or_eq_of_mem_set hx with hx | rfl
   ·exact hs x hx
   ·exact h16
  ·rw [lA,aS,df (by omega),cond_false];exact T.ret hs
 refine T.bind (P:=fun _=>True) ?_ fun p19 _=>T.ret trivial
 have main:∀ (k j:Nat) (a c:Int),8 - j < k→j≤8→T (nI N p1 k a c (j:Int)) (fun _=>True):=by
  intro k
  induction k with
  | zero=>intro j a c h;omega
  | succ k ih=>
   intro j a c hk hj
   rw [nI]
   refine T.cond (fun hc=>?_) (fun _=>T.ret trivial)
   have hj8:j < 8:=by have:=of_decide_eq_true hc;omega
   refine T.bind (P:=fun _=>True) ?_ fun p23 _=>by rw [eG (by omega)];exact ih (j+1) _ _ (by omega) (by omega)
   refine T.bind (P:=fun _=>True) ?_ fun p24 _=>?_
   ·refine (T.loopG0 (n:=8) (fun _ (s:bE×bE)=>aCY s.1∧aCY s.2) (fun _=>True) (F:=fun k (s:bE×bE) x=>lC N p1 (j:Int) k s.1 s.2 x) (fun k s x hx hs hk=>?_) (fun k s hs=>?_) (by omega) (s:=(bE.mk 0 (aC.mk 0 0 0) (aC.mk 0 0 0),bE.mk 0 (aC.mk 0 0 0) (aC.mk 0 0 0))) ⟨aOu,aOu⟩)
    ·rw [lC,dt (by omega),cond_true]
     refine T.bind (P:=fun p=>aCY p.1∧aCY p.2.1) ?_ fun p28 h28=>by rw [eG (by omega)];exact hk (_,_) h28
     refine T.bind (T.idx (by omega) (by simp;omega)) fun e29 h29=>?_
     have he:=h1 _ (List.mem_of_getElem? h29)
     refine T.cond (fun _=>T.bind (aO4 N (by omega) hs.1 _ he.1 he.2) fun r h=>T.ret ⟨h,hs.2⟩) (fun _=>T.bind (aO4 N (by omega) hs.2 _ he.1 he.2) fun r h=>T.ret ⟨hs.1,h⟩)
    ·rw [lC,df (by omega),cond_false];exact T.ret trivial
   refine T.bind (aRL N _) fun _ _=>T.letO fun _ _=>T.bind (aRL N _) fun _ _=>?_
   simp only [aS]
   exact T.cond (fun _=>T.ret trivial) (fun _=>T.ret trivial)
 exact main N 1 _ _ (by omega) (by decide)
theorem aQX (N:Nat) (hN:30 < N) {R:List aE} {b:List Int} {lo m:Nat} (h:aIi R b lo m) {i u v w:Int} (hi:0≤i∧i < 3) (hab:aG3 u v):T (cV N b lo m R u v w i) (fun r=>r < (m:Int)∧r≤20):=by
 unfold cV
 have fw:=h.few
 by_cases hm:m=0
 ·subst hm
  obtain ⟨N,rfl⟩:∃ n,N=n+1:=⟨N - 1,by omega⟩
  rw [bJ,aS,df (by omega),cond_false]
  exact T.eq rfl (T.ret ⟨by decide,by decide⟩)
 refine T.bind (T.loopG0 (n:=m) (fun _ _=>True) (fun o=>match o with | .inl _=>True | .inr r=>r < (m:Int)∧r≤20) (F:=fun k (_:Unit) x=>bJ N m b lo R u v w i k x) (fun k _ x hx _ hk=>?_) (fun k _ _=>?_) (by omega) (s:=()) trivial) fun o ho=>?_
 ·rw [bJ,aS,dt (by omega),cond_true]
  refine T.bind (h.rs hx) fun _ _=>T.bind (h.get hx) fun e he=>T.bind (aIS N (by omega) h.tris he hab hi) fun r _=>T.cond (fun _=>T.ret (show (x:Int) < (m:Int)∧(x:Int)≤20 by omega)) (fun _=>by rw [eG (by omega)];exact hk () trivial)
 ·rw [bJ,aS,df (by omega),cond_false];exact T.ret trivial
 ·cases o with
  | inl _=>exact T.ret ⟨by omega,by decide⟩
  | inr r=>exact T.ret ho
theorem aOl {p q:aC} (h:ple p q) (i:Int):ax p i≤ax q i:=by
 obtain ⟨a,b,c⟩:=h
 unfold ax;split
 ·exact a
 ·split
  ·exact b
  ·exact c
theorem partT (N:Nat) (hN:50 < N) {R:List aE} {b:List Int} {lo m:Nat} (h:aIi R b lo m) (d:Int):T (rM N b R lo m d) (fun r=>ord R.length r.1∧qE lo m b r.1∧(r.2 > 0→r.2 < (m:Int))):=by
 unfold rM
 have fw:=h.few
 rw [aS]
 refine T.cond (fun _=>T.ret ⟨h.ord,qE.rfl' lo m b,fun h=>absurd h (show ¬ (0:Int) > 0 by decide)⟩) (fun hc=>?_)
 have hm4:=of_decide_eq_false hc
 refine T.bind (P:=fun p2=>p2.length=m∧(∀ p∈p2,pwi 131072 p)∧∀ j,j < m→∀ e,b[lo+j]? = some e→T (Option.bind (idx R e) fun t=>jA N t) (fun p=>p∈p2)) ?_ fun p2 h2=>?_
 ·refine T.loopG0 (n:=m) (fun x (s:List aC)=>s.length=x∧(∀ p∈s,pwi 131072 p)∧∀ j,j < x→∀ e,b[lo+j]? = some e→T (Option.bind (idx R e) fun t=>jA N t) (fun p=>p∈s)) _ (F:=mD N m b lo R) (fun k s x hx hs hk=>?_) (fun k s hs=>?_) (by omega) ⟨rfl,fun p h=>absurd h (by simp),fun j h=>absurd h (by omega)⟩
  ·rw [mD,aS,dt (by omega),cond_true]
   refine T.bind (h.rs hx) fun _ _=>?_
   obtain ⟨e,ee,he⟩:=h.get hx
   refine T.eq ee ?_
   rw [xV,Int.toNat_natCast] at ee
   obtain ⟨t,et,ht⟩:=T.tri h.tris he
   refine T.eq et ?_
   obtain ⟨q,eq1,hq⟩:=aFN N (by omega) ht
   refine T.eq eq1 (T.eq (lK (by simp;omega)) ?_)
   rw [eG (by omega)]
   refine hk _ ⟨by simp;omega,?_,?_⟩
   ·intro p hp
    rw [List.mem_append,List.mem_singleton] at hp
    rcases hp with hp | rfl
    ·exact hs.2.1 p hp
    ·exact hq
   ·intro j hj e' he'
    by_cases ej:j=x
    ·subst ej
     obtain rfl:=eF ee he'
     rw [et,Option.bind_some]
     exact ⟨q,eq1,by simp⟩
    ·exact (hs.2.2 j (by omega) e' he').mono fun p hp=>by rw [List.mem_append];exact Or.inl hp
  ·rw [mD,aS,df (by omega),cond_false];exact T.ret hs
 refine T.bind (aNR N p2 (m:=131072) (by decide) h2.2.1 (by omega) (by omega)) fun r11 h11=>?_
 refine T.bind (P:=fun i=>0≤i∧i < 3) ?_ fun i hi=>?_
 ·have main:∀ (k j:Nat) (a:Int),3 - j < k→j≤3→(0≤a∧a < 3)→T (oR N r11 k a (j:Int)) (fun i=>0≤i∧i < 3):=by
   intro k
   induction k with
   | zero=>intro j a h;omega
   | succ k ih=>
    intro j a hk hj ha
    rw [oR]
    refine T.cond (fun hc=>?_) (fun _=>T.ret ha)
    have hj3:j < 3:=by have:=of_decide_eq_true hc;omega
    refine T.bind (P:=fun i=>0≤i∧i < 3) ?_ fun p h=>by rw [eG (by omega)];exact ih (j+1) _ (by omega) (by omega) h
    refine T.bind (aCa N _ (by omega) (by omega)) fun _ _=>T.bind (aCa N _ (by omega) (by omega)) fun _ _=>T.bind (aCa N _ ha.1 ha.2) fun _ _=>T.bind (aCa N _ ha.1 ha.2) fun _ _=>?_
    rw [aS]
    exact T.cond (fun _=>T.ret ⟨by omega,by omega⟩) (fun _=>T.ret ha)
  exact main N 1 0 (by omega) (by decide) (by decide)
 refine T.bind (aCa N _ hi.1 hi.2) fun u hu=>T.bind (aCa N _ hi.1 hi.2) fun v hv=>?_
 refine T.cond (fun _=>T.ret ⟨h.ord,qE.rfl' lo m b,fun h=>absurd h (show ¬ (0:Int) > 0 by decide)⟩) (fun hc2=>?_)
 have hab:aG3 u v:=⟨by simpa using hc2,by rw [hu];exact ax_b h11.1 i,by rw [hv];exact ax_b h11.2.1 i⟩
 refine T.cond (fun _=>?_) (fun _=>?_)
 ·refine T.bind (aPg N hN h.tris hi h.len fw h.ord rfl) fun r23 h23=>T.bind (T.lenO h23.2.len) fun _ _=>?_
  rw [aS]
  refine T.ret ⟨h23.1,h23.2,fun _=>?_⟩
  show I64 (Int.tdiv (m:Int) 2) < (m:Int)
  rw [Int.tdiv_eq_ediv_of_nonneg (by omega),bF (by omega) (by omega)]
  omega
 ·refine T.bind (cutT N (by omega) h hi hab ?_) fun w _=>?_
  ·intro j hj e he
   refine (h2.2.2 j hj e he).mono fun p hp=>?_
   have:=h11.2.2 p hp
   rw [hu,hv]
   exact ⟨aOl this.1 i,aOl this.2 i⟩
  refine T.bind (aPr N hN h.tris (w:=w) hab hi h.len fw h.ord rfl) fun r27 h27=>T.bind (T.lenO h27.2.len) fun _ _=>?_
  refine T.bind (aQX N (by omega) (b:=r27) (lo:=lo) (m:=m) ⟨h.tris,h27.1,by rw [h27.2.len];exact h.len,fw⟩ (w:=w) hi hab) fun r29 h29=>T.ret ⟨h27.1,h27.2,fun _=>h29.1⟩
def aJ8 (n len i:Nat) (d:bC):Prop:=(0≤d.gB3→((i:Int) < d.gB3∧d.gB3 < (len:Int))∧(i:Int) < d.gB4∧d.gB4 < (len:Int))∧(d.gB3 < 0→0≤d.gC4∧0≤d.gC8∧d.gC4+d.gC8≤(n:Int))
def aEU (n len:Nat) (t:bA):Prop:=(0≤t.gA4∧t.gA4 < (len:Int))∧0≤t.gB∧1≤t.gA0∧t.gB+t.gA0≤(n:Int)
def zE (l:List bA):Int:=(l.map fun t=>2*t.gA0 - 1).sum
def aBg (l:List bA):Int:=(l.map fun t=>2*t.gA0 - 2).sum
theorem aEE (a b:List bA):zE (a++b)=zE a+zE b:=by unfold zE;rw [List.map_append,List.sum_append]
theorem aHX (a b:List bA):aBg (a++b)=aBg a+aBg b:=by unfold aBg;rw [List.map_append,List.sum_append]
theorem aGL {n len:Nat} {l:List bA} (h:∀ t∈l,aEU n len t):(l.length:Int)≤zE l:=by
 induction l with
 | nil=>exact Int.le_refl _
 | cons t l ih=>
  have h1:=ih fun t ht=>h t (List.mem_cons_of_mem _ ht)
  have h2:=h t (List.mem_cons_self ..)
  obtain ⟨_,_,h3,_⟩:=h2
  show ((l.length+1:Nat):Int)≤(2*t.gA0 - 1)+zE l
  omega
theorem aOE {n len:Nat} {l:List bA} (h:∀ t∈l,aEU n len t):0≤aBg l:=by
 induction l with
 | nil=>exact Int.le_refl _
 | cons t l ih=>
  have h1:=ih fun t ht=>h t (List.mem_cons_of_mem _ ht)
  have h2:=h t (List.mem_cons_self ..)
  obtain ⟨_,_,h3,_⟩:=h2
  show 0≤(2*t.gA0 - 2)+aBg l
  omega
theorem aKs {n len len' i:Nat} {d:bC} (h:aJ8 n len i d) (hl:len≤len'):aJ8 n len' i d:=by
 unfold aJ8 at *
 refine ⟨fun h0=>?_,h.2⟩
 have:=h.1 h0
 omega
theorem aK7 {n len len':Nat} {t:bA} (h:aEU n len t) (hl:len≤len'):aEU n len' t:=by unfold aEU at *;omega
theorem aAY {α:Type} (l:List α) (m:Nat) (r:List α) (h:m≤l.length):(sS l m r).take (m+r.length)=l.take m++r:=by
 unfold sS
 rw [List.take_append_of_le_length (by rw [List.length_append,List.length_take];omega)]
 exact List.take_of_length_le (by rw [List.length_append,List.length_take];omega)
theorem aDe {α:Type} (l:List α) (m:Nat) (r:List α) (h:m≤l.length):m+r.length≤(sS l m r).length:=by rw [aJi h];omega
theorem lL {α:Type} {l:List α} {m:Nat} {e:α} (h:l[m]? = some e):l.take (m+1)=l.take m++[e]:=by
 rw [List.take_succ,h];rfl
theorem vY {R:List aE} {o o':List Int} {lo m f c:Nat} {x y:aC} (h:aBN R o f c x y) (s:qE lo m o o') (hr:(f≤lo∧lo+m≤f+c)∨f+c≤lo∨lo+m≤f):aBN R o' f c x y:=by
 intro j j1 j2 e he t ht
 by_cases hj:lo≤j∧j < lo+m
 ·obtain ⟨j',a1,a2,a3⟩:=s.sub j hj.1 hj.2
  rw [a3] at he
  exact h j' (by omega) (by omega) e he t ht
 ·rw [s.out j (by omega)] at he
  exact h j j1 j2 e he t ht
def aOT (nd:bC):Prop:=pwi 65536 nd.gLo∧pwi 65536 nd.gHi
inductive Cv (R:List aE) (o:List Int) (d:List bC) (D:Int→Prop):Int→Nat→Nat→List bA→Prop
 | pend (t:bA) (f c:Nat):t.gB=(f:Int)→t.gA0=(c:Int)→Cv R o d D t.gA4 f c [t]
 | leaf (i:Int) (f c:Nat) (nd:bC):D i→d[i.toNat]? = some nd→nd.gB3 < 0→nd.gC4=(f:Int)→nd.gC8=(c:Int)→aBN R o f c nd.gLo nd.gHi→aOT nd→Cv R o d D i f c []
 | node (i:Int) (f c1 c2:Nat) (nd:bC) (L1 L2:List bA):D i→d[i.toNat]? = some nd→0≤nd.gB3→Cv R o d D nd.gB3 f c1 L1→Cv R o d D nd.gB4 (f+c1) c2 L2→aBN R o f (c1+c2) nd.gLo nd.gHi→aOT nd→Cv R o d D i f (c1+c2) (L1++L2)
theorem Cv.rng {R:List aE} {o:List Int} {d:List bC} {D:Int→Prop} {i:Int} {f c:Nat} {L:List bA} (h:Cv R o d D i f c L):∀ t∈L,∃ f' c':Nat,t.gB=(f':Int)∧t.gA0=(c':Int)∧f≤f'∧f'+c'≤f+c:=by
 induction h with
 | pend t f c h1 h2=>
  intro u hu
  have:u=t:=by simpa using hu
  subst this;exact ⟨f,c,h1,h2,by omega,by omega⟩
 | leaf=>intro u hu;exact absurd hu (by simp)
 | node i f c1 c2 nd L1 L2 _ _ _ _ _ _ _ i1 i2=>
  intro u hu
  rw [List.mem_append] at hu
  rcases hu with hu | hu
  ·obtain ⟨f',c',a,b,x,y⟩:=i1 u hu;exact ⟨f',c',a,b,by omega,by omega⟩
  ·obtain ⟨f',c',a,b,x,y⟩:=i2 u hu;exact ⟨f',c',a,b,by omega,by omega⟩
theorem Cv.far {R:List aE} {o o':List Int} {d d':List bC} {D D':Int→Prop} {lo m:Nat} (s:qE lo m o o') (hD:∀ i,D i→D' i∧d'[i.toNat]? = d[i.toNat]?) {i:Int} {f c:Nat} {L:List bA} (h:Cv R o d D i f c L):(f+c≤lo∨lo+m≤f)→Cv R o' d' D' i f c L:=by
 induction h with
 | pend t f c h1 h2=>intro _;exact .pend t f c h1 h2
 | leaf i f c nd h1 h2 h3 h4 h5 h6 h7=>intro hr;exact .leaf i f c nd (hD i h1).1 ((hD i h1).2.trans h2) h3 h4 h5 (vY h6 s (Or.inr hr)) h7
 | node i f c1 c2 nd L1 L2 h1 h2 h3 _ _ h6 h7 i1 i2=>intro hr;exact .node i f c1 c2 nd L1 L2 (hD i h1).1 ((hD i h1).2.trans h2) h3 (i1 (by omega)) (i2 (by omega)) (vY h6 s (Or.inr hr)) h7
theorem Cv.mono {R:List aE} {o:List Int} {d:List bC} {D D':Int→Prop} (hD:∀ i,D i→D' i) {i:Int} {f c:Nat} {L:List bA} (h:Cv R o d D i f c L):Cv R o d D' i f c L:=by
 induction h with
 | pend t f c h1 h2=>exact .pend t f c h1 h2
 | leaf i f c nd h1 h2 h3 h4 h5 h6 h7=>exact .leaf i f c nd (hD i h1) h2 h3 h4 h5 h6 h7
 | node i f c1 c2 nd L1 L2 h1 h2 h3 _ _ h6 h7 i1 i2=>exact .node i f c1 c2 nd L1 L2 (hD i h1) h2 h3 i1 i2 h6 h7
theorem Cv.near {R:List aE} {o o':List Int} {d d':List bC} {D D':Int→Prop} {lo m:Nat} (s:qE lo m o o') (hD:∀ i,D i→D' i∧d'[i.toNat]? = d[i.toNat]?) {t:bA} (ht1:t.gB=(lo:Int)) (ht2:t.gA0=(m:Int)) {Ln:List bA} (hn:Cv R o' d' D' t.gA4 lo m Ln) {i:Int} {f c:Nat} {L:List bA} (h:Cv R o d D i f c L):t∈L→∃ La Lb,L=La++t :: Lb∧Cv R o' d' D' i f c (La++(Ln++Lb)):=by
 induction h with
 | pend u f c h1 h2=>
  intro hu
  have:t=u:=by simpa using hu
  subst this
  obtain rfl:f=lo:=by omega
  obtain rfl:c=m:=by omega
  exact ⟨[],[],rfl,by simpa using hn⟩
 | leaf=>intro hu;exact absurd hu (by simp)
 | node i f c1 c2 nd L1 L2 h1 h2 h3 g1 g2 h6 h7 i1 i2=>
  intro hu
  rw [List.mem_append] at hu
  rcases hu with hu | hu
  ·obtain ⟨f',c',a,b,x,y⟩:=g1.rng t hu
   obtain ⟨La,Lb,e,q⟩:=i1 hu
   refine ⟨La,Lb++L2,by rw [e];simp,?_⟩
   have:=Cv.node i f c1 c2 nd _ L2 (hD i h1).1 ((hD i h1).2.trans h2) h3 q (g2.far s hD (by omega)) (vY h6 s (by omega)) h7
   simpa [List.append_assoc] using this
  ·obtain ⟨f',c',a,b,x,y⟩:=g2.rng t hu
   obtain ⟨La,Lb,e,q⟩:=i2 hu
   refine ⟨L1++La,Lb,by rw [e];simp,?_⟩
   have:=Cv.node i f c1 c2 nd L1 _ (hD i h1).1 ((hD i h1).2.trans h2) h3 (g1.far s hD (by omega)) q (vY h6 s (by omega)) h7
   simpa [List.append_assoc] using this
def aMC (n:Nat) (o:List Int):Prop:=∀ e:Nat,e < n→∃ j:Nat,j < n∧o[j]? = some (e:Int)
theorem aGX {n lo m:Nat} {o o':List Int} (h:aMC n o) (s:qE lo m o o') (hn:lo+m≤n):aMC n o':=by
 intro e he
 obtain ⟨j,h1,h2⟩:=h e he
 by_cases hj:lo≤j∧j < lo+m
 ·obtain ⟨j',a1,a2,a3⟩:=s.sup j hj.1 hj.2
  exact ⟨j',by omega,by rw [← a3];exact h2⟩
 ·exact ⟨j,h1,by rw [s.out j (by omega)];exact h2⟩
def aFe (d:List bC) (l:List bA) (i:Int):Prop:=(0≤i∧i < (d.length:Int))∧∀ t∈l,t.gA4≠i
structure Bld (R:List aE) (o:List Int) (d:List bC) (l:List bA):Prop where
 tris:zT R
 ord:ord R.length o
 len:o.length=R.length
 todo:∀ t∈l,aEU R.length d.length t
 good:∀ i,(h:i < d.length)→(∃ t∈l,t.gA4=(i:Int))∨aJ8 R.length d.length i d[i]
 room:(d.length:Int)+aBg l≤39
 full:aMC R.length o
 one:(l.map (·.gA4)).Nodup
 tree:∃ L,Cv R o d (aFe d l) 0 0 R.length L∧L.Perm l
def xA (n:Nat) (b:aY):Prop:=ord n b.gC0∧b.gC0.length=n∧b.gO.length≤39∧∀ i,(h:i < b.gO.length)→aJ8 n b.gO.length i b.gO[i]
def tY (R:List aE) (b:aY):Prop:=(R.length=0∧b.gO=[])∨(0 < R.length∧aMC R.length b.gC0∧Cv R b.gC0 b.gO (fun _=>True) 0 0 R.length [])
theorem aGk {l:List bA} {t:bA} (h:((l++[t]).map (·.gA4)).Nodup):(l.map (·.gA4)).Nodup∧∀ u∈l,u.gA4≠t.gA4:=by
 rw [List.map_append,List.nodup_append] at h
 refine ⟨h.1,fun u hu e=>?_⟩
 exact h.2.2 _ (List.mem_map_of_mem hu) _ (by simp) e
theorem aHZ {L La Lb l Ln:List bA} {t:bA} (e:L=La++t :: Lb) (h:L.Perm (l++[t])):(La++(Ln++Lb)).Perm (l++Ln):=by
 subst e
 have h1:(t :: (La++Lb)).Perm (t :: l):=(List.perm_middle.symm.trans h).trans (List.perm_append_comm (l₁:=l) (l₂:=[t]))
 have h2:(La++Lb).Perm l:=List.Perm.cons_inv h1
 have h3:(La++(Ln++Lb)).Perm (La++(Lb++Ln)):=List.Perm.append_left La List.perm_append_comm
 rw [← List.append_assoc] at h3
 rw [← List.append_assoc]
 refine (by rw [List.append_assoc];exact List.Perm.append_left La List.perm_append_comm:(La++Ln++Lb).Perm (La++(Lb++Ln))).trans ?_
 rw [← List.append_assoc]
 exact List.Perm.append_right Ln h2
theorem Bld.leaf {R:List aE} {o o':List Int} {d:List bC} {l:List bA} {t:bA} {x:bC} (h:Bld R o d (l++[t])) (ho:Go.UK.ord R.length o') (hl:qE t.gB.toNat t.gA0.toNat o o') (hx:x.gB3 < 0) (hf:x.gC4=t.gB) (hc:x.gC8=t.gA0) (hb:aBN R o t.gB.toNat t.gA0.toNat x.gLo x.gHi) (hn:aOT x):Bld R o' (d.set t.gA4.toNat x) l:=by
 have ht:=h.todo t (by simp)
 obtain ⟨n1,n2⟩:=aGk h.one
 refine ⟨h.tris,ho,hl.len.trans h.len,fun u hu=>by rw [List.length_set];exact h.todo u (by simp [hu]),fun i hi=>?_,?_,aGX h.full hl (by obtain ⟨_,a,b,c⟩:=ht;omega),n1,?_⟩
 ·rw [List.length_set] at hi ⊢
  by_cases e:i=t.gA4.toNat
  ·subst e
   right
   rw [List.getElem_set_self]
   obtain ⟨_,a,b,c⟩:=ht
   exact ⟨fun h=>by omega,fun _=>by rw [hf,hc];omega⟩
  ·rw [List.getElem_set_ne (by omega)]
   rcases h.good i hi with ⟨u,hu,e'⟩ | g
   ·rw [List.mem_append,List.mem_singleton] at hu
    rcases hu with hu | rfl
    ·exact Or.inl ⟨u,hu,e'⟩
    ·omega
   ·exact Or.inr g
 ·rw [List.length_set]
  have r:=h.room
  rw [aHX] at r
  have:aBg [t]=2*t.gA0 - 2+0:=rfl
  obtain ⟨_,_,b,_⟩:=ht
  omega
 ·obtain ⟨L,cv,pm⟩:=h.tree
  obtain ⟨⟨a1,a2⟩,b1,b2,b3⟩:=ht
  have hD:∀ i,aFe d (l++[t]) i→aFe (d.set t.gA4.toNat x) l i∧(d.set t.gA4.toNat x)[i.toNat]? = d[i.toNat]? := by
   intro i ⟨q1,q2⟩
   have:=q2 t (by simp)
   exact ⟨⟨by rw [List.length_set];exact q1,fun u hu=>q2 u (by simp [hu])⟩,List.getElem?_set_ne (by omega)⟩
  have new:Cv R o' (d.set t.gA4.toNat x) (aFe (d.set t.gA4.toNat x) l) t.gA4 t.gB.toNat t.gA0.toNat []:=
   .leaf _ _ _ x ⟨by rw [List.length_set];exact ⟨a1,a2⟩,n2⟩ (List.getElem?_set_self (by omega)) hx (by omega) (by omega) (vY hb hl (by omega)) hn
  obtain ⟨La,Lb,e,q⟩:=Cv.near (t:=t) hl hD (by omega) (by omega) new cv (pm.mem_iff.2 (by simp))
  exact ⟨_,q,by have:=aHZ (Ln:=[]) e pm;simpa using this⟩
theorem Bld.inner {R:List aE} {o o':List Int} {d:List bC} {l:List bA} {t u v:bA} {x:bC} {e1 e2:bC} {c:Int} (h:Bld R o d (l++[t])) (ho:Go.UK.ord R.length o') (hl:qE t.gB.toNat t.gA0.toNat o o') (hx:x.gB3=(d.length:Int)) (hy:x.gB4=(d.length:Int)+1) (hc:0 < c∧c < t.gA0)
  (hu:u.gA4=(d.length:Int)+1∧u.gB=t.gB+c∧u.gA0=t.gA0 - c) (hv:v.gA4=(d.length:Int)∧v.gB=t.gB∧v.gA0=c) (hb:aBN R o t.gB.toNat t.gA0.toNat x.gLo x.gHi) (hn:aOT x):Bld R o' ((d++[e1,e2]).set t.gA4.toNat x) (l++[u,v]):=by
 have ht:=h.todo t (by simp)
 obtain ⟨n1,n2⟩:=aGk h.one
 have dl:((d++[e1,e2]).set t.gA4.toNat x).length=d.length+2:=by rw [List.length_set,List.length_append];rfl
 have old:∀ w∈l,w.gA4 < (d.length:Int):=fun w hw=>(h.todo w (by simp [hw])).1.2
 refine ⟨h.tris,ho,hl.len.trans h.len,fun w hw=>?_,fun i hi=>?_,?_,aGX h.full hl (by obtain ⟨_,a,b,c⟩:=ht;omega),?_,?_⟩
 ·rw [dl]
  rw [List.mem_append] at hw
  rcases hw with hw | hw
  ·exact aK7 (h.todo w (by simp [hw])) (by omega)
  ·obtain ⟨_,a,b,c'⟩:=ht
   simp at hw
   rcases hw with rfl | rfl
   ·unfold aEU;omega
   ·unfold aEU;omega
 ·simp only [dl]
  rw [dl] at hi
  by_cases e:i=t.gA4.toNat
  ·subst e
   right
   rw [List.getElem_set_self]
   obtain ⟨⟨a1,a2⟩,a,b,c⟩:=ht
   exact ⟨fun _=>by rw [hx,hy];omega,fun h=>by omega⟩
  ·rw [List.getElem_set_ne (by omega)]
   by_cases hd:i < d.length
   ·rcases h.good i hd with ⟨w,hw,e'⟩ | g
    ·rw [List.mem_append,List.mem_singleton] at hw
     rcases hw with hw | rfl
     ·exact Or.inl ⟨w,by rw [List.mem_append];exact Or.inl hw,e'⟩
     ·omega
    ·right
     rw [List.getElem_append_left hd]
     exact aKs g (by omega)
   ·left
    have:i=d.length∨i=d.length+1:=by omega
    rcases this with rfl | rfl
    ·exact ⟨v,by simp,hv.1⟩
    ·exact ⟨u,by simp,by rw [hu.1];omega⟩
 ·rw [dl]
  have r:=h.room
  rw [aHX] at r ⊢
  have e1:aBg [t]=2*t.gA0 - 2+0:=rfl
  have e2:aBg [u,v]=2*u.gA0 - 2+(2*v.gA0 - 2+0):=rfl
  omega
 ·rw [List.map_append,List.nodup_append]
  refine ⟨n1,by simp;rw [hu.1,hv.1];omega,fun a ha b hb e=>?_⟩
  rw [List.mem_map] at ha
  obtain ⟨w,hw,rfl⟩:=ha
  have:=old w hw
  simp at hb
  rcases hb with rfl | rfl
  ·rw [hu.1] at e;omega
  ·rw [hv.1] at e;omega
 ·obtain ⟨L,cv,pm⟩:=h.tree
  obtain ⟨⟨a1,a2⟩,b1,b2,b3⟩:=ht
  have hD:∀ i,aFe d (l++[t]) i→aFe ((d++[e1,e2]).set t.gA4.toNat x) (l++[u,v]) i∧((d++[e1,e2]).set t.gA4.toNat x)[i.toNat]? = d[i.toNat]? := by
   intro i ⟨q1,q2⟩
   have:=q2 t (by simp)
   refine ⟨⟨by rw [dl];omega,fun w hw=>?_⟩,by rw [List.getElem?_set_ne (by omega),List.getElem?_append_left (by omega)]⟩
   rw [List.mem_append] at hw
   rcases hw with hw | hw
   ·exact q2 w (by simp [hw])
   ·simp at hw
    rcases hw with rfl | rfl
    ·rw [hu.1];omega
    ·rw [hv.1];omega
  obtain ⟨cn,rfl⟩:=Int.eq_ofNat_of_zero_le (show 0≤c by omega)
  have new:Cv R o' ((d++[e1,e2]).set t.gA4.toNat x) (aFe ((d++[e1,e2]).set t.gA4.toNat x) (l++[u,v])) t.gA4 t.gB.toNat t.gA0.toNat ([v]++[u]):=by
   have hm:t.gA0.toNat=cn+(t.gA0.toNat - cn):=by omega
   rw [hm]
   refine .node _ _ cn (t.gA0.toNat - cn) x [v] [u] ⟨by rw [dl];omega,fun w hw=>?_⟩ (List.getElem?_set_self (by rw [List.length_append];omega)) (by omega) ?_ ?_ (by rw [← hm];exact vY hb hl (by omega)) hn
   ·rw [List.mem_append] at hw
    rcases hw with hw | hw
    ·exact n2 w hw
    ·simp at hw
     rcases hw with rfl | rfl
     ·rw [hu.1];omega
     ·rw [hv.1];omega
   ·rw [hx,← hv.1];exact .pend v _ _ (by omega) (by omega)
   ·rw [hy,← hu.1];exact .pend u _ _ (by omega) (by omega)
  obtain ⟨La,Lb,e,q⟩:=Cv.near (t:=t) hl hD (by omega) (by omega) new cv (pm.mem_iff.2 (by simp))
  refine ⟨_,q,(aHZ (Ln:=[v]++[u]) e pm).trans ?_⟩
  exact List.Perm.append_left l (List.Perm.swap u v [])
theorem aPk (N:Nat) (hN:100 < N) {R:List aE}:∀ (k:Nat) (o:List Int) (d:List bC) (s:List bA) (m:Nat),m≤s.length→Bld R o d (s.take m)→zE (s.take m) < (k:Int)→zE (s.take m)≤100 →
  T (pP N R k o d s m) (fun r=>Bld R r.1 r.2.1 []):=by
 intro k
 induction k with
 | zero=>
  intro o d s m hm h hw
  have:=aGL h.todo
  omega
 | succ k ih=>
  intro o d s m hm h hw hw'
  rw [pP,aS]
  have lenT:(s.take m).length=m:=by rw [List.length_take];omega
  have wl:=aGL h.todo
  rw [lenT] at wl
  refine T.cond (fun hc=>?_) (fun hc=>?_)
  ·obtain ⟨m,rfl⟩:∃ m',m=m'+1:=⟨m - 1,by have:=of_decide_eq_true hc;omega⟩
   have im:I64 (((m+1:Nat):Int) - 1)=(m:Int):=by rw [bF (by omega) (by omega)];omega
   simp only [aS,im,Int.toNat_natCast]
   obtain ⟨t,et⟩:∃ t,s[m]? = some t:=⟨_,List.getElem?_eq_getElem (by omega)⟩
   have hs:=lL et
   rw [hs] at h hw hw'
   have ht:=h.todo t (by simp)
   obtain ⟨⟨tn1,tn2⟩,t1,t2,t3⟩:=ht
   have n20:=h.tris.2
   have ol:=h.len
   have rm:=h.room
   have rg:=aOE h.todo
   rw [aEE,show zE [t]=2*t.gA0 - 1+0 from rfl] at hw hw'
   have wl2:=aGL (l:=s.take m) fun u hu=>h.todo u (by simp [hu])
   rw [show (s.take m).length=m by rw [List.length_take];omega] at wl2
   refine T.bind (T.inRS (by omega) (by omega) (by omega)) fun _ _=>T.eq et (T.bind (T.slcG (by omega) (by omega) (by omega) (by omega) (Or.inl rfl)) fun _ _=>?_)
   have ifc:I64 (t.gB+t.gA0)=t.gB+t.gA0:=bF (by omega) (by omega)
   rw [ifc]
   refine T.bind (T.slcG (by omega) t1 (by omega) (by omega) (by omega)) fun _ _=>?_
   have hp:aIi R o t.gB.toNat ((t.gB+t.gA0).toNat - t.gB.toNat):=⟨h.tris,h.ord,by omega,by omega⟩
   have cnt:(t.gB+t.gA0).toNat - t.gB.toNat=t.gA0.toNat:=by omega
   rw [cnt] at hp ⊢
   refine T.bind (boxDT N (by omega) hp) fun r30 h30=>?_
   have step:∀ (o':List Int) (d':List bC) (s':List bA) (x:bC) (m':Nat),m'≤s'.length→t.gA4 < (d'.length:Int)→Bld R o' (d'.set t.gA4.toNat x) (s'.take m')→zE (s'.take m') < (k:Int)→zE (s'.take m')≤100 →
     T (Option.bind (fH t.gA4 d'.length) fun _=>Option.bind (aF0 d' t.gA4.toNat x) fun z41=>pP N R k o' z41 s' m') (fun r=>Bld R r.1 r.2.1 []):=by
    intro o' d' s' x m' h1 h2 h3 h4 h5
    refine T.bind (T.inRO tn1 h2) fun _ _=>T.bind (T.setO (by omega)) fun z hz=>?_
    subst hz
    exact ih _ _ _ _ h1 h3 h4 h5
   refine T.bind (P:=fun p=>p.2.2.2.2≤p.2.2.1.length∧t.gA4 < (p.2.1.length:Int)∧Bld R p.1 (p.2.1.set t.gA4.toNat p.2.2.2.1) (p.2.2.1.take p.2.2.2.2)∧zE (p.2.2.1.take p.2.2.2.2) < (k:Int)∧zE (p.2.2.1.take p.2.2.2.2)≤100) ?_ fun p31 h31=>step _ _ _ _ _ h31.1 h31.2.1 h31.2.2.1 h31.2.2.2.1 h31.2.2.2.2
   refine T.bind (partT N (by omega) hp t.gD9) fun r32 h32=>T.bind (T.lenO h32.2.1.len) fun _ _=>?_
   refine T.cond (fun hc=>?_) (fun _=>?_)
   ·have c0:=of_decide_eq_true hc
    have c1:=h32.2.2 c0
    have i1:I64 ((d.length:Int)+1)=(d.length:Int)+1:=bF (by omega) (by omega)
    have i2:I64 (t.gB+r32.2)=t.gB+r32.2:=bF (by omega) (by omega)
    have i3:I64 (t.gA0 - r32.2)=t.gA0 - r32.2:=bF (by omega) (by omega)
    rw [i1,i2,i3]
    refine T.eq (lK (by simp;omega)) (T.bind (T.appG (by omega) (show (m+2)*32≤140737488355328 by omega)) fun z39 h39=>T.ret ?_)
    subst h39
    have tk:∀ a b:bA,(sS s m [a,b]).take (m+2)=s.take m++[a,b]:=fun a b=>aAY s m [a,b] (by omega)
    dsimp only
    refine ⟨aDe s m [_,_] (by omega),by rw [List.length_append];simp;omega,?_,?_,?_⟩
    ·rw [tk]
     exact h.inner (c:=r32.2) h32.1 h32.2.1 rfl rfl ⟨c0,by omega⟩ ⟨rfl,rfl,rfl⟩ ⟨rfl,rfl,rfl⟩ h30.2 h30.1
    ·rw [tk,aEE]
     show zE (s.take m)+(2*(t.gA0 - r32.2) - 1+(2*r32.2 - 1+0)) < (k:Int)
     omega
    ·rw [tk,aEE]
     show zE (s.take m)+(2*(t.gA0 - r32.2) - 1+(2*r32.2 - 1+0))≤100
     omega
   ·refine T.ret ⟨by dsimp only;omega,tn2,?_,by dsimp only;omega,by dsimp only;omega⟩
    exact h.leaf h32.1 h32.2.1 (show (-1:Int) < 0 by decide) rfl rfl h30.2 h30.1
  ·have:m=0:=by have:=of_decide_eq_false hc;omega
   subst this
   exact T.ret h
theorem aOj (N:Nat) (hN:10 < N) {t:aE} (h:tpw t):T (wV N t) (fun r=>pwi 65536 r.1∧pwi 65536 r.2):=by
 unfold wV
 refine T.bind (P:=fun r=>pwi 65536 r.1∧pwi 65536 r.2) ?_ fun _ h=>T.ret h
 have z:pwi 65536 (aC.mk 0 0 0):=by unfold pwi;dsimp only;omega
 refine T.loopG0 (n:=3) (fun _ (s:aC×aC)=>pwi 65536 s.1∧pwi 65536 s.2) _ (F:=fun k (s:aC×aC) i=>pK N t k s.1 s.2 i) (fun k s i hi hs hk=>?_) (fun k s hs=>?_) (by omega) (s:=(aC.mk 0 0 0,aC.mk 0 0 0)) ⟨z,z⟩
 ·rw [pK,aS,dt (by omega),cond_true]
  refine T.bind (T.inRO (by omega) (by omega)) fun _ _=>T.eq (aAV t.gP i hi) ?_
  have he:=h _ (aII t.gP hi)
  generalize t.gP[i]=e at *
  refine T.bind (P:=fun p=>pwi 65536 p.1∧pwi 65536 p.2) (T.cond (fun _=>T.ret ⟨he,he⟩) (fun _=>T.ret hs)) fun p hp=>?_
  rw [eG (by omega)]
  refine hk (_,_) ⟨?_,?_⟩
  ·unfold pwi at *;simp only [uF];omega
  ·unfold pwi at *;simp only [rZ];omega
 ·rw [pK,aS,df (by omega),cond_false];exact T.ret hs
theorem aST (N:Nat) (hN:100 < N) {R:List aE} (hR:zT R):T (wZ N R) (fun r=>r.2=0∧xA R.length r.1∧tY R r.1):=by
 unfold wZ
 have n20:=hR.2
 rw [aS]
 refine T.cond (fun hc=>absurd (of_decide_eq_true hc) (by omega)) (fun _=>?_)
 refine T.bind (T.loopG0 (n:=R.length) (fun _ _=>True) (fun o=>match o with | .inl _=>True | .inr r=>False) (F:=fun k (_:Unit) i=>pJ N R k i) (fun k _ i hi _ hk=>?_) (fun k _ _=>?_) (by omega) (s:=()) trivial) fun o ho=>?_
 ·rw [pJ,aS,dt (by omega),cond_true]
  refine T.bind (T.tri hR ⟨by omega,by omega⟩) fun _ ht=>T.eq (a:=()) (by decide) (T.bind (aOj N (by omega) ht) fun r7 h7=>T.bind (P:=fun p=>p=false) ?_ fun p8 h8=>?_)
  ·obtain ⟨g1,g2⟩:=h7
   unfold pwi at g1 g2
   simp only [aS,uF,rZ]
   rw [df (show ¬ min (min r7.1.gX r7.1.gY) r7.1.gZ < -1048576 by omega),df (show ¬ max (max r7.2.gX r7.2.gY) r7.2.gZ > 1048576 by omega)]
   exact ⟨_,rfl,rfl⟩
  ·rw [h8,cond_false,eG (by omega)];exact hk () trivial
 ·rw [pJ,aS,df (by omega),cond_false];exact T.ret trivial
 cases o with
 | inr r=>exact ho.elim
 | inl _=>
 show T (aV _ _) _
 rw [aS]
 refine T.cond (fun hc=>T.ret ⟨rfl,?_⟩) (fun hc=>?_)
 ·have:R.length=0:=by have h0:(R.length:Int)=0:=(by simpa using hc);omega
  refine ⟨?_,Or.inl ⟨this,rfl⟩⟩
  rw [this]
  exact ⟨fun x h=>absurd h (by simp),rfl,by simp,fun i h=>absurd h (by simp)⟩
 ·have n0:R.length≠0:=by intro e;rw [e] at hc;cases hc
  refine T.bind (T.loopG0 (n:=R.length) (fun i (s:List Int)=>s.length=i∧ord R.length s∧∀ j:Nat,j < i→s[j]? = some (j:Int)) (fun r=>r.length=R.length∧ord R.length r∧∀ j:Nat,j < R.length→r[j]? = some (j:Int)) (F:=pW N R) (fun k s i hi hs hk=>?_) (fun k s hs=>?_) (by omega) (s:=[]) ⟨rfl,fun x h=>absurd h (by simp),fun j h=>absurd h (by omega)⟩) fun p12 h12=>?_
  ·rw [pW,aS,dt (by omega),cond_true]
   refine T.eq (lK (by simp;omega)) ?_
   rw [eG (by omega)]
   refine hk _ ⟨by simp;omega,fun x hx=>?_,fun j hj=>?_⟩
   ·rw [List.mem_append,List.mem_singleton] at hx
    rcases hx with hx | rfl
    ·exact hs.2.1 x hx
    ·omega
   ·by_cases c:j=i
    ·subst c;rw [List.getElem?_append_right (by omega),hs.1];simp
    ·rw [List.getElem?_append_left (by omega)];exact hs.2.2 j (by omega)
  ·rw [pW,aS,df (by omega),cond_false];exact T.ret hs
  ·refine T.bind (aPk N hN N p12 _ _ 1 (Nat.le_refl _) ⟨hR,h12.2.1,h12.1,?_,?_,?_,fun e he=>⟨e,he,h12.2.2 e he⟩,by simp,⟨_,.pend (bA.mk 0 0 (R.length:Int) 1) 0 R.length rfl rfl,List.Perm.refl _⟩⟩ ?_ ?_) fun p17 h17=>T.ret ⟨rfl,?_⟩
   ·intro t ht
    have:t=bA.mk 0 0 (R.length:Int) 1:=by simpa using ht
    subst this
    exact ⟨⟨Int.le_refl _,by simp⟩,Int.le_refl _,by show 1≤(R.length:Int);omega,by show 0+(R.length:Int)≤(R.length:Int);omega⟩
   ·intro i hi
    have:i=0:=by simpa using hi
    subst this
    exact Or.inl ⟨bA.mk 0 0 (R.length:Int) 1,by simp,rfl⟩
   ·show (1:Int)+(2*(R.length:Int) - 2+0)≤39
    omega
   ·show 2*(R.length:Int) - 1+0 < (N:Int)
    omega
   ·show 2*(R.length:Int) - 1+0≤100
    omega
   ·obtain ⟨L,cv,pm⟩:=h17.tree
    have:=pm.eq_nil
    subst this
    refine ⟨⟨h17.ord,h17.len,?_,fun i hi=>?_⟩,Or.inr ⟨by omega,h17.full,Cv.mono (fun _ _=>trivial) cv⟩⟩
    ·have:=h17.room
     have e:aBg ([]:List bA)=0:=rfl
     show p17.2.1.length≤39
     omega
    ·rcases h17.good i hi with ⟨t,ht,_⟩ | g
     ·exact absurd ht (by simp)
     ·exact g
theorem aOH (N:Nat) (hN:100 < N) {R:List aE} (hR:zT R):T (uD N R) (fun q=>match q with | .inl e=>False | .inr r=>r.2.2=0∧r.2.1=aM.mk r.1 true R 0∧xA R.length r.1∧tY R r.1):=by
 unfold uD
 refine T.bind (aST N hN hR) fun r1 h1=>?_
 refine T.cond (fun hc=>by rw [h1.1] at hc;cases hc) (fun hc=>?_)
 have n20:=hR.2
 unfold iM
 refine T.eq (a:=R) (by rw [lK (by simp;omega)];simp) (T.ret ⟨rfl,rfl,h1.2⟩)
structure Rdy (b:List (List aD)) (s:aF) (v:aI) (sky:aB):Prop where
 tri:∀ t∈s.gE,(0≤t.gC1∧t.gC1 < (s.gA5.length:Int))∧t.gA6 < (b.length:Int)∧(∀ v∈t.gUv.toList,∀ x∈v.toList,0≤x∧x≤65535)∧∀ p∈t.gP.toList,pwi 65536 p
 few:s.gE.length≤20
 mat:∀ m∈s.gA5,aBO m
 light:∀ l∈s.gF,vN l
 lights:s.gF.length≤5
 lev:∀ l∈b,aFB l
 dark:s.gF=[]→sky=aB.mk 0 0 0
 sky:vin sky
 view:aOm v
def aDN (n:Nat) (gl:List aE):Prop:=gl.length≤4096∧∀ i,n≤i→∀ t,gl[i]? = some t→t.gB1=0
def newS (s:aF) (v:aI) (r:(List aE)×(List aQ)×(List aT)×(List (List aD))×aB×(List aE)×Int):Prop:=
 r.1=s.gE∧r.2.1=s.gA5∧r.2.2.1=s.gF∧Rdy r.2.2.2.1 s v r.2.2.2.2.1∧aDN s.gE.length r.2.2.2.2.2.1∧r.2.2.2.2.2.2=0∧v.gB2=true∧(r.2.2.2.2.2.1.length:Int)=(lG v.gA3).1∧fits s v.gA3∧∀ i,i < s.gE.length→r.2.2.2.2.2.1[i]? = s.gE[i]?
def newW (s:aF) (v:aI) (r:(List aE)×(List aQ)×(List aT)×(List (List aD))×aB×aY×aM×Int):Prop:=
 r.1=s.gE∧r.2.1=s.gA5∧r.2.2.1=s.gF∧Rdy r.2.2.2.1 s v r.2.2.2.2.1∧(xA s.gE.length r.2.2.2.2.2.1∧r.2.2.2.2.2.2.1=aM.mk r.2.2.2.2.2.1 true s.gE 0)∧r.2.2.2.2.2.2.2=0∧v.gB2=false∧tY s.gE r.2.2.2.2.2.1
def newV (N:Nat) (s:aF) (v:aI) (r:Int):Prop:=(mX N s=some r∧r≠0)∨(mX N s=some 0∧sJ N v=some r∧r≠0)∨(mX N s=some 0∧sJ N v=some 0∧pO N s v.gA3=some r)
def newL (N:Nat) (s:aF) (b:List (List aD)) (sky:aB):Prop:=iW N (s.gR.length:Int) s N [] 0=some b∧wI N s.gF=some sky
theorem newT (N:Nat) (hN:300 < N) (s:aF) (v:aI) (hs:few s):T (kI N s v) (fun q=>match q with
  | .inl e=>e≠0∧newV N s v e
  | .inr (.inl r)=>False
  | .inr (.inr (.inl r))=>newS s v r∧newV N s v 0∧newL N s r.2.2.2.1 r.2.2.2.2.1
  | .inr (.inr (.inr (.inl r)))=>False
  | .inr (.inr (.inr (.inr r)))=>newW s v r∧newV N s v 0∧newL N s r.2.2.2.1 r.2.2.2.2.1):=by
 unfold kI
 have nz:∀ {r:Int},(r != 0)=true→r≠0:=fun h=>by simpa using h
 have ez:∀ {r:Int},(r != 0)=false→r=0:=fun h=>by simpa using h
 obtain ⟨r1,e1,h1⟩:=aSK N hN s hs
 refine T.eq e1 (T.cond (fun hc=>T.ret ⟨nz hc,Or.inl ⟨e1,nz hc⟩⟩) (fun hc1=>?_))
 rw [ez hc1] at e1
 have ok:=h1 (ez hc1)
 obtain ⟨r2,e2,h2⟩:=mayVT N v
 refine T.eq e2 (T.cond (fun hc=>T.ret ⟨nz hc,Or.inr (Or.inl ⟨e1,e2,nz hc⟩)⟩) (fun hc2=>?_))
 rw [ez hc2] at e2
 have vok:=h2 (ez hc2)
 obtain ⟨r3,e3,h3⟩:=fitsT N s v.gA3
 refine T.eq e3 (T.cond (fun hc=>T.ret ⟨nz hc,Or.inr (Or.inr ⟨e1,e2,e3⟩)⟩) (fun hc3=>?_))
 rw [ez hc3] at e3
 have nv:newV N s v 0:=Or.inr (Or.inr ⟨e1,e2,e3⟩)
 have cb:0≤(lG v.gA3).1∧(lG v.gA3).1≤4096:=by unfold lG;cases (v.gA3==0) <;> cases (v.gA3==1) <;> cases (v.gA3==2) <;> decide
 have fit:=h3 (ez hc3)
 obtain ⟨⟨f1,f2,f3,f4,f5⟩,okt,okm,okx,okl⟩:=ok
 obtain ⟨N,rfl⟩:∃ n,N=n+3:=⟨N - 3,by omega⟩
 obtain ⟨r4,e4,h4⟩:=skyT N (by omega) _ okl f4
 refine T.eq e4 ?_
 refine T.eq (lK (by simp;omega)) (T.eq (lK (by simp;omega)) (T.eq (lK (by simp;omega)) ?_))
 simp only [aS,List.nil_append]
 have lvT:T (iW (N+3) (s.gR.length:Int) s (N+3) [] 0) (fun r=>r.length=s.gR.length∧∀ x∈r,aFB x):=by
  refine T.loopG0 (n:=s.gR.length) (fun i (l:List (List aD))=>l.length=i∧∀ x∈l,aFB x) (fun r=>r.length=s.gR.length∧∀ x∈r,aFB x) (F:=iW (N+3) (s.gR.length:Int) s) (fun k l i hi hl hk=>?_) (fun k l hl=>?_) (by omega) (s:=[]) ⟨rfl,fun x h=>absurd h (by simp)⟩
  ·rw [iW,dt (by omega),cond_true,dU,List.getElem?_eq_getElem hi,Option.bind_some]
   refine T.bind (aQN (N+3) hN _ (f5 _ (List.getElem_mem hi))) fun r13 h13=>T.eq (lK (by simp;omega)) ?_
   rw [eG (by omega)]
   refine hk _ ⟨by simp;omega,fun x hx=>?_⟩
   rw [List.mem_append,List.mem_singleton] at hx
   rcases hx with hx | rfl
   ·exact hl.2 x hx
   ·exact h13
  ·rw [iW,df (by omega),cond_false];exact T.ret hl
 obtain ⟨p9,e9,h9⟩:=lvT
 refine T.eq e9 ?_
 have rdy:Rdy p9 s v r4:=⟨fun t ht=>by have:=okt t ht;exact ⟨this.1,by rw [h9.1];exact this.2.1,this.2.2.1,this.2.2.2⟩,f1,okm,okl,f4,h9.2,h4.2,h4.1,vok⟩
 refine T.cond (fun hc=>?_) (fun hc=>?_)
 ·refine T.bind (aRy _ _) fun r15 h15=>T.bind (aMn (N+3) s.gE r15.1 (by rw [h15];exact cb) (by rw [h15];exact fit.1)) fun q hq=>?_
  cases q with
  | inl e=>exact hq.elim
  | inr r=>exact T.ret ⟨⟨rfl,rfl,rfl,rdy,⟨hq.2.2.1,hq.2.2.2.1⟩,hq.1,hc,by rw [← h15];exact hq.2.1,fit,hq.2.2.2.2⟩,nv,e9,e4⟩
 ·refine T.bind (aOH (N+3) (by omega) (R:=s.gE) ⟨fun t ht=>(okt t ht).2.2.2,f1⟩) fun q hq=>?_
  cases q with
  | inl e=>exact hq.elim
  | inr r=>exact T.ret ⟨⟨rfl,rfl,rfl,rdy,⟨hq.2.2.1,hq.2.1⟩,hq.1,hc,hq.2.2.2⟩,nv,e9,e4⟩
def TU {ι ρ α:Type} (f:ι→Option ρ) (P:α→Prop) (S:ι→α→ρ→Prop):Prop:=∃ a,P a∧∀ i,∃ r,f i=some r∧S i a r
section
variable {ι ρ ρ' α β:Type}
theorem TU.bind {A:ι→Option ρ} {B:ι→ρ→Option ρ'} {P:α→Prop} {S:ι→α→ρ→Prop} {Q:β→Prop} {S':ι→β→ρ'→Prop} (h:TU A P S)
  (hf:∀ a,P a→∀ r:ι→ρ,(∀ i,S i a (r i))→TU (fun i=>B i (r i)) Q S'):TU (fun i=>Option.bind (A i) (B i)) Q S':=by
 obtain ⟨a,pa,h⟩:=h
 have h':∃ r:ι→ρ,∀ i,A i=some (r i)∧S i a (r i):=⟨fun i=>(h i).choose,fun i=>(h i).choose_spec⟩
 obtain ⟨r,hr⟩:=h'
 obtain ⟨b,qb,hb⟩:=hf a pa r fun i=>(hr i).2
 refine ⟨b,qb,fun i=>?_⟩
 obtain ⟨x,e,s⟩:=hb i
 exact ⟨x,by show Option.bind (A i) (B i)=some x;rw [(hr i).1];exact e,s⟩
theorem TU.t {o:Option α} {B:ι→α→Option ρ} {P:α→Prop} {Q:β→Prop} {S:ι→β→ρ→Prop} (h:T o P) (hf:∀ a,P a→TU (fun i=>B i a) Q S):TU (fun i=>Option.bind o (B i)) Q S:=by
 obtain ⟨a,rfl,pa⟩:=h
 exact hf a pa
theorem TU.e {A:ι→Option ρ} {B:ι→ρ→Option ρ'} {a:ρ} {Q:β→Prop} {S':ι→β→ρ'→Prop} (e:∀ i,A i=some a) (h:TU (fun i=>B i a) Q S'):TU (fun i=>Option.bind (A i) (B i)) Q S':=by
 rw [show (fun i=>Option.bind (A i) (B i))=fun i=>B i a from funext fun i=>by rw [e i];rfl];exact h
theorem TU.cond {c:Bool} {A B:ι→Option ρ} {Q:β→Prop} {S:ι→β→ρ→Prop} (h1:c=true→TU A Q S) (h2:c=false→TU B Q S):TU (fun i=>_root_.cond c (A i) (B i)) Q S:=by
 cases c with
 | true=>exact h1 rfl
 | false=>exact h2 rfl
theorem TU.ret {g:ι→ρ} (b:β) {Q:β→Prop} {S:ι→β→ρ→Prop} (hq:Q b) (h:∀ i,S i b (g i)):TU (fun i=>some (g i)) Q S:=⟨b,hq,fun i=>⟨g i,rfl,h i⟩⟩
theorem TU.mono {f:ι→Option ρ} {P P':α→Prop} {S S':ι→α→ρ→Prop} (h:TU f P S) (hp:∀ a,P a→P' a) (hs:∀ i a r,P a→S i a r→S' i a r):TU f P' S':=by
 obtain ⟨a,pa,h⟩:=h
 refine ⟨a,hp a pa,fun i=>?_⟩
 obtain ⟨r,e,s⟩:=h i
 exact ⟨r,e,hs i a r pa s⟩
theorem TU.loop {σ τ:Type} {n:Nat} {P:α→Prop} {S:ι→α→ρ→Prop} (I:Nat→σ→(ι→τ)→Prop) {F:ι→Nat→τ→σ→Int→Option ρ}
  (hstep:∀ k (h:ι→τ) s j,j < n→I j s h→(∀ s' h',I (j+1) s' h'→TU (fun i=>F i k (h' i) s' ((j+1:Nat):Int)) P S)→TU (fun i=>F i (k+1) (h i) s (j:Int)) P S)
  (hend:∀ k (h:ι→τ) s,I n s h→TU (fun i=>F i (k+1) (h i) s (n:Int)) P S):∀ (k j:Nat) (s:σ) (h:ι→τ),I j s h→j≤n→n - j < k→TU (fun i=>F i k (h i) s (j:Int)) P S
 | 0,j,_,_,_,_,hk=>by omega
 | k+1,j,s,h,hi,hj,hk=>by
  by_cases hn:j < n
  ·exact hstep k h s j hn hi fun s' h' hi'=>TU.loop I hstep hend k (j+1) s' h' hi' (by omega) (by omega)
  ·obtain rfl:j=n:=by omega
   exact hend k h s hi
theorem TU.loop0 {σ τ:Type} {n:Nat} {P:α→Prop} {S:ι→α→ρ→Prop} (I:Nat→σ→(ι→τ)→Prop) {F:ι→Nat→τ→σ→Int→Option ρ}
  (hstep:∀ k (h:ι→τ) s j,j < n→I j s h→(∀ s' h',I (j+1) s' h'→TU (fun i=>F i k (h' i) s' ((j+1:Nat):Int)) P S)→TU (fun i=>F i (k+1) (h i) s (j:Int)) P S)
  (hend:∀ k (h:ι→τ) s,I n s h→TU (fun i=>F i (k+1) (h i) s (n:Int)) P S) {N:Nat} (hN:n < N) {s:σ} {h:ι→τ} (hi:I 0 s h):TU (fun i=>F i N (h i) s 0) P S:=
 TU.loop I hstep hend N 0 s h hi (by omega) (by omega)
end
def swp (gl:List aE) (t:Int):aK:=aK.mk (jN.mk t) true gl
def qA (a b n:Int):Prop:=I64 b=I64 (a+n)∧(cU a→cU b)
theorem aKW {a b:Int} {n:Nat} (h:qA a b (n:Int)):qA a (I64 (b+1)) ((n+1:Nat):Int):=by
 obtain ⟨h,_⟩:=h
 refine ⟨?_,fun _=>dH _⟩
 rw [vU] at *;rw [vU] at *;rw [vU] at *;omega
theorem aIw (a:Int):qA a a 0:=⟨by rw [Int.add_zero],fun h=>h⟩
theorem aKd {a b c n m:Int} (h:qA a b n) (h':qA b c m):qA a c (n+m):=by
 obtain ⟨h,g⟩:=h
 obtain ⟨h',g'⟩:=h'
 refine ⟨?_,fun x=>g' (g x)⟩
 rw [vU] at *;rw [vU] at *;omega
theorem aOX (N:Nat) (hN:3 < N) {n:Nat} {gl:List aE} (h:aDN n gl) (o d:aC) (m s:Int) {j:Nat} (hj:j < gl.length):∃ a:aL×Bool,lH a.1∧(a.2=true→j < n)∧∀ t,cS N o d m s (j:Int) (swp gl t)=some a:=by
 have key:T (cS N o d m s (j:Int) (swp gl 0)) (fun a=>lH a.1∧(a.2=true→j < n)):=by
  unfold cS lN swp
  refine T.eq rfl ?_
  refine T.bind (T.idx (by omega) (by dsimp only;omega)) fun e2 h2=>T.bind (hitT N hN _ _ _) fun r3 h3=>?_
  refine T.bind (P:=fun r=>r=true→j < n) ?_ fun p4 h4=>T.ret ⟨h3,h4⟩
  refine T.cond (fun _=>?_) (fun _=>T.ret fun h=>by cases h)
  refine T.bind (T.idx (by omega) (by dsimp only;omega)) fun e5 h5=>?_
  rw [aS]
  refine T.cond (fun hc=>T.ret fun _=>?_) (fun _=>T.ret fun h=>by cases h)
  by_cases hn:j < n
  ·exact hn
  ·have:=h.2 j (by omega) e5 (by rw [Int.toNat_natCast] at h5;exact h5)
   rw [this] at hc
   exfalso
   have z:eK .u8 0 m=0:=by
    unfold eK
    have:BitVec.ofInt IntKind.u8.bits 0 &&& BitVec.ofInt IntKind.u8.bits m=0:=by
     rw [show BitVec.ofInt IntKind.u8.bits 0=0 from rfl]
     exact BitVec.zero_and
    rw [this];rfl
   rw [z] at hc
   cases hc
 obtain ⟨a,e,h1,h2⟩:=key
 exact ⟨a,h1,h2,fun t=>e⟩
theorem aNp {ι:Type} (N:Nat) (hN:4100 < N) {n:Nat} {gl:List aE} (h:aDN n gl) (o d:aC) (m s:Int) (t:ι→Int) :
  TU (fun i=>bX N o d m s (swp gl (t i))) (fun a:Int×aL=>a.1 < (n:Int)∧lH a.2) (fun i a r=>∃ t',r=(swp gl t',a)∧qA (t i) t' (gl.length:Int)):=by
 unfold bX fJ
 refine TU.e (a:=false) (fun i=>rfl) ?_
 simp only [cond_false]
 have h4:=h.1
 refine TU.bind (P:=fun a:aL×Int=>a.2 < (n:Int)∧lH a.1) (S:=fun i a r=>∃ t',r=(swp gl t',a)∧qA (t i) t' (gl.length:Int)) ?_ fun a ha r hr=>?_
 ·refine TU.loop0 (n:=gl.length) (fun j (s:aL×Int) t'=>(s.2 < (n:Int)∧lH s.1)∧∀ i,qA (t i) (t' i) (j:Int)) (F:=fun i k t' (x:aL×Int) j=>bU N (swp gl (t i)) o d m s k (swp gl t') x.1 x.2 j) (fun k t' x j hj hx hk=>?_) (fun k t' x hx=>?_) (by omega) (s:=(aL.mk 0 0 0 0,-1)) (h:=t) ⟨⟨by dsimp only;omega,wR⟩,fun i=>aIw _⟩
  ·obtain ⟨a,a1,a2,a3⟩:=aOX N (by omega) h o d m s hj
   simp only [bU,aS]
   simp only [show ∀ t,(swp gl t).gl=gl from fun _=>rfl,dt (show (j:Int) < (gl.length:Int) by omega),cond_true,a3,Option.bind_some]
   refine TU.t (P:=fun p:aL×aL×Int=>p.2.2 < (n:Int)∧lH p.1) ?_ fun p hp=>?_
   ·refine T.bind (P:=fun _=>True) (T.cond (fun _=>T.ret trivial) (fun _=>T.bind (aLf N a1 hx.1.2) fun _ _=>T.ret trivial)) fun p10 _=>?_
    refine T.cond (fun hc=>T.ret ⟨?_,a1⟩) (fun _=>T.ret ⟨hx.1.1,hx.1.2⟩)
    have:a.2=true:=by
     cases h2:a.2 with
     | true=>rfl
     | false=>rw [h2] at hc;cases hc
    have:=a2 this
    show (j:Int) < (n:Int)
    omega
   ·rw [eG (by omega)]
    exact hk (p.1,p.2.2) (fun i=>I64 (t' i+1)) ⟨hp,fun i=>aKW (hx.2 i)⟩
  ·simp only [bU,aS]
   simp only [show ∀ t,(swp gl t).gl=gl from fun _=>rfl,df (show ¬ (gl.length:Int) < (gl.length:Int) by omega),cond_false]
   exact TU.ret x hx.1 fun i=>⟨t' i,rfl,hx.2 i⟩
 ·refine TU.ret (a.2,a.1) ha fun i=>?_
  obtain ⟨t',e,p⟩:=hr i
  rw [e]
  exact ⟨t',rfl,p⟩
theorem anyU {ι:Type} (N:Nat) (hN:4100 < N) {n:Nat} {gl:List aE} (h:aDN n gl) (o d:aC) (m s:Int) (w:Bool) (t:ι→Int) :
  TU (fun i=>cE N o d m s w (swp gl (t i))) (fun _:Bool=>True) (fun i a r=>∃ t',r=(swp gl t',a)∧qA (t i) t' (gl.length:Int)):=by
 unfold cE fJ
 refine TU.e (a:=false) (fun i=>rfl) ?_
 simp only [cond_false]
 have h4:=h.1
 refine TU.bind (P:=fun a:Bool=>True) (S:=fun i a r=>∃ t',r=(swp gl t',a)∧qA (t i) t' (gl.length:Int)) ?_ fun a ha r hr=>?_
 ·refine TU.loop0 (n:=gl.length) (fun j (s:Bool) t'=>∀ i,qA (t i) (t' i) (j:Int)) (F:=fun i k t' (x:Bool) j=>bY N (swp gl (t i)) o d m s w k (swp gl t') x j) (fun k t' x j hj hx hk=>?_) (fun k t' x hx=>?_) (by omega) (s:=false) (h:=t) (fun i=>aIw _)
  ·obtain ⟨a,a1,a2,a3⟩:=aOX N (by omega) h o d m s hj
   simp only [bY,aS]
   simp only [show ∀ t,(swp gl t).gl=gl from fun _=>rfl,dt (show (j:Int) < (gl.length:Int) by omega),cond_true,a3,Option.bind_some]
   rw [eG (by omega)]
   refine TU.cond (fun _=>?_) (fun _=>?_)
   ·exact hk _ (fun i=>I64 (t' i+1)) (fun i=>aKW (hx i))
   ·exact hk _ (fun i=>I64 (t' i+1)) (fun i=>aKW (hx i))
  ·simp only [bY,aS]
   simp only [show ∀ t,(swp gl t).gl=gl from fun _=>rfl,df (show ¬ (gl.length:Int) < (gl.length:Int) by omega),cond_false]
   exact TU.ret x trivial fun i=>⟨t' i,rfl,hx i⟩
 ·refine TU.ret a trivial fun i=>?_
  obtain ⟨t',e,p⟩:=hr i
  rw [e]
  exact ⟨t',rfl,p⟩
def wlk (b:aY) (gl:List aE) (t:Int):aM:=aM.mk b true gl t
def qI (r:aW):Prop:=cU r.gn∧cU r.gd
theorem aAJ (N:Nat) {a b:aW} (ha:qI a) (hb:qI b):T (dZ N a b) (fun _=>True):=by
 unfold dZ
 exact T.bind (aDJ N ha.1 hb.2) fun _ _=>T.bind (aDJ N hb.1 ha.2) fun _ _=>T.bind (aMR N _ _) fun _ _=>T.ret trivial
theorem aLx (N:Nat) (hN:10 < N) (lo hi o:aC) {d:aC} (hd:pin d):T (oF N lo hi o d) (fun r=>qI r.1):=by
 unfold oF
 have z1:qI (aW.mk 0 1):=⟨z64,by decide,by decide⟩
 have z0:qI (aW.mk 0 0):=⟨z64,z64⟩
 refine T.bind (T.loopG0 (n:=3) (fun _ (s:aW×aW×Bool)=>qI s.1∧qI s.2.1) (fun o=>match o with | .inl p=>qI p.1∧qI p.2.1 | .inr p=>qI p.1) (F:=fun k (s:aW×aW×Bool) i=>jX N lo hi o d k s.1 s.2.1 s.2.2 i) (fun k s i hi' hs hk=>?_) (fun k s hs=>?_) (by omega) (s:=(aW.mk 0 1,aW.mk 0 0,false)) ⟨z1,z0⟩) fun q hq=>?_
 ·rw [jX,dt (by omega),cond_true]
  refine T.bind (P:=fun o=>match o with | .inl p=>qI p.1∧qI p.2.1 | .inr p=>qI p.1) ?_ fun q hq=>?_
  ·refine T.bind (P:=fun e:Vector Int 4=>∃ x,e.toList[3]? = some x∧cU x) ?_ fun e7 h7=>?_
   ·have:i=0∨i=1∨i=2:=by omega
    rcases this with rfl | rfl | rfl
    ·exact ⟨_,rfl,_,rfl,hd.1⟩
    ·exact ⟨_,rfl,_,rfl,hd.2.1⟩
    ·exact ⟨_,rfl,_,rfl,hd.2.2⟩
   obtain ⟨x,ex,hx⟩:=h7
   refine T.bind (T.inRO (by decide) (by decide)) fun _ _=>T.bind (T.vg (i:=0) (by decide)) fun e9 _=>T.bind (T.inRO (by decide) (by decide)) fun _ _=>T.bind (T.vg (i:=2) (by decide)) fun e11 _=>?_
   refine T.bind (T.inRO (by decide) (by decide)) fun _ _=>T.bind (T.vg (i:=1) (by decide)) fun e13 _=>T.bind (T.inRO (by decide) (by decide)) fun _ _=>T.bind (T.vg (i:=2) (by decide)) fun e15 _=>?_
   refine T.bind (T.inRO (by decide) (by decide)) fun _ _=>T.eq (a:=x) ex ?_
   simp only [aS]
   refine T.cond (fun _=>T.ret hs.1) (fun _=>?_)
   refine T.bind (P:=fun _=>True) (T.cond (fun _=>T.ret trivial) (fun _=>T.ret trivial)) fun p19 _=>?_
   refine T.cond (fun _=>T.ret hs.1) (fun _=>T.cond (fun _=>T.ret hs) (fun _=>?_))
   have r1:∀ a b:Int,cU b→qI (aW.mk (I64 a) b):=fun a b h=>⟨dH _,h⟩
   refine T.cond (fun _=>?_) (fun _=>?_)
   ·refine T.bind (P:=qI) (T.bind (aAJ N hs.1 (r1 _ _ (dH _))) fun _ _=>T.cond (fun _=>T.ret (r1 _ _ (dH _))) (fun _=>T.ret hs.1)) fun p24 h24=>?_
    refine T.bind (P:=fun _=>True) (T.cond (fun _=>T.ret trivial) (fun _=>T.bind (aAJ N (r1 _ _ (dH _)) hs.2) fun _ _=>T.ret trivial)) fun p26 _=>?_
    exact T.cond (fun _=>T.ret ⟨h24,r1 _ _ (dH _)⟩) (fun _=>T.ret ⟨h24,hs.2⟩)
   ·refine T.bind (P:=qI) (T.bind (aAJ N hs.1 (r1 _ _ hx)) fun _ _=>T.cond (fun _=>T.ret (r1 _ _ hx)) (fun _=>T.ret hs.1)) fun p24 h24=>?_
    refine T.bind (P:=fun _=>True) (T.cond (fun _=>T.ret trivial) (fun _=>T.bind (aAJ N (r1 _ _ hx) hs.2) fun _ _=>T.ret trivial)) fun p26 _=>?_
    exact T.cond (fun _=>T.ret ⟨h24,r1 _ _ hx⟩) (fun _=>T.ret ⟨h24,hs.2⟩)
  ·cases q with
   | inl p=>rw [eG (by omega)];exact hk (_,_,_) hq
   | inr p=>exact T.ret hq
 ·rw [jX,df (by omega),cond_false];exact T.ret hs
 ·cases q with
  | inl p=>exact T.bind (P:=fun _=>True) (T.cond (fun _=>T.ret trivial) (fun _=>T.bind (aAJ N hq.2 hq.1) fun _ _=>T.ret trivial)) fun _ _=>T.ret hq.1
  | inr p=>exact T.ret hq
theorem aLo (N:Nat) (hN:3 < N) (b:aY) {gl:List aE} (o d:aC) (m s:Int) {j:Int} (hj:0≤j∧j < (gl.length:Int)):∃ a:aL×Bool,lH a.1∧∀ t,cD N o d m s j (wlk b gl t)=some a:=by
 have key:T (cD N o d m s j (wlk b gl 0)) (fun a=>lH a.1):=by
  unfold cD wlk
  refine T.bind (T.idx hj.1 hj.2) fun e1 _=>?_
  simp only [aS]
  refine T.cond (fun _=>T.ret wR) (fun _=>?_)
  exact T.bind (T.idx hj.1 hj.2) fun e1 _=>T.bind (hitT N hN _ _ _) fun r h=>T.ret h
 obtain ⟨a,e,h1⟩:=key
 exact ⟨a,h1,fun t=>e⟩
def wW (l:List Int):Nat:=(l.map fun x=>2 ^ (39 - x.toNat) - 1).sum
theorem wD (a b:List Int):wW (a++b)=wW a+wW b:=by unfold wW;rw [List.map_append,List.sum_append]
theorem aFo {x:Int} (h:0≤x∧x < 39):1≤wW [x]:=by
 show 1≤2 ^ (39 - x.toNat) - 1+0
 have:2 ^ 1≤2 ^ (39 - x.toNat):=Nat.pow_le_pow_right (by decide) (by omega)
 omega
theorem aHx {x a b:Int} (h:0≤x) (ha:x < a∧a < 39) (hb:x < b∧b < 39):wW [a,b]+1≤wW [x]:=by
 show (2 ^ (39 - a.toNat) - 1+(2 ^ (39 - b.toNat) - 1+0))+1≤2 ^ (39 - x.toNat) - 1+0
 have h1:2 ^ (39 - a.toNat)≤2 ^ (39 - x.toNat - 1):=Nat.pow_le_pow_right (by decide) (by omega)
 have h2:2 ^ (39 - b.toNat)≤2 ^ (39 - x.toNat - 1):=Nat.pow_le_pow_right (by decide) (by omega)
 have h3:2 ^ (39 - x.toNat)=2 ^ (39 - x.toNat - 1)*2:=by rw [← Nat.pow_succ];congr 1;omega
 have h4:1≤2 ^ (39 - a.toNat):=Nat.one_le_two_pow
 have h5:1≤2 ^ (39 - b.toNat):=Nat.one_le_two_pow
 omega
def aHv (b:aY) (l:List Int):Prop:=∀ x∈l,0≤x∧x < (b.gO.length:Int)
theorem aBW {b:aY} (hb:b.gO.length≤39) {l:List Int} (h:aHv b l):l.length≤wW l:=by
 induction l with
 | nil=>exact Nat.zero_le _
 | cons x l ih=>
  have h1:=ih fun y hy=>h y (List.mem_cons_of_mem _ hy)
  have h2:=h x (List.mem_cons_self ..)
  have h3:=aFo (x:=x) ⟨h2.1,by omega⟩
  have:wW (x :: l)=wW [x]+wW l:=wD [x] l
  rw [this,List.length_cons]
  omega
theorem aSE {ι:Type} (N:Nat) (hN:100 < N) {b:aY} {gl:List aE} (h20:gl.length≤20) (o d:aC) (m s:Int) (t0:ι→Int) {l:List Int} (hl:ord gl.length l) (hl':l.length≤20) (t:ι→Int) {mt:aL} {x:Int} (hm:x < (gl.length:Int)∧lH mt) :
  TU (fun i=>bO N l o d m s (wlk b gl (t0 i)) N (t i) mt x 0) (fun a:aL×Int=>a.2 < (gl.length:Int)∧lH a.1) (fun i a r=>∃ t',r=(t',a)):=by
 refine TU.loop0 (n:=l.length) (fun j (s:aL×Int) _=>s.2 < (gl.length:Int)∧lH s.1) (F:=fun i k t' (x:aL×Int) j=>bO N l o d m s (wlk b gl (t0 i)) k t' x.1 x.2 j) (fun k t' x j hj hx hk=>?_) (fun k t' x hx=>?_) (by omega) (s:=(mt,x)) (h:=t) hm
 ·simp only [bO,aS,dt (show (j:Int) < (l.length:Int) by omega),cond_true,dU,List.getElem?_eq_getElem hj,Option.bind_some]
  have he:=hl _ (List.getElem_mem hj)
  generalize l[j]=e at *
  obtain ⟨a,a1,a3⟩:=aLo N (by omega) b o d m s he
  have a3':∀ i,cD N o d m s e (aM.mk (wlk b gl (t0 i)).gQ (wlk b gl (t0 i)).gA (wlk b gl (t0 i)).gl (I64 (t' i+1)))=some a:=fun i=>a3 _
  simp only [a3',Option.bind_some]
  refine TU.t (P:=fun p:aL×aL×Int=>p.2.2 < (gl.length:Int)∧lH p.1) ?_ fun p hp=>?_
  ·refine T.bind (P:=fun _=>True) ?_ fun p33 _=>T.cond (fun _=>T.ret ⟨he.2,a1⟩) (fun _=>T.ret hx)
   refine T.cond (fun _=>T.cond (fun _=>T.ret trivial) (fun _=>T.bind (aLf N a1 hx.2) fun r34 _=>T.cond (fun _=>T.ret trivial) (fun _=>T.cond (fun _=>T.bind (aLf N hx.2 a1) fun _ _=>T.ret trivial) (fun _=>T.ret trivial)))) (fun _=>T.ret trivial)
  ·rw [eG (by omega)]
   exact hk (p.1,p.2.2) (fun i=>I64 (t' i+1)) hp
 ·simp only [bO,aS,df (show ¬ (l.length:Int) < (l.length:Int) by omega),cond_false]
  exact TU.ret x hx fun i=>⟨t' i,rfl⟩
theorem T.slcN {α:Type} {l:List α} {lo hi:Int} (h0:0≤lo) (h1:lo≤hi) (h2:hi≤(l.length:Int)):T (wG l lo hi) (fun r=>r=(l.take hi.toNat).drop lo.toNat∧(∀ x∈r,x∈l)∧r.length≤l.length):=by
 refine ⟨_,aFS h0 h1 h2,rfl,fun x hx=>List.mem_of_mem_take (List.mem_of_mem_drop hx),?_⟩
 rw [List.length_drop,List.length_take];omega
theorem yK {α:Type} {l:List α} {e:Int} (h0:0≤e) (h:e.toNat < l.length):idx l e=some l[e.toNat]:=by
 have:e=((e.toNat:Nat):Int):=by omega
 exact (congrArg (idx l) this).trans ((dU l e.toNat).trans (List.getElem?_eq_getElem h))
theorem aR4 {ι:Type} (N:Nat) (hN:100 < N) {b:aY} {gl:List aE} (hb:xA gl.length b) (h20:gl.length≤20) (o:aC) {d:aC} (hd:pin d) (m s:Int) (t0:ι→Int):∀ (k:Nat) (st:List Int) (t:ι→Int) (mt:aL) (x:Int) (l:Nat),l≤st.length→aHv b (st.take l)→wW (st.take l) < k→wW (st.take l) < 1000000000000→(x < (gl.length:Int)∧lH mt) →
  TU (fun i=>cG N (wlk b gl (t0 i)) o d m s k st (t i) mt x l) (fun a:aL×Int=>a.2 < (gl.length:Int)∧lH a.1) (fun i a r=>∃ t' st',r=(st',t',a)):=by
 obtain ⟨b1,b2,b3,b4⟩:=hb
 intro k
 induction k with
 | zero=>intro st t mt x l _ _ h;omega
 | succ k ih=>
  intro st t mt x l hl hn hw hw' hm
  simp only [cG,aS]
  have lenT:(st.take l).length=l:=by rw [List.length_take];omega
  have wl:=aBW b3 hn
  rw [lenT] at wl
  refine TU.cond (fun hc=>?_) (fun hc=>?_)
  ·obtain ⟨l,rfl⟩:∃ l',l=l'+1:=⟨l - 1,by have:=of_decide_eq_true hc;omega⟩
   have im:I64 (((l+1:Nat):Int) - 1)=(l:Int):=by rw [bF (by omega) (by omega)];omega
   simp only [im,Int.toNat_natCast]
   obtain ⟨e,et⟩:∃ e,st[l]? = some e:=⟨_,List.getElem?_eq_getElem (by omega)⟩
   have hs:=lL et
   rw [hs] at hn hw hw'
   rw [wD] at hw hw'
   have he:=hn e (by simp)
   have hn':aHv b (st.take l):=fun y hy=>hn y (by simp [hy])
   have w1:=aFo (x:=e) ⟨he.1,by omega⟩
   have wl':=aBW b3 hn'
   rw [show (st.take l).length=l by rw [List.length_take];omega] at wl'
   refine TU.t (T.inRS (by omega) (by omega) (by omega)) fun _ _=>TU.e (fun i=>et) ?_
   have hidx:e.toNat < b.gO.length:=by omega
   refine TU.e (a:=b.gO[e.toNat]) (fun i=>yK he.1 hidx) ?_
   have gd:=b4 e.toNat hidx
   generalize b.gO[e.toNat]=nd at *
   refine TU.t (T.slcG (by omega) (by omega) (by omega) (by omega) (Or.inl rfl)) fun _ _=>TU.t (aLx N (by omega) nd.gLo nd.gHi o hd) fun r18 h18=>?_
   refine TU.t (P:=fun _=>True) ?_ fun p19 _=>?_
   ·refine T.cond (fun _=>T.ret trivial) (fun _=>T.cond (fun _=>T.bind (aAJ N ⟨hm.2.1,hm.2.2.1⟩ h18) fun _ _=>T.ret trivial) (fun _=>T.ret trivial))
   refine TU.cond (fun _=>?_) (fun _=>TU.cond (fun hc=>?_) (fun hc=>?_))
   ·exact ih st (fun i=>I64 (t i+1)) mt x l (by omega) hn' (by omega) (by omega) hm
   ·have g:=gd.1 (of_decide_eq_true hc)
    have w2:=aHx (x:=e) (a:=nd.gB4) (b:=nd.gB3) he.1 ⟨by omega,by omega⟩ ⟨by omega,by omega⟩
    refine TU.t (T.appG (by omega) (show (l+2)*8≤140737488355328 by omega)) fun z hz=>?_
    subst hz
    have tk:(sS st l [nd.gB4,nd.gB3]).take (l+2)=st.take l++[nd.gB4,nd.gB3]:=aAY st l [_,_] (by omega)
    refine ih _ (fun i=>I64 (t i+1)) mt x (l+2) (aDe st l [_,_] (by omega)) ?_ ?_ ?_ hm
    ·rw [tk]
     intro y hy
     rw [List.mem_append] at hy
     rcases hy with hy | hy
     ·exact hn' y hy
     ·simp at hy
      rcases hy with rfl | rfl <;> omega
    ·rw [tk,wD];omega
    ·rw [tk,wD];omega
   ·have g:=gd.2 (by have:=of_decide_eq_false hc;omega)
    rw [bF (x:=nd.gC4+nd.gC8) (by omega) (by omega)]
    refine TU.t (T.slcN (l:=b.gC0) g.1 (by omega) (by omega)) fun s23 h23=>?_
    refine TU.bind (aSE N hN h20 o d m s t0 (fun y hy=>b1 y (h23.2.1 y hy)) (by omega) (fun i=>I64 (t i+1)) hm) fun a ha r hr=>?_
    have h':∃ t':ι→Int,∀ i,r i=(t' i,a):=⟨fun i=>(hr i).choose,fun i=>(hr i).choose_spec⟩
    obtain ⟨t',e'⟩:=h'
    simp only [e']
    exact ih st t' a.1 a.2 l (by omega) hn' (by omega) (by omega) ha
  ·exact TU.ret (mt,x) hm fun i=>⟨_,_,rfl⟩
theorem aOh {ι:Type} (N:Nat) (hN:1000000000000 < N) {b:aY} {gl:List aE} (hb:xA gl.length b) (h20:gl.length≤20) (o d:aC) (m s:Int) (t:ι→Int) :
  TU (fun i=>cX N o d m s (wlk b gl (t i))) (fun a:Int×aL=>a.1 < (gl.length:Int)∧lH a.2) (fun i a r=>∃ t',r=(t',a)):=by
 unfold cX iH
 simp only [show ∀ t,(wlk b gl t).gQ=b from fun _=>rfl,show ∀ t,(wlk b gl t).gA=true from fun _=>rfl,show ∀ t,(wlk b gl t).gD7=t from fun _=>rfl,Option.bind_some,aS]
 refine TU.t (P:=fun p=>p=false→pin d∧0 < b.gO.length) ?_ fun p1 h1=>TU.cond (fun _=>TU.ret (-1,aL.mk 0 0 0 0) ⟨by dsimp only;omega,wR⟩ fun i=>⟨_,rfl⟩) (fun hc=>?_)
 ·refine T.cond (fun _=>T.ret fun h=>by cases h) (fun hc=>T.bind (aJQ N o d) fun r4 h4=>T.ret fun e=>⟨aCq (h4 (by simpa using e)).2.1 (by decide),?_⟩)
  have:((b.gO.length:Int)==0)=false:=hc
  have:(b.gO.length:Int)≠0:=by simpa using this
  omega
 ·obtain ⟨hd,h0⟩:=h1 hc
  refine TU.bind (aR4 N (by omega) hb h20 o hd m s t N [0] t (aL.mk 0 0 0 0) (-1) 1 (by simp) ?_ ?_ ?_ ⟨by omega,wR⟩) fun a ha r hr=>?_
  ·intro x hx;have:x=0:=by simpa using hx
   subst this;omega
  ·show (2 ^ 39 - 1+0) < N;omega
  ·show (2 ^ 39 - 1+0) < 1000000000000;decide
  ·refine TU.ret (a.2,a.1) ha fun i=>?_
   obtain ⟨t',st',e⟩:=hr i
   rw [e]
   exact ⟨t',rfl⟩
theorem anyW2 {ι:Type} (N:Nat) (hN:100 < N) {b:aY} {gl:List aE} (o d:aC) (m s:Int) (w:Bool) (t0:ι→Int) {l:List Int} (hl:ord gl.length l) (hl':l.length≤20) (t:ι→Int) :
  TU (fun i=>bV N l o d m s (wlk b gl (t0 i)) w N (t i) 0) (fun _:Bool=>True) (fun i a r=>∃ t',r=cond a (Sum.inr (t',true)) (Sum.inl t')):=by
 refine TU.loop0 (n:=l.length) (fun j (_:Unit) _=>True) (F:=fun i k t' (x:Unit) j=>bV N l o d m s (wlk b gl (t0 i)) w k t' j) (fun k t' x j hj hx hk=>?_) (fun k t' x hx=>?_) (by omega) (s:=()) (h:=t) trivial
 ·simp only [bV,aS,dt (show (j:Int) < (l.length:Int) by omega),cond_true,dU,List.getElem?_eq_getElem hj,Option.bind_some]
  have he:=hl _ (List.getElem_mem hj)
  generalize l[j]=e at *
  obtain ⟨a,a1,a3⟩:=aLo N (by omega) b o d m s he
  have a3':∀ i,cD N o d m s e (aM.mk (wlk b gl (t0 i)).gQ (wlk b gl (t0 i)).gA (wlk b gl (t0 i)).gl (I64 (t' i+1)))=some a:=fun i=>a3 _
  simp only [a3',Option.bind_some]
  refine TU.t (P:=fun _=>True) (T.cond (fun _=>T.ret trivial) (fun _=>T.ret trivial)) fun p24 _=>?_
  refine TU.cond (fun _=>TU.ret true trivial fun i=>⟨_,rfl⟩) (fun _=>?_)
  rw [eG (by omega)]
  exact hk () (fun i=>I64 (t' i+1)) trivial
 ·simp only [bV,aS,df (show ¬ (l.length:Int) < (l.length:Int) by omega),cond_false]
  exact TU.ret false trivial fun i=>⟨t' i,rfl⟩
theorem anyW1 {ι:Type} (N:Nat) (hN:100 < N) {b:aY} {gl:List aE} (hb:xA gl.length b) (h20:gl.length≤20) (o:aC) {d:aC} (hd:pin d) (m s:Int) (w:Bool) (t0:ι→Int):∀ (k:Nat) (st:List Int) (t:ι→Int) (l:Nat),l≤st.length→aHv b (st.take l)→wW (st.take l) < k→wW (st.take l) < 1000000000000 →
  TU (fun i=>cY N (wlk b gl (t0 i)) o d m s w k st (t i) l) (fun _:Bool=>True) (fun i a r=>∃ t' st',r=cond a (Sum.inr (t',true)) (Sum.inl (st',t'))):=by
 obtain ⟨b1,b2,b3,b4⟩:=hb
 intro k
 induction k with
 | zero=>intro st t l _ _ h;omega
 | succ k ih=>
  intro st t l hl hn hw hw'
  simp only [cY,aS]
  have lenT:(st.take l).length=l:=by rw [List.length_take];omega
  have wl:=aBW b3 hn
  rw [lenT] at wl
  refine TU.cond (fun hc=>?_) (fun hc=>?_)
  ·obtain ⟨l,rfl⟩:∃ l',l=l'+1:=⟨l - 1,by have:=of_decide_eq_true hc;omega⟩
   have im:I64 (((l+1:Nat):Int) - 1)=(l:Int):=by rw [bF (by omega) (by omega)];omega
   simp only [im,Int.toNat_natCast]
   obtain ⟨e,et⟩:∃ e,st[l]? = some e:=⟨_,List.getElem?_eq_getElem (by omega)⟩
   have hs:=lL et
   rw [hs] at hn hw hw'
   rw [wD] at hw hw'
   have he:=hn e (by simp)
   have hn':aHv b (st.take l):=fun y hy=>hn y (by simp [hy])
   have w1:=aFo (x:=e) ⟨he.1,by omega⟩
   have wl':=aBW b3 hn'
   rw [show (st.take l).length=l by rw [List.length_take];omega] at wl'
   refine TU.t (T.inRS (by omega) (by omega) (by omega)) fun _ _=>TU.e (fun i=>et) ?_
   have hidx:e.toNat < b.gO.length:=by omega
   refine TU.e (a:=b.gO[e.toNat]) (fun i=>yK he.1 hidx) ?_
   have gd:=b4 e.toNat hidx
   generalize b.gO[e.toNat]=nd at *
   refine TU.t (T.slcG (by omega) (by omega) (by omega) (by omega) (Or.inl rfl)) fun _ _=>TU.t (aLx N (by omega) nd.gLo nd.gHi o hd) fun r18 h18=>?_
   refine TU.cond (fun _=>?_) (fun _=>TU.cond (fun hc=>?_) (fun hc=>?_))
   ·exact ih st (fun i=>I64 (t i+1)) l (by omega) hn' (by omega) (by omega)
   ·have g:=gd.1 (of_decide_eq_true hc)
    have w2:=aHx (x:=e) (a:=nd.gB4) (b:=nd.gB3) he.1 ⟨by omega,by omega⟩ ⟨by omega,by omega⟩
    refine TU.t (T.appG (by omega) (show (l+2)*8≤140737488355328 by omega)) fun z hz=>?_
    subst hz
    have tk:(sS st l [nd.gB4,nd.gB3]).take (l+2)=st.take l++[nd.gB4,nd.gB3]:=aAY st l [_,_] (by omega)
    refine ih _ (fun i=>I64 (t i+1)) (l+2) (aDe st l [_,_] (by omega)) ?_ ?_ ?_
    ·rw [tk]
     intro y hy
     rw [List.mem_append] at hy
     rcases hy with hy | hy
     ·exact hn' y hy
     ·simp at hy
      rcases hy with rfl | rfl <;> omega
    ·rw [tk,wD];omega
    ·rw [tk,wD];omega
   ·have g:=gd.2 (by have:=of_decide_eq_false hc;omega)
    rw [bF (x:=nd.gC4+nd.gC8) (by omega) (by omega)]
    refine TU.t (T.slcN (l:=b.gC0) g.1 (by omega) (by omega)) fun s23 h23=>?_
    refine TU.bind (anyW2 N hN o d m s w t0 (fun y hy=>b1 y (h23.2.1 y hy)) (by omega) (fun i=>I64 (t i+1))) fun a ha r hr=>?_
    have h':∃ t':ι→Int,∀ i,r i=cond a (Sum.inr (t' i,true)) (Sum.inl (t' i)):=⟨fun i=>(hr i).choose,fun i=>(hr i).choose_spec⟩
    obtain ⟨t',e'⟩:=h'
    simp only [e']
    cases a with
    | true=>exact TU.ret true trivial fun i=>⟨t' i,[],rfl⟩
    | false=>exact ih st t' l (by omega) hn' (by omega) (by omega)
  ·exact TU.ret false trivial fun i=>⟨_,_,rfl⟩
theorem anyW {ι:Type} (N:Nat) (hN:1000000000000 < N) {b:aY} {gl:List aE} (hb:xA gl.length b) (h20:gl.length≤20) (o d:aC) (m s:Int) (w:Bool) (t:ι→Int) :
  TU (fun i=>dJ N o d m s w (wlk b gl (t i))) (fun _:Bool=>True) (fun i a r=>∃ t',r=(t',a)):=by
 unfold dJ iH
 simp only [show ∀ t,(wlk b gl t).gQ=b from fun _=>rfl,show ∀ t,(wlk b gl t).gA=true from fun _=>rfl,show ∀ t,(wlk b gl t).gD7=t from fun _=>rfl,Option.bind_some,aS]
 refine TU.t (P:=fun p=>p=false→pin d∧0 < b.gO.length) ?_ fun p1 h1=>TU.cond (fun _=>TU.ret false trivial fun i=>⟨_,rfl⟩) (fun hc=>?_)
 ·refine T.cond (fun _=>T.ret fun h=>by cases h) (fun hc=>T.bind (aJQ N o d) fun r4 h4=>T.ret fun e=>⟨aCq (h4 (by simpa using e)).2.1 (by decide),?_⟩)
  have:((b.gO.length:Int)==0)=false:=hc
  have:(b.gO.length:Int)≠0:=by simpa using this
  omega
 ·obtain ⟨hd,h0⟩:=h1 hc
  refine TU.bind (anyW1 N (by omega) hb h20 o hd m s w t N [0] t 1 (by simp) ?_ ?_ ?_) fun a ha r hr=>?_
  ·intro x hx;have:x=0:=by simpa using hx
   subst this;omega
  ·show (2 ^ 39 - 1+0) < N;omega
  ·show (2 ^ 39 - 1+0) < 1000000000000;decide
  ·refine TU.mono (P:=fun _:Bool=>True) (S:=fun i a' r'=>∃ t',r'=(t',a')) ?_ (fun _ h=>h) (fun _ _ _ _ h=>h)
   have h':∃ t':ι→Int×List Int,∀ i,r i=cond a (Sum.inr ((t' i).1,true)) (Sum.inl ((t' i).2,(t' i).1)):=⟨fun i=>((hr i).choose,(hr i).choose_spec.choose),fun i=>(hr i).choose_spec.choose_spec⟩
   obtain ⟨t',e'⟩:=h'
   simp only [e']
   cases a with
   | true=>exact TU.ret true trivial fun i=>⟨_,rfl⟩
   | false=>exact TU.ret false trivial fun i=>⟨_,rfl⟩
theorem aPj (k:Nat) {n:aB} (hn:vin n) (d:aC):T (jK (k+70) n d) vin:=by
 unfold jK
 refine T.bind (zS (k+5) d) fun r1 h1=>T.bind (aMd (k+66) hn h1) fun r2 _=>T.cond (fun _=>T.ret hn) (fun _=>?_)
 exact T.eq (sM (k+67) hn ⟨by decide,by decide⟩) (T.ret (pS _ _))
theorem pickT (N:Nat) {l:List aD} (h:aFB l) (i:Int):T (vP N l i) (fun r=>r.1.gA7.length≤260):=by
 unfold vP
 rw [aS]
 refine T.cond (fun _=>T.ret (by simp)) (fun hc=>?_)
 have h0:(l.length:Int)≠0:=by simpa using hc
 have h20:=h.1
 rw [aS,bF (x:=(l.length:Int) - 1) (by omega) (by omega),uF,rZ]
 exact T.bind (T.idx (by omega) (by omega)) fun e3 h3=>T.ret (h.2 _ (List.mem_of_getElem? h3))
def aPW (u:Vector (Vector Int 2) 3):Prop:=∀ v∈u.toList,∀ x∈v.toList,0≤x∧x≤65535
theorem uvT {u:Vector (Vector Int 2) 3} (h:aPW u) {i j:Int} (hi:0≤i∧i < 3) (hj:0≤j∧j < 2) {β:Type} {f:Int→Option β} {Q:β→Prop} (hf:∀ e,cU e→T (f e) Q):T (Option.bind (idx u.toList i) fun e=>Option.bind (idx e.toList j) f) Q:=by
 refine T.bind (T.idx hi.1 (by simp;omega)) fun e he=>T.bind (T.idx hj.1 (by simp;omega)) fun x hx=>hf x ?_
 have:=h _ (List.mem_of_getElem? he) _ (List.mem_of_getElem? hx)
 exact ⟨by omega,by omega⟩
theorem aNh (k:Nat) {j:Int} (hj:0≤j∧j < 2) {m:aL} (hm:lH m) {u:Vector (Vector Int 2) 3} (hu:aPW u):T (kX (k+5) j m u) (fun _=>True):=by
 unfold kX
 rw [aS]
 refine uvT hu ⟨by decide,by decide⟩ hj fun e3 h3=>T.bind (aDJ _ (dH _) h3) fun r4 h4=>?_
 refine uvT hu ⟨by decide,by decide⟩ hj fun e6 h6=>T.bind (aDJ _ hm.2.2.1 h6) fun r7 h7=>?_
 refine uvT hu ⟨by decide,by decide⟩ hj fun e9 h9=>T.bind (aDJ _ hm.2.2.2 h9) fun r10 h10=>?_
 refine T.bind (aO0 _ _ (by intro x hx;simp at hx;rcases hx with rfl | rfl | rfl;exact h4;exact h7;exact h10) (by simp) (by simp)) fun r11 h11=>?_
 refine T.cond (fun _=>T.ret trivial) (fun _=>T.bind (aNy (k+2) h11 hm.2.1) fun r12 h12=>T.bind (aFJ _ h12.1) fun r13 h13=>?_)
 simp only [aS]
 exact T.cond (fun _=>T.ret trivial) (fun _=>T.cond (fun _=>T.ret trivial) (fun _=>T.ret trivial))
theorem baryT (k:Nat) {m:aL} (hm:lH m) {u:Vector (Vector Int 2) 3} (hu:aPW u):T (vL (k+5) m u) (fun _=>True):=by
 unfold vL
 refine T.bind (P:=fun _=>True) ?_ fun p1 _=>?_
 ·simp only [aS]
  exact T.cond (fun _=>T.ret trivial) (fun _=>T.cond (fun _=>T.ret trivial) (fun _=>T.ret trivial))
 ·exact T.cond (fun _=>T.ret trivial) (fun _=>T.bind (aNh k ⟨by decide,by decide⟩ hm hu) fun _ _=>T.bind (aNh k ⟨by decide,by decide⟩ hm hu) fun _ _=>T.ret trivial)
theorem aQA (N:Nat) (hN:300 < N) (t:aD) (h:t.gA7.length≤260) (x y:Int):T (vC N t x y) (fun _=>True):=by
 unfold vC
 refine T.bind (texT N t (by omega) (by omega) (by omega)) fun r1 h1=>T.cond (fun _=>T.ret trivial) (fun hc=>?_)
 have ok:=h1 (by simpa using hc)
 exact T.bind (aGC N ⟨ok.1,ok.2.1⟩ _ _) fun _ _=>T.ret trivial
theorem aQs (N:Nat) (hN:300 < N) (t:aD) (h:t.gA7.length≤260) (x y:Int):T (rK N t x y) (fun r=>vin r.1):=by
 unfold rK
 refine T.bind (texT N t (by omega) (by omega) (by omega)) fun r1 h1=>T.cond (fun _=>T.ret ⟨z64,z64,z64⟩) (fun hc=>?_)
 rw [aS,aS]
 refine T.cond (fun _=>T.ret ⟨z64,z64,z64⟩) (fun _=>?_)
 refine T.letO fun x4 _=>T.letO fun x5 _=>?_
 simp only [aS]
 have s:∀ a b:Int,T (eM N a b t x4 x5) (fun _=>True):=by
  intro a b
  unfold eM
  simp only [aS]
  exact T.bind (aQA N hN t h _ _) fun _ _=>T.ret trivial
 refine T.bind (s _ _) fun r13 _=>T.bind (s _ _) fun r14 _=>T.bind (s _ _) fun r15 _=>T.bind (s _ _) fun r16 _=>?_
 refine T.bind (P:=fun _=>True) ?_ fun p17 _=>?_
 ·refine T.loopG0 (n:=4) (fun _ _=>True) _ (F:=lV N r13 r14 r15 r16 x4 x5) (fun k v i hi _ hk=>?_) (fun k v _=>?_) (by omega) trivial
  ·rw [lV,dt (by omega),cond_true]
   refine T.bind (T.idx (by omega) (by simp;omega)) fun e20 _=>T.bind (P:=fun _=>True) ?_ fun _ _=>by rw [eG (by omega)];exact hk _ trivial
   refine T.loopG0 (n:=3) (fun _ _=>True) _ (F:=lW N e20 (i:Int) x4 x5) (fun k v j hj _ hk=>?_) (fun k v _=>?_) (by omega) trivial
   ·rw [lW,dt (by omega),cond_true]
    refine T.bind (T.inRO (by omega) (by omega)) fun _ _=>T.bind (T.vgI hj) fun _ _=>T.bind (T.inRO (by omega) (by omega)) fun _ _=>T.bind (T.vgI hj) fun _ _=>T.bind (T.inRO (by omega) (by omega)) fun _ _=>T.bind (T.vgI hi) fun _ _=>?_
    rw [aS]
    refine T.bind (T.inRO (by omega) (by omega)) fun _ _=>T.bind (T.vgI hj) fun _ _=>?_
    rw [eG (by omega)]
    exact hk _ trivial
   ·rw [lW,df (by omega),cond_false];exact T.ret trivial
  ·rw [lV,df (by omega),cond_false];exact T.ret trivial
 ·refine T.bind (T.inRO (by decide) (by decide)) fun _ _=>T.bind (T.vg (i:=0) (by decide)) fun _ _=>T.bind (T.inRO (by decide) (by decide)) fun _ _=>T.bind (T.vg (i:=1) (by decide)) fun _ _=>T.bind (T.inRO (by decide) (by decide)) fun _ _=>T.bind (T.vg (i:=2) (by decide)) fun _ _=>T.ret ⟨dH _,dH _,dH _⟩
theorem aOc (k:Nat) {c:Vector Int 3} (hc:∀ x∈c.toList,0≤x∧x≤65535) {l:List aD} (hl:aFB l) {u:Vector (Vector Int 2) 3} (hu:aPW u) {m:aL} (hm:lH m) (i:Int):T (kJ (k+400) c l u m i) vin:=by
 unfold kJ
 refine T.bind (aNm (k+397) c (fun x hx=>by have:=hc x hx;exact ⟨by omega,by omega⟩) ⟨by decide,by decide⟩ (by decide)) fun r1 h1=>T.bind (pickT _ hl i) fun r2 h2=>T.cond (fun _=>T.ret h1) (fun _=>?_)
 refine T.bind (baryT (k+395) hm hu) fun r3 _=>T.letO fun x4 _=>T.letO fun x5 _=>T.bind (aQs _ (by omega) _ h2 _ _) fun r6 h6=>T.cond (fun _=>T.ret h1) (fun _=>?_)
 exact T.bind (aDu (k+397) _ (by intro x hx;simp at hx;rcases hx with rfl | rfl;exact h1;exact h6) (by simp) (by simp)) fun r7 h7=>T.ret h7
theorem aH0 (k:Nat) {a b c:Int} (hb:cU b) (hc:cU c) (v:Vector Int 2):T (iP (k+3) a b c v) cU:=by
 unfold iP
 refine T.bind (T.idx (by decide) (by simp)) fun e1 _=>T.bind (aFR k hb (dH _) ⟨by decide,by decide⟩) fun r2 h2=>T.bind (T.idx (by decide) (by simp)) fun e3 _=>T.bind (aFR k hc (dH _) ⟨by decide,by decide⟩) fun r4 h4=>?_
 rw [aS]
 exact T.ret (dH _)
theorem aSB (k:Nat) {l:aT} (h:vN l) (v:Vector Int 2):T (uZ (k+3) l v) pin:=by
 unfold uZ
 obtain ⟨_,a,b,c⟩:=h
 have b':=aCq b (by decide)
 have c':=aCq c (by decide)
 refine T.cond (fun _=>T.ret (aCq a (by decide))) (fun _=>?_)
 exact T.bind (aH0 k b'.1 c'.1 v) fun _ x=>T.bind (aH0 k b'.2.1 c'.2.1 v) fun _ y=>T.bind (aH0 k b'.2.2 c'.2.2 v) fun _ z=>T.ret ⟨x,y,z⟩
theorem absT (N:Nat) {a:Int} (h:cU a):T (lQ N a) cU:=by unfold lQ;exact T.cond (fun _=>T.ret (dH _)) (fun _=>T.ret h)
theorem aPU (N:Nat) {a:Int} (b:Int) (h:cU a):T (qY N a b) cU:=by unfold qY;exact T.cond (fun _=>T.ret (dH _)) (fun _=>T.ret h)
theorem foldT (N:Nat) {a b:Int} (ha:cU a) (hb:cU b):T (wU N a b) (fun r=>cU r.1∧cU r.2):=by
 unfold wU
 exact T.bind (absT N hb) fun _ _=>T.bind (aPU N _ (dH _)) fun _ x=>T.bind (absT N ha) fun _ _=>T.bind (aPU N _ (dH _)) fun _ y=>T.ret ⟨x,y⟩
theorem aQ2 (N:Nat) (a:Int):T (nX N a) cU:=by unfold nX;rw [aS];exact T.ret (dH _)
theorem aPm (N:Nat) (a:Int):T (tV N a) pin:=by
 unfold tV
 refine T.bind (aQ2 N _) fun r1 h1=>T.bind (aQ2 N _) fun r2 h2=>T.bind (absT N h1) fun r3 _=>T.bind (absT N h2) fun r4 _=>?_
 rw [aS]
 refine T.bind (P:=fun p=>cU p.1∧cU p.2) (T.cond (fun _=>T.bind (foldT N h1 h2) fun r h=>T.ret h) (fun _=>T.ret ⟨h1,h2⟩)) fun p h=>T.ret ⟨h.1,h.2,dH _⟩
theorem aLE (N:Nat) (a:Int):T (rT N a) pin:=by
 unfold rT tT
 simp only [aS,Option.bind_some]
 exact T.bind (aPm N _) fun r h=>T.ret h
theorem aLV (k:Nat) {a b:Int} (ha:cU a) (hb:cU b):T (mF (k+3) [a,b]) cU:=⟨_,aDT k ha hb,fF _⟩
theorem negT (N:Nat) {a:Int} (ha:cU a):T (tB N a) cU:=⟨_,aLs N ha,fF _⟩
theorem farT (k:Nat) {f:uG} (hf:pin f.gE0) (p:aC) {n:aB} (hn:vin n):T (pN (k+70) f p n) (fun r=>pin r.1∧cU r.2):=by
 unfold pN
 refine T.bind (zS (k+5) _) fun r1 h1=>T.bind (aMd (k+66) hn h1) fun r2 h2=>T.cond (fun _=>?_) (fun _=>?_)
 ·exact T.bind (negT _ h2) fun _ a=>T.bind (negT _ h2) fun _ b=>T.bind (aLV (k+67) a b) fun _ c=>T.ret ⟨⟨dH _,dH _,dH _⟩,c⟩
 ·exact T.bind (aLV (k+67) h2 h2) fun _ c=>T.ret ⟨hf,c⟩
theorem aR1 (k:Nat) (f:uS) (p:aC) {n:aB} (hn:vin n):T (oK (k+70) f p n) (fun r=>pin r.1∧cU r.2):=by
 unfold oK
 refine T.bind (aJU _ _ _) fun r1 h1=>T.bind (zS (k+5) _) fun r2 h2=>T.bind (aMd (k+66) hn h2) fun r3 h3=>?_
 simp only [aS]
 refine T.cond (fun _=>T.ret ⟨⟨z64,z64,z64⟩,z64⟩) (fun _=>T.bind (aJB _ _ _) fun r6 h6=>T.bind (aFR (k+67) h3 ⟨by decide,by decide⟩ h6) fun r7 h7=>T.ret ⟨h1,h7⟩)
theorem lampT (k:Nat) {l:aT} (h:vN l) (p:aC) {n:aB} (hn:vin n) (v:Vector Int 2):T (mY (k+70) l p n v) (fun r=>vin r.gC3):=by
 unfold mY
 have v0:vin (aB.mk 0 0 0):=⟨z64,z64,z64⟩
 refine T.bind (P:=fun _=>True) (T.bind (aPE _ (by omega) l) fun _ _=>T.cond (fun _=>T.ret trivial) (fun _=>T.bind (aJQ _ _ _) fun _ _=>T.ret trivial)) fun p1 _=>T.cond (fun _=>T.ret v0) (fun _=>?_)
 refine T.bind (aSB (k+67) h v) fun r4 h4=>T.cond (fun _=>?_) (fun _=>?_)
 ·refine T.bind (T.idx (by decide) (by simp)) fun e5 _=>T.bind (aLE _ _) fun r6 h6=>T.bind (farT k (f:=uG.mk r6) h6 _ hn) fun r7 h7=>T.cond (fun _=>T.ret v0) (fun _=>?_)
  exact T.bind (aHy (k+67) h) fun r8 h8=>T.eq (sM (k+67) h8 h7.2) (T.ret (pS _ _))
 ·refine T.bind (aR1 k _ _ hn) fun r10 h10=>T.cond (fun _=>T.ret v0) (fun _=>?_)
  exact T.bind (aHy (k+67) h) fun r8 h8=>T.eq (sM (k+67) h8 h10.2) (T.ret (pS _ _))
def aFt (t:cR):Prop:=pin t.gD4∧vin t.gC3
theorem aMP : aFt (cR.mk (aC.mk 0 0 0) (aB.mk 0 0 0) true):=⟨⟨z64,z64,z64⟩,z64,z64,z64⟩
theorem aO2 (k:Nat) {c n:aB} (hc:vin c) (hn:vin n) (a:Int):T (oG (k+70) c n a) aFt:=by
 unfold oG
 refine T.bind (aLE _ _) fun r1 h1=>T.bind (zS (k+5) _) fun r2 h2=>T.bind (aMd (k+66) hn h2) fun r3 h3=>?_
 refine T.bind (P:=fun p=>pin p.1∧cU p.2) (T.cond (fun _=>T.bind (negT _ h3) fun _ b=>T.ret ⟨⟨dH _,dH _,dH _⟩,b⟩) (fun _=>T.ret ⟨h1,h3⟩)) fun p4 h4=>T.cond (fun _=>T.ret aMP) (fun _=>?_)
 exact T.bind (aLV (k+67) h4.2 h4.2) fun r6 h6=>T.eq (sM (k+67) hc h6) (T.ret ⟨h4.1,pS _ _⟩)
theorem aIU (k:Nat) {n:aB} (hn:vin n) (d:aC):T (lD (k+70) n d) vin:=by
 unfold lD
 exact T.bind (zS (k+5) _) fun r1 h1=>T.bind (aMd (k+66) hn h1) fun r2 h2=>T.bind (aLV (k+67) h2 h2) fun r3 h3=>T.eq (sM (k+67) hn h3) (T.eq (aFF _ h1 (pS _ _)) (T.ret (aFI _ _)))
theorem aHp (k:Nat) {a c:aB} (ha:vin a) (hc:vin c):T (kG (k+3) a c) aFt:=by
 unfold kG
 exact T.eq (aNj k ha) (T.cond (fun _=>T.ret aMP) (fun _=>T.ret ⟨aCv (aHU ha),hc⟩))
theorem aN7 (k:Nat) {m:aQ} (hm:aBO m) {c n:aB} (hc:vin c) (hn:vin n) (d:aC) (v:Vector Int 2):T (iT (k+70) m c n d v) aFt:=by
 unfold iT
 obtain ⟨_,r1,r2⟩:=hm
 refine T.cond (fun _=>T.bind (T.idx (by decide) (by simp)) fun e1 _=>T.bind (aO2 k hc hn _) fun r h=>T.ret h) (fun _=>?_)
 refine T.cond (fun _=>?_) (fun _=>?_)
 ·refine T.eq (uH _ ⟨by omega,by omega⟩) (T.eq (uH _ ⟨by decide,by decide⟩) (T.eq (yG (k+67) (fF _) (fF _) (by decide)) ?_))
  refine T.bind (aIU k hn d) fun r6 h6=>T.bind (T.idx (by decide) (by simp)) fun e7 _=>T.bind (aLE _ _) fun r8 _=>T.bind (zS (k+5) _) fun r9 h9=>T.eq (sM (k+67) h9 (fF _)) ?_
  refine T.eq (aKp (k+67) h6 (pS _ _)) (T.bind (aMd (k+66) hn (aA5 _ _)) fun r12 _=>T.cond (fun _=>T.ret aMP) (fun _=>T.bind (aHp (k+67) (aA5 _ _) hc) fun r h=>T.ret h))
 refine T.cond (fun _=>?_) (fun _=>?_)
 ·refine T.bind (T.idx (by decide) (by simp)) fun e14 _=>T.bind (aOt _ _ _) fun r15 _=>?_
  rw [aS]
  exact T.cond (fun _=>T.bind (zS (k+5) _) fun r17 h17=>T.bind (aHp (k+67) h17 hc) fun r h=>T.ret h) (fun _=>T.bind (aIU k hn d) fun r19 h19=>T.bind (aHp (k+67) h19 hc) fun r h=>T.ret h)
 ·exact T.cond (fun _=>T.bind (aIU k hn d) fun r19 h19=>T.bind (aHp (k+67) h19 hc) fun r h=>T.ret h) (fun _=>T.ret aMP)
theorem T.eqo {α:Type} {o:Option α} {a:α} (h:o=some a):(Option.bind o fun r=>some r)=some a:=by rw [h];rfl
theorem aMk (k:Nat) {f:aB} (hf:vin f) (a:Int):T (eT (k+70) f a) (fun r=>vin r.1):=by
 unfold eT aAD oW iD
 refine T.eq (aJs _ hf) (T.eq rfl (T.eq rfl (T.cond (fun _=>T.ret ⟨z64,z64,z64⟩) (fun _=>?_))))
 rw [uF,rZ]
 generalize hx:min (max (vV f) 268435456) 4294967296=x
 have hx1:cU x∧x≠0:=by unfold cU;omega
 refine T.eq (T.eqo (yG (k+67) hf.1 hx1.1 hx1.2)) ?_
 refine T.eq (T.eqo (yG (k+67) hf.2.1 hx1.1 hx1.2)) ?_
 refine T.eq (T.eqo (yG (k+67) hf.2.2 hx1.1 hx1.2)) ?_
 exact T.ret ⟨fF _,fF _,fF _⟩
theorem aOk (k:Nat) (c:bP) (w h x y:Int) (v:Vector Int 4):T (sB (k+6) c w h x y v) (fun r=>pin r.1∧pin r.2.1):=by
 unfold sB
 have p0:pin (aC.mk 0 0 0):=⟨z64,z64,z64⟩
 refine T.bind (T.idx (by decide) (by simp)) fun e1 _=>T.bind (T.idx (by decide) (by simp)) fun e2 _=>?_
 refine T.bind (aJb k c w h x y _) fun r hr=>?_
 refine T.cond (fun hc=>T.ret ⟨p0,p0⟩) (fun hc=>?_)
 have h0:r.2=0:=by simpa using hc
 obtain ⟨hv,cam⟩:=hr
 obtain ⟨⟨w1,w2⟩,⟨h1,h2⟩,hl,hf,o1,o2,o3,ee1,ee2⟩:=cam h0
 have eye:pin c.gB0:=by
  simp only [rZ,uF] at ee1 ee2
  exact ⟨⟨by omega,by omega⟩,⟨by omega,by omega⟩,by omega,by omega⟩
 refine T.bind (P:=fun p=>pin p.1∧vin p.2) ?_ fun p hp=>?_
 ·refine T.cond (fun _=>?_) (fun _=>T.ret ⟨eye,hv⟩)
  refine T.bind (aRr k c v (aCv (aBv o1)) (aCv (aBv o2))) fun r5 h5=>?_
  simp only [aS]
  refine T.eq (uH _ ⟨by omega,by omega⟩) ?_
  refine T.eq (uH _ ⟨by decide,by decide⟩) ?_
  refine T.eq (yG (k+3) (fF _) (fF _) (by decide)) ?_
  refine T.eq (sM (k+3) hv (fF _)) ?_
  refine T.eq (aAK _ h5) ?_
  refine T.eq (aFF _ (pS _ _) (aAI _)) ?_
  exact T.ret ⟨⟨dH _,dH _,dH _⟩,aFI _ _⟩
 ·refine T.eq (aNj (k+3) hp.2) ?_
  exact T.cond (fun hc=>T.ret ⟨p0,p0⟩) (fun _=>T.ret ⟨hp.1,aCv (aHU hp.2)⟩)
end Go.UK
