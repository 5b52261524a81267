/- A part of the proof: what the functions of the program compute. -/
import Derived.Test.YtmfanigkgeohiaaGreatJ2
namespace Go.UK
open Go Go.Proofs
set_option maxRecDepth 20000
set_option maxHeartbeats 2000000
set_option linter.all false
theorem aO0 {a:Int} (m:Nat) (hm:m < 9223372036854775808):0≤eZ .i64 a (m:Int)∧eZ .i64 a (m:Int)≤(m:Int):=by
 have h1:(BitVec.ofInt 64 (m:Int)).toNat=m:=aD2 m (by omega)
 have h2:(BitVec.ofInt 64 a &&& BitVec.ofInt 64 (m:Int)).toNat≤m:=by
  rw [BitVec.toNat_and,h1];exact Nat.and_le_right
 have h3:eZ .i64 a (m:Int)=I64 ((BitVec.ofInt 64 a &&& BitVec.ofInt 64 (m:Int)).toNat:Int):=rfl
 rw [h3]
 generalize (BitVec.ofInt 64 a &&& BitVec.ofInt 64 (m:Int)).toNat=x at *
 rw [bF (by omega) (by omega)]
 omega
theorem keyT (N:Nat) (hN:20 < N) (a:Int):T (uY N a) (fun _=>True):=by
 unfold uY
 refine T.eq (a:=()) (by decide) ?_
 refine T.bind (P:=fun _=>True) ?_ fun v _=>?_
 ·unfold cpV
  rw [dif_pos (by decide)]
  exact T.ret trivial
 refine T.bind (T.loop0 (n:=8) (by decide) (fun _ _=>True) (F:=nQ N a) (fun k s i hi _ Q hk=>?_) (fun k s=>by rw [nQ,df (by omega),cond_false]) (by omega) trivial) fun v _=>T.ret trivial
 rw [nQ,dt (by omega),cond_true,show (8:Int)=((8:Nat):Int) from rfl,i4 (by omega),show (24:Int)=((24:Nat):Int) from rfl,ia (by omega)]
 refine T.eq (aA4 .u64 (by omega)) ?_
 refine T.bind (T.inRO (by omega) (by omega)) fun _ _=>T.bind (T.vget (by omega)) fun e _=>?_
 rw [eE (by omega)]
 exact hk _ trivial
theorem aSC (N:Nat) (hN:20 < N) (p:bK) (a:Int):T (iF N p a) (fun _=>True):=by
 unfold iF
 refine T.bind (T.loop0 (n:=4) (by decide) (fun _ _=>True) (F:=hQ N p) (fun k s i hi _ Q hk=>?_) (fun k s=>by rw [hQ,df (by omega),cond_false]) (by omega) trivial) fun v _=>?_
 ·rw [hQ,dt (by omega),cond_true,show (8:Int)=((8:Nat):Int) from rfl,i4 (by omega),show (4:Int)=((4:Nat):Int) from rfl,ia (by omega)]
  refine T.eq (aA4 .u32 (by omega)) ?_
  refine T.eq (aA4 .u32 (by omega)) ?_
  refine T.bind (T.inRO (by omega) (by omega)) fun _ _=>T.bind (T.vget (by omega)) fun e _=>?_
  refine T.bind (T.inRO (by omega) (by omega)) fun _ _=>T.bind (T.vget (by omega)) fun e _=>?_
  rw [eE (by omega)]
  exact hk _ trivial
 refine T.bind (keyT N hN a) fun _ _=>T.bind (aSG N hN _ _ _) fun _ _=>T.ret trivial
theorem aPa (N:Nat) (b:Vector Int 64) (a:Int):T (nV N b a) (fun _=>True):=by
 unfold nV
 have h:=aO0 (a:=a) 15 (by decide)
 simp only [aQ]
 generalize hx:eZ .i64 a 15=x at *
 rw [show ((15:Nat):Int)=15 from rfl] at h
 rw [show I64 (4*x)=4*x from bF (by omega) (by omega),show I64 (4*x+1)=4*x+1 from bF (by omega) (by omega),show I64 (4*x+2)=4*x+2 from bF (by omega) (by omega),show I64 (4*x+3)=4*x+3 from bF (by omega) (by omega)]
 refine T.bind (T.idx (by omega) (by simp;omega)) fun _ _=>T.bind (T.idx (by omega) (by simp;omega)) fun _ _=>T.bind (T.idx (by omega) (by simp;omega)) fun _ _=>T.bind (T.idx (by omega) (by simp;omega)) fun _ _=>T.ret trivial
theorem T.loopG {σ ρ:Type} {n:Nat} (I:Nat→σ→Prop) (Q:ρ→Prop) {F:Nat→σ→Int→Option ρ}
  (hstep:∀ k s i,i < n→I i s→(∀ s',I (i+1) s'→T (F k s' ((i+1:Nat):Int)) Q)→T (F (k+1) s (i:Int)) Q) (hend:∀ k s,I n s→T (F (k+1) s (n:Int)) Q) :
  ∀ (k i:Nat) (s:σ),I i s→i≤n→n - i < k→T (F k s (i:Int)) Q
 | 0,i,_,_,_,h=>by omega
 | k+1,i,s,hs,hi,hk=>by
  by_cases h:i < n
  ·exact hstep k s i h hs fun s' h'=>T.loopG I Q hstep hend k (i+1) s' h' (by omega) (by omega)
  ·obtain rfl:i=n:=by omega
   exact hend _ _ hs
theorem T.loopG0 {σ ρ:Type} {n:Nat} (I:Nat→σ→Prop) (Q:ρ→Prop) {F:Nat→σ→Int→Option ρ}
  (hstep:∀ k s i,i < n→I i s→(∀ s',I (i+1) s'→T (F k s' ((i+1:Nat):Int)) Q)→T (F (k+1) s (i:Int)) Q) (hend:∀ k s,I n s→T (F (k+1) s (n:Int)) Q) {N:Nat} (hN:n < N) {s:σ} (hs:I 0 s):T (F N s 0) Q:=
 T.loopG I Q hstep hend N 0 s hs (by omega) (by omega)
theorem T.true {α:Type} {o:Option α} {P:α→Prop} (h:T o P):T o (fun _=>True):=h.mono fun _ _=>trivial
theorem aCu (N:Nat) {a b:Int} (ha:cS a) (hb:cS b):T (fJ N a b) wok:=by
 obtain ⟨w,e,h,_⟩:=aGL N ha hb
 exact ⟨w,e,h⟩
theorem aKQ {x y c:Int} (hx:0≤x) (hx':x < 18446744073709551616) (hy:0≤y) (hy':y < 18446744073709551616) (hc:0≤c) (hc':c≤1):T (xJ x y c) (fun r=>0≤r.1∧r.1 < 18446744073709551616∧0≤r.2∧r.2≤1):=by
 unfold xJ
 rw [dt hx,dt hy,dt hc,dt hc']
 exact ⟨_,rfl,by dsimp only;omega,by dsimp only;omega,by dsimp only;omega,by dsimp only;omega⟩
theorem aO4 (k:Nat) {w:aP} {y:Int} (hw:wok w) (hy:cS y):T (oP (k+3) w y) (fun r=>wok r.1∧cS r.2.1):=by
 obtain ⟨⟨w1,w2⟩,w3,w4⟩:=hw
 unfold oP
 refine T.cond (fun _=>T.ret ⟨⟨z64,by decide,by decide⟩,z64⟩) (fun hc=>?_)
 have hy0:y≠0:=by simpa using hc
 refine T.bind (P:=fun p=>0≤p.1∧p.1 < 18446744073709551616∧0≤p.2∧p.2 < 18446744073709551616) ?_ fun p hp=>?_
 ·refine T.cond (fun _=>?_) (fun _=>T.ret ⟨aAM _,aBp _,w3,w4⟩)
  obtain ⟨h',l',e,a1,a2,a3,a4,_⟩:=aFJ (k+3) (h:=U64 w.gHi) (l:=w.gLo) (aAM _) (aBp _) w3 w4
  exact T.eq e (T.ret ⟨a1,a2,a3,a4⟩)
 obtain ⟨p1,p2,p3,p4⟩:=hp
 refine T.eq (wsz (k+3) hy) ?_
 have hY:0 < (if y < 0 then -y else y)∧(if y < 0 then -y else y) < 18446744073709551616:=by obtain ⟨y1,y2⟩:=hy;split <;> omega
 dsimp only
 generalize (if y < 0 then -y else y)=Y at *
 obtain ⟨Y1,Y2⟩:=hY
 refine T.eq (aIw (k+3) Y1 p1 p2) ?_
 refine T.eq (aO1 k Y1 Y2 (Int.emod_nonneg _ (by omega)) (Int.emod_lt_of_pos _ Y1) p3 p4) ?_
 dsimp only
 have q1:0≤p.1 / Y∧p.1 / Y < 18446744073709551616:=⟨Int.ediv_nonneg p1 (by omega),Int.lt_of_le_of_lt (Int.ediv_le_self _ p1) p2⟩
 have m1:=Int.emod_nonneg p.1 (show Y≠0 by omega)
 have m2:=Int.emod_lt_of_pos p.1 Y1
 have q2:0≤(p.1 % Y*18446744073709551616+p.2) / Y:=Int.ediv_nonneg (by omega) (by omega)
 have q3:(p.1 % Y*18446744073709551616+p.2) / Y < 18446744073709551616:=by
  rw [Int.ediv_lt_iff_lt_mul Y1]
  generalize p.1 % Y=m at *
  omega
 generalize (p.1 % Y*18446744073709551616+p.2) / Y=Q at *
 generalize (p.1 % Y*18446744073709551616+p.2) % Y=R at *
 generalize p.1 / Y=P1 at *
 refine T.bind (P:=fun p=>0≤p.1∧p.1 < 18446744073709551616∧0≤p.2.1∧p.2.1 < 18446744073709551616) ?_ fun p6 h6=>?_
 ·simp only [aQ]
  refine T.cond (fun _=>?_) (fun _=>T.ret ⟨q1.1,q1.2,q2,q3⟩)
  refine T.bind (aKQ q2 q3 (by decide) (by decide) (by decide) (by decide)) fun r9 h9=>T.ret ⟨aAM _,aBp _,h9.1,h9.2.1⟩
 simp only [aQ]
 refine T.bind (aPX (k+3) _ h6.1 h6.2.1 h6.2.2.1 h6.2.2.2) fun r11 h11=>?_
 refine T.cond (fun _=>T.ret ⟨⟨z64,by decide,by decide⟩,z64⟩) (fun _=>?_)
 refine T.bind (P:=fun _=>True) (T.cond (fun _=>T.ret trivial) (fun _=>T.ret trivial)) fun p12 _=>T.ret ⟨h11,dE _⟩
theorem aFO (k:Nat) {a b y:Int} (ha:cS a) (hb:cS b) (hy:cS y):T (iV (k+3) a b y) cS:=by
 unfold iV
 refine T.cond (fun _=>T.ret z64) (fun _=>?_)
 refine T.bind (aCu _ ha hb) fun r1 h1=>T.bind (aO4 k h1 hy) fun r2 h2=>T.bind (aFF _ h2.1) fun r3 h3=>?_
 refine T.cond (fun _=>T.ret h3.1) (fun _=>T.cond (fun _=>T.ret ⟨by decide,by decide⟩) (fun _=>T.ret ⟨by decide,by decide⟩))
theorem wofT (N:Nat) {a:Int} (ha:cS a):T (sS N a) wok:=by
 unfold sS
 obtain ⟨h1,h2⟩:=ha
 refine T.ret ⟨?_,aAM _,aBp _⟩
 show -9223372036854775808≤shr .i64 a 63∧shr .i64 a 63≤9223372036854775807
 rw [aKZ]
 omega
theorem aLg (N:Nat) (a b:aP):T (nD N a b) (fun _=>True):=by
 unfold nD
 simp only [aQ]
 refine T.cond (fun _=>T.ret trivial) (fun _=>T.bind (P:=fun _=>True) (T.cond (fun _=>T.ret trivial) (fun _=>T.ret trivial)) fun _ _=>T.cond (fun _=>T.ret trivial) (fun _=>T.ret trivial))
theorem aOz (N:Nat) (l:List aP) (h:∀ w∈l,wok w) (hl:l.length < N) (hb:l.length < 1000000):T (uG N l) (fun r=>wok r.1):=by
 unfold uG
 have w0:wok (aP.mk 0 0):=⟨z64,by decide,by decide⟩
 refine T.bind (T.loopG0 (n:=l.length) (fun _ s=>wok s) (fun r=>match r with | .inl s=>wok s | .inr p=>wok p.1) (F:=qN N l) (fun k s i hi hs hk=>?_) (fun k s hs=>?_) hl w0) fun o ho=>?_
 ·rw [qN,aQ,dt (by omega),cond_true,eW,List.getElem?_eq_getElem hi,Option.bind_some]
  have he:=h _ (List.getElem_mem hi)
  refine T.bind (aKQ hs.2.1 hs.2.2 he.2.1 he.2.2 (by decide) (by decide)) fun r6 h6=>T.bind (aKQ (aAM _) (aBp _) (aAM _) (aBp _) h6.2.2.1 h6.2.2.2) fun r7 h7=>?_
  simp only [aQ]
  refine T.cond (fun _=>T.ret w0) (fun _=>?_)
  rw [eE (by omega)]
  exact hk _ ⟨dE _,h6.1,h6.2.1⟩
 ·rw [qN,aQ,df (by omega),cond_false]
  exact T.ret hs
 ·cases o with
  | inl s=>exact T.ret ho
  | inr p=>exact T.ret ho
theorem aPl (N:Nat) (l:List Int) (h:∀ x∈l,cS x) (hl:l.length < N) (hb:l.length < 1000000):T (lY N l) cS:=by
 unfold lY
 refine T.bind (T.loopG0 (n:=l.length) (fun _ s=>cS s) cS (F:=mP N l) (fun k s i hi hs hk=>?_) (fun k s hs=>?_) hl z64) fun o ho=>T.ret ho
 ·rw [mP,aQ,dt (by omega),cond_true,eW,List.getElem?_eq_getElem hi,Option.bind_some]
  refine T.eq (aGX hs (h _ (List.getElem_mem hi))) ?_
  rw [eE (by omega)]
  exact hk _ (eX _)
 ·rw [mP,aQ,df (by omega),cond_false]
  exact T.ret hs
theorem aDv (k:Nat) (l:List aB) (h:∀ x∈l,vin x) (hl:l.length < k+3) (hb:l.length < 1000000):T (iE (k+3) l) vin:=by
 unfold iE
 refine T.bind (T.loopG0 (n:=l.length) (fun _ s=>vin s) vin (F:=jT (k+3) l) (fun k' s i hi hs hk=>?_) (fun k s hs=>?_) hl ⟨⟨by decide,by decide⟩,⟨by decide,by decide⟩,⟨by decide,by decide⟩⟩) fun o ho=>T.ret ho
 ·rw [jT,aQ,dt (by omega),cond_true,eW,List.getElem?_eq_getElem hi,Option.bind_some]
  refine T.eq (aOs k hs (h _ (List.getElem_mem hi))) ?_
  rw [eE (by omega)]
  exact hk _ ⟨eX _,eX _,eX _⟩
 ·rw [jT,aQ,df (by omega),cond_false]
  exact T.ret hs
theorem aQQ (k:Nat) (l:List aB) (h:∀ x∈l,vin x) (hl:l.length < k+3) (hb:l.length < 1000):T (kZ (k+3) l) vin:=by
 refine ⟨_,aFN k l h hl hb,?_⟩
 have:∀ (l:List aB) (a:aB),vin a→vin (l.foldl aFb a):=by
  intro l
  induction l with
  | nil=>intro a ha;exact ha
  | cons x l ih=>intro a _;exact ih _ (aAl _ _)
 exact this l _ ⟨z64,z64,z64⟩
theorem aNC (k:Nat) {u v:aB} (hu:vin u) (hv:vin v):T (qT (k+4) u v) cS:=by
 unfold qT
 refine T.bind (aDv (k+1) _ (by intro x hx;simp at hx;rcases hx with rfl | rfl;exact hu;exact hv) (by simp) (by simp)) fun r hr=>?_
 refine T.bind (aPl _ _ (by intro x hx;simp at hx;rcases hx with rfl | rfl | rfl;exact hr.1;exact hr.2.1;exact hr.2.2) (by simp) (by simp)) fun r2 h2=>T.ret h2
theorem wok0 {x:Int} (h:cS x):wok (aP.mk x 0):=⟨h,Int.le_refl _,show (0:Int) < 18446744073709551616 by decide⟩
theorem wval0 {x:Int} (h:0≤x):0≤nN (aP.mk x 0):=by show 0≤x*18446744073709551616+0;omega
theorem aIq (N:Nat) (a:Int):T (nH N a) (fun r => -1073741824≤r∧r≤1073741824):=by
 unfold nH
 simp only [aQ,tX,rP]
 exact T.ret ⟨by omega,by omega⟩
theorem aH9 (k:Nat) {a b:Int} (ha:cS a) (hb:cS b):T (jV (k+3) a b) cS:=by
 unfold jV
 refine T.bind (aO4 k (w:=aP.mk a 0) (wok0 ha) hb) fun r1 h1=>T.bind (aFF _ h1.1) fun r2 h2=>T.ret h2.1
theorem aOV {a:Int} (h:-1073741824≤a∧a≤1073741824):0≤a*a∧a*a≤1152921504606846976:=by
 have h0:a*a=(a.natAbs:Int)*(a.natAbs:Int):=by rw [← Int.natAbs_mul_self' a]
 have h1:a.natAbs≤1073741824:=by omega
 have h2:a.natAbs*a.natAbs≤1073741824*1073741824:=Nat.mul_le_mul h1 h1
 rw [h0]
 constructor
 ·exact_mod_cast Nat.zero_le _
 ·have:((a.natAbs*a.natAbs:Nat):Int)≤((1073741824*1073741824:Nat):Int):=by exact_mod_cast h2
  rw [Int.natCast_mul] at this
  exact this
theorem zG (k:Nat) (p:aC):T (fI (k+65) p) vin:=by
 unfold fI
 refine T.bind (aIq _ _) fun r1 h1=>T.bind (aIq _ _) fun r2 h2=>T.bind (aIq _ _) fun r3 h3=>?_
 simp only [aQ]
 have s1:=aOV h1
 have s2:=aOV h2
 have s3:=aOV h3
 have hx:0≤I64 (I64 (I64 (r1*r1)+I64 (r2*r2))+I64 (r3*r3))∧I64 (I64 (I64 (r1*r1)+I64 (r2*r2))+I64 (r3*r3))≤9223372036854775807:=by
  generalize r1*r1=a at *
  generalize r2*r2=b at *
  generalize r3*r3=c at *
  rw [bF (x:=a) (by omega) (by omega),bF (x:=b) (by omega) (by omega),bF (x:=c) (by omega) (by omega),bF (x:=a+b) (by omega) (by omega),bF (by omega) (by omega)]
  omega
 generalize I64 (I64 (I64 (r1*r1)+I64 (r2*r2))+I64 (r3*r3))=X at *
 obtain ⟨r,e,_⟩:=aQ0 k (w:=aP.mk X 0) (wok0 ⟨by omega,hx.2⟩) (wval0 hx.1)
 refine T.eq e ?_
 refine T.cond (fun _=>T.ret ⟨z64,z64,z64⟩) (fun _=>?_)
 have c:∀ {r:Int},(-1073741824≤r∧r≤1073741824)→cS r:=fun h=>⟨by omega,by omega⟩
 refine T.bind (aH9 (k+62) (c h1) (dE _)) fun _ a=>T.bind (aH9 (k+62) (c h2) (dE _)) fun _ b=>T.bind (aH9 (k+62) (c h3) (dE _)) fun _ d=>T.ret ⟨a,b,d⟩
theorem aIk (N:Nat) {a:Int} (ha:cS a):T (nG N a) wok:=by
 unfold nG
 exact T.bind (aCu _ ha ha) fun r h=>T.ret h
theorem aPp (k:Nat) {v:aB} (hv:vin v):T (oI (k+65) v) cS:=by
 unfold oI
 obtain ⟨a,b,c⟩:=hv
 refine T.bind (aIk _ a) fun r1 h1=>T.bind (aIk _ b) fun r2 h2=>T.bind (aIk _ c) fun r3 h3=>T.bind (aOz _ _ (by intro x hx;simp at hx;rcases hx with rfl | rfl | rfl;exact h1;exact h2;exact h3) (by simp) (by simp)) fun r4 h4=>?_
 refine T.cond (fun _=>T.ret ⟨by decide,by decide⟩) (fun _=>?_)
 simp only [aQ]
 refine T.bind (P:=fun _=>True) ?_ fun r5 _=>T.ret (dE _)
 by_cases h:r4.1.gHi < 0
 ·unfold rL
  rw [dt h,cond_true]
  exact T.ret trivial
 ·obtain ⟨r,e,_⟩:=aQ0 k (w:=r4.1) h4 (by obtain ⟨_,q,_⟩:=h4;show 0≤r4.1.gHi*18446744073709551616+r4.1.gLo;omega)
  exact ⟨_,e,trivial⟩
theorem aHt {α:Type} (l:List α) (G:α→Option Int) (P:α→Prop) {F:Nat→Int→Option (Sum Unit Int)}
  (hF:∀ k i,F (k+1) i=aV (decide (i < ((l.length:Int)))) fun x=>cond x (Option.bind (idx l i) fun e=>Option.bind (G e) fun r=>cond (r != 0) (some (Sum.inr r)) (F k (I64 (i+1)))) (some (Sum.inl (()))))
  (hG:∀ x∈l,T (G x) (fun r=>r=0→P x)) {N:Nat} (hN:l.length < N) (hl:l.length < 1000000) :
  T (Option.bind (F N 0) fun o=>lP o (fun _=>some 0) (fun r=>some r)) (fun r=>r=0→∀ x∈l,P x):=by
 refine T.bind (T.loopG0 (n:=l.length) (fun i _=>∀ j,(h:j < l.length)→j < i→P l[j]) (fun o=>match o with | .inl _=>∀ x∈l,P x | .inr r=>r≠0) (F:=fun k (_:Unit) i=>F k i) (fun k s i hi hs hk=>?_) (fun k s hs=>?_) hN (s:=()) (fun j _ h=>absurd h (by omega))) fun o ho=>?_
 ·rw [hF,aQ,dt (by omega),cond_true,eW,List.getElem?_eq_getElem hi,Option.bind_some]
  refine T.bind (hG _ (List.getElem_mem hi)) fun r hr=>?_
  refine T.cond (fun hc=>T.ret (by simpa using hc)) (fun hc=>?_)
  rw [eE (by omega)]
  refine hk () fun j h hj=>?_
  by_cases e:j=i
  ·subst e;exact hr (by simpa using hc)
  ·exact hs j h (by omega)
 ·rw [hF,aQ,df (by omega),cond_false]
  refine T.ret fun x hx=>?_
  obtain ⟨j,h,rfl⟩:=List.getElem_of_mem hx
  exact hs j h h
 ·cases o with
  | inl _=>exact T.ret fun _=>ho
  | inr r=>exact T.ret fun e=>absurd e ho
theorem aNy {α:Type} (l:List α) (G:α→Option Bool) (P:α→Prop) {F:Nat→Int→Option (Sum Unit Int)}
  (hF:∀ k i,F (k+1) i=aV (decide (i < ((l.length:Int)))) fun x=>cond x (Option.bind (idx l i) fun e=>Option.bind (G e) fun r=>cond r (some (Sum.inr i)) (F k (I64 (i+1)))) (some (Sum.inl (()))))
  (hG:∀ x∈l,T (G x) (fun r=>r=false→P x)) {N:Nat} (hN:l.length < N) (hl:l.length < 1000000) :
  T (Option.bind (F N 0) fun o=>lP o (fun _=>some (-1)) (fun r=>some r)) (fun r=>decide (r≥0)=false→∀ x∈l,P x):=by
 refine T.bind (T.loopG0 (n:=l.length) (fun i _=>∀ j,(h:j < l.length)→j < i→P l[j]) (fun o=>match o with | .inl _=>∀ x∈l,P x | .inr r=>0≤r) (F:=fun k (_:Unit) i=>F k i) (fun k s i hi hs hk=>?_) (fun k s hs=>?_) hN (s:=()) (fun j _ h=>absurd h (by omega))) fun o ho=>?_
 ·rw [hF,aQ,dt (by omega),cond_true,eW,List.getElem?_eq_getElem hi,Option.bind_some]
  refine T.bind (hG _ (List.getElem_mem hi)) fun r hr=>?_
  refine T.cond (fun hc=>T.ret (by dsimp only;omega)) (fun hc=>?_)
  rw [eE (by omega)]
  refine hk () fun j h hj=>?_
  by_cases e:j=i
  ·subst e;exact hr hc
  ·exact hs j h (by omega)
 ·rw [hF,aQ,df (by omega),cond_false]
  refine T.ret fun x hx=>?_
  obtain ⟨j,h,rfl⟩:=List.getElem_of_mem hx
  exact hs j h h
 ·cases o with
  | inl _=>exact T.ret fun _=>ho
  | inr r=>exact T.ret fun e=>absurd (of_decide_eq_false e) (by simpa using ho)
def pwi (m:Int) (p:aC):Prop:=(-m≤p.gX∧p.gX≤m)∧(-m≤p.gY∧p.gY≤m) ∧ -m≤p.gZ∧p.gZ≤m
theorem aCj {m:Int} {p:aC} (h:pwi m p) (hm:m≤1000000000):pin p:=by
 obtain ⟨⟨a,b⟩,⟨c,d⟩,e,f⟩:=h
 exact ⟨⟨by omega,by omega⟩,⟨by omega,by omega⟩,by omega,by omega⟩
theorem aIn (N:Nat) (p:aC) {m:Int} (hm:0≤m) (hm':m≤1000000000):T (qF N p m) (fun r=>r=true↔pwi m p):=by
 unfold qF
 simp only [aQ,rP,tX]
 rw [bF (by omega) (by omega)]
 unfold pwi
 refine T.bind (P:=fun r=>r=true↔((-m≤p.gX∧p.gX≤m)∧(-m≤p.gY∧p.gY≤m) ∧ -m≤p.gZ∧p.gZ≤m)) ?_ fun r h=>T.ret h
 refine T.cond (fun h=>T.ret ?_) (fun h=>T.ret ?_)
 ·have:=of_decide_eq_true h
  rw [decide_eq_true_eq]
  omega
 ·have:=of_decide_eq_false h
  constructor
  ·intro h;cases h
  ·intro h;omega
theorem aJN (N:Nat) (a b:aC):T (pM N a b) (fun r=>r=true→pwi 65536 a∧pwi 131072 b∧aC.eq b (aC.mk 0 0 0)=false):=by
 unfold pM
 refine T.bind (P:=fun r=>r=true→pwi 65536 a∧pwi 131072 b∧aC.eq b (aC.mk 0 0 0)=false) ?_ fun r h=>T.ret h
 refine T.bind (aIn N a (by decide) (by decide)) fun r2 h2=>?_
 refine T.cond (fun hc=>?_) (fun _=>T.ret fun h=>by cases h)
 refine T.bind (aIn N b (by decide) (by decide)) fun r3 h3=>?_
 refine T.cond (fun hc'=>?_) (fun _=>T.ret fun h=>by cases h)
 simp only [aQ]
 refine T.ret fun h=>⟨h2.1 hc,h3.1 hc',by simpa using h⟩
theorem aI2 (N:Nat) (a b:aC):T (lA N a b) pin:=⟨_,rfl,dE _,dE _,dE _⟩
theorem aIb (N:Nat) (a b:aC):T (mT N a b) pin:=⟨_,rfl,dE _,dE _,dE _⟩
theorem aJa (N:Nat) (a b:aC):T (qP N a b) cS:=⟨_,rfl,dE _⟩
def lB (m:aL):Prop:=cS m.gT∧cS m.gM∧cS m.gU∧cS m.gV
theorem wJ : lB (aL.mk 0 0 0 0):=⟨z64,z64,z64,z64⟩
theorem hit1T (N:Nat) (p:aC):T (uP N p) (fun r=>r=false→pwi 65536 p):=by
 unfold uP
 refine T.bind (aIn N p (by decide) (by decide)) fun r h=>T.ret fun e=>h.1 (by simpa using e)
theorem aQt (N:Nat) (l:List aC) (hN:l.length < N) (hl:l.length < 1000000):T (cA N l) (fun r=>r=false→∀ p∈l,pwi 65536 p):=by
 unfold cA dP
 refine T.bind (aNy l (uP N) (pwi 65536) (fun k i=>by rw [dD]) (fun p _=>hit1T N p) hN hl) fun r h=>T.ret h
theorem hitT (N:Nat) (hN:3 < N) (o d:aC) (P:Vector aC 3):T (pG N o d P) (fun r=>lB r.1):=by
 unfold pG
 refine T.bind (P:=fun _=>True) ?_ fun p1 _=>?_
 ·refine T.bind (aJN N o d) fun r2 h2=>?_
  refine T.cond (fun _=>T.ret trivial) (fun _=>?_)
  refine T.bind (T.slc (by decide) (by decide) (by simp)) fun s3 h3=>T.bind (aQt N s3 (by omega) (by omega)) fun r4 _=>T.ret trivial
 refine T.cond (fun _=>T.ret wJ) (fun _=>?_)
 refine T.bind (T.idx (by decide) (by simp)) fun e5 _=>T.bind (T.idx (by decide) (by simp)) fun e6 _=>T.bind (aI2 N _ _) fun r7 _=>?_
 refine T.bind (T.idx (by decide) (by simp)) fun e8 _=>T.bind (T.idx (by decide) (by simp)) fun e9 _=>T.bind (aI2 N _ _) fun r10 _=>?_
 refine T.bind (aIb N _ _) fun r11 _=>T.bind (T.idx (by decide) (by simp)) fun e12 _=>T.bind (aI2 N _ _) fun r13 _=>T.bind (aIb N _ _) fun r14 _=>?_
 refine T.bind (aJa N _ _) fun r15 h15=>T.bind (aJa N _ _) fun r16 h16=>T.bind (aJa N _ _) fun r17 h17=>T.bind (aJa N _ _) fun r18 h18=>?_
 refine T.bind (P:=lB) (T.cond (fun _=>T.ret ⟨dE _,dE _,dE _,dE _⟩) (fun _=>T.ret ⟨h15,h16,h17,h18⟩)) fun p19 h19=>?_
 simp only [aQ]
 exact T.cond (fun _=>T.ret wJ) (fun _=>T.ret h19)
theorem aLd (N:Nat) {m n:aL} (hm:lB m) (hn:lB n):T (qH N m n) (fun _=>True):=by
 unfold qH
 simp only [aQ]
 refine T.cond (fun _=>T.ret trivial) (fun _=>T.bind (aCu N hm.1 hn.2.1) fun r2 _=>T.bind (aCu N hn.1 hm.2.1) fun r3 _=>T.bind (aLg N _ _) fun r4 _=>T.ret trivial)
theorem aQu (N:Nat) (hN:2 < N) {a b:Int} (ha:cS a) (hb:cS b):T (vZ N a b) cS:=by
 unfold vZ
 refine T.bind (wofT N ha) fun r1 h1=>T.bind (wofT N hb) fun r2 h2=>T.bind (aOz N _ (by intro x hx;simp at hx;rcases hx with rfl | rfl;exact h1;exact h2) (by simpa using hN) (by simp)) fun r3 h3=>?_
 refine T.bind (wofT N ⟨by decide,by decide⟩) fun r4 _=>T.bind (wofT N ⟨by decide,by decide⟩) fun r5 _=>T.bind (aLg N _ _) fun r6 _=>?_
 refine T.cond (fun _=>T.ret ⟨by decide,by decide⟩) (fun _=>T.bind (aLg N _ _) fun r7 _=>?_)
 refine T.cond (fun _=>T.ret ⟨by decide,by decide⟩) (fun _=>T.bind (aFF N h3) fun r8 h8=>T.ret h8.1)
theorem aId (k:Nat) {a b:Int} {m:aL} (ha:cS a) (hb:cS b) (hm:lB m):T (jO (k+3) a b m) cS:=by
 unfold jO
 refine T.cond (fun _=>T.bind (aQu _ (by omega) ha z64) fun r h=>T.ret h) (fun _=>?_)
 refine T.bind (aFO k hb hm.1 hm.2.1) fun r2 h2=>T.bind (aQu _ (by omega) ha h2) fun r h=>T.ret h
theorem aP5 (k:Nat) {o d:aC} {m:aL} (ho:pin o) (hd:pin d) (hm:lB m):T (qC (k+3) o d m) pin:=by
 unfold qC
 refine T.bind (aId k ho.1 hd.1 hm) fun _ a=>T.bind (aId k ho.2.1 hd.2.1 hm) fun _ b=>T.bind (aId k ho.2.2 hd.2.2 hm) fun _ c=>T.ret ⟨a,b,c⟩
def few (s:aG):Prop:=s.gG.length≤20∧s.gB1.length≤10∧s.gA2.length≤6∧s.gJ.length≤5∧(∀ t∈s.gA2,t.gA3.length≤260)
theorem aFD {α:Type} (l:List α) (n:Nat):(l.take n).length≤n:=by rw [List.length_take];omega
theorem T.slcMin {α:Type} (l:List α) (n:Nat):T (wC l 0 (kE (l.length:Int) (n:Int))) (fun r=>r=l.take n):=⟨_,aN6 l n,rfl⟩
theorem fewT (N:Nat) (hN:10 < N) (s:aG):T (pC N s) few:=by
 unfold pC
 have main:∀ (m i:Nat) (a:List aD),i≤4→a.length=i→(∀ t∈a,t.gA3.length≤260)→5 - i≤m→T (mJ N s m a (i:Int)) (fun r=>r.length≤4∧∀ t∈r,t.gA3.length≤260):=by
  intro m
  induction m with
  | zero=>intro i a h1 _ _ h;omega
  | succ m ih=>
   intro i a h1 h2 h3 h4
   rw [mJ]
   simp only [aQ]
   refine T.cond (fun hc=>?_) (fun _=>T.ret ⟨by omega,h3⟩)
   have hc1:(i:Int) < (s.gA2.length:Int)∧(i:Int) < 4:=by
    by_cases h:(i:Int) < (s.gA2.length:Int)
    ·rw [dt h,cond_true] at hc;exact ⟨h,of_decide_eq_true hc⟩
    ·rw [df h,cond_false] at hc;cases hc
   refine T.bind (T.idx (by omega) hc1.1) fun e6 _=>?_
   refine T.bind (T.slcMin e6.gA3 260) fun s8 h8=>?_
   refine T.eq (qD (by simp;omega)) ?_
   rw [eE (by omega)]
   refine ih (i+1) _ (by omega) (by simp;omega) ?_ (by omega)
   intro t ht
   rw [List.mem_append,List.mem_singleton] at ht
   rcases ht with ht | rfl
   ·exact h3 t ht
   ·rw [h8];exact aFD _ _
 refine T.bind (main N 0 [] (by decide) rfl (fun t h=>absurd h (by simp)) (by omega)) fun p1 h1=>?_
 simp only [aQ]
 refine T.bind (T.slcMin s.gG 20) fun s11 h11=>T.bind (T.slcMin s.gB1 8) fun s13 h13=>T.bind (T.slcMin s.gJ 5) fun s15 h15=>T.bind (T.slcMin s.gB6 20) fun s17 _=>T.bind (T.slcMin s.gB7 20) fun s19 _=>?_
 refine T.ret ⟨?_,?_,by have:=h1.1;show p1.length≤6;omega,?_,h1.2⟩
 ·show s11.length≤20;rw [h11];exact aFD _ _
 ·show s13.length≤10;rw [h13];exact Nat.le_trans (aFD _ _) (by decide)
 ·show s15.length≤5;rw [h15];exact aFD _ _
def aMB (s:aG) (t:aE):Prop:=(0≤t.gC8∧t.gC8 < (s.gB1.length:Int))∧t.gA9 < (s.gA2.length:Int)∧(∀ v∈t.gUv.toList,∀ x∈v.toList,0≤x∧x≤65535)∧∀ p∈t.gP.toList,pwi 65536 p
theorem v2mem {α:Type} {v:Vector α 2} {P:α→Prop} (h0:∀ x,v.toList[0]? = some x→P x) (h1:∀ x,v.toList[1]? = some x→P x):∀ x∈v.toList,P x:=by
 intro x hx
 obtain ⟨j,h,rfl⟩:=List.getElem_of_mem hx
 have h':j < 2:=by simpa using h
 match j,h' with
 | 0,_=>exact h0 _ (List.getElem?_eq_getElem h)
 | 1,_=>exact h1 _ (List.getElem?_eq_getElem h)
theorem aQh {α:Type} {v:Vector α 3} {P:α→Prop} (h0:∀ x,v.toList[0]? = some x→P x) (h1:∀ x,v.toList[1]? = some x→P x) (h2:∀ x,v.toList[2]? = some x→P x):∀ x∈v.toList,P x:=by
 intro x hx
 obtain ⟨j,h,rfl⟩:=List.getElem_of_mem hx
 have h':j < 3:=by simpa using h
 match j,h' with
 | 0,_=>exact h0 _ (List.getElem?_eq_getElem h)
 | 1,_=>exact h1 _ (List.getElem?_eq_getElem h)
 | 2,_=>exact h2 _ (List.getElem?_eq_getElem h)
theorem T.vg {α:Type} {m:Nat} {v:Vector α m} {i:Nat} (h:i < m):T (v.toList[i]?) (fun x=>v.toList[i]? = some x):=⟨_,Go.UK.aAF v i h,Go.UK.aAF v i h⟩
theorem T.vgI {α:Type} {m:Nat} {v:Vector α m} {i:Nat} (h:i < m):T (v.toList[(i:Int).toNat]?) (fun x=>v.toList[i]? = some x):=T.vg h
theorem dA {α:Type} {o:Option α} {a b:α} (h:o=some a) (h':o=some b):a=b:=by rw [h] at h';exact Option.some.inj h'
theorem triT (N:Nat) (hN:10 < N) (s:aG) (t:aE):T (pP N s t) (fun r=>r=0→aMB s t):=by
 unfold pP
 simp only [aQ]
 refine T.cond (fun _=>T.ret fun h=>by cases h) (fun hc=>?_)
 have c1:(0≤t.gC8∧t.gC8 < (s.gB1.length:Int))∧t.gA9 < (s.gA2.length:Int):=by
  have o:∀ {a:Prop} [Decidable a] {b:Bool},cond b true (decide a)=false→b=false∧¬ a:=by
   intro a _ b h
   cases b with
   | true=>cases h
   | false=>exact ⟨rfl,of_decide_eq_false h⟩
  obtain ⟨hc,_⟩:=o hc
  obtain ⟨hc,_⟩:=o hc
  obtain ⟨hc,h4⟩:=o hc
  obtain ⟨hc,_⟩:=o hc
  obtain ⟨hc,h2⟩:=o hc
  exact ⟨⟨by have:=of_decide_eq_false hc;omega,by omega⟩,by omega⟩
 refine T.bind (T.loopG0 (n:=3) (fun i _=>∀ j,(h:j < 3)→j < i→∀ x∈t.gUv[j].toList,0≤x∧x≤65535) (fun o=>match o with | .inl _=>∀ v∈t.gUv.toList,∀ x∈v.toList,0≤x∧x≤65535 | .inr r=>r≠0) (F:=fun k (_:Unit) i=>jZ N t k i) (fun k _ i hi hs hk=>?_) (fun k _ hs=>?_) (by omega) (s:=()) (fun j _ h=>absurd h (by omega))) fun o ho=>?_
 ·rw [jZ,dt (by omega),cond_true]
  refine T.bind (T.idx (by omega) (by simp;omega)) fun e10 h10=>?_
  have e10e:e10=t.gUv[i]:=dA h10 (by rw [Int.toNat_natCast];exact aAF _ _ hi)
  refine T.bind (P:=fun r=>r=false→∀ x∈e10.toList,0≤x∧x≤65535) ?_ fun p11 h11=>?_
  ·refine T.bind (T.inRO (by decide) (by decide)) fun _ _=>T.bind (T.vg (i:=0) (by decide)) fun a ha=>T.bind (T.inRO (by decide) (by decide)) fun _ _=>T.bind (T.vg (i:=1) (by decide)) fun b hb=>?_
   simp only [aQ,tX,rP]
   refine T.cond (fun _=>T.ret fun h=>by cases h) (fun h1=>?_)
   refine T.bind (T.inRO (by decide) (by decide)) fun _ _=>T.bind (T.vg (i:=0) (by decide)) fun a' ha'=>T.bind (T.inRO (by decide) (by decide)) fun _ _=>T.bind (T.vg (i:=1) (by decide)) fun b' hb'=>?_
   refine T.ret fun h2=>?_
   obtain rfl:=dA ha ha'
   obtain rfl:=dA hb hb'
   have h1:=of_decide_eq_false h1
   have h2:=of_decide_eq_false h2
   exact v2mem (fun x hx=>by obtain rfl:=dA ha hx;omega) (fun x hx=>by obtain rfl:=dA hb hx;omega)
  refine T.cond (fun _=>T.ret (fun h=>by cases h)) (fun hc=>?_)
  rw [eE (by omega)]
  refine hk () fun j h hj=>?_
  by_cases e:j=i
  ·subst e;rw [← e10e];exact h11 hc
  ·exact hs j h (by omega)
 ·rw [jZ,df (by omega),cond_false]
  refine T.ret fun v hv=>?_
  obtain ⟨j,h,rfl⟩:=List.getElem_of_mem hv
  have h':j < 3:=by simpa using h
  have:=hs j h' h'
  simpa using this
 cases o with
 | inr r=>exact T.ret fun e=>absurd e ho
 | inl _=>
 refine T.bind (T.loopG0 (n:=3) (fun i _=>∀ j,(h:j < 3)→j < i→pwi 65536 t.gP[j]) (fun o=>match o with | .inl _=>∀ v∈t.gP.toList,pwi 65536 v | .inr r=>r≠0) (F:=fun k (_:Unit) i=>jY N t k i) (fun k _ i hi hs hk=>?_) (fun k _ hs=>?_) (by omega) (s:=()) (fun j _ h=>absurd h (by omega))) fun o' ho'=>?_
 ·rw [jY,dt (by omega),cond_true]
  refine T.bind (T.idx (by omega) (by simp;omega)) fun e10 h10=>?_
  have e10e:e10=t.gP[i]:=dA h10 (by rw [Int.toNat_natCast];exact aAF _ _ hi)
  refine T.bind (aJN N _ _) fun r hr=>?_
  refine T.cond (fun _=>T.ret (fun h=>by cases h)) (fun hc=>?_)
  rw [eE (by omega)]
  refine hk () fun j h hj=>?_
  by_cases e:j=i
  ·subst e;rw [← e10e];exact (hr (by simpa using hc)).1
  ·exact hs j h (by omega)
 ·rw [jY,df (by omega),cond_false]
  refine T.ret fun v hv=>?_
  obtain ⟨j,h,rfl⟩:=List.getElem_of_mem hv
  have h':j < 3:=by simpa using h
  have:=hs j h' h'
  simpa using this
 cases o' with
 | inr r=>exact T.ret fun e=>absurd e ho'
 | inl _=>exact T.ret fun _=>⟨c1.1,c1.2,ho,ho'⟩
theorem aOK (N:Nat) (hN:30 < N) (s:aG) (h:few s):T (fA N s.gG s) (fun r=>r=0→∀ t∈s.gG,aMB s t):=by
 unfold fA
 have h1:=h.1
 refine aHt s.gG (fun t=>nB N t s) (aMB s) (fun k i=>by rw [fZ]) (fun t _=>?_) (by omega) (by omega)
 unfold nB
 exact T.bind (triT N (by omega) s t) fun r h=>T.ret h
theorem aDb (N:Nat) (m:Int) (l:List Int) (hN:l.length < N) (hl:l.length < 1000000):T (kA N m l) (fun r=>r=false→∀ x∈l,0≤x∧x≤m):=by
 unfold kA eD eS
 refine T.bind (P:=fun r=>r=false→∀ x∈l,0≤x∧x≤m) ?_ fun r h=>T.ret h
 refine T.bind (aNy l (fun e=>lF N e m) (fun x=>0≤x∧x≤m) (fun k i=>by rw [eC]) (fun x _=>?_) hN hl) fun r h=>T.ret h
 unfold lF
 simp only [aQ]
 refine T.ret fun h=>?_
 by_cases h1:x < 0
 ·rw [dt h1,cond_true] at h;cases h
 ·rw [df h1,cond_false] at h
  have:=of_decide_eq_false h
  omega
def aBG (m:aU):Prop:=(∀ x∈m.gB0.toList,0≤x∧x≤65535)∧0≤m.gD7∧m.gD7≤65535
theorem matT (N:Nat) (hN:10 < N) (m:aU):T (mZ N m) (fun r=>r=0→aBG m):=by
 unfold mZ
 refine T.bind (P:=fun r=>r=false→aBG m) ?_ fun p1 h1=>T.cond (fun _=>T.ret fun h=>by cases h) (fun hc=>T.ret fun _=>h1 hc)
 refine T.bind (aDb N 4 _ (by simp;omega) (by simp)) fun r2 _=>?_
 refine T.cond (fun _=>T.ret fun h=>by cases h) (fun _=>?_)
 refine T.bind (T.idx (by decide) (by simp)) fun a ha=>T.bind (T.idx (by decide) (by simp)) fun b hb=>T.bind (T.idx (by decide) (by simp)) fun c hc=>?_
 refine T.bind (aDb N 65535 _ (by simp;omega) (by simp)) fun r6 h6=>T.ret fun e=>?_
 have h:=h6 e
 refine ⟨aQh (fun x hx=>?_) (fun x hx=>?_) (fun x hx=>?_),h _ (by simp)⟩
 ·obtain rfl:=dA ha hx;exact h _ (by simp)
 ·obtain rfl:=dA hb hx;exact h _ (by simp)
 ·obtain rfl:=dA hc hx;exact h _ (by simp)
theorem aOF (N:Nat) (hN:30 < N) (s:aG) (h:few s):T (dQ N s.gB1) (fun r=>r=0→∀ t∈s.gB1,aBG t):=by
 unfold dQ
 have h1:=h.2.1
 exact aHt s.gB1 (mZ N) aBG (fun k i=>by rw [eH]) (fun t _=>matT N (by omega) t) (by omega) (by omega)
def aLS (t:aD):Prop:=(t.gE=1∨t.gE=2∨t.gE=4∨t.gE=8∨t.gE=16)∧(t.gA3.length:Int)=t.gE*t.gE∧∀ v∈t.gA3,∀ x∈v.toList,0≤x∧x≤255
theorem aMZ (N:Nat) (l:List Int) (a:Int) (hN:l.length < N) (hl:l.length < 1000000):T (iL N l a) (fun r=>r=true→a∈l):=by
 unfold iL mM
 refine T.bind (P:=fun r=>0≤r→a∈l) ?_ fun r h=>T.ret fun e=>h (of_decide_eq_true e)
 refine T.bind (T.loopG0 (n:=l.length) (fun _ _=>True) (fun o=>match o with | .inl _=>True | .inr r=>a∈l) (F:=fun k (_:Unit) i=>fF N l a k i) (fun k _ i hi hs hk=>?_) (fun k _ hs=>?_) hN (s:=()) trivial) fun o ho=>?_
 ·rw [fF,aQ,dt (by omega),cond_true,eW,List.getElem?_eq_getElem hi,Option.bind_some]
  refine T.cond (fun hc=>T.ret ?_) (fun _=>?_)
  ·have e:a=l[i]:=by simpa using hc
   show a∈l
   rw [e];exact List.getElem_mem hi
  ·rw [eE (by omega)];exact hk () trivial
 ·rw [fF,aQ,df (by omega),cond_false];exact T.ret trivial
 ·cases o with
  | inl _=>exact T.ret fun h=>absurd h (by decide)
  | inr r=>exact T.ret fun _=>ho
theorem texT (N:Nat) (t:aD) (hN:t.gA3.length < N) (hN':10 < N) (hl:t.gA3.length < 1000000):T (iX N t) (fun r=>r=0→aLS t):=by
 unfold iX
 refine T.bind (aMZ N _ _ (by simp;omega) (by simp)) fun r1 h1=>?_
 simp only [aQ]
 refine T.cond (fun _=>T.ret fun h=>by cases h) (fun hc=>?_)
 have c:t.gE∈[1,2,4,8,16]∧(t.gA3.length:Int)=I64 (t.gE*t.gE):=by
  cases r1 with
  | false=>cases hc
  | true=>exact ⟨h1 rfl,by simpa using hc⟩
 have c1:t.gE=1∨t.gE=2∨t.gE=4∨t.gE=8∨t.gE=16:=by simpa using c.1
 have c2:(t.gA3.length:Int)=t.gE*t.gE:=by
  rw [c.2];rcases c1 with h | h | h | h | h <;> rw [h] <;> decide
 refine T.bind (T.loopG0 (n:=t.gA3.length) (fun i _=>∀ j,(h:j < t.gA3.length)→j < i→∀ x∈t.gA3[j].toList,0≤x∧x≤255) (fun o=>match o with | .inl _=>∀ v∈t.gA3,∀ x∈v.toList,0≤x∧x≤255 | .inr r=>r≠0) (F:=fun k (_:Unit) i=>kY N (t.gA3.length:Int) t k i) (fun k _ i hi hs hk=>?_) (fun k _ hs=>?_) hN (s:=()) (fun j _ h=>absurd h (by omega))) fun o ho=>?_
 ·rw [kY,dt (by omega),cond_true,eW,List.getElem?_eq_getElem hi,Option.bind_some]
  refine T.bind (P:=fun r=>r=false→∀ x∈(t.gA3[i]).toList,0≤x∧x≤255) ?_ fun p11 h11=>?_
  ·refine T.bind (T.inRO (by decide) (by decide)) fun _ _=>T.bind (T.vg (i:=0) (by decide)) fun a ha=>T.bind (T.inRO (by decide) (by decide)) fun _ _=>T.bind (T.vg (i:=1) (by decide)) fun b hb=>T.bind (T.inRO (by decide) (by decide)) fun _ _=>T.bind (T.vg (i:=2) (by decide)) fun d hd=>?_
   simp only [aQ,tX,rP]
   refine T.cond (fun _=>T.ret fun h=>by cases h) (fun h1=>?_)
   refine T.bind (T.inRO (by decide) (by decide)) fun _ _=>T.bind (T.vg (i:=0) (by decide)) fun a' ha'=>T.bind (T.inRO (by decide) (by decide)) fun _ _=>T.bind (T.vg (i:=1) (by decide)) fun b' hb'=>T.bind (T.inRO (by decide) (by decide)) fun _ _=>T.bind (T.vg (i:=2) (by decide)) fun d' hd'=>?_
   refine T.ret fun h2=>?_
   obtain rfl:=dA ha ha'
   obtain rfl:=dA hb hb'
   obtain rfl:=dA hd hd'
   have h1:=of_decide_eq_false h1
   have h2:=of_decide_eq_false h2
   exact aQh (fun x hx=>by obtain rfl:=dA ha hx;omega) (fun x hx=>by obtain rfl:=dA hb hx;omega) (fun x hx=>by obtain rfl:=dA hd hx;omega)
  refine T.cond (fun _=>T.ret (fun h=>by cases h)) (fun hc=>?_)
  rw [eE (by omega)]
  refine hk () fun j h hj=>?_
  by_cases e:j=i
  ·subst e;exact h11 hc
  ·exact hs j h (by omega)
 ·rw [kY,df (by omega),cond_false]
  refine T.ret fun v hv=>?_
  obtain ⟨j,h,rfl⟩:=List.getElem_of_mem hv
  exact hs j h h
 cases o with
 | inr r=>exact T.ret fun e=>absurd e ho
 | inl _=>exact T.ret fun _=>⟨c1,c2,ho⟩
theorem aPD (N:Nat) (hN:300 < N) (s:aG) (h:few s):T (eR N s.gA2) (fun r=>r=0→∀ t∈s.gA2,aLS t):=by
 unfold eR
 have h1:=h.2.2.1
 exact aHt s.gA2 (iX N) aLS (fun k i=>by rw [fH]) (fun t ht=>texT N t (by have:=h.2.2.2.2 t ht;omega) (by omega) (by have:=h.2.2.2.2 t ht;omega)) (by omega) (by omega)
def vG (l:aS):Prop:=(∀ x∈l.gB0.toList,0≤x∧x≤1048576)∧pwi 4096 l.gAt∧pwi 4096 l.gU∧pwi 4096 l.gV
theorem aHs (N:Nat) (p:aC):T (mE N p) (fun r=>r=false→pwi 4096 p):=by
 unfold mE pwi
 simp only [aQ,rP,tX]
 refine T.bind (P:=fun r=>r=false→(-4096≤p.gX∧p.gX≤4096)∧(-4096≤p.gY∧p.gY≤4096) ∧ -4096≤p.gZ∧p.gZ≤4096) ?_ fun r h=>T.ret h
 refine T.cond (fun _=>T.ret fun h=>by cases h) (fun h=>T.ret fun h2=>?_)
 have h:=of_decide_eq_false h
 have h2:=of_decide_eq_false h2
 omega
theorem aOP (N:Nat) (hN:10 < N) (l:aS):T (oS N l) (fun r=>r=0→vG l):=by
 unfold oS
 refine T.bind (P:=fun r=>r=false→∀ x∈l.gB0.toList,0≤x∧x≤1048576) ?_ fun p1 h1=>?_
 ·refine T.bind (aDb N 2 _ (by simp;omega) (by simp)) fun r2 _=>?_
  refine T.cond (fun _=>T.ret fun h=>by cases h) (fun _=>?_)
  refine T.bind (T.slc (by decide) (by decide) (by simp)) fun s3 h3=>T.bind (aDb N _ s3 (by omega) (by omega)) fun r4 h4=>T.ret fun e=>?_
  have hs:s3=l.gB0.toList:=by rw [h3.1];exact List.take_of_length_le (show l.gB0.toList.length≤3 by simp)
  rw [← hs];exact h4 e
 refine T.cond (fun _=>T.ret fun h=>by cases h) (fun hc=>?_)
 refine T.bind (P:=fun r=>r=false→pwi 4096 l.gAt∧pwi 4096 l.gU∧pwi 4096 l.gV) ?_ fun p5 h5=>?_
 ·refine T.bind (aHs N _) fun r6 h6=>T.cond (fun _=>T.ret fun h=>by cases h) (fun c6=>?_)
  refine T.bind (aHs N _) fun r7 h7=>T.cond (fun _=>T.ret fun h=>by cases h) (fun c7=>?_)
  exact T.bind (aHs N _) fun r8 h8=>T.ret fun c8=>⟨h6 c6,h7 c7,h8 c8⟩
 refine T.cond (fun _=>T.ret fun h=>by cases h) (fun hc5=>?_)
 have ok:vG l:=⟨h1 hc,h5 hc5⟩
 simp only [aQ]
 refine T.bind (P:=fun _=>True) ?_ fun o _=>?_
 ·refine T.cond (fun _=>T.cond (fun _=>T.ret trivial) (fun _=>?_)) (fun _=>T.cond (fun _=>?_) (fun _=>T.ret trivial))
  ·exact T.bind (P:=fun _=>True) (T.cond (fun _=>T.ret trivial) (fun _=>T.ret trivial)) fun _ _=>T.cond (fun _=>T.ret trivial) (fun _=>T.ret trivial)
  ·exact T.bind (P:=fun _=>True) (T.cond (fun _=>T.ret trivial) (fun _=>T.ret trivial)) fun _ _=>T.cond (fun _=>T.ret trivial) (fun _=>T.ret trivial)
 ·cases o with
  | inl _=>exact T.ret fun _=>ok
  | inr r=>exact T.ret fun _=>ok
theorem aKj (N:Nat) (hN:30 < N) (s:aG) (h:few s):T (fC N s.gJ) (fun r=>r=0→∀ t∈s.gJ,vG t):=by
 unfold fC
 have h1:=h.2.2.2.1
 exact aHt s.gJ (oS N) vG (fun k i=>by rw [hO]) (fun t _=>aOP N (by omega) t) (by omega) (by omega)
structure aPy (s:aG):Prop where
 few:few s
 tri:∀ t∈s.gG,aMB s t
 mat:∀ t∈s.gB1,aBG t
 tex:∀ t∈s.gA2,aLS t
 light:∀ t∈s.gJ,vG t
theorem aRZ (N:Nat) (hN:300 < N) (s:aG) (h:few s):T (mU N s) (fun r=>r=0→aPy s):=by
 unfold mU
 simp only [aQ]
 refine T.cond (fun _=>T.ret fun h=>by cases h) (fun _=>?_)
 have nz:∀ {r:Int} {P:Prop},(r != 0)=true→(r=0→P):=fun h e=>by rw [e] at h;cases h
 refine T.bind (aOK N (by omega) s h) fun r3 h3=>T.cond (fun c=>T.ret (nz c)) (fun c3=>?_)
 refine T.bind (aOF N (by omega) s h) fun r4 h4=>T.cond (fun c=>T.ret (nz c)) (fun c4=>?_)
 refine T.bind (aPD N (by omega) s h) fun r5 h5=>T.cond (fun c=>T.ret (nz c)) (fun c5=>?_)
 refine T.bind (aKj N (by omega) s h) fun r6 h6=>T.ret fun e=>?_
 exact ⟨h,h3 (by simpa using c3),h4 (by simpa using c4),h5 (by simpa using c5),h6 e⟩
def aOc (v:aI):Prop:=aLt v.gC5 v.gW v.gH∧(1≤v.gB8∧v.gB8≤16)∧(0≤v.gN∧v.gN≤8)∧0≤v.gS∧v.gS≤2
theorem mayVT (N:Nat) (v:aI):T (rW N v) (fun r=>r=0→aOc v):=by
 unfold rW
 refine T.bind (aFo N _ _ _) fun r1 h1=>?_
 refine T.cond (fun c=>T.ret fun e=>by rw [e] at c;cases c) (fun c=>?_)
 simp only [aQ]
 refine T.cond (fun _=>T.ret fun h=>by cases h) (fun hc=>T.ret fun _=>?_)
 have o:∀ {a:Prop} [Decidable a] {b:Bool},cond b true (decide a)=false→b=false∧¬ a:=by
  intro a _ b h
  cases b with
  | true=>cases h
  | false=>exact ⟨rfl,of_decide_eq_false h⟩
 obtain ⟨hc,c6⟩:=o hc
 obtain ⟨hc,c5⟩:=o hc
 obtain ⟨hc,c4⟩:=o hc
 obtain ⟨hc,c3⟩:=o hc
 obtain ⟨hc,c2⟩:=o hc
 have c1:=of_decide_eq_false hc
 exact ⟨h1 (by simpa using c),by omega,by omega,by omega,by omega⟩
def kN (c:Int):Int×Int:=cond (c==0) (16,4) (cond (c==1) (64,4) (cond (c==2) (256,8) (0,0)))
theorem aKn (N:Nat) (c:Int):iW N c=some (kN c):=by
 unfold iW kN
 cases (c==0) <;> cases (c==1) <;> cases (c==2) <;> rfl
theorem aRF (N:Nat) (c:Int):T (iW N c) (fun r=>r=kN c):=⟨_,aKn N c,rfl⟩
def fits (s:aG) (c:Int):Prop:=(s.gG.length:Int)≤(kN c).1∧(s.gJ.length:Int)≤(kN c).2
theorem fitsT (N:Nat) (s:aG) (c:Int):T (pW N s c) (fun r=>r=0→fits s c):=by
 unfold pW
 refine T.eq (aKn N c) ?_
 simp only [aQ]
 refine T.cond (fun _=>T.ret fun h=>by cases h) (fun hc=>T.ret fun _=>?_)
 by_cases h:(s.gG.length:Int) > (kN c).1
 ·rw [dt h,cond_true] at hc;cases hc
 ·rw [df h,cond_false] at hc
  have:=of_decide_eq_false hc
  exact ⟨by omega,by omega⟩
theorem aH5 (k:Nat) {a b:Int} (ha:cS a) (hb:cS b) (h0:S64 (b*4294967296)≠0):T (jA (k+3) a b) cS:=by
 unfold jA
 refine T.eq (uB _ ha) (T.eq (uB _ hb) (T.eq (xN k (eX _) (eX _) h0) (T.ret (eX _))))
theorem aOq (k:Nat) (c:Vector Int 3) {b:Int} (hc:∀ x∈c.toList,cS x) (hb:cS b) (h0:S64 (b*4294967296)≠0):T (qQ (k+3) c b) vin:=by
 unfold qQ
 refine T.bind (T.idx (by decide) (by simp)) fun e1 h1=>T.bind (aH5 k (hc _ (List.mem_of_getElem? h1)) hb h0) fun r2 a=>?_
 refine T.bind (T.idx (by decide) (by simp)) fun e3 h3=>T.bind (aH5 k (hc _ (List.mem_of_getElem? h3)) hb h0) fun r4 b=>?_
 refine T.bind (T.idx (by decide) (by simp)) fun e5 h5=>T.bind (aH5 k (hc _ (List.mem_of_getElem? h5)) hb h0) fun r6 d=>T.ret ⟨a,b,d⟩
theorem aH3 (k:Nat) {l:aS} (h:vG l):T (oR (k+3) l) vin:=by
 unfold oR
 exact T.bind (aOq k _ (fun x hx=>by have:=h.1 x hx;exact ⟨by omega,by omega⟩) ⟨by decide,by decide⟩ (by decide)) fun r h=>T.ret h
theorem skyT (k:Nat) (hk:10 < k) (l:List aS) (h:∀ x∈l,vG x) (hl:l.length≤5):T (vN (k+3) l) (fun r=>vin r∧(l=[]→r=aB.mk 0 0 0)):=by
 unfold vN
 refine T.bind (T.loopG0 (n:=l.length) (fun i s=>s.length≤i∧∀ v∈s,vin v) (fun r=>r.length≤l.length∧∀ v∈r,vin v) (F:=qU (k+3) l) (fun k' s i hi hs hk'=>?_) (fun k' s hs=>?_) (by omega) (s:=[]) ⟨by simp,fun v h=>absurd h (by simp)⟩) fun r hr=>?_
 ·rw [qU,aQ,dt (by omega),cond_true]
  refine T.bind (P:=fun p=>p.1.length≤i+1∧∀ v∈p.1,vin v) ?_ fun p5 h5=>?_
  ·rw [eW,List.getElem?_eq_getElem hi,Option.bind_some]
   refine T.cond (fun _=>?_) (fun _=>T.ret ⟨by dsimp only;omega,hs.2⟩)
   refine T.bind (aH3 k (h _ (List.getElem_mem hi))) fun r7 h7=>T.eq (qD (by simp;omega)) (T.ret ⟨by simp;omega,?_⟩)
   intro v hv
   rw [List.mem_append,List.mem_singleton] at hv
   rcases hv with hv | rfl
   ·exact hs.2 v hv
   ·exact h7
  ·rw [eE (by omega)];exact hk' _ h5
 ·rw [qU,aQ,df (by omega),cond_false];exact T.ret hs
 ·refine T.eq (aFN k r hr.2 (by omega) (by omega)) (T.ret ⟨?_,fun h=>?_⟩)
  ·obtain ⟨x,e,hx⟩:=aQQ k r hr.2 (by omega) (by omega)
   rw [aFN k r hr.2 (by omega) (by omega)] at e
   cases e
   exact hx
  ·subst h
   have:r=[]:=List.eq_nil_of_length_eq_zero (by have:=hr.1;simpa using this)
   subst this
   rfl
def aJc (t:aD):Prop:=(t.gE=1∨t.gE=2∨t.gE=4∨t.gE=8∨t.gE=16)∧(t.gA3.length:Int)=t.gE*t.gE
theorem aGN (N:Nat) {t:aD} (h:aJc t) (x y:Int):T (mQ N t x y) (fun _=>True):=by
 obtain ⟨h1,h2⟩:=h
 unfold mQ
 simp only [aQ]
 have b:∀ (a:Int) (m:Nat),t.gE=(m:Int)+1→m < 100→0≤eZ .i64 a (I64 (t.gE - 1))∧eZ .i64 a (I64 (t.gE - 1))≤(m:Int):=by
  intro a m h hm
  rw [h,show I64 ((m:Int)+1 - 1)=(m:Int) by rw [bF (by omega) (by omega)];omega]
  exact aO0 m (by omega)
 have key:∀ m:Nat,t.gE=(m:Int)+1→m < 100→T (Option.bind (idx t.gA3 (I64 (I64 (eZ .i64 y (I64 (t.gE - 1))*t.gE)+eZ .i64 x (I64 (t.gE - 1))))) fun e4=>some e4) (fun _=>True):=by
  intro m hm hb
  have bx:=b x m hm hb
  have by':=b y m hm hb
  generalize eZ .i64 x (I64 (t.gE - 1))=X at *
  generalize eZ .i64 y (I64 (t.gE - 1))=Y at *
  rw [hm] at h2 ⊢
  have n1:0≤Y*((m:Int)+1):=Int.mul_nonneg by'.1 (by omega)
  have n2:Y*((m:Int)+1)≤(m:Int)*((m:Int)+1):=Int.mul_le_mul_of_nonneg_right by'.2 (by omega)
  have n3:(m:Int)*((m:Int)+1)≤100*101:=by
   have:(m:Int)*((m:Int)+1)≤100*((m:Int)+1):=Int.mul_le_mul_of_nonneg_right (by omega) (by omega)
   omega
  have n4:((m:Int)+1)*((m:Int)+1)=(m:Int)*((m:Int)+1)+((m:Int)+1):=by rw [Int.add_mul,Int.one_mul]
  rw [n4] at h2
  generalize Y*((m:Int)+1)=Z at *
  generalize (m:Int)*((m:Int)+1)=W at *
  rw [bF (x:=Z) (by omega) (by omega),bF (by omega) (by omega)]
  exact T.bind (T.idx (by omega) (by omega)) fun _ _=>T.ret trivial
 rcases h1 with h | h | h | h | h
 ·exact key 0 h (by decide)
 ·exact key 1 h (by decide)
 ·exact key 3 h (by decide)
 ·exact key 7 h (by decide)
 ·exact key 15 h (by decide)
theorem aRQ (N:Nat) (hN:10 < N) (a b c d:Vector Int 3):T (jM N a b c d N (#v[0,0,0]) 0) (fun _=>True):=by
 refine T.loopG0 (n:=3) (fun _ _=>True) _ (F:=jM N a b c d) (fun k s i hi _ hk=>?_) (fun k s _=>?_) (by omega) trivial
 ·rw [jM,dt (by omega),cond_true]
  refine T.bind (T.inRO (by omega) (by omega)) fun _ _=>T.bind (T.vg hi) fun _ _=>T.bind (T.inRO (by omega) (by omega)) fun _ _=>T.bind (T.vg hi) fun _ _=>T.bind (T.inRO (by omega) (by omega)) fun _ _=>T.bind (T.vg hi) fun _ _=>?_
  simp only [aQ]
  refine T.bind (T.inRO (by omega) (by omega)) fun _ _=>T.bind (T.vg hi) fun _ _=>T.bind (T.inRO (by omega) (by omega)) fun _ _=>T.bind (T.vg hi) fun _ _=>?_
  rw [eE (by omega)]
  exact hk _ trivial
 ·rw [jM,df (by omega),cond_false];exact T.ret trivial
theorem halfT (N:Nat) (hN:100 < N) {t:aD} (h:aJc t) (h1:t.gE > 1):T (rJ N t) (fun r=>aJc r∧r.gE*2=t.gE):=by
 unfold rJ
 obtain ⟨H,e1,e2,e3⟩:∃ H:Nat,I64 (Int.tdiv t.gE 2)=(H:Int)∧t.gE=(H:Int)*2∧(H=1∨H=2∨H=4∨H=8):=by
  rcases h.1 with e | e | e | e | e
  ·omega
  ·exact ⟨1,by rw [e];decide,by rw [e];decide,by simp⟩
  ·exact ⟨2,by rw [e];decide,by rw [e];decide,by simp⟩
  ·exact ⟨4,by rw [e];decide,by rw [e];decide,by simp⟩
  ·exact ⟨8,by rw [e];decide,by rw [e];decide,by simp⟩
 simp only [aQ,e1]
 have sq:I64 ((H:Int)*(H:Int))=((H*H:Nat):Int):=by rcases e3 with e | e | e | e <;> subst e <;> decide
 have sb:H*H≤64:=by rcases e3 with e | e | e | e <;> subst e <;> decide
 have nz:(H:Int)≠0:=by omega
 refine T.bind (T.loopG0 (n:=H*H) (fun i s=>s.length=i) (fun r=>r.length=H*H) (F:=lQ N (H:Int) (H:Int) t) (fun k s i hi hs hk=>?_) (fun k s hs=>?_) (by omega) (s:=[]) rfl) fun p4 h4=>T.ret ⟨⟨?_,?_⟩,?_⟩
 ·rw [lQ]
  simp only [aQ,e1,sq]
  rw [dt (by omega),cond_true]
  refine T.eq (aLH .i64 nz) (T.eq (aDS .i64 nz) ?_)
  refine T.bind (aGN N h _ _) fun r12 _=>T.bind (aGN N h _ _) fun r14 _=>T.bind (aGN N h _ _) fun r16 _=>T.bind (aGN N h _ _) fun r19 _=>T.bind (aRQ N (by omega) _ _ _ _) fun p20 _=>?_
  refine T.eq (qD (by simp;omega)) ?_
  rw [eE (by omega)]
  exact hk _ (by simp;omega)
 ·rw [lQ]
  simp only [aQ,sq]
  rw [df (by omega),cond_false]
  exact T.ret hs
 ·show (H:Int)=1∨(H:Int)=2∨(H:Int)=4∨(H:Int)=8∨(H:Int)=16
  omega
 ·show (p4.length:Int)=(H:Int)*(H:Int)
  rw [h4];push_cast;rfl
 ·show (H:Int)*2=t.gE
  exact e2.symm
def aEr (l:List aD):Prop:=l.length≤20∧∀ t∈l,t.gA3.length≤260
theorem aHL {t:aD} (h:aJc t):t.gA3.length≤260:=by
 obtain ⟨h1,h2⟩:=h
 rcases h1 with e | e | e | e | e <;> rw [e] at h2 <;> omega
theorem lvR2 (N:Nat) (l:List aD) (a t:aD) (h:l.length≤1000):mK N l a t=some (l++[t]):=by
 unfold mK
 rw [qD (by simp;omega)]
 rfl
theorem aOf (N:Nat) (hN:100 < N):∀ (j k:Nat) (l:List aD) (t:aD),aJc t→t.gE≤2 ^ j→j < k→(l.length+j≤10∧∀ t∈l,t.gA3.length≤260)→T (bT N k l t) (fun r=>aEr r.1):=by
 intro j
 induction j with
 | zero=>
  intro k l t ht hs hk hl
  obtain ⟨k,rfl⟩:∃ k',k=k'+1:=⟨k - 1,by omega⟩
  rw [bT]
  refine T.eq (lvR2 N _ _ _ (by omega)) ?_
  rw [df (by simpa using hs),cond_false]
  refine T.ret ⟨by simp;omega,?_⟩
  intro u hu
  rw [List.mem_append,List.mem_singleton] at hu
  rcases hu with hu | rfl
  ·exact hl.2 u hu
  ·exact aHL ht
 | succ j ih=>
  intro k l t ht hs hk hl
  obtain ⟨k,rfl⟩:∃ k',k=k'+1:=⟨k - 1,by omega⟩
  rw [bT]
  refine T.eq (lvR2 N _ _ _ (by omega)) ?_
  have all:∀ u∈l++[t],u.gA3.length≤260:=by
   intro u hu
   rw [List.mem_append,List.mem_singleton] at hu
   rcases hu with hu | rfl
   ·exact hl.2 u hu
   ·exact aHL ht
  refine T.cond (fun hc=>?_) (fun _=>T.ret ⟨by simp;omega,all⟩)
  refine T.bind (halfT N hN ht (of_decide_eq_true hc)) fun r5 h5=>?_
  have hp:(2:Int) ^ (j+1)=2 ^ j*2:=Int.pow_succ _ _
  exact ih k _ r5 h5.1 (by have:=h5.2;omega) (by omega) ⟨by simp;omega,all⟩
theorem aPj (N:Nat) (l:List (Vector Int 3)) (h:l.length≤1000):T (iI N l) (fun r=>r=l):=by
 unfold iI
 exact T.eq (qD (by simp;omega)) (T.ret (by simp))
theorem aQG (N:Nat) (hN:300 < N) (t:aD) (h:t.gA3.length≤260):T (pI N t) (fun r=>aEr r.1):=by
 unfold pI
 refine T.bind (texT N t (by omega) (by omega) (by omega)) fun r1 h1=>?_
 refine T.cond (fun _=>T.ret ⟨by simp,fun t h=>absurd h (by simp)⟩) (fun hc=>?_)
 have ok:=h1 (by simpa using hc)
 refine T.bind (aPj N _ (by omega)) fun r2 h2=>?_
 subst h2
 unfold sI dY
 refine T.eq rfl ?_
 refine T.bind (P:=fun r=>aEr r.1) ?_ fun r4 h4=>T.ret h4
 refine T.bind (aOf N (by omega) 4 N [] _ ⟨ok.1,ok.2.1⟩ (by have:=ok.1;show t.gE≤2 ^ 4;omega) (by omega) ⟨by simp,fun t h=>absurd h (by simp)⟩) fun p1 h1=>T.ret h1
theorem aMh (N:Nat) (l:List aE) (m:Int) (hm':0≤m∧m≤4096) (hl':(l.length:Int)≤m):T (rQ N l m) (fun q=>match q with | .inl e=>False | .inr r=>r.2=0∧(r.1.length:Int)=m∧r.1.length≤4096∧(∀ i,l.length≤i→∀ t,r.1[i]? = some t→t.gB4=0)∧∀ i,i < l.length→r.1[i]? = l[i]?):=by
 unfold rQ
 simp only [aQ]
 rw [df (show ¬ m < 0 by omega),df (show ¬ m > 4096 by omega)]
 refine T.cond (fun hc=>by cases hc) (fun hc=>?_)
 have hm:=hm'
 obtain ⟨n,rfl⟩:=Int.eq_ofNat_of_zero_le hm.1
 refine T.cond (fun hc=>absurd (of_decide_eq_true hc) (by omega)) (fun hc2=>?_)
 have hl:=of_decide_eq_false hc2
 refine T.eq (a:=()) (by unfold mkO;rw [dt (by omega),dt (by omega),dt (by omega)];rfl) ?_
 rw [Int.toNat_natCast]
 unfold cpD
 rw [dt (by simp),cond_true,Option.bind_some]
 have hlen:∀ z:aE,(cpy (List.replicate n z) l 0 n).length=n:=by intro z;unfold cpy;simp;omega
 refine T.eq (a:=()) (by unfold aAW;rw [hlen,Nat.beq_refl];rfl) ?_
 refine T.ret ⟨rfl,by rw [hlen],by rw [hlen];omega,?_,fun i hi=>?_⟩
 case refine_2=>
  unfold cpy
  rw [show min l.length n=l.length by omega,List.take_zero,List.nil_append,List.take_length,List.getElem?_append_left hi]
 intro i hi t ht
 unfold cpy at ht
 rw [show min l.length n=l.length by omega,List.take_zero,List.nil_append,List.take_length,List.getElem?_append_right hi,List.getElem?_drop] at ht
 have hm:=List.mem_of_getElem? ht
 rw [List.mem_replicate] at hm
 rw [hm.2]
def ple (p q:aC):Prop:=p.gX≤q.gX∧p.gY≤q.gY∧p.gZ≤q.gZ
theorem aMg (N:Nat) (l:List aC) {m:Int} (hm:0≤m) (h:∀ p∈l,pwi m p) (hN:l.length < N) (hl:l.length < 1000000):T (nA N l) (fun r=>pwi m r.1∧pwi m r.2∧∀ p∈l,ple r.1 p∧ple p r.2):=by
 unfold nA
 have z:pwi m (aC.mk 0 0 0):=by unfold pwi;dsimp only;omega
 refine T.bind (T.loopG0 (n:=l.length) (fun i (s:aC×aC)=>pwi m s.1∧pwi m s.2∧∀ j,(hj:j < l.length)→j < i→ple s.1 l[j]∧ple l[j] s.2) (fun r=>pwi m r.1∧pwi m r.2∧∀ p∈l,ple r.1 p∧ple p r.2) (F:=fun k (s:aC×aC) i=>sR N l k s.1 s.2 i) (fun k s i hi hs hk=>?_) (fun k s hs=>?_) hN (s:=(aC.mk 0 0 0,aC.mk 0 0 0)) ⟨z,z,fun j _ h=>absurd h (by omega)⟩) fun r hr=>T.ret hr
 ·rw [sR,aQ,dt (by omega),cond_true,eW,List.getElem?_eq_getElem hi,Option.bind_some]
  have he:=h _ (List.getElem_mem hi)
  generalize hx:l[i]=x at *
  refine T.bind (P:=fun p=>pwi m p.1∧pwi m p.2∧∀ j,(hj:j < l.length)→j < i→ple p.1 l[j]∧ple l[j] p.2) ?_ fun p7 h7=>?_
  ·refine T.cond (fun hc=>?_) (fun _=>T.ret hs)
   have:i=0:=by have:=of_decide_eq_true hc;omega
   exact T.ret ⟨he,he,fun j _ h=>absurd h (by omega)⟩
  ·rw [eE (by omega)]
   obtain ⟨a,b,c⟩:=h7
   refine hk (_,_) ⟨?_,?_,fun j hj hji=>?_⟩
   ·unfold pwi at *;simp only [tX];omega
   ·unfold pwi at *;simp only [rP];omega
   ·by_cases e:j=i
    ·subst e
     rw [hx]
     unfold ple;simp only [tX,rP];omega
    ·have:=c j hj (by omega)
     unfold ple at *;simp only [tX,rP];omega
 ·rw [sR,aQ,df (by omega),cond_false]
  refine T.ret ⟨hs.1,hs.2.1,fun p hp=>?_⟩
  obtain ⟨j,hj,rfl⟩:=List.getElem_of_mem hp
  exact hs.2.2 j hj hj
def tpw (t:aE):Prop:=∀ p∈t.gP.toList,pwi 65536 p
theorem T.slc3 {α:Type} (v:Vector α 3):T (wC v.toList 0 3) (fun r=>r=v.toList):=by
 refine ⟨_,aFL (by decide) (by decide) (by simp),?_⟩
 exact List.take_of_length_le (show v.toList.length≤3 by simp)
theorem aIv (N:Nat) (hN:3 < N) {t:aE} (h:tpw t):T (nA N t.gP.toList) (fun r=>pwi 65536 r.1∧pwi 65536 r.2∧∀ p∈t.gP.toList,ple r.1 p∧ple p r.2):=
 aMg N _ (by decide) h (by simpa using hN) (by simp)
theorem aFS (N:Nat) (hN:3 < N) {t:aE} (h:tpw t):T (iY N t) (pwi 131072):=by
 unfold iY
 refine T.bind (T.slc3 t.gP) fun s hs=>?_
 subst hs
 refine T.bind (aIv N hN h) fun r2 h2=>?_
 simp only [aQ]
 obtain ⟨a,b,_⟩:=h2
 refine T.ret ?_
 unfold pwi at *
 dsimp only
 rw [bF (by omega) (by omega),bF (by omega) (by omega),bF (by omega) (by omega)]
 omega
def ax (p:aC) (i:Int):Int:=if i=0 then p.gX else if i=1 then p.gY else p.gZ
theorem aCI (N:Nat) (p:aC) {i:Int} (h0:0≤i) (h3:i < 3):T (kW N p i) (fun r=>r=ax p i):=by
 have:i=0∨i=1∨i=2:=by omega
 rcases this with rfl | rfl | rfl <;> exact ⟨_,rfl,rfl⟩
theorem ax_b {m:Int} {p:aC} (h:pwi m p) (i:Int) : -m≤ax p i∧ax p i≤m:=by
 unfold pwi at h;unfold ax;split
 ·omega
 ·split <;> omega
def ord (n:Nat) (l:List Int):Prop:=∀ x∈l,0≤x∧x < (n:Int)
def zT (l:List aE):Prop:=(∀ t∈l,tpw t)∧l.length≤20
theorem T.tri {l:List aE} (h:zT l) {e:Int} (he:0≤e∧e < (l.length:Int)):T (Go.UK.idx l e) tpw:=
 (T.idx he.1 he.2).mono fun t ht=>h.1 t (List.mem_of_getElem? ht)
theorem aSA (N:Nat) (hN:3 < N) {l:List aE} (h:zT l) {a b i:Int} (ha:0≤a∧a < (l.length:Int)) (hb:0≤b∧b < (l.length:Int)) (hi:0≤i∧i < 3):T (oL N a b l i) (fun _=>True):=by
 unfold oL
 refine T.bind (T.tri h ha) fun _ h1=>T.bind (aFS N hN h1) fun _ _=>T.bind (aCI N _ hi.1 hi.2) fun _ _=>?_
 refine T.bind (T.tri h hb) fun _ h1=>T.bind (aFS N hN h1) fun _ _=>T.bind (aCI N _ hi.1 hi.2) fun _ _=>T.ret trivial
def aGv (a b:Int):Prop:=a≠b∧(-131072≤a∧a≤131072)∧(-131072≤b∧b≤131072)
theorem binT0 (N:Nat) {x a b:Int} (h:aGv a b):T (uO N x a b) (fun _=>True):=by
 unfold uO
 simp only [aQ]
 obtain ⟨h1,h2,h3⟩:=h
 rw [bF (x:=b - a) (by omega) (by omega)]
 exact T.eq (aDS .i64 (by omega)) (T.ret trivial)
theorem binT (N:Nat) {x a b:Int} (h:aGv a b) (hx:a≤x∧x≤b):T (uO N x a b) (fun r=>0≤r∧r < 8):=by
 unfold uO
 simp only [aQ]
 obtain ⟨h1,h2,h3⟩:=h
 rw [bF (x:=b - a) (by omega) (by omega),bF (x:=x - a) (by omega) (by omega),bF (x:=(x - a)*8) (by omega) (by omega)]
 refine T.eq (aDS .i64 (by omega)) (T.ret ?_)
 rw [Int.tdiv_eq_ediv_of_nonneg (by omega)]
 have q0:0≤(x - a)*8 / (b - a):=Int.ediv_nonneg (by omega) (by omega)
 have q1:(x - a)*8 / (b - a)≤(x - a)*8:=Int.ediv_le_self _ (by omega)
 rw [show IntKind.i64.wrap ((x - a)*8 / (b - a))=(x - a)*8 / (b - a) from bF (by omega) (by omega),tX]
 omega
theorem aHp (N:Nat) (hN:3 < N) {l:List aE} (h:zT l) {e a b c i:Int} (he:0≤e∧e < (l.length:Int)) (hab:aGv a b) (hi:0≤i∧i < 3):T (fT N e l a b c i) (fun _=>True):=by
 unfold fT
 refine T.bind (T.tri h he) fun _ h1=>T.bind (aFS N hN h1) fun _ _=>T.bind (aCI N _ hi.1 hi.2) fun _ _=>T.bind (binT0 N hab) fun _ _=>T.ret trivial
theorem aSM (N:Nat) (hN:3 < N) {l:List aE} (h:zT l) {e e' a b c i:Int} (he:0≤e∧e < (l.length:Int)) (he':0≤e'∧e' < (l.length:Int)) (hab:aGv a b) (hi:0≤i∧i < 3):T (pL N e e' l a b c i) (fun _=>True):=by
 unfold pL
 refine T.bind (aHp N hN h he hab hi) fun _ _=>T.bind (aHp N hN h he' hab hi) fun _ _=>T.cond (fun _=>T.ret trivial) (fun _=>?_)
 refine T.bind (aHp N hN h he' hab hi) fun _ _=>T.cond (fun _=>T.ret trivial) (fun _=>T.ret trivial)
theorem T.inRS {L lo n:Nat} {i:Int} (h1:lo+n≤L) (h2:0≤i) (h3:i < (n:Int)):T (wU L lo n i) (fun _=>True):=⟨(),by unfold Go.UK.wU;rw [dt h1,dt h2,dt h3];rfl,trivial⟩
theorem T.slcG {L lo0 n:Nat} {lo hi:Int} (h1:lo0+n≤L) (h2:0≤lo) (h3:lo≤hi) (h4:hi≤(n:Int)) (h5:lo=0∨lo < (n:Int)):T (aIE L lo0 n lo hi) (fun _=>True):=⟨(),by unfold Go.UK.aIE;rw [dt h1,dt h2,dt h3,dt h4,dt h5];rfl,trivial⟩
theorem T.lenO {α:Type} {l:List α} {n:Nat} (h:l.length=n):T (aAW l n) (fun _=>True):=⟨(),by unfold Go.UK.aAW;rw [h,Nat.beq_refl];rfl,trivial⟩
theorem T.setO {α:Type} {l:List α} {j:Nat} {e:α} (h:j < l.length):T (aF1 l j e) (fun r=>r=l.set j e):=⟨_,by unfold Go.UK.aF1;rw [show Nat.blt j l.length=Bool.true by rw [Nat.blt_eq];exact h];rfl,rfl⟩
theorem T.appG {α:Type} {b m:Nat} {l r:List α} (h:m≤l.length) (h':(m+r.length)*b≤140737488355328):T (aJS b l m r) (fun x=>x=sU l m r):=⟨_,by unfold Go.UK.aJS;rw [dt h,show Nat.ble ((m+r.length)*b) 140737488355328=Bool.true by rw [Nat.ble_eq];exact h'];rfl,rfl⟩
theorem T.get0 {α:Type} {l:List α} {j:Nat} (h:j < l.length):T (l[j]?) (fun e=>e∈l):=⟨l[j],List.getElem?_eq_getElem h,List.getElem_mem h⟩
theorem aFC {n:Nat} {l:List Int} {j:Nat} {e:Int} (h:ord n l) (he:0≤e∧e < (n:Int)):ord n (l.set j e):=by
 intro x hx
 rcases List.mem_or_eq_of_mem_set hx with hx | rfl
 ·exact h x hx
 ·exact he
structure pZ (lo m:Nat) (b r:List Int):Prop where
 len:r.length=b.length
 out:∀ j,j < lo∨lo+m≤j→r[j]? = b[j]?
 sub:∀ j,lo≤j→j < lo+m→∃ j',lo≤j'∧j' < lo+m∧r[j]? = b[j']?
 sup:∀ j,lo≤j→j < lo+m→∃ j',lo≤j'∧j' < lo+m∧b[j]? = r[j']?
theorem pZ.rfl' (lo m:Nat) (b:List Int):pZ lo m b b:=⟨rfl,fun _ _=>rfl,fun j h h'=>⟨j,h,h',rfl⟩,fun j h h'=>⟨j,h,h',rfl⟩⟩
theorem pZ.trans {lo m:Nat} {a b c:List Int} (h:pZ lo m a b) (g:pZ lo m b c):pZ lo m a c:=by
 refine ⟨g.len.trans h.len,fun j hj=>(g.out j hj).trans (h.out j hj),fun j h1 h2=>?_,fun j h1 h2=>?_⟩
 ·obtain ⟨j1,a1,a2,a3⟩:=g.sub j h1 h2
  obtain ⟨j2,b1,b2,b3⟩:=h.sub j1 a1 a2
  exact ⟨j2,b1,b2,a3.trans b3⟩
 ·obtain ⟨j1,a1,a2,a3⟩:=h.sup j h1 h2
  obtain ⟨j2,b1,b2,b3⟩:=g.sup j1 a1 a2
  exact ⟨j2,b1,b2,a3.trans b3⟩
theorem pZ.swap {lo m:Nat} {b:List Int} {x y:Nat} {e f:Int} (hx:lo≤x∧x < lo+m) (hy:lo≤y∧y < lo+m) (he:b[y]? = some e) (hf:b[x]? = some f):pZ lo m b ((b.set x e).set y f):=by
 have lx:x < b.length:=by obtain ⟨h,_⟩:=List.getElem?_eq_some_iff.1 hf;exact h
 have ly:y < b.length:=by obtain ⟨h,_⟩:=List.getElem?_eq_some_iff.1 he;exact h
 have g:∀ j,((b.set x e).set y f)[j]? = if j=y then some f else if j=x then some e else b[j]? := by
  intro j
  by_cases h1:j=y
  ·subst h1;rw [if_pos rfl,List.getElem?_set_self (by rw [List.length_set];exact ly)]
  ·rw [if_neg h1,List.getElem?_set_ne (by omega)]
   by_cases h2:j=x
   ·subst h2;rw [if_pos rfl,List.getElem?_set_self lx]
   ·rw [if_neg h2,List.getElem?_set_ne (by omega)]
 refine ⟨by rw [List.length_set,List.length_set],fun j hj=>?_,fun j h1 h2=>?_,fun j h1 h2=>?_⟩
 ·rw [g,if_neg (by omega),if_neg (by omega)]
 ·rw [g]
  by_cases c1:j=y
  ·rw [if_pos c1];exact ⟨x,hx.1,hx.2,hf.symm⟩
  ·rw [if_neg c1]
   by_cases c2:j=x
   ·rw [if_pos c2];exact ⟨y,hy.1,hy.2,he.symm⟩
   ·rw [if_neg c2];exact ⟨j,h1,h2,rfl⟩
 ·by_cases c1:j=y
  ·refine ⟨if x=y then y else x,by split <;> omega,by split <;> omega,?_⟩
   rw [g]
   by_cases c3:x=y
   ·rw [if_pos c3,if_pos rfl,c1,← c3,hf]
   ·rw [if_neg c3,if_neg c3,if_pos rfl,c1,he]
  ·by_cases c2:j=x
   ·refine ⟨y,hy.1,hy.2,?_⟩
    rw [g,if_pos rfl,c2,hf]
   ·refine ⟨j,h1,h2,?_⟩
    rw [g,if_neg c1,if_neg c2]
def okS (n lo m:Nat) (b:List Int) (s:List Int×Nat):Prop:=ord n s.1∧pZ lo m b s.1∧s.2=m
theorem ia1 {a:Nat} (h:a < 900000):I64 ((a:Int)+1)=((a+1:Nat):Int):=eE (by omega)
theorem ins2A (N:Nat) (hN:3 < N) {R:List aE} (hT:zT R) {lo m:Nat} {a:Int} {i:Int} (hi:0≤i∧i < 3) (ha:0≤a) {b:List Int} (hL:lo+m≤b.length) (hm:m≤20) :
  ∀ (j k:Nat) (s:List Int),j < m→j < k→ord R.length s→pZ lo m b s→T (bL N a lo R i k s m (j:Int)) (okS R.length lo m b):=by
 intro j
 induction j with
 | zero=>
  intro k s hj hk ho hs
  have hsl:=hs.len
  obtain ⟨k,rfl⟩:∃ k',k=k'+1:=⟨k - 1,by omega⟩
  rw [bL,df (by omega),cond_false]
  exact T.eq rfl (T.ret ⟨ho,hs,rfl⟩)
 | succ j ih=>
  intro k s hj hk ho hs
  have hsl:=hs.len
  obtain ⟨k,rfl⟩:∃ k',k=k'+1:=⟨k - 1,by omega⟩
  rw [bL,show I64 (((j+1:Nat):Int) - 1)=(j:Int) by rw [bF (by omega) (by omega)];omega]
  simp only [xT,Int.toNat_natCast]
  refine T.bind (P:=fun _=>True) ?_ fun p9 _=>T.cond (fun _=>?_) (fun _=>T.ret ⟨ho,hs,rfl⟩)
  ·refine T.cond (fun _=>?_) (fun _=>T.ret trivial)
   refine T.bind (T.inRS (by omega) (by omega) (by omega)) fun _ _=>T.bind (T.get0 (by omega)) fun e11 h11=>T.bind (T.inRS (by omega) (by omega) (by omega)) fun _ _=>T.bind (T.get0 (by omega)) fun e13 h13=>?_
   exact T.bind (aSA N hN hT (ho _ h11) (ho _ h13) hi) fun _ _=>T.ret trivial
  ·refine T.bind (T.inRS (by omega) (by omega) (by omega)) fun _ _=>T.bind (T.get (by omega)) fun e16 h16=>T.bind (T.inRS (by omega) (by omega) (by omega)) fun _ _=>T.bind (T.get (by omega)) fun e18 h18=>?_
   refine T.bind (T.inRS (by omega) (by omega) (by omega)) fun _ _=>T.bind (T.setO (by omega)) fun z20 h20=>T.bind (T.inRS (by omega) (by omega) (by omega)) fun _ _=>T.bind (T.setO (by rw [h20,List.length_set];omega)) fun z22 h22=>?_
   subst h22
   subst h20
   exact ih k _ (by omega) (by omega) (aFC (aFC ho (ho _ (List.mem_of_getElem? h16))) (ho _ (List.mem_of_getElem? h18))) (hs.trans (pZ.swap ⟨by omega,by omega⟩ ⟨by omega,by omega⟩ h16 h18))
theorem insA (N:Nat) (hN:50 < N) {R:List aE} (hT:zT R) {L lo m:Nat} {a b:Nat} {i:Int} (hi:0≤i∧i < 3) (ha:a≤20) (hb:b≤m) (hL:lo+m≤L) (hm:m≤20) {s:List Int} (ho:ord R.length s) (hs0:s.length=L):T (bH N s lo m (a:Int) (b:Int) R i) (fun r=>ord R.length r∧pZ lo m s r):=by
 unfold bH
 have main:∀ (k j:Nat) (q:List Int),b - j < k→j < 1000→ord R.length q→pZ lo m s q→T (bV N (b:Int) (a:Int) lo R i k q m (j:Int)) (fun r=>ord R.length r∧pZ lo m s r):=by
  intro k
  induction k with
  | zero=>intro j q h;omega
  | succ k ih=>
   intro j q hj hj' ho hs
   rw [bV]
   refine T.cond (fun hc=>?_) (fun _=>T.ret ⟨ho,hs⟩)
   have hjb:j < b:=by have:=of_decide_eq_true hc;omega
   refine T.bind (ins2A N (by omega) hT hi (by omega) (b:=s) (by rw [hs0];exact hL) hm j N q (by omega) (by omega) ho hs) fun p5 h5=>?_
   obtain ⟨q',m'⟩:=p5
   obtain ⟨o1,o2,o3⟩:=h5
   dsimp only at o1 o2 o3
   subst o3
   rw [eE (by omega)]
   exact ih (j+1) q' (by omega) (by omega) o1 o2
 by_cases h:True
 ·rw [ia1 (by omega)]
  exact T.bind (main N (a+1) s (by omega) (by omega) ho (pZ.rfl' lo m s)) fun r h=>T.ret h
 ·exact absurd trivial h
theorem aP3 (N:Nat) (hN:50 < N) {R:List aE} (hT:zT R) {L lo m:Nat} {i:Int} (hi:0≤i∧i < 3) (hL:lo+m≤L) (hm:m≤20) {s:List Int} (ho:ord R.length s) (hs:s.length=L):T (cL N s lo m R i) (fun r=>ord R.length r∧pZ lo m s r):=by
 unfold cL eJ
 refine T.bind (P:=fun r=>ord R.length r∧pZ lo m s r) ?_ fun r h=>T.ret h
 obtain ⟨N,rfl⟩:∃ n,N=n+2:=⟨N - 2,by omega⟩
 have fin:∀ (q:List Int) (a:Nat),a≤m→ord R.length q→pZ lo m s q→T (Option.bind (bH (N+2) q lo m (a:Int) (m:Int) R i) fun r8=>Option.bind (aAW r8 q.length) fun _=>Option.bind (cU (N+2) (m:Int) (N+2) 20) fun p10=>some r8) (fun r=>ord R.length r∧pZ lo m s r):=by
  intro q a ha ho hq
  refine T.bind (insA (N+2) (by omega) hT hi (by omega) (Nat.le_refl _) hL hm ho (hq.len.trans hs)) fun r8 h8=>T.bind (T.lenO h8.2.len) fun _ _=>?_
  rw [cU,df (by omega),cond_false]
  exact T.eq rfl (T.ret ⟨h8.1,hq.trans h8.2⟩)
 by_cases h:m=20
 ·rw [bZ,dt (by omega),cond_true]
  have r1:=insA (N+2) (by omega) hT hi (a:=0) (b:=20) (by omega) (by omega) hL hm ho hs
  obtain ⟨q,e,oq,lq⟩:=r1
  rw [show ((0:Nat):Int)=0 from rfl,show ((20:Nat):Int)=20 from rfl] at e
  refine T.eq (a:=(q,m,20)) ?_ (fin q 20 (by omega) oq lq)
  rw [e,Option.bind_some,show aAW q s.length=some () by unfold aAW;rw [lq.len,Nat.beq_refl];rfl,Option.bind_some]
  rw [bZ,show I64 (20+20)=40 by decide,df (by omega),cond_false]
 ·rw [bZ,df (by omega),cond_false]
  exact T.eq rfl (fin s 0 (by omega) ho (pZ.rfl' lo m s))
theorem ins2B (N:Nat) (hN:3 < N) {R:List aE} (hT:zT R) {lo m:Nat} {a:Int} {u v w i:Int} (hab:aGv u v) (hi:0≤i∧i < 3) (ha:0≤a) {b:List Int} (hL:lo+m≤b.length) (hm:m≤20) :
  ∀ (j k:Nat) (s:List Int),j < m→j < k→ord R.length s→pZ lo m b s→T (bM N a lo R u v w i k s m (j:Int)) (okS R.length lo m b):=by
 intro j
 induction j with
 | zero=>
  intro k s hj hk ho hs
  have hsl:=hs.len
  obtain ⟨k,rfl⟩:∃ k',k=k'+1:=⟨k - 1,by omega⟩
  rw [bM,df (by omega),cond_false]
  exact T.eq rfl (T.ret ⟨ho,hs,rfl⟩)
 | succ j ih=>
  intro k s hj hk ho hs
  have hsl:=hs.len
  obtain ⟨k,rfl⟩:∃ k',k=k'+1:=⟨k - 1,by omega⟩
  rw [bM,show I64 (((j+1:Nat):Int) - 1)=(j:Int) by rw [bF (by omega) (by omega)];omega]
  simp only [xT,Int.toNat_natCast]
  refine T.bind (P:=fun _=>True) ?_ fun p9 _=>T.cond (fun _=>?_) (fun _=>T.ret ⟨ho,hs,rfl⟩)
  ·refine T.cond (fun _=>?_) (fun _=>T.ret trivial)
   refine T.bind (T.inRS (by omega) (by omega) (by omega)) fun _ _=>T.bind (T.get0 (by omega)) fun e11 h11=>T.bind (T.inRS (by omega) (by omega) (by omega)) fun _ _=>T.bind (T.get0 (by omega)) fun e13 h13=>?_
   exact T.bind (aSM N hN hT (ho _ h11) (ho _ h13) hab hi) fun _ _=>T.ret trivial
  ·refine T.bind (T.inRS (by omega) (by omega) (by omega)) fun _ _=>T.bind (T.get (by omega)) fun e16 h16=>T.bind (T.inRS (by omega) (by omega) (by omega)) fun _ _=>T.bind (T.get (by omega)) fun e18 h18=>?_
   refine T.bind (T.inRS (by omega) (by omega) (by omega)) fun _ _=>T.bind (T.setO (by omega)) fun z20 h20=>T.bind (T.inRS (by omega) (by omega) (by omega)) fun _ _=>T.bind (T.setO (by rw [h20,List.length_set];omega)) fun z22 h22=>?_
   subst h22
   subst h20
   exact ih k _ (by omega) (by omega) (aFC (aFC ho (ho _ (List.mem_of_getElem? h16))) (ho _ (List.mem_of_getElem? h18))) (hs.trans (pZ.swap ⟨by omega,by omega⟩ ⟨by omega,by omega⟩ h16 h18))
theorem insB (N:Nat) (hN:50 < N) {R:List aE} (hT:zT R) {L lo m:Nat} {a b:Nat} {u v w i:Int} (hab:aGv u v) (hi:0≤i∧i < 3) (ha:a≤20) (hb:b≤m) (hL:lo+m≤L) (hm:m≤20) {s:List Int} (ho:ord R.length s) (hs0:s.length=L):T (bJ N s lo m (a:Int) (b:Int) R u v w i) (fun r=>ord R.length r∧pZ lo m s r):=by
 unfold bJ
 have main:∀ (k j:Nat) (q:List Int),b - j < k→j < 1000→ord R.length q→pZ lo m s q→T (cB N (b:Int) (a:Int) lo R u v w i k q m (j:Int)) (fun r=>ord R.length r∧pZ lo m s r):=by
  intro k
  induction k with
  | zero=>intro j q h;omega
  | succ k ih=>
   intro j q hj hj' ho hs
   rw [cB]
   refine T.cond (fun hc=>?_) (fun _=>T.ret ⟨ho,hs⟩)
   have hjb:j < b:=by have:=of_decide_eq_true hc;omega
   refine T.bind (ins2B N (by omega) hT hab hi (by omega) (b:=s) (by rw [hs0];exact hL) hm j N q (by omega) (by omega) ho hs) fun p5 h5=>?_
   obtain ⟨q',m'⟩:=p5
   obtain ⟨o1,o2,o3⟩:=h5
   dsimp only at o1 o2 o3
   subst o3
   rw [eE (by omega)]
   exact ih (j+1) q' (by omega) (by omega) o1 o2
 by_cases h:True
 ·rw [ia1 (by omega)]
  exact T.bind (main N (a+1) s (by omega) (by omega) ho (pZ.rfl' lo m s)) fun r h=>T.ret h
 ·exact absurd trivial h
theorem aP1 (N:Nat) (hN:50 < N) {R:List aE} (hT:zT R) {L lo m:Nat} {u v w i:Int} (hab:aGv u v) (hi:0≤i∧i < 3) (hL:lo+m≤L) (hm:m≤20) {s:List Int} (ho:ord R.length s) (hs:s.length=L):T (cP N s lo m R u v w i) (fun r=>ord R.length r∧pZ lo m s r):=by
 unfold cP eN
 refine T.bind (P:=fun r=>ord R.length r∧pZ lo m s r) ?_ fun r h=>T.ret h
 obtain ⟨N,rfl⟩:∃ n,N=n+2:=⟨N - 2,by omega⟩
 have fin:∀ (q:List Int) (a:Nat),a≤m→ord R.length q→pZ lo m s q→T (Option.bind (bJ (N+2) q lo m (a:Int) (m:Int) R u v w i) fun r8=>Option.bind (aAW r8 q.length) fun _=>Option.bind (cY (N+2) (m:Int) (N+2) 20) fun p10=>some r8) (fun r=>ord R.length r∧pZ lo m s r):=by
  intro q a ha ho hq
  refine T.bind (insB (N+2) (by omega) hT hab hi (by omega) (Nat.le_refl _) hL hm ho (hq.len.trans hs)) fun r8 h8=>T.bind (T.lenO h8.2.len) fun _ _=>?_
  rw [cY,df (by omega),cond_false]
  exact T.eq rfl (T.ret ⟨h8.1,hq.trans h8.2⟩)
 by_cases h:m=20
 ·rw [cC,dt (by omega),cond_true]
  have r1:=insB (N+2) (by omega) hT (w:=w) hab hi (a:=0) (b:=20) (by omega) (by omega) hL hm ho hs
  obtain ⟨q,e,oq,lq⟩:=r1
  rw [show ((0:Nat):Int)=0 from rfl,show ((20:Nat):Int)=20 from rfl] at e
  refine T.eq (a:=(q,m,20)) ?_ (fin q 20 (by omega) oq lq)
  rw [e,Option.bind_some,show aAW q s.length=some () by unfold aAW;rw [lq.len,Nat.beq_refl];rfl,Option.bind_some]
  rw [cC,show I64 (20+20)=40 by decide,df (by omega),cond_false]
 ·rw [cC,df (by omega),cond_false]
  exact T.eq rfl (fin s 0 (by omega) ho (pZ.rfl' lo m s))
structure aIs (R:List aE) (b:List Int) (lo m:Nat):Prop where
 tris:zT R
 ord:ord R.length b
 len:lo+m≤b.length
 few:m≤20
theorem aIs.get {R:List aE} {b:List Int} {lo m:Nat} (h:aIs R b lo m) {i:Nat} (hi:i < m):T (b[xI lo ((i:Int).toNat)]?) (fun e=>0≤e∧e < (R.length:Int)):=by
 rw [xT,Int.toNat_natCast]
 have:=h.len
 exact (T.get0 (by omega)).mono fun e he=>h.ord e he
theorem aIs.rs {R:List aE} {b:List Int} {lo m:Nat} (h:aIs R b lo m) {i:Nat} (hi:i < m):T (wU b.length lo m (i:Int)) (fun _=>True):=T.inRS h.len (by omega) (by omega)
def tinB (lo hi:aC) (t:aE):Prop:=∀ p∈t.gP.toList,ple lo p∧ple p hi
def aBD (R:List aE) (b:List Int) (lo m:Nat) (x y:aC):Prop:=∀ j,lo≤j→j < lo+m→∀ e,b[j]? = some e→∀ t,R[e.toNat]? = some t→tinB x y t
theorem aLi {a b c:aC} (h:ple a b) (g:ple b c):ple a c:=by unfold ple at *;omega
theorem boxDT (N:Nat) (hN:30 < N) {R:List aE} {b:List Int} {lo m:Nat} (h:aIs R b lo m):T (vB N b R lo m) (fun r=>(pwi 65536 r.1∧pwi 65536 r.2)∧aBD R b lo m r.1 r.2):=by
 unfold vB
 have z:pwi 65536 (aC.mk 0 0 0):=by unfold pwi;dsimp only;omega
 have fw:=h.few
 refine T.bind (T.loopG0 (n:=m) (fun i (s:aC×aC)=>(pwi 65536 s.1∧pwi 65536 s.2)∧aBD R b lo i s.1 s.2) (fun r=>(pwi 65536 r.1∧pwi 65536 r.2)∧aBD R b lo m r.1 r.2) (F:=fun k (s:aC×aC) i=>nS N m b lo R k s.1 s.2 i) (fun k s i hi hs hk=>?_) (fun k s hs=>?_) (by omega) (s:=(aC.mk 0 0 0,aC.mk 0 0 0)) ⟨⟨z,z⟩,fun j _ h=>absurd h (by omega)⟩) fun r hr=>T.ret hr
 ·rw [nS,aQ,dt (by omega),cond_true]
  refine T.bind (P:=fun p=>(pwi 65536 p.1∧pwi 65536 p.2.1)∧aBD R b lo (i+1) p.1 p.2.1) ?_ fun p6 h6=>by rw [eE (by omega)];exact hk (_,_) h6
  refine T.bind (h.rs hi) fun _ _=>?_
  obtain ⟨e8,ee,h8⟩:=h.get hi
  refine T.eq ee ?_
  rw [xT,Int.toNat_natCast] at ee
  have hidx:e8.toNat < R.length:=by omega
  have et:R[e8.toNat]? = some R[e8.toNat]:=List.getElem?_eq_getElem hidx
  have h9:tpw R[e8.toNat]:=h.tris.1 _ (List.getElem_mem hidx)
  refine T.eq (a:=R[e8.toNat]) ?_ (T.bind (T.slc3 _) fun s10 h10=>?_)
  ·have:e8=((e8.toNat:Nat):Int):=by omega
   exact (congrArg (idx R) this).trans ((eW R e8.toNat).trans et)
  generalize R[e8.toNat]=t at *
  subst h10
  refine T.bind (aIv N (by omega) h9) fun r11 h11=>?_
  have one:∀ {x y:aC},(∀ p∈t.gP.toList,ple x p∧ple p y)→(∀ j,lo≤j→j < lo+i→∀ e,b[j]? = some e→∀ t,R[e.toNat]? = some t→tinB x y t)→aBD R b lo (i+1) x y:=by
   intro x y hx hy j j1 j2 e he t' ht'
   by_cases c:j=lo+i
   ·subst c
    have:e8=e:=dA ee he
    subst this
    rw [et] at ht'
    cases ht'
    exact hx
   ·exact hy j j1 (by omega) e he t' ht'
  refine T.cond (fun hc=>T.ret ⟨⟨h11.1,h11.2.1⟩,one h11.2.2 fun j j1 j2=>?_⟩) (fun _=>?_)
  ·have:=of_decide_eq_true hc;omega
  refine T.bind (aMg N _ (m:=65536) (by decide) (by intro p hp;simp at hp;rcases hp with rfl | rfl;exact hs.1.1;exact h11.1) (by simp;omega) (by simp)) fun r12 h12=>?_
  refine T.bind (aMg N _ (m:=65536) (by decide) (by intro p hp;simp at hp;rcases hp with rfl | rfl;exact hs.1.2;exact h11.2.1) (by simp;omega) (by simp)) fun r13 h13=>T.ret ⟨⟨h12.1,h13.2.1⟩,one (fun p hp=>⟨aLi (h12.2.2 _ (by simp)).1 (h11.2.2 p hp).1,aLi (h11.2.2 p hp).2 (h13.2.2 _ (by simp)).2⟩) fun j j1 j2 e he t' ht' p hp=>?_⟩
  have q:=hs.2 j j1 j2 e he t' ht' p hp
  exact ⟨aLi (h12.2.2 s.1 (by simp)).1 q.1,aLi q.2 (h13.2.2 s.2 (by simp)).2⟩
 ·rw [nS,aQ,df (by omega),cond_false];exact T.ret hs
def aCQ (s:bE):Prop:=pwi 65536 s.glo∧pwi 65536 s.ghi
theorem aO7 : aCQ (bE.mk 0 (aC.mk 0 0 0) (aC.mk 0 0 0)):=by unfold aCQ pwi;dsimp only;omega
theorem aNd (N:Nat) (hN:10 < N) {s:bE} (hs:aCQ s) (n:Int) {a b:aC} (ha:pwi 65536 a) (hb:pwi 65536 b):T (nJ N s n a b) aCQ:=by
 unfold nJ
 refine T.cond (fun _=>T.ret hs) (fun _=>?_)
 refine T.bind (P:=fun p=>pwi 65536 p.1∧pwi 65536 p.2) ?_ fun p1 h1=>T.ret ⟨h1.1,h1.2⟩
 refine T.cond (fun _=>?_) (fun _=>T.ret ⟨ha,hb⟩)
 refine T.bind (aMg N _ (m:=65536) (by decide) (by intro p hp;simp at hp;rcases hp with rfl | rfl;exact hs.1;exact ha) (by simp;omega) (by simp)) fun r12 h12=>?_
 refine T.bind (aMg N _ (m:=65536) (by decide) (by intro p hp;simp at hp;rcases hp with rfl | rfl;exact hs.2;exact hb) (by simp;omega) (by simp)) fun r13 h13=>T.ret ⟨h12.1,h13.2.1⟩
theorem aQy (N:Nat) (s:bE):T (nU N s) (fun _=>True):=by
 unfold nU
 refine T.cond (fun _=>T.ret trivial) (fun _=>T.bind (P:=fun _=>True) (by unfold aA2;simp only [aQ];exact T.ret trivial) fun _ _=>T.ret trivial)
def midP (N:Nat) (R:List aE) (b:List Int) (lo m:Nat) (i u v:Int):Prop:=∀ j,j < m→∀ e,b[lo+j]? = some e→T (Option.bind (idx R e) fun t=>iY N t) (fun p=>u≤ax p i∧ax p i≤v)
theorem cutT (N:Nat) (hN:30 < N) {R:List aE} {b:List Int} {lo m:Nat} (h:aIs R b lo m) {i u v:Int} (hi:0≤i∧i < 3) (hab:aGv u v) (hm:midP N R b lo m i u v):T (qM N b R lo m i u v) (fun _=>True):=by
 unfold qM
 have fw:=h.few
 refine T.bind (P:=fun p1=>∀ s∈p1.toList,aCQ s) ?_ fun p1 h1=>?_
 ·refine T.loopG0 (n:=m) (fun _ (s:Vector bE 8)=>∀ x∈s.toList,aCQ x) _ (F:=kU N m b lo R i u v) (fun k s j hj hs hk=>?_) (fun k s hs=>?_) (by omega) (by intro x hx;simp at hx;rw [hx];exact aO7)
  ·rw [kU,aQ,dt (by omega),cond_true]
   have hmj:=hm j hj
   refine T.bind (h.rs hj) fun _ _=>?_
   have hg:=h.get hj
   obtain ⟨e6,ee6,he6⟩:=hg
   refine T.eq ee6 ?_
   rw [xT,Int.toNat_natCast] at ee6
   have hmid:=hmj e6 ee6
   obtain ⟨t,et,ht⟩:=T.tri h.tris he6
   refine T.eq et (T.bind (T.slc3 _) fun s8 h8=>?_)
   subst h8
   refine T.bind (aIv N (by omega) ht) fun r9 h9=>T.eq et ?_
   rw [et,Option.bind_some] at hmid
   obtain ⟨q,eq1,hq⟩:=hmid
   refine T.eq eq1 (T.bind (aCI N q hi.1 hi.2) fun r12 h12=>?_)
   subst h12
   refine T.bind (binT N hab hq) fun r13 h13=>T.bind (T.inRO h13.1 (by omega)) fun _ _=>?_
   have hv:r13.toNat < 8:=by omega
   refine T.eq (aAF s _ hv) (T.bind (aNd N (by omega) (hs _ (aHv s hv)) 1 h9.1 h9.2.1) fun r16 h16=>T.bind (T.inRO h13.1 (by omega)) fun _ _=>T.eq (aAF s _ hv) ?_)
   rw [eE (by omega)]
   refine hk _ fun x hx=>?_
   rw [Vector.toList_setIfInBounds] at hx
   rcases List.mem_or_eq_of_mem_set hx with hx | rfl
   ·exact hs x hx
   ·exact h16
  ·rw [kU,aQ,df (by omega),cond_false];exact T.ret hs
 refine T.bind (P:=fun _=>True) ?_ fun p19 _=>T.ret trivial
 have main:∀ (k j:Nat) (a c:Int),8 - j < k→j≤8→T (nK N p1 k a c (j:Int)) (fun _=>True):=by
  intro k
  induction k with
  | zero=>intro j a c h;omega
  | succ k ih=>
   intro j a c hk hj
   rw [nK]
   refine T.cond (fun hc=>?_) (fun _=>T.ret trivial)
   have hj8:j < 8:=by have:=of_decide_eq_true hc;omega
   refine T.bind (P:=fun _=>True) ?_ fun p23 _=>by rw [eE (by omega)];exact ih (j+1) _ _ (by omega) (by omega)
   refine T.bind (P:=fun _=>True) ?_ fun p24 _=>?_
   ·refine (T.loopG0 (n:=8) (fun _ (s:bE×bE)=>aCQ s.1∧aCQ s.2) (fun _=>True) (F:=fun k (s:bE×bE) x=>kV N p1 (j:Int) k s.1 s.2 x) (fun k s x hx hs hk=>?_) (fun k s hs=>?_) (by omega) (s:=(bE.mk 0 (aC.mk 0 0 0) (aC.mk 0 0 0),bE.mk 0 (aC.mk 0 0 0) (aC.mk 0 0 0))) ⟨aO7,aO7⟩)
    ·rw [kV,dt (by omega),cond_true]
     refine T.bind (P:=fun p=>aCQ p.1∧aCQ p.2.1) ?_ fun p28 h28=>by rw [eE (by omega)];exact hk (_,_) h28
     refine T.bind (T.idx (by omega) (by simp;omega)) fun e29 h29=>?_
     have he:=h1 _ (List.mem_of_getElem? h29)
     refine T.cond (fun _=>T.bind (aNd N (by omega) hs.1 _ he.1 he.2) fun r h=>T.ret ⟨h,hs.2⟩) (fun _=>T.bind (aNd N (by omega) hs.2 _ he.1 he.2) fun r h=>T.ret ⟨hs.1,h⟩)
    ·rw [kV,df (by omega),cond_false];exact T.ret trivial
   refine T.bind (aQy N _) fun _ _=>T.letO fun _ _=>T.bind (aQy N _) fun _ _=>?_
   simp only [aQ]
   exact T.cond (fun _=>T.ret trivial) (fun _=>T.ret trivial)
 exact main N 1 _ _ (by omega) (by decide)
theorem aPS (N:Nat) (hN:30 < N) {R:List aE} {b:List Int} {lo m:Nat} (h:aIs R b lo m) {i u v w:Int} (hi:0≤i∧i < 3) (hab:aGv u v):T (cV N b lo m R u v w i) (fun r=>r < (m:Int)∧r≤20):=by
 unfold cV
 have fw:=h.few
 by_cases hm:m=0
 ·subst hm
  obtain ⟨N,rfl⟩:∃ n,N=n+1:=⟨N - 1,by omega⟩
  rw [bI,aQ,df (by omega),cond_false]
  exact T.eq rfl (T.ret ⟨by decide,by decide⟩)
 refine T.bind (T.loopG0 (n:=m) (fun _ _=>True) (fun o=>match o with | .inl _=>True | .inr r=>r < (m:Int)∧r≤20) (F:=fun k (_:Unit) x=>bI N m b lo R u v w i k x) (fun k _ x hx _ hk=>?_) (fun k _ _=>?_) (by omega) (s:=()) trivial) fun o ho=>?_
 ·rw [bI,aQ,dt (by omega),cond_true]
  refine T.bind (h.rs hx) fun _ _=>T.bind (h.get hx) fun e he=>T.bind (aHp N (by omega) h.tris he hab hi) fun r _=>T.cond (fun _=>T.ret (show (x:Int) < (m:Int)∧(x:Int)≤20 by omega)) (fun _=>by rw [eE (by omega)];exact hk () trivial)
 ·rw [bI,aQ,df (by omega),cond_false];exact T.ret trivial
 ·cases o with
  | inl _=>exact T.ret ⟨by omega,by decide⟩
  | inr r=>exact T.ret ho
theorem aOg {p q:aC} (h:ple p q) (i:Int):ax p i≤ax q i:=by
 obtain ⟨a,b,c⟩:=h
 unfold ax;split
 ·exact a
 ·split
  ·exact b
  ·exact c
theorem partT (N:Nat) (hN:50 < N) {R:List aE} {b:List Int} {lo m:Nat} (h:aIs R b lo m) (d:Int):T (rT N b R lo m d) (fun r=>ord R.length r.1∧pZ lo m b r.1∧(r.2 > 0→r.2 < (m:Int))):=by
 unfold rT
 have fw:=h.few
 rw [aQ]
 refine T.cond (fun _=>T.ret ⟨h.ord,pZ.rfl' lo m b,fun h=>absurd h (show ¬ (0:Int) > 0 by decide)⟩) (fun hc=>?_)
 have hm4:=of_decide_eq_false hc
 refine T.bind (P:=fun p2=>p2.length=m∧(∀ p∈p2,pwi 131072 p)∧∀ j,j < m→∀ e,b[lo+j]? = some e→T (Option.bind (idx R e) fun t=>iY N t) (fun p=>p∈p2)) ?_ fun p2 h2=>?_
 ·refine T.loopG0 (n:=m) (fun x (s:List aC)=>s.length=x∧(∀ p∈s,pwi 131072 p)∧∀ j,j < x→∀ e,b[lo+j]? = some e→T (Option.bind (idx R e) fun t=>iY N t) (fun p=>p∈s)) _ (F:=lU N m b lo R) (fun k s x hx hs hk=>?_) (fun k s hs=>?_) (by omega) ⟨rfl,fun p h=>absurd h (by simp),fun j h=>absurd h (by omega)⟩
  ·rw [lU,aQ,dt (by omega),cond_true]
   refine T.bind (h.rs hx) fun _ _=>?_
   obtain ⟨e,ee,he⟩:=h.get hx
   refine T.eq ee ?_
   rw [xT,Int.toNat_natCast] at ee
   obtain ⟨t,et,ht⟩:=T.tri h.tris he
   refine T.eq et ?_
   obtain ⟨q,eq1,hq⟩:=aFS N (by omega) ht
   refine T.eq eq1 (T.eq (qD (by simp;omega)) ?_)
   rw [eE (by omega)]
   refine hk _ ⟨by simp;omega,?_,?_⟩
   ·intro p hp
    rw [List.mem_append,List.mem_singleton] at hp
    rcases hp with hp | rfl
    ·exact hs.2.1 p hp
    ·exact hq
   ·intro j hj e' he'
    by_cases ej:j=x
    ·subst ej
     obtain rfl:=dA ee he'
     rw [et,Option.bind_some]
     exact ⟨q,eq1,by simp⟩
    ·exact (hs.2.2 j (by omega) e' he').mono fun p hp=>by rw [List.mem_append];exact Or.inl hp
  ·rw [lU,aQ,df (by omega),cond_false];exact T.ret hs
 refine T.bind (aMg N p2 (m:=131072) (by decide) h2.2.1 (by omega) (by omega)) fun r11 h11=>?_
 refine T.bind (P:=fun i=>0≤i∧i < 3) ?_ fun i hi=>?_
 ·have main:∀ (k j:Nat) (a:Int),3 - j < k→j≤3→(0≤a∧a < 3)→T (oH N r11 k a (j:Int)) (fun i=>0≤i∧i < 3):=by
   intro k
   induction k with
   | zero=>intro j a h;omega
   | succ k ih=>
    intro j a hk hj ha
    rw [oH]
    refine T.cond (fun hc=>?_) (fun _=>T.ret ha)
    have hj3:j < 3:=by have:=of_decide_eq_true hc;omega
    refine T.bind (P:=fun i=>0≤i∧i < 3) ?_ fun p h=>by rw [eE (by omega)];exact ih (j+1) _ (by omega) (by omega) h
    refine T.bind (aCI N _ (by omega) (by omega)) fun _ _=>T.bind (aCI N _ (by omega) (by omega)) fun _ _=>T.bind (aCI N _ ha.1 ha.2) fun _ _=>T.bind (aCI N _ ha.1 ha.2) fun _ _=>?_
    rw [aQ]
    exact T.cond (fun _=>T.ret ⟨by omega,by omega⟩) (fun _=>T.ret ha)
  exact main N 1 0 (by omega) (by decide) (by decide)
 refine T.bind (aCI N _ hi.1 hi.2) fun u hu=>T.bind (aCI N _ hi.1 hi.2) fun v hv=>?_
 refine T.cond (fun _=>T.ret ⟨h.ord,pZ.rfl' lo m b,fun h=>absurd h (show ¬ (0:Int) > 0 by decide)⟩) (fun hc2=>?_)
 have hab:aGv u v:=⟨by simpa using hc2,by rw [hu];exact ax_b h11.1 i,by rw [hv];exact ax_b h11.2.1 i⟩
 refine T.cond (fun _=>?_) (fun _=>?_)
 ·refine T.bind (aP3 N hN h.tris hi h.len fw h.ord rfl) fun r23 h23=>T.bind (T.lenO h23.2.len) fun _ _=>?_
  rw [aQ]
  refine T.ret ⟨h23.1,h23.2,fun _=>?_⟩
  show I64 (Int.tdiv (m:Int) 2) < (m:Int)
  rw [Int.tdiv_eq_ediv_of_nonneg (by omega),bF (by omega) (by omega)]
  omega
 ·refine T.bind (cutT N (by omega) h hi hab ?_) fun w _=>?_
  ·intro j hj e he
   refine (h2.2.2 j hj e he).mono fun p hp=>?_
   have:=h11.2.2 p hp
   rw [hu,hv]
   exact ⟨aOg this.1 i,aOg this.2 i⟩
  refine T.bind (aP1 N hN h.tris (w:=w) hab hi h.len fw h.ord rfl) fun r27 h27=>T.bind (T.lenO h27.2.len) fun _ _=>?_
  refine T.bind (aPS N (by omega) (b:=r27) (lo:=lo) (m:=m) ⟨h.tris,h27.1,by rw [h27.2.len];exact h.len,fw⟩ (w:=w) hi hab) fun r29 h29=>T.ret ⟨h27.1,h27.2,fun _=>h29.1⟩
def aJI (n len i:Nat) (d:bC):Prop:=(0≤d.gA6→((i:Int) < d.gA6∧d.gA6 < (len:Int))∧(i:Int) < d.gA7∧d.gA7 < (len:Int))∧(d.gA6 < 0→0≤d.gC2∧0≤d.gC9∧d.gC2+d.gC9≤(n:Int))
def aEg (n len:Nat) (t:bA):Prop:=(0≤t.gA1∧t.gA1 < (len:Int))∧0≤t.gB∧1≤t.gA0∧t.gB+t.gA0≤(n:Int)
def zB (l:List bA):Int:=(l.map fun t=>2*t.gA0 - 1).sum
def aBd (l:List bA):Int:=(l.map fun t=>2*t.gA0 - 2).sum
theorem aDy (a b:List bA):zB (a++b)=zB a+zB b:=by unfold zB;rw [List.map_append,List.sum_append]
theorem aHO (a b:List bA):aBd (a++b)=aBd a+aBd b:=by unfold aBd;rw [List.map_append,List.sum_append]
theorem aFT {n len:Nat} {l:List bA} (h:∀ t∈l,aEg n len t):(l.length:Int)≤zB l:=by
 induction l with
 | nil=>exact Int.le_refl _
 | cons t l ih=>
  have h1:=ih fun t ht=>h t (List.mem_cons_of_mem _ ht)
  have h2:=h t (List.mem_cons_self ..)
  obtain ⟨_,_,h3,_⟩:=h2
  show ((l.length+1:Nat):Int)≤(2*t.gA0 - 1)+zB l
  omega
theorem aOa {n len:Nat} {l:List bA} (h:∀ t∈l,aEg n len t):0≤aBd l:=by
 induction l with
 | nil=>exact Int.le_refl _
 | cons t l ih=>
  have h1:=ih fun t ht=>h t (List.mem_cons_of_mem _ ht)
  have h2:=h t (List.mem_cons_self ..)
  obtain ⟨_,_,h3,_⟩:=h2
  show 0≤(2*t.gA0 - 2)+aBd l
  omega
theorem aJ8 {n len len' i:Nat} {d:bC} (h:aJI n len i d) (hl:len≤len'):aJI n len' i d:=by
 unfold aJI at *
 refine ⟨fun h0=>?_,h.2⟩
 have:=h.1 h0
 omega
theorem aLD {n len len':Nat} {t:bA} (h:aEg n len t) (hl:len≤len'):aEg n len' t:=by unfold aEg at *;omega
theorem aAa {α:Type} (l:List α) (m:Nat) (r:List α) (h:m≤l.length):(sU l m r).take (m+r.length)=l.take m++r:=by
 unfold sU
 rw [List.take_append_of_le_length (by rw [List.length_append,List.length_take];omega)]
 exact List.take_of_length_le (by rw [List.length_append,List.length_take];omega)
theorem aDI {α:Type} (l:List α) (m:Nat) (r:List α) (h:m≤l.length):m+r.length≤(sU l m r).length:=by rw [aI8 h];omega
theorem oU {α:Type} {l:List α} {m:Nat} {e:α} (h:l[m]? = some e):l.take (m+1)=l.take m++[e]:=by
 rw [List.take_succ,h];rfl
theorem vP {R:List aE} {o o':List Int} {lo m f c:Nat} {x y:aC} (h:aBD R o f c x y) (s:pZ lo m o o') (hr:(f≤lo∧lo+m≤f+c)∨f+c≤lo∨lo+m≤f):aBD R o' f c x y:=by
 intro j j1 j2 e he t ht
 by_cases hj:lo≤j∧j < lo+m
 ·obtain ⟨j',a1,a2,a3⟩:=s.sub j hj.1 hj.2
  rw [a3] at he
  exact h j' (by omega) (by omega) e he t ht
 ·rw [s.out j (by omega)] at he
  exact h j j1 j2 e he t ht
def aNu (nd:bC):Prop:=pwi 65536 nd.gLo∧pwi 65536 nd.gHi
inductive Cv (R:List aE) (o:List Int) (d:List bC) (D:Int→Prop):Int→Nat→Nat→List bA→Prop
 | pend (t:bA) (f c:Nat):t.gB=(f:Int)→t.gA0=(c:Int)→Cv R o d D t.gA1 f c [t]
 | leaf (i:Int) (f c:Nat) (nd:bC):D i→d[i.toNat]? = some nd→nd.gA6 < 0→nd.gC2=(f:Int)→nd.gC9=(c:Int)→aBD R o f c nd.gLo nd.gHi→aNu nd→Cv R o d D i f c []
 | node (i:Int) (f c1 c2:Nat) (nd:bC) (L1 L2:List bA):D i→d[i.toNat]? = some nd→0≤nd.gA6→Cv R o d D nd.gA6 f c1 L1→Cv R o d D nd.gA7 (f+c1) c2 L2→aBD R o f (c1+c2) nd.gLo nd.gHi→aNu nd→Cv R o d D i f (c1+c2) (L1++L2)
theorem Cv.rng {R:List aE} {o:List Int} {d:List bC} {D:Int→Prop} {i:Int} {f c:Nat} {L:List bA} (h:Cv R o d D i f c L):∀ t∈L,∃ f' c':Nat,t.gB=(f':Int)∧t.gA0=(c':Int)∧f≤f'∧f'+c'≤f+c:=by
 induction h with
 | pend t f c h1 h2=>
  intro u hu
  have:u=t:=by simpa using hu
  subst this;exact ⟨f,c,h1,h2,by omega,by omega⟩
 | leaf=>intro u hu;exact absurd hu (by simp)
 | node i f c1 c2 nd L1 L2 _ _ _ _ _ _ _ i1 i2=>
  intro u hu
  rw [List.mem_append] at hu
  rcases hu with hu | hu
  ·obtain ⟨f',c',a,b,x,y⟩:=i1 u hu;exact ⟨f',c',a,b,by omega,by omega⟩
  ·obtain ⟨f',c',a,b,x,y⟩:=i2 u hu;exact ⟨f',c',a,b,by omega,by omega⟩
theorem Cv.far {R:List aE} {o o':List Int} {d d':List bC} {D D':Int→Prop} {lo m:Nat} (s:pZ lo m o o') (hD:∀ i,D i→D' i∧d'[i.toNat]? = d[i.toNat]?) {i:Int} {f c:Nat} {L:List bA} (h:Cv R o d D i f c L):(f+c≤lo∨lo+m≤f)→Cv R o' d' D' i f c L:=by
 induction h with
 | pend t f c h1 h2=>intro _;exact .pend t f c h1 h2
 | leaf i f c nd h1 h2 h3 h4 h5 h6 h7=>intro hr;exact .leaf i f c nd (hD i h1).1 ((hD i h1).2.trans h2) h3 h4 h5 (vP h6 s (Or.inr hr)) h7
 | node i f c1 c2 nd L1 L2 h1 h2 h3 _ _ h6 h7 i1 i2=>intro hr;exact .node i f c1 c2 nd L1 L2 (hD i h1).1 ((hD i h1).2.trans h2) h3 (i1 (by omega)) (i2 (by omega)) (vP h6 s (Or.inr hr)) h7
theorem Cv.mono {R:List aE} {o:List Int} {d:List bC} {D D':Int→Prop} (hD:∀ i,D i→D' i) {i:Int} {f c:Nat} {L:List bA} (h:Cv R o d D i f c L):Cv R o d D' i f c L:=by
 induction h with
 | pend t f c h1 h2=>exact .pend t f c h1 h2
 | leaf i f c nd h1 h2 h3 h4 h5 h6 h7=>exact .leaf i f c nd (hD i h1) h2 h3 h4 h5 h6 h7
 | node i f c1 c2 nd L1 L2 h1 h2 h3 _ _ h6 h7 i1 i2=>exact .node i f c1 c2 nd L1 L2 (hD i h1) h2 h3 i1 i2 h6 h7
theorem Cv.near {R:List aE} {o o':List Int} {d d':List bC} {D D':Int→Prop} {lo m:Nat} (s:pZ lo m o o') (hD:∀ i,D i→D' i∧d'[i.toNat]? = d[i.toNat]?) {t:bA} (ht1:t.gB=(lo:Int)) (ht2:t.gA0=(m:Int)) {Ln:List bA} (hn:Cv R o' d' D' t.gA1 lo m Ln) {i:Int} {f c:Nat} {L:List bA} (h:Cv R o d D i f c L):t∈L→∃ La Lb,L=La++t :: Lb∧Cv R o' d' D' i f c (La++(Ln++Lb)):=by
 induction h with
 | pend u f c h1 h2=>
  intro hu
  have:t=u:=by simpa using hu
  subst this
  obtain rfl:f=lo:=by omega
  obtain rfl:c=m:=by omega
  exact ⟨[],[],rfl,by simpa using hn⟩
 | leaf=>intro hu;exact absurd hu (by simp)
 | node i f c1 c2 nd L1 L2 h1 h2 h3 g1 g2 h6 h7 i1 i2=>
  intro hu
  rw [List.mem_append] at hu
  rcases hu with hu | hu
  ·obtain ⟨f',c',a,b,x,y⟩:=g1.rng t hu
   obtain ⟨La,Lb,e,q⟩:=i1 hu
   refine ⟨La,Lb++L2,by rw [e];simp,?_⟩
   have:=Cv.node i f c1 c2 nd _ L2 (hD i h1).1 ((hD i h1).2.trans h2) h3 q (g2.far s hD (by omega)) (vP h6 s (by omega)) h7
   simpa [List.append_assoc] using this
  ·obtain ⟨f',c',a,b,x,y⟩:=g2.rng t hu
   obtain ⟨La,Lb,e,q⟩:=i2 hu
   refine ⟨L1++La,Lb,by rw [e];simp,?_⟩
   have:=Cv.node i f c1 c2 nd L1 _ (hD i h1).1 ((hD i h1).2.trans h2) h3 (g1.far s hD (by omega)) q (vP h6 s (by omega)) h7
   simpa [List.append_assoc] using this
def aL0 (n:Nat) (o:List Int):Prop:=∀ e:Nat,e < n→∃ j:Nat,j < n∧o[j]? = some (e:Int)
theorem aFy {n lo m:Nat} {o o':List Int} (h:aL0 n o) (s:pZ lo m o o') (hn:lo+m≤n):aL0 n o':=by
 intro e he
 obtain ⟨j,h1,h2⟩:=h e he
 by_cases hj:lo≤j∧j < lo+m
 ·obtain ⟨j',a1,a2,a3⟩:=s.sup j hj.1 hj.2
  exact ⟨j',by omega,by rw [← a3];exact h2⟩
 ·exact ⟨j,h1,by rw [s.out j (by omega)];exact h2⟩
def aGM (d:List bC) (l:List bA) (i:Int):Prop:=(0≤i∧i < (d.length:Int))∧∀ t∈l,t.gA1≠i
structure Bld (R:List aE) (o:List Int) (d:List bC) (l:List bA):Prop where
 tris:zT R
 ord:ord R.length o
 len:o.length=R.length
 todo:∀ t∈l,aEg R.length d.length t
 good:∀ i,(h:i < d.length)→(∃ t∈l,t.gA1=(i:Int))∨aJI R.length d.length i d[i]
 room:(d.length:Int)+aBd l≤39
 full:aL0 R.length o
 one:(l.map (·.gA1)).Nodup
 tree:∃ L,Cv R o d (aGM d l) 0 0 R.length L∧L.Perm l
def wR (n:Nat) (b:aY):Prop:=ord n b.gB9∧b.gB9.length=n∧b.gQ.length≤39∧∀ i,(h:i < b.gQ.length)→aJI n b.gQ.length i b.gQ[i]
def tS (R:List aE) (b:aY):Prop:=(R.length=0∧b.gQ=[])∨(0 < R.length∧aL0 R.length b.gB9∧Cv R b.gB9 b.gQ (fun _=>True) 0 0 R.length [])
theorem aGP {l:List bA} {t:bA} (h:((l++[t]).map (·.gA1)).Nodup):(l.map (·.gA1)).Nodup∧∀ u∈l,u.gA1≠t.gA1:=by
 rw [List.map_append,List.nodup_append] at h
 refine ⟨h.1,fun u hu e=>?_⟩
 exact h.2.2 _ (List.mem_map_of_mem hu) _ (by simp) e
theorem aHU {L La Lb l Ln:List bA} {t:bA} (e:L=La++t :: Lb) (h:L.Perm (l++[t])):(La++(Ln++Lb)).Perm (l++Ln):=by
 subst e
 have h1:(t :: (La++Lb)).Perm (t :: l):=(List.perm_middle.symm.trans h).trans (List.perm_append_comm (l₁:=l) (l₂:=[t]))
 have h2:(La++Lb).Perm l:=List.Perm.cons_inv h1
 have h3:(La++(Ln++Lb)).Perm (La++(Lb++Ln)):=List.Perm.append_left La List.perm_append_comm
 rw [← List.append_assoc] at h3
 rw [← List.append_assoc]
 refine (by rw [List.append_assoc];exact List.Perm.append_left La List.perm_append_comm:(La++Ln++Lb).Perm (La++(Lb++Ln))).trans ?_
 rw [← List.append_assoc]
 exact List.Perm.append_right Ln h2
theorem Bld.leaf {R:List aE} {o o':List Int} {d:List bC} {l:List bA} {t:bA} {x:bC} (h:Bld R o d (l++[t])) (ho:Go.UK.ord R.length o') (hl:pZ t.gB.toNat t.gA0.toNat o o') (hx:x.gA6 < 0) (hf:x.gC2=t.gB) (hc:x.gC9=t.gA0) (hb:aBD R o t.gB.toNat t.gA0.toNat x.gLo x.gHi) (hn:aNu x):Bld R o' (d.set t.gA1.toNat x) l:=by
 have ht:=h.todo t (by simp)
 obtain ⟨n1,n2⟩:=aGP h.one
 refine ⟨h.tris,ho,hl.len.trans h.len,fun u hu=>by rw [List.length_set];exact h.todo u (by simp [hu]),fun i hi=>?_,?_,aFy h.full hl (by obtain ⟨_,a,b,c⟩:=ht;omega),n1,?_⟩
 ·rw [List.length_set] at hi ⊢
  by_cases e:i=t.gA1.toNat
  ·subst e
   right
   rw [List.getElem_set_self]
   obtain ⟨_,a,b,c⟩:=ht
   exact ⟨fun h=>by omega,fun _=>by rw [hf,hc];omega⟩
  ·rw [List.getElem_set_ne (by omega)]
   rcases h.good i hi with ⟨u,hu,e'⟩ | g
   ·rw [List.mem_append,List.mem_singleton] at hu
    rcases hu with hu | rfl
    ·exact Or.inl ⟨u,hu,e'⟩
    ·omega
   ·exact Or.inr g
 ·rw [List.length_set]
  have r:=h.room
  rw [aHO] at r
  have:aBd [t]=2*t.gA0 - 2+0:=rfl
  obtain ⟨_,_,b,_⟩:=ht
  omega
 ·obtain ⟨L,cv,pm⟩:=h.tree
  obtain ⟨⟨a1,a2⟩,b1,b2,b3⟩:=ht
  have hD:∀ i,aGM d (l++[t]) i→aGM (d.set t.gA1.toNat x) l i∧(d.set t.gA1.toNat x)[i.toNat]? = d[i.toNat]? := by
   intro i ⟨q1,q2⟩
   have:=q2 t (by simp)
   exact ⟨⟨by rw [List.length_set];exact q1,fun u hu=>q2 u (by simp [hu])⟩,List.getElem?_set_ne (by omega)⟩
  have new:Cv R o' (d.set t.gA1.toNat x) (aGM (d.set t.gA1.toNat x) l) t.gA1 t.gB.toNat t.gA0.toNat []:=
   .leaf _ _ _ x ⟨by rw [List.length_set];exact ⟨a1,a2⟩,n2⟩ (List.getElem?_set_self (by omega)) hx (by omega) (by omega) (vP hb hl (by omega)) hn
  obtain ⟨La,Lb,e,q⟩:=Cv.near (t:=t) hl hD (by omega) (by omega) new cv (pm.mem_iff.2 (by simp))
  exact ⟨_,q,by have:=aHU (Ln:=[]) e pm;simpa using this⟩
theorem Bld.inner {R:List aE} {o o':List Int} {d:List bC} {l:List bA} {t u v:bA} {x:bC} {e1 e2:bC} {c:Int} (h:Bld R o d (l++[t])) (ho:Go.UK.ord R.length o') (hl:pZ t.gB.toNat t.gA0.toNat o o') (hx:x.gA6=(d.length:Int)) (hy:x.gA7=(d.length:Int)+1) (hc:0 < c∧c < t.gA0)
  (hu:u.gA1=(d.length:Int)+1∧u.gB=t.gB+c∧u.gA0=t.gA0 - c) (hv:v.gA1=(d.length:Int)∧v.gB=t.gB∧v.gA0=c) (hb:aBD R o t.gB.toNat t.gA0.toNat x.gLo x.gHi) (hn:aNu x):Bld R o' ((d++[e1,e2]).set t.gA1.toNat x) (l++[u,v]):=by
 have ht:=h.todo t (by simp)
 obtain ⟨n1,n2⟩:=aGP h.one
 have dl:((d++[e1,e2]).set t.gA1.toNat x).length=d.length+2:=by rw [List.length_set,List.length_append];rfl
 have old:∀ w∈l,w.gA1 < (d.length:Int):=fun w hw=>(h.todo w (by simp [hw])).1.2
 refine ⟨h.tris,ho,hl.len.trans h.len,fun w hw=>?_,fun i hi=>?_,?_,aFy h.full hl (by obtain ⟨_,a,b,c⟩:=ht;omega),?_,?_⟩
 ·rw [dl]
  rw [List.mem_append] at hw
  rcases hw with hw | hw
  ·exact aLD (h.todo w (by simp [hw])) (by omega)
  ·obtain ⟨_,a,b,c'⟩:=ht
   simp at hw
   rcases hw with rfl | rfl
   ·unfold aEg;omega
   ·unfold aEg;omega
 ·simp only [dl]
  rw [dl] at hi
  by_cases e:i=t.gA1.toNat
  ·subst e
   right
   rw [List.getElem_set_self]
   obtain ⟨⟨a1,a2⟩,a,b,c⟩:=ht
   exact ⟨fun _=>by rw [hx,hy];omega,fun h=>by omega⟩
  ·rw [List.getElem_set_ne (by omega)]
   by_cases hd:i < d.length
   ·rcases h.good i hd with ⟨w,hw,e'⟩ | g
    ·rw [List.mem_append,List.mem_singleton] at hw
     rcases hw with hw | rfl
     ·exact Or.inl ⟨w,by rw [List.mem_append];exact Or.inl hw,e'⟩
     ·omega
    ·right
     rw [List.getElem_append_left hd]
     exact aJ8 g (by omega)
   ·left
    have:i=d.length∨i=d.length+1:=by omega
    rcases this with rfl | rfl
    ·exact ⟨v,by simp,hv.1⟩
    ·exact ⟨u,by simp,by rw [hu.1];omega⟩
 ·rw [dl]
  have r:=h.room
  rw [aHO] at r ⊢
  have e1:aBd [t]=2*t.gA0 - 2+0:=rfl
  have e2:aBd [u,v]=2*u.gA0 - 2+(2*v.gA0 - 2+0):=rfl
  omega
 ·rw [List.map_append,List.nodup_append]
  refine ⟨n1,by simp;rw [hu.1,hv.1];omega,fun a ha b hb e=>?_⟩
  rw [List.mem_map] at ha
  obtain ⟨w,hw,rfl⟩:=ha
  have:=old w hw
  simp at hb
  rcases hb with rfl | rfl
  ·rw [hu.1] at e;omega
  ·rw [hv.1] at e;omega
 ·obtain ⟨L,cv,pm⟩:=h.tree
  obtain ⟨⟨a1,a2⟩,b1,b2,b3⟩:=ht
  have hD:∀ i,aGM d (l++[t]) i→aGM ((d++[e1,e2]).set t.gA1.toNat x) (l++[u,v]) i∧((d++[e1,e2]).set t.gA1.toNat x)[i.toNat]? = d[i.toNat]? := by
   intro i ⟨q1,q2⟩
   have:=q2 t (by simp)
   refine ⟨⟨by rw [dl];omega,fun w hw=>?_⟩,by rw [List.getElem?_set_ne (by omega),List.getElem?_append_left (by omega)]⟩
   rw [List.mem_append] at hw
   rcases hw with hw | hw
   ·exact q2 w (by simp [hw])
   ·simp at hw
    rcases hw with rfl | rfl
    ·rw [hu.1];omega
    ·rw [hv.1];omega
  obtain ⟨cn,rfl⟩:=Int.eq_ofNat_of_zero_le (show 0≤c by omega)
  have new:Cv R o' ((d++[e1,e2]).set t.gA1.toNat x) (aGM ((d++[e1,e2]).set t.gA1.toNat x) (l++[u,v])) t.gA1 t.gB.toNat t.gA0.toNat ([v]++[u]):=by
   have hm:t.gA0.toNat=cn+(t.gA0.toNat - cn):=by omega
   rw [hm]
   refine .node _ _ cn (t.gA0.toNat - cn) x [v] [u] ⟨by rw [dl];omega,fun w hw=>?_⟩ (List.getElem?_set_self (by rw [List.length_append];omega)) (by omega) ?_ ?_ (by rw [← hm];exact vP hb hl (by omega)) hn
   ·rw [List.mem_append] at hw
    rcases hw with hw | hw
    ·exact n2 w hw
    ·simp at hw
     rcases hw with rfl | rfl
     ·rw [hu.1];omega
     ·rw [hv.1];omega
   ·rw [hx,← hv.1];exact .pend v _ _ (by omega) (by omega)
   ·rw [hy,← hu.1];exact .pend u _ _ (by omega) (by omega)
  obtain ⟨La,Lb,e,q⟩:=Cv.near (t:=t) hl hD (by omega) (by omega) new cv (pm.mem_iff.2 (by simp))
  refine ⟨_,q,(aHU (Ln:=[v]++[u]) e pm).trans ?_⟩
  exact List.Perm.append_left l (List.Perm.swap u v [])
theorem aPr (N:Nat) (hN:100 < N) {R:List aE}:∀ (k:Nat) (o:List Int) (d:List bC) (s:List bA) (m:Nat),m≤s.length→Bld R o d (s.take m)→zB (s.take m) < (k:Int)→zB (s.take m)≤100 →
  T (pV N R k o d s m) (fun r=>Bld R r.1 r.2.1 []):=by
 intro k
 induction k with
 | zero=>
  intro o d s m hm h hw
  have:=aFT h.todo
  omega
 | succ k ih=>
  intro o d s m hm h hw hw'
  rw [pV,aQ]
  have lenT:(s.take m).length=m:=by rw [List.length_take];omega
  have wl:=aFT h.todo
  rw [lenT] at wl
  refine T.cond (fun hc=>?_) (fun hc=>?_)
  ·obtain ⟨m,rfl⟩:∃ m',m=m'+1:=⟨m - 1,by have:=of_decide_eq_true hc;omega⟩
   have im:I64 (((m+1:Nat):Int) - 1)=(m:Int):=by rw [bF (by omega) (by omega)];omega
   simp only [aQ,im,Int.toNat_natCast]
   obtain ⟨t,et⟩:∃ t,s[m]? = some t:=⟨_,List.getElem?_eq_getElem (by omega)⟩
   have hs:=oU et
   rw [hs] at h hw hw'
   have ht:=h.todo t (by simp)
   obtain ⟨⟨tn1,tn2⟩,t1,t2,t3⟩:=ht
   have n20:=h.tris.2
   have ol:=h.len
   have rm:=h.room
   have rg:=aOa h.todo
   rw [aDy,show zB [t]=2*t.gA0 - 1+0 from rfl] at hw hw'
   have wl2:=aFT (l:=s.take m) fun u hu=>h.todo u (by simp [hu])
   rw [show (s.take m).length=m by rw [List.length_take];omega] at wl2
   refine T.bind (T.inRS (by omega) (by omega) (by omega)) fun _ _=>T.eq et (T.bind (T.slcG (by omega) (by omega) (by omega) (by omega) (Or.inl rfl)) fun _ _=>?_)
   have ifc:I64 (t.gB+t.gA0)=t.gB+t.gA0:=bF (by omega) (by omega)
   rw [ifc]
   refine T.bind (T.slcG (by omega) t1 (by omega) (by omega) (by omega)) fun _ _=>?_
   have hp:aIs R o t.gB.toNat ((t.gB+t.gA0).toNat - t.gB.toNat):=⟨h.tris,h.ord,by omega,by omega⟩
   have cnt:(t.gB+t.gA0).toNat - t.gB.toNat=t.gA0.toNat:=by omega
   rw [cnt] at hp ⊢
   refine T.bind (boxDT N (by omega) hp) fun r30 h30=>?_
   have step:∀ (o':List Int) (d':List bC) (s':List bA) (x:bC) (m':Nat),m'≤s'.length→t.gA1 < (d'.length:Int)→Bld R o' (d'.set t.gA1.toNat x) (s'.take m')→zB (s'.take m') < (k:Int)→zB (s'.take m')≤100 →
     T (Option.bind (fD t.gA1 d'.length) fun _=>Option.bind (aF1 d' t.gA1.toNat x) fun z41=>pV N R k o' z41 s' m') (fun r=>Bld R r.1 r.2.1 []):=by
    intro o' d' s' x m' h1 h2 h3 h4 h5
    refine T.bind (T.inRO tn1 h2) fun _ _=>T.bind (T.setO (by omega)) fun z hz=>?_
    subst hz
    exact ih _ _ _ _ h1 h3 h4 h5
   refine T.bind (P:=fun p=>p.2.2.2.2≤p.2.2.1.length∧t.gA1 < (p.2.1.length:Int)∧Bld R p.1 (p.2.1.set t.gA1.toNat p.2.2.2.1) (p.2.2.1.take p.2.2.2.2)∧zB (p.2.2.1.take p.2.2.2.2) < (k:Int)∧zB (p.2.2.1.take p.2.2.2.2)≤100) ?_ fun p31 h31=>step _ _ _ _ _ h31.1 h31.2.1 h31.2.2.1 h31.2.2.2.1 h31.2.2.2.2
   refine T.bind (partT N (by omega) hp t.gD9) fun r32 h32=>T.bind (T.lenO h32.2.1.len) fun _ _=>?_
   refine T.cond (fun hc=>?_) (fun _=>?_)
   ·have c0:=of_decide_eq_true hc
    have c1:=h32.2.2 c0
    have i1:I64 ((d.length:Int)+1)=(d.length:Int)+1:=bF (by omega) (by omega)
    have i2:I64 (t.gB+r32.2)=t.gB+r32.2:=bF (by omega) (by omega)
    have i3:I64 (t.gA0 - r32.2)=t.gA0 - r32.2:=bF (by omega) (by omega)
    rw [i1,i2,i3]
    refine T.eq (qD (by simp;omega)) (T.bind (T.appG (by omega) (show (m+2)*32≤140737488355328 by omega)) fun z39 h39=>T.ret ?_)
    subst h39
    have tk:∀ a b:bA,(sU s m [a,b]).take (m+2)=s.take m++[a,b]:=fun a b=>aAa s m [a,b] (by omega)
    dsimp only
    refine ⟨aDI s m [_,_] (by omega),by rw [List.length_append];simp;omega,?_,?_,?_⟩
    ·rw [tk]
     exact h.inner (c:=r32.2) h32.1 h32.2.1 rfl rfl ⟨c0,by omega⟩ ⟨rfl,rfl,rfl⟩ ⟨rfl,rfl,rfl⟩ h30.2 h30.1
    ·rw [tk,aDy]
     show zB (s.take m)+(2*(t.gA0 - r32.2) - 1+(2*r32.2 - 1+0)) < (k:Int)
     omega
    ·rw [tk,aDy]
     show zB (s.take m)+(2*(t.gA0 - r32.2) - 1+(2*r32.2 - 1+0))≤100
     omega
   ·refine T.ret ⟨by dsimp only;omega,tn2,?_,by dsimp only;omega,by dsimp only;omega⟩
    exact h.leaf h32.1 h32.2.1 (show (-1:Int) < 0 by decide) rfl rfl h30.2 h30.1
  ·have:m=0:=by have:=of_decide_eq_false hc;omega
   subst this
   exact T.ret h
theorem aNt (N:Nat) (hN:10 < N) {t:aE} (h:tpw t):T (wN N t) (fun r=>pwi 65536 r.1∧pwi 65536 r.2):=by
 unfold wN
 refine T.bind (P:=fun r=>pwi 65536 r.1∧pwi 65536 r.2) ?_ fun _ h=>T.ret h
 have z:pwi 65536 (aC.mk 0 0 0):=by unfold pwi;dsimp only;omega
 refine T.loopG0 (n:=3) (fun _ (s:aC×aC)=>pwi 65536 s.1∧pwi 65536 s.2) _ (F:=fun k (s:aC×aC) i=>pE N t k s.1 s.2 i) (fun k s i hi hs hk=>?_) (fun k s hs=>?_) (by omega) (s:=(aC.mk 0 0 0,aC.mk 0 0 0)) ⟨z,z⟩
 ·rw [pE,aQ,dt (by omega),cond_true]
  refine T.bind (T.inRO (by omega) (by omega)) fun _ _=>T.eq (aAF t.gP i hi) ?_
  have he:=h _ (aHv t.gP hi)
  generalize t.gP[i]=e at *
  refine T.bind (P:=fun p=>pwi 65536 p.1∧pwi 65536 p.2) (T.cond (fun _=>T.ret ⟨he,he⟩) (fun _=>T.ret hs)) fun p hp=>?_
  rw [eE (by omega)]
  refine hk (_,_) ⟨?_,?_⟩
  ·unfold pwi at *;simp only [tX];omega
  ·unfold pwi at *;simp only [rP];omega
 ·rw [pE,aQ,df (by omega),cond_false];exact T.ret hs
theorem aR9 (N:Nat) (hN:100 < N) {R:List aE} (hR:zT R):T (wS N R) (fun r=>r.2=0∧wR R.length r.1∧tS R r.1):=by
 unfold wS
 have n20:=hR.2
 rw [aQ]
 refine T.cond (fun hc=>absurd (of_decide_eq_true hc) (by omega)) (fun _=>?_)
 refine T.bind (T.loopG0 (n:=R.length) (fun _ _=>True) (fun o=>match o with | .inl _=>True | .inr r=>False) (F:=fun k (_:Unit) i=>pH N R k i) (fun k _ i hi _ hk=>?_) (fun k _ _=>?_) (by omega) (s:=()) trivial) fun o ho=>?_
 ·rw [pH,aQ,dt (by omega),cond_true]
  refine T.bind (T.tri hR ⟨by omega,by omega⟩) fun _ ht=>T.eq (a:=()) (by decide) (T.bind (aNt N (by omega) ht) fun r7 h7=>T.bind (P:=fun p=>p=false) ?_ fun p8 h8=>?_)
  ·obtain ⟨g1,g2⟩:=h7
   unfold pwi at g1 g2
   simp only [aQ,tX,rP]
   rw [df (show ¬ min (min r7.1.gX r7.1.gY) r7.1.gZ < -1048576 by omega),df (show ¬ max (max r7.2.gX r7.2.gY) r7.2.gZ > 1048576 by omega)]
   exact ⟨_,rfl,rfl⟩
  ·rw [h8,cond_false,eE (by omega)];exact hk () trivial
 ·rw [pH,aQ,df (by omega),cond_false];exact T.ret trivial
 cases o with
 | inr r=>exact ho.elim
 | inl _=>
 show T (aV _ _) _
 rw [aQ]
 refine T.cond (fun hc=>T.ret ⟨rfl,?_⟩) (fun hc=>?_)
 ·have:R.length=0:=by have h0:(R.length:Int)=0:=(by simpa using hc);omega
  refine ⟨?_,Or.inl ⟨this,rfl⟩⟩
  rw [this]
  exact ⟨fun x h=>absurd h (by simp),rfl,by simp,fun i h=>absurd h (by simp)⟩
 ·have n0:R.length≠0:=by intro e;rw [e] at hc;cases hc
  refine T.bind (T.loopG0 (n:=R.length) (fun i (s:List Int)=>s.length=i∧ord R.length s∧∀ j:Nat,j < i→s[j]? = some (j:Int)) (fun r=>r.length=R.length∧ord R.length r∧∀ j:Nat,j < R.length→r[j]? = some (j:Int)) (F:=pJ N R) (fun k s i hi hs hk=>?_) (fun k s hs=>?_) (by omega) (s:=[]) ⟨rfl,fun x h=>absurd h (by simp),fun j h=>absurd h (by omega)⟩) fun p12 h12=>?_
  ·rw [pJ,aQ,dt (by omega),cond_true]
   refine T.eq (qD (by simp;omega)) ?_
   rw [eE (by omega)]
   refine hk _ ⟨by simp;omega,fun x hx=>?_,fun j hj=>?_⟩
   ·rw [List.mem_append,List.mem_singleton] at hx
    rcases hx with hx | rfl
    ·exact hs.2.1 x hx
    ·omega
   ·by_cases c:j=i
    ·subst c;rw [List.getElem?_append_right (by omega),hs.1];simp
    ·rw [List.getElem?_append_left (by omega)];exact hs.2.2 j (by omega)
  ·rw [pJ,aQ,df (by omega),cond_false];exact T.ret hs
  ·refine T.bind (aPr N hN N p12 _ _ 1 (Nat.le_refl _) ⟨hR,h12.2.1,h12.1,?_,?_,?_,fun e he=>⟨e,he,h12.2.2 e he⟩,by simp,⟨_,.pend (bA.mk 0 0 (R.length:Int) 1) 0 R.length rfl rfl,List.Perm.refl _⟩⟩ ?_ ?_) fun p17 h17=>T.ret ⟨rfl,?_⟩
   ·intro t ht
    have:t=bA.mk 0 0 (R.length:Int) 1:=by simpa using ht
    subst this
    exact ⟨⟨Int.le_refl _,by simp⟩,Int.le_refl _,by show 1≤(R.length:Int);omega,by show 0+(R.length:Int)≤(R.length:Int);omega⟩
   ·intro i hi
    have:i=0:=by simpa using hi
    subst this
    exact Or.inl ⟨bA.mk 0 0 (R.length:Int) 1,by simp,rfl⟩
   ·show (1:Int)+(2*(R.length:Int) - 2+0)≤39
    omega
   ·show 2*(R.length:Int) - 1+0 < (N:Int)
    omega
   ·show 2*(R.length:Int) - 1+0≤100
    omega
   ·obtain ⟨L,cv,pm⟩:=h17.tree
    have:=pm.eq_nil
    subst this
    refine ⟨⟨h17.ord,h17.len,?_,fun i hi=>?_⟩,Or.inr ⟨by omega,h17.full,Cv.mono (fun _ _=>trivial) cv⟩⟩
    ·have:=h17.room
     have e:aBd ([]:List bA)=0:=rfl
     show p17.2.1.length≤39
     omega
    ·rcases h17.good i hi with ⟨t,ht,_⟩ | g
     ·exact absurd ht (by simp)
     ·exact g
theorem aOY (N:Nat) (hN:100 < N) {R:List aE} (hR:zT R):T (uA N R) (fun q=>match q with | .inl e=>False | .inr r=>r.2.2=0∧r.2.1=aM.mk r.1 true R 0∧wR R.length r.1∧tS R r.1):=by
 unfold uA
 refine T.bind (aR9 N hN hR) fun r1 h1=>?_
 refine T.cond (fun hc=>by rw [h1.1] at hc;cases hc) (fun hc=>?_)
 have n20:=hR.2
 unfold iK
 refine T.eq (a:=R) (by rw [qD (by simp;omega)];simp) (T.ret ⟨rfl,rfl,h1.2⟩)
structure Rdy (b:List (List aD)) (s:aG) (v:aI) (sky:aB):Prop where
 tri:∀ t∈s.gG,(0≤t.gC8∧t.gC8 < (s.gB1.length:Int))∧t.gA9 < (b.length:Int)∧(∀ v∈t.gUv.toList,∀ x∈v.toList,0≤x∧x≤65535)∧∀ p∈t.gP.toList,pwi 65536 p
 few:s.gG.length≤20
 mat:∀ m∈s.gB1,aBG m
 light:∀ l∈s.gJ,vG l
 lights:s.gJ.length≤5
 lev:∀ l∈b,aEr l
 dark:s.gJ=[]→sky=aB.mk 0 0 0
 sky:vin sky
 view:aOc v
def aDc (n:Nat) (gl:List aE):Prop:=gl.length≤4096∧∀ i,n≤i→∀ t,gl[i]? = some t→t.gB4=0
def newS (s:aG) (v:aI) (r:(List aE)×(List aU)×(List aS)×(List (List aD))×aB×(List aE)×Int):Prop:=
 r.1=s.gG∧r.2.1=s.gB1∧r.2.2.1=s.gJ∧Rdy r.2.2.2.1 s v r.2.2.2.2.1∧aDc s.gG.length r.2.2.2.2.2.1∧r.2.2.2.2.2.2=0∧v.gA4=true∧(r.2.2.2.2.2.1.length:Int)=(kN v.gS).1∧fits s v.gS∧∀ i,i < s.gG.length→r.2.2.2.2.2.1[i]? = s.gG[i]?
def newW (s:aG) (v:aI) (r:(List aE)×(List aU)×(List aS)×(List (List aD))×aB×aY×aM×Int):Prop:=
 r.1=s.gG∧r.2.1=s.gB1∧r.2.2.1=s.gJ∧Rdy r.2.2.2.1 s v r.2.2.2.2.1∧(wR s.gG.length r.2.2.2.2.2.1∧r.2.2.2.2.2.2.1=aM.mk r.2.2.2.2.2.1 true s.gG 0)∧r.2.2.2.2.2.2.2=0∧v.gA4=false∧tS s.gG r.2.2.2.2.2.1
def aHh (N:Nat) (s:aG) (v:aI) (r:Int):Prop:=(mU N s=some r∧r≠0)∨(mU N s=some 0∧rW N v=some r∧r≠0)∨(mU N s=some 0∧rW N v=some 0∧pW N s v.gS=some r)
def newL (N:Nat) (s:aG) (b:List (List aD)) (sky:aB):Prop:=lJ N (s.gA2.length:Int) s N [] 0=some b∧vN N s.gJ=some sky
theorem newT (N:Nat) (hN:300 < N) (s:aG) (v:aI) (hs:few s):T (lH N s v) (fun q=>match q with
  | .inl e=>e≠0∧aHh N s v e
  | .inr (.inl r)=>False
  | .inr (.inr (.inl r))=>newS s v r∧aHh N s v 0∧newL N s r.2.2.2.1 r.2.2.2.2.1
  | .inr (.inr (.inr (.inl r)))=>False
  | .inr (.inr (.inr (.inr r)))=>newW s v r∧aHh N s v 0∧newL N s r.2.2.2.1 r.2.2.2.2.1):=by
 unfold lH
 have nz:∀ {r:Int},(r != 0)=true→r≠0:=fun h=>by simpa using h
 have ez:∀ {r:Int},(r != 0)=false→r=0:=fun h=>by simpa using h
 obtain ⟨r1,e1,h1⟩:=aRZ N hN s hs
 refine T.eq e1 (T.cond (fun hc=>T.ret ⟨nz hc,Or.inl ⟨e1,nz hc⟩⟩) (fun hc1=>?_))
 rw [ez hc1] at e1
 have ok:=h1 (ez hc1)
 obtain ⟨r2,e2,h2⟩:=mayVT N v
 refine T.eq e2 (T.cond (fun hc=>T.ret ⟨nz hc,Or.inr (Or.inl ⟨e1,e2,nz hc⟩)⟩) (fun hc2=>?_))
 rw [ez hc2] at e2
 have vok:=h2 (ez hc2)
 obtain ⟨r3,e3,h3⟩:=fitsT N s v.gS
 refine T.eq e3 (T.cond (fun hc=>T.ret ⟨nz hc,Or.inr (Or.inr ⟨e1,e2,e3⟩)⟩) (fun hc3=>?_))
 rw [ez hc3] at e3
 have nv:aHh N s v 0:=Or.inr (Or.inr ⟨e1,e2,e3⟩)
 have cb:0≤(kN v.gS).1∧(kN v.gS).1≤4096:=by unfold kN;cases (v.gS==0) <;> cases (v.gS==1) <;> cases (v.gS==2) <;> decide
 have fit:=h3 (ez hc3)
 obtain ⟨⟨f1,f2,f3,f4,f5⟩,okt,okm,okx,okl⟩:=ok
 obtain ⟨N,rfl⟩:∃ n,N=n+3:=⟨N - 3,by omega⟩
 obtain ⟨r4,e4,h4⟩:=skyT N (by omega) _ okl f4
 refine T.eq e4 ?_
 refine T.eq (qD (by simp;omega)) (T.eq (qD (by simp;omega)) (T.eq (qD (by simp;omega)) ?_))
 simp only [aQ,List.nil_append]
 have lvT:T (lJ (N+3) (s.gA2.length:Int) s (N+3) [] 0) (fun r=>r.length=s.gA2.length∧∀ x∈r,aEr x):=by
  refine T.loopG0 (n:=s.gA2.length) (fun i (l:List (List aD))=>l.length=i∧∀ x∈l,aEr x) (fun r=>r.length=s.gA2.length∧∀ x∈r,aEr x) (F:=lJ (N+3) (s.gA2.length:Int) s) (fun k l i hi hl hk=>?_) (fun k l hl=>?_) (by omega) (s:=[]) ⟨rfl,fun x h=>absurd h (by simp)⟩
  ·rw [lJ,dt (by omega),cond_true,eW,List.getElem?_eq_getElem hi,Option.bind_some]
   refine T.bind (aQG (N+3) hN _ (f5 _ (List.getElem_mem hi))) fun r13 h13=>T.eq (qD (by simp;omega)) ?_
   rw [eE (by omega)]
   refine hk _ ⟨by simp;omega,fun x hx=>?_⟩
   rw [List.mem_append,List.mem_singleton] at hx
   rcases hx with hx | rfl
   ·exact hl.2 x hx
   ·exact h13
  ·rw [lJ,df (by omega),cond_false];exact T.ret hl
 obtain ⟨p9,e9,h9⟩:=lvT
 refine T.eq e9 ?_
 have rdy:Rdy p9 s v r4:=⟨fun t ht=>by have:=okt t ht;exact ⟨this.1,by rw [h9.1];exact this.2.1,this.2.2.1,this.2.2.2⟩,f1,okm,okl,f4,h9.2,h4.2,h4.1,vok⟩
 refine T.cond (fun hc=>?_) (fun hc=>?_)
 ·refine T.bind (aRF _ _) fun r15 h15=>T.bind (aMh (N+3) s.gG r15.1 (by rw [h15];exact cb) (by rw [h15];exact fit.1)) fun q hq=>?_
  cases q with
  | inl e=>exact hq.elim
  | inr r=>exact T.ret ⟨⟨rfl,rfl,rfl,rdy,⟨hq.2.2.1,hq.2.2.2.1⟩,hq.1,hc,by rw [← h15];exact hq.2.1,fit,hq.2.2.2.2⟩,nv,e9,e4⟩
 ·refine T.bind (aOY (N+3) (by omega) (R:=s.gG) ⟨fun t ht=>(okt t ht).2.2.2,f1⟩) fun q hq=>?_
  cases q with
  | inl e=>exact hq.elim
  | inr r=>exact T.ret ⟨⟨rfl,rfl,rfl,rdy,⟨hq.2.2.1,hq.2.1⟩,hq.1,hc,hq.2.2.2⟩,nv,e9,e4⟩
def TU {ι ρ α:Type} (f:ι→Option ρ) (P:α→Prop) (S:ι→α→ρ→Prop):Prop:=∃ a,P a∧∀ i,∃ r,f i=some r∧S i a r
section
variable {ι ρ ρ' α β:Type}
theorem TU.bind {A:ι→Option ρ} {B:ι→ρ→Option ρ'} {P:α→Prop} {S:ι→α→ρ→Prop} {Q:β→Prop} {S':ι→β→ρ'→Prop} (h:TU A P S)
  (hf:∀ a,P a→∀ r:ι→ρ,(∀ i,S i a (r i))→TU (fun i=>B i (r i)) Q S'):TU (fun i=>Option.bind (A i) (B i)) Q S':=by
 obtain ⟨a,pa,h⟩:=h
 have h':∃ r:ι→ρ,∀ i,A i=some (r i)∧S i a (r i):=⟨fun i=>(h i).choose,fun i=>(h i).choose_spec⟩
 obtain ⟨r,hr⟩:=h'
 obtain ⟨b,qb,hb⟩:=hf a pa r fun i=>(hr i).2
 refine ⟨b,qb,fun i=>?_⟩
 obtain ⟨x,e,s⟩:=hb i
 exact ⟨x,by show Option.bind (A i) (B i)=some x;rw [(hr i).1];exact e,s⟩
theorem TU.t {o:Option α} {B:ι→α→Option ρ} {P:α→Prop} {Q:β→Prop} {S:ι→β→ρ→Prop} (h:T o P) (hf:∀ a,P a→TU (fun i=>B i a) Q S):TU (fun i=>Option.bind o (B i)) Q S:=by
 obtain ⟨a,rfl,pa⟩:=h
 exact hf a pa
theorem TU.e {A:ι→Option ρ} {B:ι→ρ→Option ρ'} {a:ρ} {Q:β→Prop} {S':ι→β→ρ'→Prop} (e:∀ i,A i=some a) (h:TU (fun i=>B i a) Q S'):TU (fun i=>Option.bind (A i) (B i)) Q S':=by
 rw [show (fun i=>Option.bind (A i) (B i))=fun i=>B i a from funext fun i=>by rw [e i];rfl];exact h
theorem TU.cond {c:Bool} {A B:ι→Option ρ} {Q:β→Prop} {S:ι→β→ρ→Prop} (h1:c=true→TU A Q S) (h2:c=false→TU B Q S):TU (fun i=>_root_.cond c (A i) (B i)) Q S:=by
 cases c with
 | true=>exact h1 rfl
 | false=>exact h2 rfl
theorem TU.ret {g:ι→ρ} (b:β) {Q:β→Prop} {S:ι→β→ρ→Prop} (hq:Q b) (h:∀ i,S i b (g i)):TU (fun i=>some (g i)) Q S:=⟨b,hq,fun i=>⟨g i,rfl,h i⟩⟩
theorem TU.mono {f:ι→Option ρ} {P P':α→Prop} {S S':ι→α→ρ→Prop} (h:TU f P S) (hp:∀ a,P a→P' a) (hs:∀ i a r,P a→S i a r→S' i a r):TU f P' S':=by
 obtain ⟨a,pa,h⟩:=h
 refine ⟨a,hp a pa,fun i=>?_⟩
 obtain ⟨r,e,s⟩:=h i
 exact ⟨r,e,hs i a r pa s⟩
theorem TU.loop {σ τ:Type} {n:Nat} {P:α→Prop} {S:ι→α→ρ→Prop} (I:Nat→σ→(ι→τ)→Prop) {F:ι→Nat→τ→σ→Int→Option ρ}
  (hstep:∀ k (h:ι→τ) s j,j < n→I j s h→(∀ s' h',I (j+1) s' h'→TU (fun i=>F i k (h' i) s' ((j+1:Nat):Int)) P S)→TU (fun i=>F i (k+1) (h i) s (j:Int)) P S)
  (hend:∀ k (h:ι→τ) s,I n s h→TU (fun i=>F i (k+1) (h i) s (n:Int)) P S):∀ (k j:Nat) (s:σ) (h:ι→τ),I j s h→j≤n→n - j < k→TU (fun i=>F i k (h i) s (j:Int)) P S
 | 0,j,_,_,_,_,hk=>by omega
 | k+1,j,s,h,hi,hj,hk=>by
  by_cases hn:j < n
  ·exact hstep k h s j hn hi fun s' h' hi'=>TU.loop I hstep hend k (j+1) s' h' hi' (by omega) (by omega)
  ·obtain rfl:j=n:=by omega
   exact hend k h s hi
theorem TU.loop0 {σ τ:Type} {n:Nat} {P:α→Prop} {S:ι→α→ρ→Prop} (I:Nat→σ→(ι→τ)→Prop) {F:ι→Nat→τ→σ→Int→Option ρ}
  (hstep:∀ k (h:ι→τ) s j,j < n→I j s h→(∀ s' h',I (j+1) s' h'→TU (fun i=>F i k (h' i) s' ((j+1:Nat):Int)) P S)→TU (fun i=>F i (k+1) (h i) s (j:Int)) P S)
  (hend:∀ k (h:ι→τ) s,I n s h→TU (fun i=>F i (k+1) (h i) s (n:Int)) P S) {N:Nat} (hN:n < N) {s:σ} {h:ι→τ} (hi:I 0 s h):TU (fun i=>F i N (h i) s 0) P S:=
 TU.loop I hstep hend N 0 s h hi (by omega) (by omega)
end
def swp (gl:List aE) (t:Int):aK:=aK.mk (lE.mk t) true gl
def pN (a b n:Int):Prop:=I64 b=I64 (a+n)∧(cS a→cS b)
theorem aKb {a b:Int} {n:Nat} (h:pN a b (n:Int)):pN a (I64 (b+1)) ((n+1:Nat):Int):=by
 obtain ⟨h,_⟩:=h
 refine ⟨?_,fun _=>dE _⟩
 rw [vK] at *;rw [vK] at *;rw [vK] at *;omega
theorem aIt (a:Int):pN a a 0:=⟨by rw [Int.add_zero],fun h=>h⟩
theorem aKm {a b c n m:Int} (h:pN a b n) (h':pN b c m):pN a c (n+m):=by
 obtain ⟨h,g⟩:=h
 obtain ⟨h',g'⟩:=h'
 refine ⟨?_,fun x=>g' (g x)⟩
 rw [vK] at *;rw [vK] at *;omega
theorem aNe (N:Nat) (hN:3 < N) {n:Nat} {gl:List aE} (h:aDc n gl) (o d:aC) (m s:Int) {j:Nat} (hj:j < gl.length):∃ a:aL×Bool,lB a.1∧(a.2=true→j < n)∧∀ t,cR N o d m s (j:Int) (swp gl t)=some a:=by
 have key:T (cR N o d m s (j:Int) (swp gl 0)) (fun a=>lB a.1∧(a.2=true→j < n)):=by
  unfold cR lN swp
  refine T.eq rfl ?_
  refine T.bind (T.idx (by omega) (by dsimp only;omega)) fun e2 h2=>T.bind (hitT N hN _ _ _) fun r3 h3=>?_
  refine T.bind (P:=fun r=>r=true→j < n) ?_ fun p4 h4=>T.ret ⟨h3,h4⟩
  refine T.cond (fun _=>?_) (fun _=>T.ret fun h=>by cases h)
  refine T.bind (T.idx (by omega) (by dsimp only;omega)) fun e5 h5=>?_
  rw [aQ]
  refine T.cond (fun hc=>T.ret fun _=>?_) (fun _=>T.ret fun h=>by cases h)
  by_cases hn:j < n
  ·exact hn
  ·have:=h.2 j (by omega) e5 (by rw [Int.toNat_natCast] at h5;exact h5)
   rw [this] at hc
   exfalso
   have z:eZ .u8 0 m=0:=by
    unfold eZ
    have:BitVec.ofInt IntKind.u8.bits 0 &&& BitVec.ofInt IntKind.u8.bits m=0:=by
     rw [show BitVec.ofInt IntKind.u8.bits 0=0 from rfl]
     exact BitVec.zero_and
    rw [this];rfl
   rw [z] at hc
   cases hc
 obtain ⟨a,e,h1,h2⟩:=key
 exact ⟨a,h1,h2,fun t=>e⟩
theorem aOb {ι:Type} (N:Nat) (hN:4100 < N) {n:Nat} {gl:List aE} (h:aDc n gl) (o d:aC) (m s:Int) (t:ι→Int) :
  TU (fun i=>bX N o d m s (swp gl (t i))) (fun a:Int×aL=>a.1 < (n:Int)∧lB a.2) (fun i a r=>∃ t',r=(swp gl t',a)∧pN (t i) t' (gl.length:Int)):=by
 unfold bX fE
 refine TU.e (a:=false) (fun i=>rfl) ?_
 simp only [cond_false]
 have h4:=h.1
 refine TU.bind (P:=fun a:aL×Int=>a.2 < (n:Int)∧lB a.1) (S:=fun i a r=>∃ t',r=(swp gl t',a)∧pN (t i) t' (gl.length:Int)) ?_ fun a ha r hr=>?_
 ·refine TU.loop0 (n:=gl.length) (fun j (s:aL×Int) t'=>(s.2 < (n:Int)∧lB s.1)∧∀ i,pN (t i) (t' i) (j:Int)) (F:=fun i k t' (x:aL×Int) j=>bU N (swp gl (t i)) o d m s k (swp gl t') x.1 x.2 j) (fun k t' x j hj hx hk=>?_) (fun k t' x hx=>?_) (by omega) (s:=(aL.mk 0 0 0 0,-1)) (h:=t) ⟨⟨by dsimp only;omega,wJ⟩,fun i=>aIt _⟩
  ·obtain ⟨a,a1,a2,a3⟩:=aNe N (by omega) h o d m s hj
   simp only [bU,aQ]
   simp only [show ∀ t,(swp gl t).gl=gl from fun _=>rfl,dt (show (j:Int) < (gl.length:Int) by omega),cond_true,a3,Option.bind_some]
   refine TU.t (P:=fun p:aL×aL×Int=>p.2.2 < (n:Int)∧lB p.1) ?_ fun p hp=>?_
   ·refine T.bind (P:=fun _=>True) (T.cond (fun _=>T.ret trivial) (fun _=>T.bind (aLd N a1 hx.1.2) fun _ _=>T.ret trivial)) fun p10 _=>?_
    refine T.cond (fun hc=>T.ret ⟨?_,a1⟩) (fun _=>T.ret ⟨hx.1.1,hx.1.2⟩)
    have:a.2=true:=by
     cases h2:a.2 with
     | true=>rfl
     | false=>rw [h2] at hc;cases hc
    have:=a2 this
    show (j:Int) < (n:Int)
    omega
   ·rw [eE (by omega)]
    exact hk (p.1,p.2.2) (fun i=>I64 (t' i+1)) ⟨hp,fun i=>aKb (hx.2 i)⟩
  ·simp only [bU,aQ]
   simp only [show ∀ t,(swp gl t).gl=gl from fun _=>rfl,df (show ¬ (gl.length:Int) < (gl.length:Int) by omega),cond_false]
   exact TU.ret x hx.1 fun i=>⟨t' i,rfl,hx.2 i⟩
 ·refine TU.ret (a.2,a.1) ha fun i=>?_
  obtain ⟨t',e,p⟩:=hr i
  rw [e]
  exact ⟨t',rfl,p⟩
theorem anyU {ι:Type} (N:Nat) (hN:4100 < N) {n:Nat} {gl:List aE} (h:aDc n gl) (o d:aC) (m s:Int) (w:Bool) (t:ι→Int) :
  TU (fun i=>cD N o d m s w (swp gl (t i))) (fun _:Bool=>True) (fun i a r=>∃ t',r=(swp gl t',a)∧pN (t i) t' (gl.length:Int)):=by
 unfold cD fE
 refine TU.e (a:=false) (fun i=>rfl) ?_
 simp only [cond_false]
 have h4:=h.1
 refine TU.bind (P:=fun a:Bool=>True) (S:=fun i a r=>∃ t',r=(swp gl t',a)∧pN (t i) t' (gl.length:Int)) ?_ fun a ha r hr=>?_
 ·refine TU.loop0 (n:=gl.length) (fun j (s:Bool) t'=>∀ i,pN (t i) (t' i) (j:Int)) (F:=fun i k t' (x:Bool) j=>bY N (swp gl (t i)) o d m s w k (swp gl t') x j) (fun k t' x j hj hx hk=>?_) (fun k t' x hx=>?_) (by omega) (s:=false) (h:=t) (fun i=>aIt _)
  ·obtain ⟨a,a1,a2,a3⟩:=aNe N (by omega) h o d m s hj
   simp only [bY,aQ]
   simp only [show ∀ t,(swp gl t).gl=gl from fun _=>rfl,dt (show (j:Int) < (gl.length:Int) by omega),cond_true,a3,Option.bind_some]
   rw [eE (by omega)]
   refine TU.cond (fun _=>?_) (fun _=>?_)
   ·exact hk _ (fun i=>I64 (t' i+1)) (fun i=>aKb (hx i))
   ·exact hk _ (fun i=>I64 (t' i+1)) (fun i=>aKb (hx i))
  ·simp only [bY,aQ]
   simp only [show ∀ t,(swp gl t).gl=gl from fun _=>rfl,df (show ¬ (gl.length:Int) < (gl.length:Int) by omega),cond_false]
   exact TU.ret x trivial fun i=>⟨t' i,rfl,hx i⟩
 ·refine TU.ret a trivial fun i=>?_
  obtain ⟨t',e,p⟩:=hr i
  rw [e]
  exact ⟨t',rfl,p⟩
def wlk (b:aY) (gl:List aE) (t:Int):aM:=aM.mk b true gl t
def qB (r:aW):Prop:=cS r.gn∧cS r.gd
theorem aAJ (N:Nat) {a b:aW} (ha:qB a) (hb:qB b):T (dW N a b) (fun _=>True):=by
 unfold dW
 exact T.bind (aCu N ha.1 hb.2) fun _ _=>T.bind (aCu N hb.1 ha.2) fun _ _=>T.bind (aLg N _ _) fun _ _=>T.ret trivial
theorem aL8 (N:Nat) (hN:10 < N) (lo hi o:aC) {d:aC} (hd:pin d):T (oJ N lo hi o d) (fun r=>qB r.1):=by
 unfold oJ
 have z1:qB (aW.mk 0 1):=⟨z64,by decide,by decide⟩
 have z0:qB (aW.mk 0 0):=⟨z64,z64⟩
 refine T.bind (T.loopG0 (n:=3) (fun _ (s:aW×aW×Bool)=>qB s.1∧qB s.2.1) (fun o=>match o with | .inl p=>qB p.1∧qB p.2.1 | .inr p=>qB p.1) (F:=fun k (s:aW×aW×Bool) i=>jN N lo hi o d k s.1 s.2.1 s.2.2 i) (fun k s i hi' hs hk=>?_) (fun k s hs=>?_) (by omega) (s:=(aW.mk 0 1,aW.mk 0 0,false)) ⟨z1,z0⟩) fun q hq=>?_
 ·rw [jN,dt (by omega),cond_true]
  refine T.bind (P:=fun o=>match o with | .inl p=>qB p.1∧qB p.2.1 | .inr p=>qB p.1) ?_ fun q hq=>?_
  ·refine T.bind (P:=fun e:Vector Int 4=>∃ x,e.toList[3]? = some x∧cS x) ?_ fun e7 h7=>?_
   ·have:i=0∨i=1∨i=2:=by omega
    rcases this with rfl | rfl | rfl
    ·exact ⟨_,rfl,_,rfl,hd.1⟩
    ·exact ⟨_,rfl,_,rfl,hd.2.1⟩
    ·exact ⟨_,rfl,_,rfl,hd.2.2⟩
   obtain ⟨x,ex,hx⟩:=h7
   refine T.bind (T.inRO (by decide) (by decide)) fun _ _=>T.bind (T.vg (i:=0) (by decide)) fun e9 _=>T.bind (T.inRO (by decide) (by decide)) fun _ _=>T.bind (T.vg (i:=2) (by decide)) fun e11 _=>?_
   refine T.bind (T.inRO (by decide) (by decide)) fun _ _=>T.bind (T.vg (i:=1) (by decide)) fun e13 _=>T.bind (T.inRO (by decide) (by decide)) fun _ _=>T.bind (T.vg (i:=2) (by decide)) fun e15 _=>?_
   refine T.bind (T.inRO (by decide) (by decide)) fun _ _=>T.eq (a:=x) ex ?_
   simp only [aQ]
   refine T.cond (fun _=>T.ret hs.1) (fun _=>?_)
   refine T.bind (P:=fun _=>True) (T.cond (fun _=>T.ret trivial) (fun _=>T.ret trivial)) fun p19 _=>?_
   refine T.cond (fun _=>T.ret hs.1) (fun _=>T.cond (fun _=>T.ret hs) (fun _=>?_))
   have r1:∀ a b:Int,cS b→qB (aW.mk (I64 a) b):=fun a b h=>⟨dE _,h⟩
   refine T.cond (fun _=>?_) (fun _=>?_)
   ·refine T.bind (P:=qB) (T.bind (aAJ N hs.1 (r1 _ _ (dE _))) fun _ _=>T.cond (fun _=>T.ret (r1 _ _ (dE _))) (fun _=>T.ret hs.1)) fun p24 h24=>?_
    refine T.bind (P:=fun _=>True) (T.cond (fun _=>T.ret trivial) (fun _=>T.bind (aAJ N (r1 _ _ (dE _)) hs.2) fun _ _=>T.ret trivial)) fun p26 _=>?_
    exact T.cond (fun _=>T.ret ⟨h24,r1 _ _ (dE _)⟩) (fun _=>T.ret ⟨h24,hs.2⟩)
   ·refine T.bind (P:=qB) (T.bind (aAJ N hs.1 (r1 _ _ hx)) fun _ _=>T.cond (fun _=>T.ret (r1 _ _ hx)) (fun _=>T.ret hs.1)) fun p24 h24=>?_
    refine T.bind (P:=fun _=>True) (T.cond (fun _=>T.ret trivial) (fun _=>T.bind (aAJ N (r1 _ _ hx) hs.2) fun _ _=>T.ret trivial)) fun p26 _=>?_
    exact T.cond (fun _=>T.ret ⟨h24,r1 _ _ hx⟩) (fun _=>T.ret ⟨h24,hs.2⟩)
  ·cases q with
   | inl p=>rw [eE (by omega)];exact hk (_,_,_) hq
   | inr p=>exact T.ret hq
 ·rw [jN,df (by omega),cond_false];exact T.ret hs
 ·cases q with
  | inl p=>exact T.bind (P:=fun _=>True) (T.cond (fun _=>T.ret trivial) (fun _=>T.bind (aAJ N hq.2 hq.1) fun _ _=>T.ret trivial)) fun _ _=>T.ret hq.1
  | inr p=>exact T.ret hq
theorem aLl (N:Nat) (hN:3 < N) (b:aY) {gl:List aE} (o d:aC) (m s:Int) {j:Int} (hj:0≤j∧j < (gl.length:Int)):∃ a:aL×Bool,lB a.1∧∀ t,cE N o d m s j (wlk b gl t)=some a:=by
 have key:T (cE N o d m s j (wlk b gl 0)) (fun a=>lB a.1):=by
  unfold cE wlk
  refine T.bind (T.idx hj.1 hj.2) fun e1 _=>?_
  simp only [aQ]
  refine T.cond (fun _=>T.ret wJ) (fun _=>?_)
  exact T.bind (T.idx hj.1 hj.2) fun e1 _=>T.bind (hitT N hN _ _ _) fun r h=>T.ret h
 obtain ⟨a,e,h1⟩:=key
 exact ⟨a,h1,fun t=>e⟩
def wW (l:List Int):Nat:=(l.map fun x=>2 ^ (39 - x.toNat) - 1).sum
theorem vO (a b:List Int):wW (a++b)=wW a+wW b:=by unfold wW;rw [List.map_append,List.sum_append]
theorem aGc {x:Int} (h:0≤x∧x < 39):1≤wW [x]:=by
 show 1≤2 ^ (39 - x.toNat) - 1+0
 have:2 ^ 1≤2 ^ (39 - x.toNat):=Nat.pow_le_pow_right (by decide) (by omega)
 omega
theorem aH1 {x a b:Int} (h:0≤x) (ha:x < a∧a < 39) (hb:x < b∧b < 39):wW [a,b]+1≤wW [x]:=by
 show (2 ^ (39 - a.toNat) - 1+(2 ^ (39 - b.toNat) - 1+0))+1≤2 ^ (39 - x.toNat) - 1+0
 have h1:2 ^ (39 - a.toNat)≤2 ^ (39 - x.toNat - 1):=Nat.pow_le_pow_right (by decide) (by omega)
 have h2:2 ^ (39 - b.toNat)≤2 ^ (39 - x.toNat - 1):=Nat.pow_le_pow_right (by decide) (by omega)
 have h3:2 ^ (39 - x.toNat)=2 ^ (39 - x.toNat - 1)*2:=by rw [← Nat.pow_succ];congr 1;omega
 have h4:1≤2 ^ (39 - a.toNat):=Nat.one_le_two_pow
 have h5:1≤2 ^ (39 - b.toNat):=Nat.one_le_two_pow
 omega
def aHu (b:aY) (l:List Int):Prop:=∀ x∈l,0≤x∧x < (b.gQ.length:Int)
theorem aBg {b:aY} (hb:b.gQ.length≤39) {l:List Int} (h:aHu b l):l.length≤wW l:=by
 induction l with
 | nil=>exact Nat.zero_le _
 | cons x l ih=>
  have h1:=ih fun y hy=>h y (List.mem_cons_of_mem _ hy)
  have h2:=h x (List.mem_cons_self ..)
  have h3:=aGc (x:=x) ⟨h2.1,by omega⟩
  have:wW (x :: l)=wW [x]+wW l:=vO [x] l
  rw [this,List.length_cons]
  omega
theorem aR6 {ι:Type} (N:Nat) (hN:100 < N) {b:aY} {gl:List aE} (h20:gl.length≤20) (o d:aC) (m s:Int) (t0:ι→Int) {l:List Int} (hl:ord gl.length l) (hl':l.length≤20) (t:ι→Int) {mt:aL} {x:Int} (hm:x < (gl.length:Int)∧lB mt) :
  TU (fun i=>bN N l o d m s (wlk b gl (t0 i)) N (t i) mt x 0) (fun a:aL×Int=>a.2 < (gl.length:Int)∧lB a.1) (fun i a r=>∃ t',r=(t',a)):=by
 refine TU.loop0 (n:=l.length) (fun j (s:aL×Int) _=>s.2 < (gl.length:Int)∧lB s.1) (F:=fun i k t' (x:aL×Int) j=>bN N l o d m s (wlk b gl (t0 i)) k t' x.1 x.2 j) (fun k t' x j hj hx hk=>?_) (fun k t' x hx=>?_) (by omega) (s:=(mt,x)) (h:=t) hm
 ·simp only [bN,aQ,dt (show (j:Int) < (l.length:Int) by omega),cond_true,eW,List.getElem?_eq_getElem hj,Option.bind_some]
  have he:=hl _ (List.getElem_mem hj)
  generalize l[j]=e at *
  obtain ⟨a,a1,a3⟩:=aLl N (by omega) b o d m s he
  have a3':∀ i,cE N o d m s e (aM.mk (wlk b gl (t0 i)).gR (wlk b gl (t0 i)).gA (wlk b gl (t0 i)).gl (I64 (t' i+1)))=some a:=fun i=>a3 _
  simp only [a3',Option.bind_some]
  refine TU.t (P:=fun p:aL×aL×Int=>p.2.2 < (gl.length:Int)∧lB p.1) ?_ fun p hp=>?_
  ·refine T.bind (P:=fun _=>True) ?_ fun p33 _=>T.cond (fun _=>T.ret ⟨he.2,a1⟩) (fun _=>T.ret hx)
   refine T.cond (fun _=>T.cond (fun _=>T.ret trivial) (fun _=>T.bind (aLd N a1 hx.2) fun r34 _=>T.cond (fun _=>T.ret trivial) (fun _=>T.cond (fun _=>T.bind (aLd N hx.2 a1) fun _ _=>T.ret trivial) (fun _=>T.ret trivial)))) (fun _=>T.ret trivial)
  ·rw [eE (by omega)]
   exact hk (p.1,p.2.2) (fun i=>I64 (t' i+1)) hp
 ·simp only [bN,aQ,df (show ¬ (l.length:Int) < (l.length:Int) by omega),cond_false]
  exact TU.ret x hx fun i=>⟨t' i,rfl⟩
theorem T.slcN {α:Type} {l:List α} {lo hi:Int} (h0:0≤lo) (h1:lo≤hi) (h2:hi≤(l.length:Int)):T (wC l lo hi) (fun r=>r=(l.take hi.toNat).drop lo.toNat∧(∀ x∈r,x∈l)∧r.length≤l.length):=by
 refine ⟨_,aFL h0 h1 h2,rfl,fun x hx=>List.mem_of_mem_take (List.mem_of_mem_drop hx),?_⟩
 rw [List.length_drop,List.length_take];omega
theorem aAQ {α:Type} {l:List α} {e:Int} (h0:0≤e) (h:e.toNat < l.length):idx l e=some l[e.toNat]:=by
 have:e=((e.toNat:Nat):Int):=by omega
 exact (congrArg (idx l) this).trans ((eW l e.toNat).trans (List.getElem?_eq_getElem h))
theorem aRd {ι:Type} (N:Nat) (hN:100 < N) {b:aY} {gl:List aE} (hb:wR gl.length b) (h20:gl.length≤20) (o:aC) {d:aC} (hd:pin d) (m s:Int) (t0:ι→Int):∀ (k:Nat) (st:List Int) (t:ι→Int) (mt:aL) (x:Int) (l:Nat),l≤st.length→aHu b (st.take l)→wW (st.take l) < k→wW (st.take l) < 1000000000000→(x < (gl.length:Int)∧lB mt) →
  TU (fun i=>cF N (wlk b gl (t0 i)) o d m s k st (t i) mt x l) (fun a:aL×Int=>a.2 < (gl.length:Int)∧lB a.1) (fun i a r=>∃ t' st',r=(st',t',a)):=by
 obtain ⟨b1,b2,b3,b4⟩:=hb
 intro k
 induction k with
 | zero=>intro st t mt x l _ _ h;omega
 | succ k ih=>
  intro st t mt x l hl hn hw hw' hm
  simp only [cF,aQ]
  have lenT:(st.take l).length=l:=by rw [List.length_take];omega
  have wl:=aBg b3 hn
  rw [lenT] at wl
  refine TU.cond (fun hc=>?_) (fun hc=>?_)
  ·obtain ⟨l,rfl⟩:∃ l',l=l'+1:=⟨l - 1,by have:=of_decide_eq_true hc;omega⟩
   have im:I64 (((l+1:Nat):Int) - 1)=(l:Int):=by rw [bF (by omega) (by omega)];omega
   simp only [im,Int.toNat_natCast]
   obtain ⟨e,et⟩:∃ e,st[l]? = some e:=⟨_,List.getElem?_eq_getElem (by omega)⟩
   have hs:=oU et
   rw [hs] at hn hw hw'
   rw [vO] at hw hw'
   have he:=hn e (by simp)
   have hn':aHu b (st.take l):=fun y hy=>hn y (by simp [hy])
   have w1:=aGc (x:=e) ⟨he.1,by omega⟩
   have wl':=aBg b3 hn'
   rw [show (st.take l).length=l by rw [List.length_take];omega] at wl'
   refine TU.t (T.inRS (by omega) (by omega) (by omega)) fun _ _=>TU.e (fun i=>et) ?_
   have hidx:e.toNat < b.gQ.length:=by omega
   refine TU.e (a:=b.gQ[e.toNat]) (fun i=>aAQ he.1 hidx) ?_
   have gd:=b4 e.toNat hidx
   generalize b.gQ[e.toNat]=nd at *
   refine TU.t (T.slcG (by omega) (by omega) (by omega) (by omega) (Or.inl rfl)) fun _ _=>TU.t (aL8 N (by omega) nd.gLo nd.gHi o hd) fun r18 h18=>?_
   refine TU.t (P:=fun _=>True) ?_ fun p19 _=>?_
   ·refine T.cond (fun _=>T.ret trivial) (fun _=>T.cond (fun _=>T.bind (aAJ N ⟨hm.2.1,hm.2.2.1⟩ h18) fun _ _=>T.ret trivial) (fun _=>T.ret trivial))
   refine TU.cond (fun _=>?_) (fun _=>TU.cond (fun hc=>?_) (fun hc=>?_))
   ·exact ih st (fun i=>I64 (t i+1)) mt x l (by omega) hn' (by omega) (by omega) hm
   ·have g:=gd.1 (of_decide_eq_true hc)
    have w2:=aH1 (x:=e) (a:=nd.gA7) (b:=nd.gA6) he.1 ⟨by omega,by omega⟩ ⟨by omega,by omega⟩
    refine TU.t (T.appG (by omega) (show (l+2)*8≤140737488355328 by omega)) fun z hz=>?_
    subst hz
    have tk:(sU st l [nd.gA7,nd.gA6]).take (l+2)=st.take l++[nd.gA7,nd.gA6]:=aAa st l [_,_] (by omega)
    refine ih _ (fun i=>I64 (t i+1)) mt x (l+2) (aDI st l [_,_] (by omega)) ?_ ?_ ?_ hm
    ·rw [tk]
     intro y hy
     rw [List.mem_append] at hy
     rcases hy with hy | hy
     ·exact hn' y hy
     ·simp at hy
      rcases hy with rfl | rfl <;> omega
    ·rw [tk,vO];omega
    ·rw [tk,vO];omega
   ·have g:=gd.2 (by have:=of_decide_eq_false hc;omega)
    rw [bF (x:=nd.gC2+nd.gC9) (by omega) (by omega)]
    refine TU.t (T.slcN (l:=b.gB9) g.1 (by omega) (by omega)) fun s23 h23=>?_
    refine TU.bind (aR6 N hN h20 o d m s t0 (fun y hy=>b1 y (h23.2.1 y hy)) (by omega) (fun i=>I64 (t i+1)) hm) fun a ha r hr=>?_
    have h':∃ t':ι→Int,∀ i,r i=(t' i,a):=⟨fun i=>(hr i).choose,fun i=>(hr i).choose_spec⟩
    obtain ⟨t',e'⟩:=h'
    simp only [e']
    exact ih st t' a.1 a.2 l (by omega) hn' (by omega) (by omega) ha
  ·exact TU.ret (mt,x) hm fun i=>⟨_,_,rfl⟩
theorem aO6 {ι:Type} (N:Nat) (hN:1000000000000 < N) {b:aY} {gl:List aE} (hb:wR gl.length b) (h20:gl.length≤20) (o d:aC) (m s:Int) (t:ι→Int) :
  TU (fun i=>cX N o d m s (wlk b gl (t i))) (fun a:Int×aL=>a.1 < (gl.length:Int)∧lB a.2) (fun i a r=>∃ t',r=(t',a)):=by
 unfold cX iG
 simp only [show ∀ t,(wlk b gl t).gR=b from fun _=>rfl,show ∀ t,(wlk b gl t).gA=true from fun _=>rfl,show ∀ t,(wlk b gl t).gD8=t from fun _=>rfl,Option.bind_some,aQ]
 refine TU.t (P:=fun p=>p=false→pin d∧0 < b.gQ.length) ?_ fun p1 h1=>TU.cond (fun _=>TU.ret (-1,aL.mk 0 0 0 0) ⟨by dsimp only;omega,wJ⟩ fun i=>⟨_,rfl⟩) (fun hc=>?_)
 ·refine T.cond (fun _=>T.ret fun h=>by cases h) (fun hc=>T.bind (aJN N o d) fun r4 h4=>T.ret fun e=>⟨aCj (h4 (by simpa using e)).2.1 (by decide),?_⟩)
  have:((b.gQ.length:Int)==0)=false:=hc
  have:(b.gQ.length:Int)≠0:=by simpa using this
  omega
 ·obtain ⟨hd,h0⟩:=h1 hc
  refine TU.bind (aRd N (by omega) hb h20 o hd m s t N [0] t (aL.mk 0 0 0 0) (-1) 1 (by simp) ?_ ?_ ?_ ⟨by omega,wJ⟩) fun a ha r hr=>?_
  ·intro x hx;have:x=0:=by simpa using hx
   subst this;omega
  ·show (2 ^ 39 - 1+0) < N;omega
  ·show (2 ^ 39 - 1+0) < 1000000000000;decide
  ·refine TU.ret (a.2,a.1) ha fun i=>?_
   obtain ⟨t',st',e⟩:=hr i
   rw [e]
   exact ⟨t',rfl⟩
theorem anyW2 {ι:Type} (N:Nat) (hN:100 < N) {b:aY} {gl:List aE} (o d:aC) (m s:Int) (w:Bool) (t0:ι→Int) {l:List Int} (hl:ord gl.length l) (hl':l.length≤20) (t:ι→Int) :
  TU (fun i=>bW N l o d m s (wlk b gl (t0 i)) w N (t i) 0) (fun _:Bool=>True) (fun i a r=>∃ t',r=cond a (Sum.inr (t',true)) (Sum.inl t')):=by
 refine TU.loop0 (n:=l.length) (fun j (_:Unit) _=>True) (F:=fun i k t' (x:Unit) j=>bW N l o d m s (wlk b gl (t0 i)) w k t' j) (fun k t' x j hj hx hk=>?_) (fun k t' x hx=>?_) (by omega) (s:=()) (h:=t) trivial
 ·simp only [bW,aQ,dt (show (j:Int) < (l.length:Int) by omega),cond_true,eW,List.getElem?_eq_getElem hj,Option.bind_some]
  have he:=hl _ (List.getElem_mem hj)
  generalize l[j]=e at *
  obtain ⟨a,a1,a3⟩:=aLl N (by omega) b o d m s he
  have a3':∀ i,cE N o d m s e (aM.mk (wlk b gl (t0 i)).gR (wlk b gl (t0 i)).gA (wlk b gl (t0 i)).gl (I64 (t' i+1)))=some a:=fun i=>a3 _
  simp only [a3',Option.bind_some]
  refine TU.t (P:=fun _=>True) (T.cond (fun _=>T.ret trivial) (fun _=>T.ret trivial)) fun p24 _=>?_
  refine TU.cond (fun _=>TU.ret true trivial fun i=>⟨_,rfl⟩) (fun _=>?_)
  rw [eE (by omega)]
  exact hk () (fun i=>I64 (t' i+1)) trivial
 ·simp only [bW,aQ,df (show ¬ (l.length:Int) < (l.length:Int) by omega),cond_false]
  exact TU.ret false trivial fun i=>⟨t' i,rfl⟩
theorem anyW1 {ι:Type} (N:Nat) (hN:100 < N) {b:aY} {gl:List aE} (hb:wR gl.length b) (h20:gl.length≤20) (o:aC) {d:aC} (hd:pin d) (m s:Int) (w:Bool) (t0:ι→Int):∀ (k:Nat) (st:List Int) (t:ι→Int) (l:Nat),l≤st.length→aHu b (st.take l)→wW (st.take l) < k→wW (st.take l) < 1000000000000 →
  TU (fun i=>cW N (wlk b gl (t0 i)) o d m s w k st (t i) l) (fun _:Bool=>True) (fun i a r=>∃ t' st',r=cond a (Sum.inr (t',true)) (Sum.inl (st',t'))):=by
 obtain ⟨b1,b2,b3,b4⟩:=hb
 intro k
 induction k with
 | zero=>intro st t l _ _ h;omega
 | succ k ih=>
  intro st t l hl hn hw hw'
  simp only [cW,aQ]
  have lenT:(st.take l).length=l:=by rw [List.length_take];omega
  have wl:=aBg b3 hn
  rw [lenT] at wl
  refine TU.cond (fun hc=>?_) (fun hc=>?_)
  ·obtain ⟨l,rfl⟩:∃ l',l=l'+1:=⟨l - 1,by have:=of_decide_eq_true hc;omega⟩
   have im:I64 (((l+1:Nat):Int) - 1)=(l:Int):=by rw [bF (by omega) (by omega)];omega
   simp only [im,Int.toNat_natCast]
   obtain ⟨e,et⟩:∃ e,st[l]? = some e:=⟨_,List.getElem?_eq_getElem (by omega)⟩
   have hs:=oU et
   rw [hs] at hn hw hw'
   rw [vO] at hw hw'
   have he:=hn e (by simp)
   have hn':aHu b (st.take l):=fun y hy=>hn y (by simp [hy])
   have w1:=aGc (x:=e) ⟨he.1,by omega⟩
   have wl':=aBg b3 hn'
   rw [show (st.take l).length=l by rw [List.length_take];omega] at wl'
   refine TU.t (T.inRS (by omega) (by omega) (by omega)) fun _ _=>TU.e (fun i=>et) ?_
   have hidx:e.toNat < b.gQ.length:=by omega
   refine TU.e (a:=b.gQ[e.toNat]) (fun i=>aAQ he.1 hidx) ?_
   have gd:=b4 e.toNat hidx
   generalize b.gQ[e.toNat]=nd at *
   refine TU.t (T.slcG (by omega) (by omega) (by omega) (by omega) (Or.inl rfl)) fun _ _=>TU.t (aL8 N (by omega) nd.gLo nd.gHi o hd) fun r18 h18=>?_
   refine TU.cond (fun _=>?_) (fun _=>TU.cond (fun hc=>?_) (fun hc=>?_))
   ·exact ih st (fun i=>I64 (t i+1)) l (by omega) hn' (by omega) (by omega)
   ·have g:=gd.1 (of_decide_eq_true hc)
    have w2:=aH1 (x:=e) (a:=nd.gA7) (b:=nd.gA6) he.1 ⟨by omega,by omega⟩ ⟨by omega,by omega⟩
    refine TU.t (T.appG (by omega) (show (l+2)*8≤140737488355328 by omega)) fun z hz=>?_
    subst hz
    have tk:(sU st l [nd.gA7,nd.gA6]).take (l+2)=st.take l++[nd.gA7,nd.gA6]:=aAa st l [_,_] (by omega)
    refine ih _ (fun i=>I64 (t i+1)) (l+2) (aDI st l [_,_] (by omega)) ?_ ?_ ?_
    ·rw [tk]
     intro y hy
     rw [List.mem_append] at hy
     rcases hy with hy | hy
     ·exact hn' y hy
     ·simp at hy
      rcases hy with rfl | rfl <;> omega
    ·rw [tk,vO];omega
    ·rw [tk,vO];omega
   ·have g:=gd.2 (by have:=of_decide_eq_false hc;omega)
    rw [bF (x:=nd.gC2+nd.gC9) (by omega) (by omega)]
    refine TU.t (T.slcN (l:=b.gB9) g.1 (by omega) (by omega)) fun s23 h23=>?_
    refine TU.bind (anyW2 N hN o d m s w t0 (fun y hy=>b1 y (h23.2.1 y hy)) (by omega) (fun i=>I64 (t i+1))) fun a ha r hr=>?_
    have h':∃ t':ι→Int,∀ i,r i=cond a (Sum.inr (t' i,true)) (Sum.inl (t' i)):=⟨fun i=>(hr i).choose,fun i=>(hr i).choose_spec⟩
    obtain ⟨t',e'⟩:=h'
    simp only [e']
    cases a with
    | true=>exact TU.ret true trivial fun i=>⟨t' i,[],rfl⟩
    | false=>exact ih st t' l (by omega) hn' (by omega) (by omega)
  ·exact TU.ret false trivial fun i=>⟨_,_,rfl⟩
theorem anyW {ι:Type} (N:Nat) (hN:1000000000000 < N) {b:aY} {gl:List aE} (hb:wR gl.length b) (h20:gl.length≤20) (o d:aC) (m s:Int) (w:Bool) (t:ι→Int) :
  TU (fun i=>dI N o d m s w (wlk b gl (t i))) (fun _:Bool=>True) (fun i a r=>∃ t',r=(t',a)):=by
 unfold dI iG
 simp only [show ∀ t,(wlk b gl t).gR=b from fun _=>rfl,show ∀ t,(wlk b gl t).gA=true from fun _=>rfl,show ∀ t,(wlk b gl t).gD8=t from fun _=>rfl,Option.bind_some,aQ]
 refine TU.t (P:=fun p=>p=false→pin d∧0 < b.gQ.length) ?_ fun p1 h1=>TU.cond (fun _=>TU.ret false trivial fun i=>⟨_,rfl⟩) (fun hc=>?_)
 ·refine T.cond (fun _=>T.ret fun h=>by cases h) (fun hc=>T.bind (aJN N o d) fun r4 h4=>T.ret fun e=>⟨aCj (h4 (by simpa using e)).2.1 (by decide),?_⟩)
  have:((b.gQ.length:Int)==0)=false:=hc
  have:(b.gQ.length:Int)≠0:=by simpa using this
  omega
 ·obtain ⟨hd,h0⟩:=h1 hc
  refine TU.bind (anyW1 N (by omega) hb h20 o hd m s w t N [0] t 1 (by simp) ?_ ?_ ?_) fun a ha r hr=>?_
  ·intro x hx;have:x=0:=by simpa using hx
   subst this;omega
  ·show (2 ^ 39 - 1+0) < N;omega
  ·show (2 ^ 39 - 1+0) < 1000000000000;decide
  ·refine TU.mono (P:=fun _:Bool=>True) (S:=fun i a' r'=>∃ t',r'=(t',a')) ?_ (fun _ h=>h) (fun _ _ _ _ h=>h)
   have h':∃ t':ι→Int×List Int,∀ i,r i=cond a (Sum.inr ((t' i).1,true)) (Sum.inl ((t' i).2,(t' i).1)):=⟨fun i=>((hr i).choose,(hr i).choose_spec.choose),fun i=>(hr i).choose_spec.choose_spec⟩
   obtain ⟨t',e'⟩:=h'
   simp only [e']
   cases a with
   | true=>exact TU.ret true trivial fun i=>⟨_,rfl⟩
   | false=>exact TU.ret false trivial fun i=>⟨_,rfl⟩
theorem aP2 (k:Nat) {n:aB} (hn:vin n) (d:aC):T (jC (k+70) n d) vin:=by
 unfold jC
 refine T.bind (zG (k+5) d) fun r1 h1=>T.bind (aNC (k+66) hn h1) fun r2 _=>T.cond (fun _=>T.ret hn) (fun _=>?_)
 exact T.eq (sB (k+67) hn ⟨by decide,by decide⟩) (T.ret (pD _ _))
theorem pickT (N:Nat) {l:List aD} (h:aEr l) (i:Int):T (uU N l i) (fun r=>r.1.gA3.length≤260):=by
 unfold uU
 rw [aQ]
 refine T.cond (fun _=>T.ret (by simp)) (fun hc=>?_)
 have h0:(l.length:Int)≠0:=by simpa using hc
 have h20:=h.1
 rw [aQ,bF (x:=(l.length:Int) - 1) (by omega) (by omega),tX,rP]
 exact T.bind (T.idx (by omega) (by omega)) fun e3 h3=>T.ret (h.2 _ (List.mem_of_getElem? h3))
def aNN (u:Vector (Vector Int 2) 3):Prop:=∀ v∈u.toList,∀ x∈v.toList,0≤x∧x≤65535
theorem uvT {u:Vector (Vector Int 2) 3} (h:aNN u) {i j:Int} (hi:0≤i∧i < 3) (hj:0≤j∧j < 2) {β:Type} {f:Int→Option β} {Q:β→Prop} (hf:∀ e,cS e→T (f e) Q):T (Option.bind (idx u.toList i) fun e=>Option.bind (idx e.toList j) f) Q:=by
 refine T.bind (T.idx hi.1 (by simp;omega)) fun e he=>T.bind (T.idx hj.1 (by simp;omega)) fun x hx=>hf x ?_
 have:=h _ (List.mem_of_getElem? he) _ (List.mem_of_getElem? hx)
 exact ⟨by omega,by omega⟩
theorem aPF (k:Nat) {j:Int} (hj:0≤j∧j < 2) {m:aL} (hm:lB m) {u:Vector (Vector Int 2) 3} (hu:aNN u):T (kP (k+5) j m u) (fun _=>True):=by
 unfold kP
 rw [aQ]
 refine uvT hu ⟨by decide,by decide⟩ hj fun e3 h3=>T.bind (aCu _ (dE _) h3) fun r4 h4=>?_
 refine uvT hu ⟨by decide,by decide⟩ hj fun e6 h6=>T.bind (aCu _ hm.2.2.1 h6) fun r7 h7=>?_
 refine uvT hu ⟨by decide,by decide⟩ hj fun e9 h9=>T.bind (aCu _ hm.2.2.2 h9) fun r10 h10=>?_
 refine T.bind (aOz _ _ (by intro x hx;simp at hx;rcases hx with rfl | rfl | rfl;exact h4;exact h7;exact h10) (by simp) (by simp)) fun r11 h11=>?_
 refine T.cond (fun _=>T.ret trivial) (fun _=>T.bind (aO4 (k+2) h11 hm.2.1) fun r12 h12=>T.bind (aFF _ h12.1) fun r13 h13=>?_)
 simp only [aQ]
 exact T.cond (fun _=>T.ret trivial) (fun _=>T.cond (fun _=>T.ret trivial) (fun _=>T.ret trivial))
theorem baryT (k:Nat) {m:aL} (hm:lB m) {u:Vector (Vector Int 2) 3} (hu:aNN u):T (vE (k+5) m u) (fun _=>True):=by
 unfold vE
 refine T.bind (P:=fun _=>True) ?_ fun p1 _=>?_
 ·simp only [aQ]
  exact T.cond (fun _=>T.ret trivial) (fun _=>T.cond (fun _=>T.ret trivial) (fun _=>T.ret trivial))
 ·exact T.cond (fun _=>T.ret trivial) (fun _=>T.bind (aPF k ⟨by decide,by decide⟩ hm hu) fun _ _=>T.bind (aPF k ⟨by decide,by decide⟩ hm hu) fun _ _=>T.ret trivial)
theorem aQT (N:Nat) (hN:300 < N) (t:aD) (h:t.gA3.length≤260) (x y:Int):T (uW N t x y) (fun _=>True):=by
 unfold uW
 refine T.bind (texT N t (by omega) (by omega) (by omega)) fun r1 h1=>T.cond (fun _=>T.ret trivial) (fun hc=>?_)
 have ok:=h1 (by simpa using hc)
 exact T.bind (aGN N ⟨ok.1,ok.2.1⟩ _ _) fun _ _=>T.ret trivial
theorem aPs (N:Nat) (hN:300 < N) (t:aD) (h:t.gA3.length≤260) (x y:Int):T (rO N t x y) (fun r=>vin r.1):=by
 unfold rO
 refine T.bind (texT N t (by omega) (by omega) (by omega)) fun r1 h1=>T.cond (fun _=>T.ret ⟨z64,z64,z64⟩) (fun hc=>?_)
 rw [aQ,aQ]
 refine T.cond (fun _=>T.ret ⟨z64,z64,z64⟩) (fun _=>?_)
 refine T.letO fun x4 _=>T.letO fun x5 _=>?_
 simp only [aQ]
 have s:∀ a b:Int,T (eF N a b t x4 x5) (fun _=>True):=by
  intro a b
  unfold eF
  simp only [aQ]
  exact T.bind (aQT N hN t h _ _) fun _ _=>T.ret trivial
 refine T.bind (s _ _) fun r13 _=>T.bind (s _ _) fun r14 _=>T.bind (s _ _) fun r15 _=>T.bind (s _ _) fun r16 _=>?_
 refine T.bind (P:=fun _=>True) ?_ fun p17 _=>?_
 ·refine T.loopG0 (n:=4) (fun _ _=>True) _ (F:=lV N r13 r14 r15 r16 x4 x5) (fun k v i hi _ hk=>?_) (fun k v _=>?_) (by omega) trivial
  ·rw [lV,dt (by omega),cond_true]
   refine T.bind (T.idx (by omega) (by simp;omega)) fun e20 _=>T.bind (P:=fun _=>True) ?_ fun _ _=>by rw [eE (by omega)];exact hk _ trivial
   refine T.loopG0 (n:=3) (fun _ _=>True) _ (F:=lX N e20 (i:Int) x4 x5) (fun k v j hj _ hk=>?_) (fun k v _=>?_) (by omega) trivial
   ·rw [lX,dt (by omega),cond_true]
    refine T.bind (T.inRO (by omega) (by omega)) fun _ _=>T.bind (T.vgI hj) fun _ _=>T.bind (T.inRO (by omega) (by omega)) fun _ _=>T.bind (T.vgI hj) fun _ _=>T.bind (T.inRO (by omega) (by omega)) fun _ _=>T.bind (T.vgI hi) fun _ _=>?_
    rw [aQ]
    refine T.bind (T.inRO (by omega) (by omega)) fun _ _=>T.bind (T.vgI hj) fun _ _=>?_
    rw [eE (by omega)]
    exact hk _ trivial
   ·rw [lX,df (by omega),cond_false];exact T.ret trivial
  ·rw [lV,df (by omega),cond_false];exact T.ret trivial
 ·refine T.bind (T.inRO (by decide) (by decide)) fun _ _=>T.bind (T.vg (i:=0) (by decide)) fun _ _=>T.bind (T.inRO (by decide) (by decide)) fun _ _=>T.bind (T.vg (i:=1) (by decide)) fun _ _=>T.bind (T.inRO (by decide) (by decide)) fun _ _=>T.bind (T.vg (i:=2) (by decide)) fun _ _=>T.ret ⟨dE _,dE _,dE _⟩
theorem aOh (k:Nat) {c:Vector Int 3} (hc:∀ x∈c.toList,0≤x∧x≤65535) {l:List aD} (hl:aEr l) {u:Vector (Vector Int 2) 3} (hu:aNN u) {m:aL} (hm:lB m) (i:Int):T (kB (k+400) c l u m i) vin:=by
 unfold kB
 refine T.bind (aOq (k+397) c (fun x hx=>by have:=hc x hx;exact ⟨by omega,by omega⟩) ⟨by decide,by decide⟩ (by decide)) fun r1 h1=>T.bind (pickT _ hl i) fun r2 h2=>T.cond (fun _=>T.ret h1) (fun _=>?_)
 refine T.bind (baryT (k+395) hm hu) fun r3 _=>T.letO fun x4 _=>T.letO fun x5 _=>T.bind (aPs _ (by omega) _ h2 _ _) fun r6 h6=>T.cond (fun _=>T.ret h1) (fun _=>?_)
 exact T.bind (aDv (k+397) _ (by intro x hx;simp at hx;rcases hx with rfl | rfl;exact h1;exact h6) (by simp) (by simp)) fun r7 h7=>T.ret h7
theorem aHz (k:Nat) {a b c:Int} (hb:cS b) (hc:cS c) (v:Vector Int 2):T (iM (k+3) a b c v) cS:=by
 unfold iM
 refine T.bind (T.idx (by decide) (by simp)) fun e1 _=>T.bind (aFO k hb (dE _) ⟨by decide,by decide⟩) fun r2 h2=>T.bind (T.idx (by decide) (by simp)) fun e3 _=>T.bind (aFO k hc (dE _) ⟨by decide,by decide⟩) fun r4 h4=>?_
 rw [aQ]
 exact T.ret (dE _)
theorem aRm (k:Nat) {l:aS} (h:vG l) (v:Vector Int 2):T (vF (k+3) l v) pin:=by
 unfold vF
 obtain ⟨_,a,b,c⟩:=h
 have b':=aCj b (by decide)
 have c':=aCj c (by decide)
 refine T.cond (fun _=>T.ret (aCj a (by decide))) (fun _=>?_)
 exact T.bind (aHz k b'.1 c'.1 v) fun _ x=>T.bind (aHz k b'.2.1 c'.2.1 v) fun _ y=>T.bind (aHz k b'.2.2 c'.2.2 v) fun _ z=>T.ret ⟨x,y,z⟩
theorem absT (N:Nat) {a:Int} (h:cS a):T (lG N a) cS:=by unfold lG;exact T.cond (fun _=>T.ret (dE _)) (fun _=>T.ret h)
theorem aN1 (N:Nat) {a:Int} (b:Int) (h:cS a):T (qX N a b) cS:=by unfold qX;exact T.cond (fun _=>T.ret (dE _)) (fun _=>T.ret h)
theorem foldT (N:Nat) {a b:Int} (ha:cS a) (hb:cS b):T (wT N a b) (fun r=>cS r.1∧cS r.2):=by
 unfold wT
 exact T.bind (absT N hb) fun _ _=>T.bind (aN1 N _ (dE _)) fun _ x=>T.bind (absT N ha) fun _ _=>T.bind (aN1 N _ (dE _)) fun _ y=>T.ret ⟨x,y⟩
theorem aQp (N:Nat) (a:Int):T (nT N a) cS:=by unfold nT;rw [aQ];exact T.ret (dE _)
theorem aPd (N:Nat) (a:Int):T (tI N a) pin:=by
 unfold tI
 refine T.bind (aQp N _) fun r1 h1=>T.bind (aQp N _) fun r2 h2=>T.bind (absT N h1) fun r3 _=>T.bind (absT N h2) fun r4 _=>?_
 rw [aQ]
 refine T.bind (P:=fun p=>cS p.1∧cS p.2) (T.cond (fun _=>T.bind (foldT N h1 h2) fun r h=>T.ret h) (fun _=>T.ret ⟨h1,h2⟩)) fun p h=>T.ret ⟨h.1,h.2,dE _⟩
theorem aKc (N:Nat) (a:Int):T (rU N a) pin:=by
 unfold rU tO
 simp only [aQ,Option.bind_some]
 exact T.bind (aPd N _) fun r h=>T.ret h
theorem aL6 (k:Nat) {a b:Int} (ha:cS a) (hb:cS b):T (lY (k+3) [a,b]) cS:=⟨_,aCy k ha hb,eX _⟩
theorem negT (N:Nat) {a:Int} (ha:cS a):T (sL N a) cS:=⟨_,aL1 N ha,eX _⟩
theorem farT (k:Nat) {f:uD} (hf:pin f.gE0) (p:aC) {n:aB} (hn:vin n):T (pB (k+70) f p n) (fun r=>pin r.1∧cS r.2):=by
 unfold pB
 refine T.bind (zG (k+5) _) fun r1 h1=>T.bind (aNC (k+66) hn h1) fun r2 h2=>T.cond (fun _=>?_) (fun _=>?_)
 ·exact T.bind (negT _ h2) fun _ a=>T.bind (negT _ h2) fun _ b=>T.bind (aL6 (k+67) a b) fun _ c=>T.ret ⟨⟨dE _,dE _,dE _⟩,c⟩
 ·exact T.bind (aL6 (k+67) h2 h2) fun _ c=>T.ret ⟨hf,c⟩
theorem aR7 (k:Nat) (f:uM) (p:aC) {n:aB} (hn:vin n):T (oG (k+70) f p n) (fun r=>pin r.1∧cS r.2):=by
 unfold oG
 refine T.bind (aI2 _ _ _) fun r1 h1=>T.bind (zG (k+5) _) fun r2 h2=>T.bind (aNC (k+66) hn h2) fun r3 h3=>?_
 simp only [aQ]
 refine T.cond (fun _=>T.ret ⟨⟨z64,z64,z64⟩,z64⟩) (fun _=>T.bind (aJa _ _ _) fun r6 h6=>T.bind (aFO (k+67) h3 ⟨by decide,by decide⟩ h6) fun r7 h7=>T.ret ⟨h1,h7⟩)
theorem lampT (k:Nat) {l:aS} (h:vG l) (p:aC) {n:aB} (hn:vin n) (v:Vector Int 2):T (mW (k+70) l p n v) (fun r=>vin r.gC1):=by
 unfold mW
 have v0:vin (aB.mk 0 0 0):=⟨z64,z64,z64⟩
 refine T.bind (P:=fun _=>True) (T.bind (aOP _ (by omega) l) fun _ _=>T.cond (fun _=>T.ret trivial) (fun _=>T.bind (aJN _ _ _) fun _ _=>T.ret trivial)) fun p1 _=>T.cond (fun _=>T.ret v0) (fun _=>?_)
 refine T.bind (aRm (k+67) h v) fun r4 h4=>T.cond (fun _=>?_) (fun _=>?_)
 ·refine T.bind (T.idx (by decide) (by simp)) fun e5 _=>T.bind (aKc _ _) fun r6 h6=>T.bind (farT k (f:=uD.mk r6) h6 _ hn) fun r7 h7=>T.cond (fun _=>T.ret v0) (fun _=>?_)
  exact T.bind (aH3 (k+67) h) fun r8 h8=>T.eq (sB (k+67) h8 h7.2) (T.ret (pD _ _))
 ·refine T.bind (aR7 k _ _ hn) fun r10 h10=>T.cond (fun _=>T.ret v0) (fun _=>?_)
  exact T.bind (aH3 (k+67) h) fun r8 h8=>T.eq (sB (k+67) h8 h10.2) (T.ret (pD _ _))
def aF0 (t:cQ):Prop:=pin t.gD6∧vin t.gC1
theorem aLr : aF0 (cQ.mk (aC.mk 0 0 0) (aB.mk 0 0 0) true):=⟨⟨z64,z64,z64⟩,z64,z64,z64⟩
theorem aOZ (k:Nat) {c n:aB} (hc:vin c) (hn:vin n) (a:Int):T (oA (k+70) c n a) aF0:=by
 unfold oA
 refine T.bind (aKc _ _) fun r1 h1=>T.bind (zG (k+5) _) fun r2 h2=>T.bind (aNC (k+66) hn h2) fun r3 h3=>?_
 refine T.bind (P:=fun p=>pin p.1∧cS p.2) (T.cond (fun _=>T.bind (negT _ h3) fun _ b=>T.ret ⟨⟨dE _,dE _,dE _⟩,b⟩) (fun _=>T.ret ⟨h1,h3⟩)) fun p4 h4=>T.cond (fun _=>T.ret aLr) (fun _=>?_)
 exact T.bind (aL6 (k+67) h4.2 h4.2) fun r6 h6=>T.eq (sB (k+67) hc h6) (T.ret ⟨h4.1,pD _ _⟩)
theorem aIG (k:Nat) {n:aB} (hn:vin n) (d:aC):T (kT (k+70) n d) vin:=by
 unfold kT
 exact T.bind (zG (k+5) _) fun r1 h1=>T.bind (aNC (k+66) hn h1) fun r2 h2=>T.bind (aL6 (k+67) h2 h2) fun r3 h3=>T.eq (sB (k+67) hn h3) (T.eq (aFM _ h1 (pD _ _)) (T.ret (aFE _ _)))
theorem aIP (k:Nat) {a c:aB} (ha:vin a) (hc:vin c):T (kC (k+3) a c) aF0:=by
 unfold kC
 exact T.eq (aON k ha) (T.cond (fun _=>T.ret aLr) (fun _=>T.ret ⟨aCb (aHY ha),hc⟩))
theorem aOm (k:Nat) {m:aU} (hm:aBG m) {c n:aB} (hc:vin c) (hn:vin n) (d:aC) (v:Vector Int 2):T (iR (k+70) m c n d v) aF0:=by
 unfold iR
 obtain ⟨_,r1,r2⟩:=hm
 refine T.cond (fun _=>T.bind (T.idx (by decide) (by simp)) fun e1 _=>T.bind (aOZ k hc hn _) fun r h=>T.ret h) (fun _=>?_)
 refine T.cond (fun _=>?_) (fun _=>?_)
 ·refine T.eq (uB _ ⟨by omega,by omega⟩) (T.eq (uB _ ⟨by decide,by decide⟩) (T.eq (xN (k+67) (eX _) (eX _) (by decide)) ?_))
  refine T.bind (aIG k hn d) fun r6 h6=>T.bind (T.idx (by decide) (by simp)) fun e7 _=>T.bind (aKc _ _) fun r8 _=>T.bind (zG (k+5) _) fun r9 h9=>T.eq (sB (k+67) h9 (eX _)) ?_
  refine T.eq (aK5 (k+67) h6 (pD _ _)) (T.bind (aNC (k+66) hn (aAl _ _)) fun r12 _=>T.cond (fun _=>T.ret aLr) (fun _=>T.bind (aIP (k+67) (aAl _ _) hc) fun r h=>T.ret h))
 refine T.cond (fun _=>?_) (fun _=>?_)
 ·refine T.bind (T.idx (by decide) (by simp)) fun e14 _=>T.bind (aOw _ _ _) fun r15 _=>?_
  rw [aQ]
  exact T.cond (fun _=>T.bind (zG (k+5) _) fun r17 h17=>T.bind (aIP (k+67) h17 hc) fun r h=>T.ret h) (fun _=>T.bind (aIG k hn d) fun r19 h19=>T.bind (aIP (k+67) h19 hc) fun r h=>T.ret h)
 ·exact T.cond (fun _=>T.bind (aIG k hn d) fun r19 h19=>T.bind (aIP (k+67) h19 hc) fun r h=>T.ret h) (fun _=>T.ret aLr)
theorem T.eqo {α:Type} {o:Option α} {a:α} (h:o=some a):(Option.bind o fun r=>some r)=some a:=by rw [h];rfl
theorem aMG (k:Nat) {f:aB} (hf:vin f) (a:Int):T (eM (k+70) f a) (fun r=>vin r.1):=by
 unfold eM zV oT hS
 refine T.eq (aJm _ hf) (T.eq rfl (T.eq rfl (T.cond (fun _=>T.ret ⟨z64,z64,z64⟩) (fun _=>?_))))
 rw [tX,rP]
 generalize hx:min (max (vL f) 268435456) 4294967296=x
 have hx1:cS x∧x≠0:=by unfold cS;omega
 refine T.eq (T.eqo (xN (k+67) hf.1 hx1.1 hx1.2)) ?_
 refine T.eq (T.eqo (xN (k+67) hf.2.1 hx1.1 hx1.2)) ?_
 refine T.eq (T.eqo (xN (k+67) hf.2.2 hx1.1 hx1.2)) ?_
 exact T.ret ⟨eX _,eX _,eX _⟩
theorem aOj (k:Nat) (c:bP) (w h x y:Int) (v:Vector Int 4):T (rX (k+6) c w h x y v) (fun r=>pin r.1∧pin r.2.1):=by
 unfold rX
 have p0:pin (aC.mk 0 0 0):=⟨z64,z64,z64⟩
 refine T.bind (T.idx (by decide) (by simp)) fun e1 _=>T.bind (T.idx (by decide) (by simp)) fun e2 _=>?_
 refine T.bind (aJr k c w h x y _) fun r hr=>?_
 refine T.cond (fun hc=>T.ret ⟨p0,p0⟩) (fun hc=>?_)
 have h0:r.2=0:=by simpa using hc
 obtain ⟨hv,cam⟩:=hr
 obtain ⟨⟨w1,w2⟩,⟨h1,h2⟩,hl,hf,o1,o2,o3,ee1,ee2⟩:=cam h0
 have eye:pin c.gA5:=by
  simp only [rP,tX] at ee1 ee2
  exact ⟨⟨by omega,by omega⟩,⟨by omega,by omega⟩,by omega,by omega⟩
 refine T.bind (P:=fun p=>pin p.1∧vin p.2) ?_ fun p hp=>?_
 ·refine T.cond (fun _=>?_) (fun _=>T.ret ⟨eye,hv⟩)
  refine T.bind (aRq k c v (aCb (aBc o1)) (aCb (aBc o2))) fun r5 h5=>?_
  simp only [aQ]
  refine T.eq (uB _ ⟨by omega,by omega⟩) ?_
  refine T.eq (uB _ ⟨by decide,by decide⟩) ?_
  refine T.eq (xN (k+3) (eX _) (eX _) (by decide)) ?_
  refine T.eq (sB (k+3) hv (eX _)) ?_
  refine T.eq (aAC _ h5) ?_
  refine T.eq (aFM _ (pD _ _) (aAE _)) ?_
  exact T.ret ⟨⟨dE _,dE _,dE _⟩,aFE _ _⟩
 ·refine T.eq (aON (k+3) hp.2) ?_
  exact T.cond (fun hc=>T.ret ⟨p0,p0⟩) (fun _=>T.ret ⟨hp.1,aCb (aHY hp.2)⟩)
end Go.UK
