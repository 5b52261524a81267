/- A part of the proof: what the functions of the program compute. -/
import Derived.Test.YtmfanigkgeohiaaGreatJ3
namespace Go.UK
open Go Go.Proofs
set_option maxRecDepth 20000
set_option maxHeartbeats 2000000
set_option linter.all false
theorem nk {N c:Nat} (h:c≤N):∃ k,N=k+c:=⟨N - c,by omega⟩
section
variable {N:Nat} (hN:1000 < N)
include hN
theorem aLg (p:aC):T (fM N p) vin:=by obtain ⟨k,rfl⟩:=nk (show 65≤N by omega);exact zS k p
theorem aL4 {n:aB} (hn:vin n) (d:aC):T (jK N n d) vin:=by obtain ⟨k,rfl⟩:=nk (show 70≤N by omega);exact aPj k hn d
theorem aJL {c:Vector Int 3} (hc:∀ x∈c.toList,0≤x∧x≤65535) {l:List aD} (hl:aFB l) {u:Vector (Vector Int 2) 3} (hu:aPW u) {m:aL} (hm:lH m) (i:Int):T (kJ N c l u m i) vin:=by obtain ⟨k,rfl⟩:=nk (show 400≤N by omega);exact aOc k hc hl hu hm i
theorem aNz {o d:aC} {m:aL} (ho:pin o) (hd:pin d) (hm:lH m):T (qH N o d m) pin:=by obtain ⟨k,rfl⟩:=nk (show 3≤N by omega);exact aQc k ho hd hm
theorem aMM {v:aB} (hv:vin v):T (oH N v) cU:=by obtain ⟨k,rfl⟩:=nk (show 65≤N by omega);exact aQD k hv
theorem aQ3 {l:aT} (h:vN l) (p:aC) {n:aB} (hn:vin n) (v:Vector Int 2):T (mY N l p n v) (fun r=>vin r.gC3):=by obtain ⟨k,rfl⟩:=nk (show 70≤N by omega);exact lampT k h p hn v
theorem aJT {m:aQ} (hm:aBO m) {c n:aB} (hc:vin c) (hn:vin n) (d:aC) (v:Vector Int 2):T (iT N m c n d v) aFt:=by obtain ⟨k,rfl⟩:=nk (show 70≤N by omega);exact aN7 k hm hc hn d v
theorem aHc {f:aB} (hf:vin f) (a:Int):T (eT N f a) (fun r=>vin r.1):=by obtain ⟨k,rfl⟩:=nk (show 70≤N by omega);exact aMk k hf a
theorem aIt (l:List aB) (h:∀ x∈l,vin x) (hl:l.length≤10):T (iL N l) vin:=by obtain ⟨k,rfl⟩:=nk (show 3≤N by omega);exact aDu k l h (by omega) (by omega)
theorem aLc {u v:aB} (hu:vin u) (hv:vin v):kZ N [u,v]=some (aF9 u v):=by obtain ⟨k,rfl⟩:=nk (show 3≤N by omega);exact aKp k hu hv
theorem rayN (c:bP) (w h x y:Int) (v:Vector Int 4):T (sB N c w h x y v) (fun r=>pin r.1∧pin r.2.1):=by obtain ⟨k,rfl⟩:=nk (show 6≤N by omega);exact aOk k c w h x y v
end
theorem idxV {n:Nat} (v:Vector Int n) (i:Nat) (h:i < n):idx v.toList (i:Int)=some v[i]:=by rw [dU];exact aAV v i h
def v0 : aB:=aB.mk 0 0 0
theorem aHR : vin v0:=⟨z64,z64,z64⟩
def aFL (p:aR):Prop:=pin p.gat∧vin p.gn∧vin p.gc∧aBO p.gI
def aEg (r:aH):Prop:=pin r.go∧pin r.gd
theorem mat0 : aBO (aQ.mk 0 (#v[0,0,0]) 0):=⟨by intro x hx;simp at hx;omega,by decide,by decide⟩
section
variable {ι ρ ρ' β:Type}
def TC (A:ι→Option ρ) (P:ρ→Prop):Prop:=∃ a,P a∧∀ i,A i=some a
theorem TU.c {A:ι→Option ρ} {B:ι→ρ→Option ρ'} {P:ρ→Prop} {Q:β→Prop} {S:ι→β→ρ'→Prop} (h:TC A P) (hf:∀ a,P a→TU (fun i=>B i a) Q S):TU (fun i=>Option.bind (A i) (B i)) Q S:=by
 obtain ⟨a,pa,e⟩:=h
 exact TU.e e (hf a pa)
theorem TC.of {o:Option ρ} {A:ι→Option ρ} {P:ρ→Prop} (h:T o P) (e:∀ i,A i=o):TC A P:=by
 obtain ⟨a,rfl,pa⟩:=h
 exact ⟨a,pa,e⟩
theorem TC.bind {A:ι→Option ρ} {B:ι→ρ→Option ρ'} {P:ρ→Prop} {Q:ρ'→Prop} (h:TC A P) (hf:∀ a,P a→TC (fun i=>B i a) Q):TC (fun i=>Option.bind (A i) (B i)) Q:=by
 obtain ⟨a,pa,e⟩:=h
 obtain ⟨b,qb,e'⟩:=hf a pa
 exact ⟨b,qb,fun i=>by show Option.bind (A i) (B i)=_;rw [e i];exact e' i⟩
theorem TC.t {α:Type} {o:Option α} {B:ι→α→Option ρ} {P:α→Prop} {Q:ρ→Prop} (h:T o P) (hf:∀ a,P a→TC (fun i=>B i a) Q):TC (fun i=>Option.bind o (B i)) Q:=by
 obtain ⟨a,rfl,pa⟩:=h
 exact hf a pa
theorem TC.cond {c:Bool} {A B:ι→Option ρ} {Q:ρ→Prop} (h1:c=true→TC A Q) (h2:c=false→TC B Q):TC (fun i=>_root_.cond c (A i) (B i)) Q:=by
 cases c with
 | true=>exact h1 rfl
 | false=>exact h2 rfl
theorem TC.ret (a:ρ) {Q:ρ→Prop} (h:Q a):TC (fun _:ι=>some a) Q:=⟨a,h,fun _=>rfl⟩
end
def noR (_ _ _:Int):Prop:=True
theorem noR_0 (a:Int):noR a a 0:=trivial
theorem noR_t {a b c n m:Int} (_:noR a b n) (_:noR b c m):noR a c (n+m):=trivial
theorem aQ1 : vin (aB.mk 4294967296 4294967296 4294967296):=⟨⟨by decide,by decide⟩,⟨by decide,by decide⟩,by decide,by decide⟩
theorem aLB {a b n m:Int} (h:qA a b n) (e:n=m):qA a b m:=e▸h
theorem noR_e {a b n m:Int} (h:noR a b n) (e:n=m):noR a b m:=trivial
set_option maxHeartbeats 4000000
section
variable {ι:Type} {N:Nat} (hN:4100 < N) {b:List (List aD)} {s:aF} {v:aI} {sky:aB} (hr:Rdy b s v sky)
include hN
omit hN in
theorem aMz (x:ι→Bool) (ray:ι→aH) (f l:ι→aB) (dep:Int) (ov:ι→Bool) (sm:ι→aG) (st:ι→aJ) (src:ι→aA) (sw:ι→aK) :
  TC (fun i=>eC N b (x i) (ray i) (f i) (l i) dep (ov i) (sm i) s v sky (st i) (src i) (sw i)) (fun _=>True):=⟨(),trivial,fun i=>rfl⟩
include hr
end
section
variable {ι:Type} {N:Nat} (hN:1000000000000 < N) {b:List (List aD)} {s:aF} {v:aI} {sky:aB} (hr:Rdy b s v sky)
include hN
omit hN in
theorem aMf (x:ι→Bool) (ray:ι→aH) (f l:ι→aB) (dep:Int) (ov:ι→Bool) (sm:ι→aG) (st:ι→aJ) (src:ι→aA) (sw:ι→aM) :
  TC (fun i=>fA N b (x i) (ray i) (f i) (l i) dep (ov i) (sm i) s v sky (st i) (src i) (sw i)) (fun _=>True):=⟨(),trivial,fun i=>rfl⟩
include hr
end
section
variable {ι:Type} {N:Nat} (hN:4100 < N) {b:List (List aD)} {s:aF} {v:aI} {sky:aB} (hr:Rdy b s v sky)
include hN hr
end
section
variable {ι:Type} {N:Nat} (hN:1000000000000 < N) {b:List (List aD)} {s:aF} {v:aI} {sky:aB} (hr:Rdy b s v sky)
include hN hr
end
section
variable {ι:Type} {N:Nat} (hN:4100 < N) {b:List (List aD)} {s:aF} {v:aI} {sky:aB} (hr:Rdy b s v sky)
include hN hr
end
section
variable {ι:Type} {N:Nat} (hN:1000000000000 < N) {b:List (List aD)} {s:aF} {v:aI} {sky:aB} (hr:Rdy b s v sky)
include hN hr
end
theorem wvalE {w w':aP} (h:wok w) (h':wok w') (e:nU w=nU w'):w=w':=by
 obtain ⟨⟨a1,a2⟩,a3,a4⟩:=h
 obtain ⟨⟨b1,b2⟩,b3,b4⟩:=h'
 have e':w.gHi*18446744073709551616+w.gLo=w'.gHi*18446744073709551616+w'.gLo:=e
 cases w;cases w'
 dsimp only at *
 congr 1 <;> omega
theorem cmpA (N:Nat) {w w':aP} (h:wok w) (h':wok w'):nK N w w'=some (if nU w=nU w' then 0 else if nU w < nU w' then -1 else 1):=by
 unfold nK
 have eqv:aP.eq w w'=decide (nU w=nU w'):=by
  rw [Bool.eq_iff_iff,decide_eq_true_eq]
  constructor
  ·intro e
   unfold aP.eq at e
   have:w.gHi=w'.gHi∧w.gLo=w'.gLo:=by simpa using e
   show w.gHi*18446744073709551616+w.gLo=w'.gHi*18446744073709551616+w'.gLo
   rw [this.1,this.2]
  ·intro e
   rw [wvalE h h' e]
   unfold aP.eq;simp
 rw [eqv]
 by_cases e:nU w=nU w'
 ·rw [dt e,if_pos e];rfl
 ·rw [df e,if_neg e,cond_false]
  obtain ⟨⟨a1,a2⟩,a3,a4⟩:=h
  obtain ⟨⟨b1,b2⟩,b3,b4⟩:=h'
  have e1:nU w=w.gHi*18446744073709551616+w.gLo:=rfl
  have e2:nU w'=w'.gHi*18446744073709551616+w'.gLo:=rfl
  simp only [aS]
  by_cases c:w.gHi < w'.gHi
  ·rw [dt c,cond_true,Option.bind_some,cond_true,if_pos (by omega)]
  ·rw [df c,cond_false]
   by_cases c2:w.gHi=w'.gHi
   ·rw [show (w.gHi==w'.gHi)=true by simpa using c2,cond_true]
    by_cases c3:w.gLo < w'.gLo
    ·rw [dt c3,Option.bind_some,cond_true,if_pos (by omega)]
    ·rw [df c3,Option.bind_some,cond_false,if_neg (by omega)]
   ·rw [show (w.gHi==w'.gHi)=false by simpa using c2,cond_false,Option.bind_some,cond_false,if_neg (by omega)]
theorem aMD (N:Nat) {a b c d:Int} (ha:cU a) (hb:cU b) (hc:cU c) (hd:cU d):(Option.bind (fN N a b) fun r1=>Option.bind (fN N c d) fun r2=>Option.bind (nK N r1 r2) fun r3=>some (decide (r3 < 0)))=some (decide (a*b < c*d)):=by
 obtain ⟨w,e,ok,v⟩:=aGe N ha hb
 obtain ⟨w',e',ok',v'⟩:=aGe N hc hd
 rw [e,Option.bind_some,e',Option.bind_some,cmpA N ok ok',Option.bind_some,v,v']
 congr 1
 by_cases h:a*b=c*d
 ·rw [if_pos h,df (show ¬ a*b < c*d by omega)];rfl
 ·rw [if_neg h]
  by_cases h2:a*b < c*d
  ·rw [if_pos h2,dt h2];rfl
  ·rw [if_neg h2,df h2];rfl
theorem aOV (N:Nat) {a b:aW} (ha:qI a) (hb:qI b):dZ N a b=some (decide (a.gn*b.gd < b.gn*a.gd)):=by
 unfold dZ
 exact aMD N ha.1 hb.2 hb.1 ha.2
theorem aNc (N:Nat) {m n:aL} (hm:lH m) (hn:lH n) (h1:1≤m.gM) (h2:1≤n.gM):qO N m n=some (decide (m.gT*n.gM < n.gT*m.gM)):=by
 unfold qO
 rw [df (show ¬ m.gM < 1 by omega),df (show ¬ n.gM < 1 by omega)]
 simp only [aS,cond_false]
 exact aMD N hm.1 hn.2.1 hn.1 hm.2.1
theorem aIx {a b A B:Int} (ha:-A≤a∧a≤A) (hb:-B≤b∧b≤B) : -(A*B)≤a*b∧a*b≤A*B:=by
 have hA:0≤A:=by omega
 have hB:0≤B:=by omega
 have e:(a*b).natAbs≤A.natAbs*B.natAbs:=by
  rw [Int.natAbs_mul]
  exact Nat.mul_le_mul (by omega) (by omega)
 have e2:((A.natAbs*B.natAbs:Nat):Int)=A*B:=by rw [Int.natCast_mul,Int.natAbs_of_nonneg hA,Int.natAbs_of_nonneg hB]
 rw [← e2]
 generalize A.natAbs*B.natAbs=M at *
 omega
def aBQ (a b:aC):aC:=⟨a.gX - b.gX,a.gY - b.gY,a.gZ - b.gZ⟩
def tL (a b:aC):aC:=⟨a.gY*b.gZ - a.gZ*b.gY,a.gZ*b.gX - a.gX*b.gZ,a.gX*b.gY - a.gY*b.gX⟩
def aB1 (a b:aC):Int:=a.gX*b.gX+a.gY*b.gY+a.gZ*b.gZ
theorem aPY (N:Nat) {a b:aC} {m n:Int} (ha:pwi m a) (hb:pwi n b) (h:m+n≤1000000000000):kY N a b=some (aBQ a b)∧pwi (m+n) (aBQ a b):=by
 unfold pwi at *
 unfold kY aBQ
 rw [bF (by omega) (by omega),bF (by omega) (by omega),bF (by omega) (by omega)]
 exact ⟨rfl,by dsimp only;omega⟩
theorem aL0 (N:Nat) {a b:aC} {m n:Int} (ha:pwi m a) (hb:pwi n b) (h:m*n≤1000000000000000000):nA N a b=some (tL a b)∧pwi (2*(m*n)) (tL a b):=by
 obtain ⟨ax,ay,az⟩:=ha
 obtain ⟨bx,by',bz⟩:=hb
 have q1:=aIx ay bz
 have q2:=aIx az by'
 have q3:=aIx az bx
 have q4:=aIx ax bz
 have q5:=aIx ax by'
 have q6:=aIx ay bx
 unfold nA tL pwi
 simp only [aS]
 generalize a.gY*b.gZ=c1 at *
 generalize a.gZ*b.gY=c2 at *
 generalize a.gZ*b.gX=c3 at *
 generalize a.gX*b.gZ=c4 at *
 generalize a.gX*b.gY=c5 at *
 generalize a.gY*b.gX=c6 at *
 generalize m*n=M at *
 rw [bF (x:=c1) (by omega) (by omega),bF (x:=c2) (by omega) (by omega),bF (x:=c3) (by omega) (by omega),bF (x:=c4) (by omega) (by omega),bF (x:=c5) (by omega) (by omega),bF (x:=c6) (by omega) (by omega),bF (x:=c1 - c2) (by omega) (by omega),bF (x:=c3 - c4) (by omega) (by omega),bF (x:=c5 - c6) (by omega) (by omega)]
 exact ⟨rfl,by omega⟩
theorem aL2 (N:Nat) {a b:aC} {m n:Int} (ha:pwi m a) (hb:pwi n b) (h:m*n≤1000000000000000000):rD N a b=some (aB1 a b) ∧ -(3*(m*n))≤aB1 a b∧aB1 a b≤3*(m*n):=by
 obtain ⟨ax,ay,az⟩:=ha
 obtain ⟨bx,by',bz⟩:=hb
 have q1:=aIx ax bx
 have q2:=aIx ay by'
 have q3:=aIx az bz
 unfold rD aB1
 simp only [aS]
 generalize a.gX*b.gX=c1 at *
 generalize a.gY*b.gY=c2 at *
 generalize a.gZ*b.gZ=c3 at *
 generalize m*n=M at *
 rw [bF (x:=c1) (by omega) (by omega),bF (x:=c2) (by omega) (by omega),bF (x:=c3) (by omega) (by omega),bF (x:=c1+c2) (by omega) (by omega),bF (x:=c1+c2+c3) (by omega) (by omega)]
 exact ⟨rfl,by omega⟩
def pC (s d e f:aC):aL:=
 let m:aL:=⟨aB1 f (tL s e),aB1 e (tL d f),aB1 s (tL d f),aB1 d (tL s e)⟩
 if m.gM < 0 then ⟨-m.gT,-m.gM,-m.gU,-m.gV⟩ else m
theorem cr1 (sx sy sz dx dy dz ex ey ez fx fy fz:Int) :
  (ex*(dy*fz - dz*fy)+ey*(dz*fx - dx*fz)+ez*(dx*fy - dy*fx))*sx+(fx*(sy*ez - sz*ey)+fy*(sz*ex - sx*ez)+fz*(sx*ey - sy*ex))*dx=(sx*(dy*fz - dz*fy)+sy*(dz*fx - dx*fz)+sz*(dx*fy - dy*fx))*ex+(dx*(sy*ez - sz*ey)+dy*(sz*ex - sx*ez)+dz*(sx*ey - sy*ex))*fx:=by
 grind
theorem cr2 (sx sy sz dx dy dz ex ey ez fx fy fz:Int) :
  (ex*(dy*fz - dz*fy)+ey*(dz*fx - dx*fz)+ez*(dx*fy - dy*fx))*sy+(fx*(sy*ez - sz*ey)+fy*(sz*ex - sx*ez)+fz*(sx*ey - sy*ex))*dy=(sx*(dy*fz - dz*fy)+sy*(dz*fx - dx*fz)+sz*(dx*fy - dy*fx))*ey+(dx*(sy*ez - sz*ey)+dy*(sz*ex - sx*ez)+dz*(sx*ey - sy*ex))*fy:=by
 grind
theorem cr3 (sx sy sz dx dy dz ex ey ez fx fy fz:Int) :
  (ex*(dy*fz - dz*fy)+ey*(dz*fx - dx*fz)+ez*(dx*fy - dy*fx))*sz+(fx*(sy*ez - sz*ey)+fy*(sz*ex - sx*ez)+fz*(sx*ey - sy*ex))*dz=(sx*(dy*fz - dz*fy)+sy*(dz*fx - dx*fz)+sz*(dx*fy - dy*fx))*ez+(dx*(sy*ez - sz*ey)+dy*(sz*ex - sx*ez)+dz*(sx*ey - sy*ex))*fz:=by
 grind
theorem aSP (s d e f:aC):(pC s d e f).gM*s.gX+(pC s d e f).gT*d.gX=(pC s d e f).gU*e.gX+(pC s d e f).gV*f.gX∧(pC s d e f).gM*s.gY+(pC s d e f).gT*d.gY=(pC s d e f).gU*e.gY+(pC s d e f).gV*f.gY∧(pC s d e f).gM*s.gZ+(pC s d e f).gT*d.gZ=(pC s d e f).gU*e.gZ+(pC s d e f).gV*f.gZ:=by
 obtain ⟨sx,sy,sz⟩:=s
 obtain ⟨dx,dy,dz⟩:=d
 obtain ⟨ex,ey,ez⟩:=e
 obtain ⟨fx,fy,fz⟩:=f
 have h1:=cr1 sx sy sz dx dy dz ex ey ez fx fy fz
 have h2:=cr2 sx sy sz dx dy dz ex ey ez fx fy fz
 have h3:=cr3 sx sy sz dx dy dz ex ey ez fx fy fz
 unfold pC aB1 tL
 dsimp only
 generalize (ex*(dy*fz - dz*fy)+ey*(dz*fx - dx*fz)+ez*(dx*fy - dy*fx))=D at *
 generalize (fx*(sy*ez - sz*ey)+fy*(sz*ex - sx*ez)+fz*(sx*ey - sy*ex))=M at *
 generalize (sx*(dy*fz - dz*fy)+sy*(dz*fx - dx*fz)+sz*(dx*fy - dy*fx))=U at *
 generalize (dx*(sy*ez - sz*ey)+dy*(sz*ex - sx*ez)+dz*(sx*ey - sy*ex))=V at *
 split
 ·dsimp only
  simp only [Int.neg_mul]
  omega
 ·exact ⟨h1,h2,h3⟩
structure Geo (o d:aC) (P:Vector aC 3) (m:aL):Prop where
 ho:pwi 65536 o
 hd:pwi 131072 d
 pts:∀ p∈P.toList,pwi 65536 p
 det:1≤m.gM
 num:0 < m.gT
 u:0≤m.gU
 v:0≤m.gV
 uv:m.gU+m.gV≤m.gM
 x:m.gM*(o.gX - P[0].gX)+m.gT*d.gX=m.gU*(P[1].gX - P[0].gX)+m.gV*(P[2].gX - P[0].gX)
 y:m.gM*(o.gY - P[0].gY)+m.gT*d.gY=m.gU*(P[1].gY - P[0].gY)+m.gV*(P[2].gY - P[0].gY)
 z:m.gM*(o.gZ - P[0].gZ)+m.gT*d.gZ=m.gU*(P[1].gZ - P[0].gZ)+m.gV*(P[2].gZ - P[0].gZ)
theorem aQe {s d e f:aC} {B:Int} (h1:-B≤aB1 f (tL s e)∧aB1 f (tL s e)≤B) (h2:-B≤aB1 e (tL d f)∧aB1 e (tL d f)≤B) (h3:-B≤aB1 s (tL d f)∧aB1 s (tL d f)≤B) (h4:-B≤aB1 d (tL s e)∧aB1 d (tL s e)≤B) :
  (-B≤(pC s d e f).gT∧(pC s d e f).gT≤B)∧(-B≤(pC s d e f).gM∧(pC s d e f).gM≤B)∧(-B≤(pC s d e f).gU∧(pC s d e f).gU≤B) ∧ -B≤(pC s d e f).gV∧(pC s d e f).gV≤B:=by
 unfold pC
 dsimp only
 split
 ·dsimp only;omega
 ·dsimp only;omega
theorem aND {s d e f:aC} (h:(pC s d e f).gM≠0):1≤(pC s d e f).gM:=by
 unfold pC at *
 dsimp only at *
 split at h
 ·rename_i c;rw [if_pos c];dsimp only at *;omega
 ·rename_i c;rw [if_neg c];dsimp only at *;omega
theorem hitG (N:Nat) (hN:3 < N) (o d:aC) (P:Vector aC 3):T (pR N o d P) (fun r=>lH r.1∧(r.2=true→Geo o d P r.1)):=by
 unfold pR
 refine T.bind (P:=fun r=>r=false→pwi 65536 o∧pwi 131072 d∧∀ p∈P.toList,pwi 65536 p) ?_ fun p1 h1=>?_
 ·refine T.bind (aJQ N o d) fun r2 h2=>?_
  refine T.cond (fun _=>T.ret fun h=>by cases h) (fun hc=>?_)
  obtain ⟨a,b,_⟩:=h2 (by simpa using hc)
  refine T.bind (T.slc3 P) fun s3 h3=>?_
  subst h3
  exact T.bind (aQ6 N _ (by simpa using hN) (by simp)) fun r4 h4=>T.ret fun e=>⟨a,b,h4 e⟩
 refine T.cond (fun _=>T.ret ⟨wR,fun h=>by cases h⟩) (fun hc=>?_)
 obtain ⟨ho,hd,hP⟩:=h1 hc
 have q0:=hP _ (aII P (show 0 < 3 by decide))
 have q1:=hP _ (aII P (show 1 < 3 by decide))
 have q2:=hP _ (aII P (show 2 < 3 by decide))
 have i0:idx P.toList 0=some P[0]:=by rw [show (0:Int)=((0:Nat):Int) from rfl,dU];exact aAV P 0 (by decide)
 have i1:idx P.toList 1=some P[1]:=by rw [show (1:Int)=((1:Nat):Int) from rfl,dU];exact aAV P 1 (by decide)
 have i2:idx P.toList 2=some P[2]:=by rw [show (2:Int)=((2:Nat):Int) from rfl,dU];exact aAV P 2 (by decide)
 obtain ⟨E,be⟩:=aPY N q1 q0 (by decide)
 obtain ⟨F,bf⟩:=aPY N q2 q0 (by decide)
 obtain ⟨S,bs⟩:=aPY N ho q0 (by decide)
 obtain ⟨Q,bq⟩:=aL0 N hd bf (by decide)
 obtain ⟨W,bw⟩:=aL0 N bs be (by decide)
 obtain ⟨D1,b1⟩:=aL2 N bf bw (by decide)
 obtain ⟨D2,b2⟩:=aL2 N be bq (by decide)
 obtain ⟨D3,b3⟩:=aL2 N bs bq (by decide)
 obtain ⟨D4,b4⟩:=aL2 N hd bw (by decide)
 simp only [i0,i1,i2,E,F,S,Q,W,D1,D2,D3,D4,Option.bind_some]
 have cr:=aSP (aBQ o P[0]) d (aBQ P[1] P[0]) (aBQ P[2] P[0])
 have bb:=aQe (B:=20000000000000000) (s:=aBQ o P[0]) (d:=d) (e:=aBQ P[1] P[0]) (f:=aBQ P[2] P[0]) ⟨by omega,by omega⟩ ⟨by omega,by omega⟩ ⟨by omega,by omega⟩ ⟨by omega,by omega⟩
 have dd:=aND (s:=aBQ o P[0]) (d:=d) (e:=aBQ P[1] P[0]) (f:=aBQ P[2] P[0])
 refine T.bind (P:=fun p=>p=pC (aBQ o P[0]) d (aBQ P[1] P[0]) (aBQ P[2] P[0])) ?_ fun m' hm'=>?_
 ·unfold pC
  dsimp only
  refine T.cond (fun h=>T.ret ?_) (fun h=>T.ret ?_)
  ·rw [if_pos (of_decide_eq_true h),bF (by omega) (by omega),bF (by omega) (by omega),bF (by omega) (by omega),bF (by omega) (by omega)]
   simp only [Int.zero_sub]
  ·rw [if_neg (of_decide_eq_false h)]
 subst hm'
 simp only [aS]
 generalize pC (aBQ o P[0]) d (aBQ P[1] P[0]) (aBQ P[2] P[0])=m at *
 obtain ⟨⟨n1,n2⟩,⟨n3,n4⟩,⟨n5,n6⟩,n7,n8⟩:=bb
 have m64:lH m:=⟨⟨by omega,by omega⟩,⟨by omega,by omega⟩,⟨by omega,by omega⟩,by omega,by omega⟩
 rw [bF (x:=m.gU+m.gV) (by omega) (by omega)]
 refine T.cond (fun _=>T.ret ⟨wR,fun h=>by cases h⟩) (fun hc=>T.ret ⟨m64,fun _=>?_⟩)
 have o5:¬ m.gM=0∧0≤m.gU∧0≤m.gV∧m.gU+m.gV≤m.gM∧0 < m.gT:=by
  have oo:∀ {a:Prop} [Decidable a] {b:Bool},cond b true (decide a)=false→b=false∧¬ a:=by
   intro a _ b h
   cases b with
   | true=>cases h
   | false=>exact ⟨rfl,of_decide_eq_false h⟩
  obtain ⟨hc,c5⟩:=oo hc
  obtain ⟨hc,c4⟩:=oo hc
  obtain ⟨hc,c3⟩:=oo hc
  obtain ⟨hc,c2⟩:=oo hc
  have c1:¬ m.gM=0:=by simpa using hc
  exact ⟨c1,by omega,by omega,by omega,by omega⟩
 obtain ⟨c1,c2,c3,c4,c5⟩:=o5
 exact ⟨ho,hd,hP,dd c1,c5,c2,c3,c4,cr.1,cr.2.1,cr.2.2⟩
theorem conv {D u v a b c X lo hi:Int} (hu:0≤u) (hv:0≤v) (huv:u+v≤D) (ha:lo≤a∧a≤hi) (hb:lo≤b∧b≤hi) (hc:lo≤c∧c≤hi) (hX:X=D*a+u*(b - a)+v*(c - a)):D*lo≤X∧X≤D*hi:=by
 have hw:0≤D - u - v:=by omega
 have e:X=(D - u - v)*a+u*b+v*c:=by rw [hX];grind
 have l1:=Int.mul_le_mul_of_nonneg_left ha.1 hw
 have l2:=Int.mul_le_mul_of_nonneg_left hb.1 hu
 have l3:=Int.mul_le_mul_of_nonneg_left hc.1 hv
 have m1:=Int.mul_le_mul_of_nonneg_left ha.2 hw
 have m2:=Int.mul_le_mul_of_nonneg_left hb.2 hu
 have m3:=Int.mul_le_mul_of_nonneg_left hc.2 hv
 have e1:D*lo=(D - u - v)*lo+u*lo+v*lo:=by grind
 have e2:D*hi=(D - u - v)*hi+u*hi+v*hi:=by grind
 omega
def Thru (o d lo hi:aC) (n D:Int):Prop:=(D*lo.gX≤D*o.gX+n*d.gX∧D*o.gX+n*d.gX≤D*hi.gX)∧(D*lo.gY≤D*o.gY+n*d.gY∧D*o.gY+n*d.gY≤D*hi.gY)∧D*lo.gZ≤D*o.gZ+n*d.gZ∧D*o.gZ+n*d.gZ≤D*hi.gZ
theorem Geo.thru {o d:aC} {P:Vector aC 3} {m:aL} (g:Geo o d P m) {lo hi:aC} (h:∀ p∈P.toList,ple lo p∧ple p hi):Thru o d lo hi m.gT m.gM:=by
 have h0:=h _ (aII P (show 0 < 3 by decide))
 have h1:=h _ (aII P (show 1 < 3 by decide))
 have h2:=h _ (aII P (show 2 < 3 by decide))
 unfold ple at h0 h1 h2
 refine ⟨conv g.u g.v g.uv (a:=P[0].gX) (b:=P[1].gX) (c:=P[2].gX) ⟨h0.1.1,h0.2.1⟩ ⟨h1.1.1,h1.2.1⟩ ⟨h2.1.1,h2.2.1⟩ ?_,conv g.u g.v g.uv (a:=P[0].gY) (b:=P[1].gY) (c:=P[2].gY) ⟨h0.1.2.1,h0.2.2.1⟩ ⟨h1.1.2.1,h1.2.2.1⟩ ⟨h2.1.2.1,h2.2.2.1⟩ ?_,conv g.u g.v g.uv (a:=P[0].gZ) (b:=P[1].gZ) (c:=P[2].gZ) ⟨h0.1.2.2,h0.2.2.2⟩ ⟨h1.1.2.2,h1.2.2.2⟩ ⟨h2.1.2.2,h2.2.2.2⟩ ?_⟩
 ·have:=g.x;rw [Int.mul_sub] at this;omega
 ·have:=g.y;rw [Int.mul_sub] at this;omega
 ·have:=g.z;rw [Int.mul_sub] at this;omega
theorem spanG (N:Nat) (hN:10 < N) {lo hi o d:aC} (hl:pwi 65536 lo) (hh:pwi 65536 hi) (ho:pwi 65536 o) (hd:pwi 131072 d) {n D:Int} (hD:1≤D) (hn:0 < n) (th:Thru o d lo hi n D) :
  T (oF N lo hi o d) (fun r=>qI r.1∧r.2=true∧0 < r.1.gd∧r.1.gn*D≤n*r.1.gd):=by
 unfold oF
 have z1:qI (aW.mk 0 1):=⟨z64,by decide,by decide⟩
 have z0:qI (aW.mk 0 0):=⟨z64,z64⟩
 let I:aW×aW×Bool→Prop:=fun s=>(qI s.1∧0 < s.1.gd∧s.1.gn*D≤n*s.1.gd)∧qI s.2.1∧(s.2.2=true→0 < s.2.1.gd∧n*s.2.1.gd≤s.2.1.gn*D)
 refine T.bind (T.loopG0 (n:=3) (fun _ s=>I s) (fun o=>match o with | .inl p=>I p | .inr p=>False) (F:=fun k (s:aW×aW×Bool) i=>jX N lo hi o d k s.1 s.2.1 s.2.2 i) (fun k s i hi' hs hk=>?_) (fun k s hs=>?_) (by omega) (s:=(aW.mk 0 1,aW.mk 0 0,false)) ⟨⟨z1,by decide,by show 0*D≤n*1;omega⟩,z0,fun h=>by cases h⟩) fun q hq=>?_
 ·rw [jX,dt (by omega),cond_true]
  refine T.bind (P:=fun o=>match o with | .inl p=>I (p.1,p.2.1,p.2.2.2) | .inr p=>False) ?_ fun q hq=>?_
  ·refine T.bind (P:=fun e:Vector Int 4=>∃ l h oo dd,e=#v[l,h,oo,dd]∧(-65536≤l∧l≤65536)∧(-65536≤h∧h≤65536)∧(-65536≤oo∧oo≤65536)∧(-131072≤dd∧dd≤131072)∧D*l≤D*oo+n*dd∧D*oo+n*dd≤D*h) ?_ fun e7 h7=>?_
   ·unfold pwi at hl hh ho hd
    have:i=0∨i=1∨i=2:=by omega
    rcases this with rfl | rfl | rfl
    ·exact ⟨_,rfl,_,_,_,_,rfl,hl.1,hh.1,ho.1,hd.1,th.1⟩
    ·exact ⟨_,rfl,_,_,_,_,rfl,hl.2.1,hh.2.1,ho.2.1,hd.2.1,th.2.1⟩
    ·exact ⟨_,rfl,_,_,_,_,rfl,hl.2.2,hh.2.2,ho.2.2,hd.2.2,th.2.2⟩
   obtain ⟨l,h,oo,dd,rfl,b1,b2,b3,b4,t1,t2⟩:=h7
   refine T.bind (T.inRO (by decide) (by decide)) fun _ _=>T.eq (a:=l) rfl (T.bind (T.inRO (by decide) (by decide)) fun _ _=>T.eq (a:=oo) rfl ?_)
   refine T.bind (T.inRO (by decide) (by decide)) fun _ _=>T.eq (a:=h) rfl (T.bind (T.inRO (by decide) (by decide)) fun _ _=>T.eq (a:=oo) rfl ?_)
   refine T.bind (T.inRO (by decide) (by decide)) fun _ _=>T.eq (a:=dd) rfl ?_
   simp only [aS]
   rw [bF (x:=l - oo) (by omega) (by omega),bF (x:=h - oo) (by omega) (by omega)]
   have near:(l - oo)*D≤n*dd:=by rw [Int.sub_mul,Int.mul_comm l,Int.mul_comm oo];omega
   have far:n*dd≤(h - oo)*D:=by rw [Int.sub_mul,Int.mul_comm h,Int.mul_comm oo];omega
   have nf:l - oo≤h - oo:=by
    have:(l - oo)*D≤(h - oo)*D:=by omega
    exact Int.le_of_mul_le_mul_right this (by omega)
   rw [df (show ¬ l - oo > h - oo by omega),cond_false]
   have r1:∀ a b:Int,(-1000000≤a∧a≤1000000)→(-1000000≤b∧b≤1000000)→qI (aW.mk a b):=fun a b h h'=>⟨⟨by dsimp only;omega,by dsimp only;omega⟩,by dsimp only;omega,by dsimp only;omega⟩
   by_cases d0:dd=0
   ·rw [show (dd==0)=true by simpa using d0,cond_true]
    rw [d0,Int.mul_zero] at near far
    have n0:l - oo≤0:=by
     have:(l - oo)*D≤0*D:=by omega
     exact Int.le_of_mul_le_mul_right this (by omega)
    have f0:0≤h - oo:=by
     have:0*D≤(h - oo)*D:=by omega
     exact Int.le_of_mul_le_mul_right this (by omega)
    rw [df (show ¬ l - oo > 0 by omega),df (show ¬ h - oo < 0 by omega)]
    exact T.ret hs
   ·rw [show (dd==0)=false by simpa using d0,cond_false,Option.bind_some,cond_false,cond_false]
    refine T.cond (fun hc=>?_) (fun hc=>?_)
    ·have dn:=of_decide_eq_true hc
     rw [bF (x:=0 - (h - oo)) (by omega) (by omega),bF (x:=0 - (l - oo)) (by omega) (by omega),bF (x:=0 - dd) (by omega) (by omega)]
     have e1:0 < 0 - dd∧(0 - (h - oo))*D≤n*(0 - dd):=⟨by omega,by rw [Int.sub_mul,Int.mul_sub,Int.zero_mul,Int.mul_zero];omega⟩
     have e2:0 < 0 - dd∧n*(0 - dd)≤(0 - (l - oo))*D:=⟨by omega,by rw [Int.sub_mul,Int.mul_sub,Int.zero_mul,Int.mul_zero];omega⟩
     have g1:=r1 (0 - (h - oo)) (0 - dd) ⟨by omega,by omega⟩ ⟨by omega,by omega⟩
     have g2:=r1 (0 - (l - oo)) (0 - dd) ⟨by omega,by omega⟩ ⟨by omega,by omega⟩
     refine T.bind (P:=fun r=>qI r∧0 < r.gd∧r.gn*D≤n*r.gd) (T.bind (aAJ N hs.1.1 g1) fun _ _=>T.cond (fun _=>T.ret ⟨g1,e1⟩) (fun _=>T.ret hs.1)) fun p24 h24=>?_
     refine T.bind (P:=fun _=>True) (T.cond (fun _=>T.ret trivial) (fun _=>T.bind (aAJ N g2 hs.2.1) fun _ _=>T.ret trivial)) fun p26 _=>?_
     exact T.cond (fun _=>T.ret ⟨h24,g2,fun _=>e2⟩) (fun _=>T.ret ⟨h24,hs.2⟩)
    ·have dp:=of_decide_eq_false hc
     have e1:0 < dd∧(l - oo)*D≤n*dd:=⟨by omega,near⟩
     have e2:0 < dd∧n*dd≤(h - oo)*D:=⟨by omega,far⟩
     have g1:=r1 (l - oo) dd ⟨by omega,by omega⟩ ⟨by omega,by omega⟩
     have g2:=r1 (h - oo) dd ⟨by omega,by omega⟩ ⟨by omega,by omega⟩
     refine T.bind (P:=fun r=>qI r∧0 < r.gd∧r.gn*D≤n*r.gd) (T.bind (aAJ N hs.1.1 g1) fun _ _=>T.cond (fun _=>T.ret ⟨g1,e1⟩) (fun _=>T.ret hs.1)) fun p24 h24=>?_
     refine T.bind (P:=fun _=>True) (T.cond (fun _=>T.ret trivial) (fun _=>T.bind (aAJ N g2 hs.2.1) fun _ _=>T.ret trivial)) fun p26 _=>?_
     exact T.cond (fun _=>T.ret ⟨h24,g2,fun _=>e2⟩) (fun _=>T.ret ⟨h24,hs.2⟩)
  ·cases q with
   | inl p=>rw [eG (by omega)];exact hk (_,_,_) hq
   | inr p=>exact hq.elim
 ·rw [jX,df (by omega),cond_false];exact T.ret hs
 ·cases q with
  | inr p=>exact hq.elim
  | inl p=>
   obtain ⟨⟨a1,a2,a3⟩,a4,a5⟩:=hq
   refine T.bind (P:=fun r=>r=true) (T.cond (fun _=>T.ret rfl) (fun hc=>?_)) fun p32 h32=>T.ret ⟨a1,h32,a2,a3⟩
   have hf:p.2.2=true:=by cases h:p.2.2 with
    | true=>rfl
    | false=>rw [h] at hc;cases hc
   obtain ⟨b1,b2⟩:=a5 hf
   refine T.eq (aOV N a4 a1) (T.ret ?_)
   have:¬ p.2.1.gn*p.1.gd < p.1.gn*p.2.1.gd:=by
    have q1:p.1.gn*D*p.2.1.gd≤n*p.1.gd*p.2.1.gd:=Int.mul_le_mul_of_nonneg_right a3 (by omega)
    have q2:n*p.2.1.gd*p.1.gd≤p.2.1.gn*D*p.1.gd:=Int.mul_le_mul_of_nonneg_right b2 (by omega)
    have q3:(p.1.gn*p.2.1.gd)*D≤(p.2.1.gn*p.1.gd)*D:=by
     have e1:p.1.gn*D*p.2.1.gd=(p.1.gn*p.2.1.gd)*D:=by grind
     have e2:n*p.1.gd*p.2.1.gd=n*p.2.1.gd*p.1.gd:=by grind
     have e3:p.2.1.gn*D*p.1.gd=(p.2.1.gn*p.1.gd)*D:=by grind
     omega
    have:=Int.le_of_mul_le_mul_right q3 (by omega)
    omega
   rw [df this];rfl
def rP (N:Nat) (R:List aE) (o d:aC) (m s i:Int):Option aL:=
 match R[i.toNat]? with
 | none=>none
 | some t=>cond ((eK .u8 t.gB1 m)==0) none (cond (i==s) none (match pR N o d t.gP with | some (x,true)=>some x | _=>none))
theorem tP {N:Nat} (hN:3 < N) {R:List aE} {o d:aC} {m s i:Int} {y:aL} (h:rP N R o d m s i=some y):lH y∧∃ t,R[i.toNat]? = some t∧Geo o d t.gP y:=by
 unfold rP at h
 cases ht:R[i.toNat]? with
 | none=>rw [ht] at h;cases h
 | some t=>
  rw [ht] at h
  dsimp only at h
  cases h1:(eK .u8 t.gB1 m==0) with
  | true=>rw [h1] at h;cases h
  | false=>
   cases h2:(i==s) with
   | true=>rw [h1,h2] at h;cases h
   | false=>
    rw [h1,h2,cond_false,cond_false] at h
    obtain ⟨⟨x,b⟩,e,g1,g2⟩:=hitG N hN o d t.gP
    rw [e] at h
    cases b with
    | false=>cases h
    | true=>cases h;exact ⟨g1,t,rfl,g2 rfl⟩
def rE (x:aL) (i:Int) (y:aL) (j:Int):Prop:=x.gT*y.gM < y.gT*x.gM∨(x.gT*y.gM=y.gT*x.gM∧i < j)
theorem aKi {a b c d e f:Int} (hd:0 < d) (hf:0 < f) (hb:0 < b) (h:a*d < c*b) (g:c*f≤e*d):a*f < e*b:=by
 have q1:a*d*f < c*b*f:=Int.mul_lt_mul_of_pos_right h hf
 have q2:c*f*b≤e*d*b:=Int.mul_le_mul_of_nonneg_right g (by omega)
 have e1:a*d*f=a*f*d:=by grind
 have e2:c*b*f=c*f*b:=by grind
 have e3:e*d*b=e*b*d:=by grind
 have q3:a*f*d < e*b*d:=by omega
 exact Int.lt_of_mul_lt_mul_right q3 (by omega)
theorem aQY {a b c d e f:Int} (hd:0 < d) (hf:0 < f) (hb:0 < b) (h:a*d≤c*b) (g:c*f < e*d):a*f < e*b:=by
 have q1:a*d*f≤c*b*f:=Int.mul_le_mul_of_nonneg_right h (by omega)
 have q2:c*f*b < e*d*b:=Int.mul_lt_mul_of_pos_right g hb
 have e1:a*d*f=a*f*d:=by grind
 have e2:c*b*f=c*f*b:=by grind
 have e3:e*d*b=e*b*d:=by grind
 have q3:a*f*d < e*b*d:=by omega
 exact Int.lt_of_mul_lt_mul_right q3 (by omega)
theorem aSU {a b c d e f:Int} (hd:0 < d) (h:a*d=c*b) (g:c*f=e*d):a*f=e*b:=by
 have q3:a*f*d=e*b*d:=by
  have e1:a*f*d=a*d*f:=by grind
  have e2:e*b*d=e*d*b:=by grind
  rw [e1,e2,h,← g];grind
 exact Int.eq_of_mul_eq_mul_right (by omega) q3
theorem aOD {x y z:aL} {i j k:Int} (hx:1≤x.gM) (hy:1≤y.gM) (hz:1≤z.gM) (h:rE x i y j) (g:rE y j z k):rE x i z k:=by
 unfold rE at *
 rcases h with h | ⟨h,h'⟩
 ·rcases g with g | ⟨g,g'⟩
  ·exact Or.inl (aKi (by omega) (by omega) (by omega) h (by omega))
  ·exact Or.inl (aKi (by omega) (by omega) (by omega) h (by omega))
 ·rcases g with g | ⟨g,g'⟩
  ·exact Or.inl (aQY (by omega) (by omega) (by omega) (by omega) g)
  ·exact Or.inr ⟨aSU (by omega) h g,by omega⟩
def vE (N:Nat) (R:List aE) (o d:aC) (m s:Int) (Dn:Int→Prop) (x:Int) (mt:aL):Prop:=
 (x = -1∧mt=aL.mk 0 0 0 0∧∀ j,Dn j→rP N R o d m s j=none)∨((0≤x∧x < (R.length:Int))∧rP N R o d m s x=some mt∧∀ j,Dn j→∀ y,rP N R o d m s j=some y→j=x∨rE mt x y j)
def aBL (N:Nat) (R:List aE) (o d:aC) (m s x:Int) (mt:aL):Prop:=vE N R o d m s (fun j=>0≤j∧j < (R.length:Int)) x mt
theorem aBL.uniq {N:Nat} {R:List aE} {o d:aC} {m s:Int} {x x':Int} {mt mt':aL} (h:aBL N R o d m s x mt) (h':aBL N R o d m s x' mt'):x=x'∧mt=mt':=by
 rcases h with ⟨a1,a2,a3⟩ | ⟨a1,a2,a3⟩ <;> rcases h' with ⟨b1,b2,b3⟩ | ⟨b1,b2,b3⟩
 ·exact ⟨by omega,by rw [a2,b2]⟩
 ·rw [a3 x' b1] at b2;cases b2
 ·rw [b3 x a1] at a2;cases a2
 ·rcases a3 x' b1 mt' b2 with e | e
  ·subst e
   rw [a2] at b2
   cases b2
   exact ⟨rfl,rfl⟩
  ·rcases b3 x a1 mt a2 with e' | e'
   ·subst e'
    rw [a2] at b2
    cases b2
    exact ⟨rfl,rfl⟩
   ·exfalso
    unfold rE at e e'
    omega
theorem vE.miss {N:Nat} {R:List aE} {o d:aC} {m s:Int} {Dn:Int→Prop} {x:Int} {mt:aL} (h:vE N R o d m s Dn x mt) {D':Int→Prop} (hD:∀ j,D' j→Dn j∨∀ y,rP N R o d m s j=some y→0≤x∧(j=x∨rE mt x y j)):vE N R o d m s D' x mt:=by
 rcases h with ⟨a1,a2,a3⟩ | ⟨a1,a2,a3⟩
 ·refine Or.inl ⟨a1,a2,fun j hj=>?_⟩
  rcases hD j hj with g | g
  ·exact a3 j g
  ·cases hh:rP N R o d m s j with
   | none=>rfl
   | some y=>have:=(g y hh).1;omega
 ·refine Or.inr ⟨a1,a2,fun j hj y hy=>?_⟩
  rcases hD j hj with g | g
  ·exact a3 j g y hy
  ·exact (g y hy).2
theorem vE.take {N:Nat} (hN:3 < N) {R:List aE} {o d:aC} {m s:Int} {Dn:Int→Prop} {x:Int} {mt:aL} (h:vE N R o d m s Dn x mt) {e:Int} {y:aL} (he:0≤e∧e < (R.length:Int)) (hy:rP N R o d m s e=some y) (hb:x < 0∨rE y e mt x) {D':Int→Prop} (hD:∀ j,D' j→Dn j∨j=e):vE N R o d m s D' e y:=by
 refine Or.inr ⟨he,hy,fun j hj z hz=>?_⟩
 rcases (hD j hj).symm with g | g
 ·exact Or.inl g
 rcases h with ⟨a1,a2,a3⟩ | ⟨a1,a2,a3⟩
 ·rw [a3 j g] at hz;cases hz
 ·have hb':rE y e mt x:=by rcases hb with hb | hb;omega;exact hb
  rcases a3 j g z hz with q | q
  ·subst q
   rw [a2] at hz;cases hz
   exact Or.inr hb'
  ·obtain ⟨_,t1,_,g1⟩:=tP hN hy
   obtain ⟨_,t2,_,g2⟩:=tP hN a2
   obtain ⟨_,t3,_,g3⟩:=tP hN hz
   exact Or.inr (aOD g1.det g2.det g3.det hb' q)
def aG8 (R gl:List aE):Prop:=∀ i,i < R.length→gl[i]? = R[i]?
theorem aNd (N:Nat) (hN:3 < N) {R gl:List aE} (h:aDN R.length gl) (he:aG8 R gl) (o d:aC) (m s:Int) {j:Nat} (hj:j < gl.length) (t:Int) :
  T (cS N o d m s (j:Int) (swp gl t)) (fun a=>lH a.1∧(a.2=true→j < R.length∧rP N R o d m s (j:Int)=some a.1)∧(a.2=false→j < R.length→rP N R o d m s (j:Int)=none)):=by
 have hg:idx gl (j:Int)=some gl[j]:=by rw [dU];exact List.getElem?_eq_getElem hj
 unfold cS lN swp
 refine T.eq rfl (T.eq hg ?_)
 obtain ⟨⟨x,b⟩,e,g1,g2⟩:=hitG N hN o d gl[j].gP
 refine T.eq e ?_
 have un:j < R.length→rP N R o d m s (j:Int)=cond ((eK .u8 gl[j].gB1 m)==0) none (cond ((j:Int)==s) none (cond b (some x) none)):=by
  intro hn
  unfold rP
  rw [Int.toNat_natCast,← he j hn,List.getElem?_eq_getElem hj]
  dsimp only
  rw [e]
  cases b <;> rfl
 have zero:¬ j < R.length→(eK .u8 gl[j].gB1 m)=0:=by
  intro hn
  rw [h.2 j (by omega) gl[j] (List.getElem?_eq_getElem hj)]
  unfold eK
  have:BitVec.ofInt IntKind.u8.bits 0 &&& BitVec.ofInt IntKind.u8.bits m=0:=by
   rw [show BitVec.ofInt IntKind.u8.bits 0=0 from rfl]
   exact BitVec.zero_and
  rw [this];rfl
 cases b with
 | false=>
  refine T.bind (P:=fun p=>p=false) ⟨_,rfl,rfl⟩ fun p hp=>T.ret ⟨g1,?_,?_⟩
  ·intro h;rw [hp] at h;cases h
  ·intro _ hn;rw [un hn];cases ((eK .u8 gl[j].gB1 m)==0) <;> cases ((j:Int)==s) <;> rfl
 | true=>
  refine T.bind (P:=fun p=>p=(!((eK .u8 gl[j].gB1 m)==0) && !((j:Int)==s))) ?_ fun p hp=>T.ret ⟨g1,?_,?_⟩
  ·dsimp only
   rw [cond_true]
   refine T.eq hg ?_
   rw [aS]
   cases hb:(eK .u8 gl[j].gB1 m != 0) with
   | true=>rw [cond_true];refine T.ret ?_;rw [show ((eK .u8 gl[j].gB1 m)==0)=false by simpa using hb];rfl
   | false=>rw [cond_false];refine T.ret ?_;rw [show ((eK .u8 gl[j].gB1 m)==0)=true by simpa using hb];rfl
  ·intro hc
   dsimp only at hc
   rw [hp] at hc
   simp only [Bool.and_eq_true,Bool.not_eq_true'] at hc
   have hn:j < R.length:=Classical.byContradiction fun hn=>by rw [zero hn] at hc;cases hc.1
   exact ⟨hn,by rw [un hn,hc.1,hc.2];rfl⟩
  ·intro hc hn
   dsimp only at hc
   rw [hp] at hc
   rw [un hn]
   cases h1:((eK .u8 gl[j].gB1 m)==0) with
   | true=>rfl
   | false=>
    rw [h1] at hc
    cases h2:((j:Int)==s) with
    | true=>rfl
    | false=>rw [h2] at hc;cases hc
theorem aHa (N:Nat) (hN:4100 < N) {R gl:List aE} (h:aDN R.length gl) (he:aG8 R gl) (o d:aC) (m s t:Int) :
  T (bX N o d m s (swp gl t)) (fun r=>aBL N R o d m s r.2.1 r.2.2):=by
 unfold bX fJ
 refine T.eq (a:=false) rfl ?_
 rw [cond_false]
 have h4:=h.1
 refine T.bind (P:=fun r=>aBL N R o d m s r.2.2 r.2.1) ?_ fun r hr=>T.ret hr
 refine T.loopG0 (n:=gl.length) (fun j (x:Int×aL×Int)=>vE N R o d m s (fun i=>0≤i∧i < (j:Int)∧i < (R.length:Int)) x.2.2 x.2.1∧x.2.2 < (j:Int)) _ (F:=fun k (x:Int×aL×Int) j=>bU N (swp gl t) o d m s k (swp gl x.1) x.2.1 x.2.2 j) (fun k x j hj hx hk=>?_) (fun k x hx=>?_) (by omega) (s:=(t,aL.mk 0 0 0 0,-1)) ⟨Or.inl ⟨rfl,rfl,fun j hj=>by omega⟩,by show (-1:Int) < 0;decide⟩
 ·rw [bU,aS]
  rw [dt (show (j:Int) < ((swp gl t).gl.length:Int) by show (j:Int) < (gl.length:Int);omega),cond_true]
  obtain ⟨hx,hxj⟩:=hx
  refine T.bind (P:=fun p=>vE N R o d m s (fun i=>0≤i∧i < ((j+1:Nat):Int)∧i < (R.length:Int)) p.2.2 p.1∧p.2.2 < ((j+1:Nat):Int)) ?_ fun p hp=>?_
  ·refine T.bind (aNd N (by omega) h he o d m s hj x.1) fun a ha=>?_
   obtain ⟨a1,a2,a3⟩:=ha
   refine T.bind (P:=fun q=>a.2=true→(q=true→x.2.2 < 0∨rE a.1 (j:Int) x.2.1 x.2.2)∧(q=false→0≤x.2.2∧rE x.2.1 x.2.2 a.1 (j:Int))) ?_ fun q hq=>?_
   ·refine T.cond (fun hc=>T.ret fun _=>⟨fun _=>Or.inl (of_decide_eq_true hc),fun h=>by cases h⟩) (fun hc=>?_)
    have x0:=of_decide_eq_false hc
    rcases hx with ⟨b1,_,_⟩ | ⟨b1,b2,_⟩
    ·omega
    obtain ⟨m1,_,_,g1⟩:=tP (by omega) b2
    cases h2:a.2 with
    | false=>exact T.bind (aLf N a1 m1) fun _ _=>T.ret fun h=>by cases h
    | true=>
     obtain ⟨_,_,_,g2⟩:=tP (by omega) (a2 h2).2
     refine T.eq (aNc N a1 m1 g2.det g1.det) (T.ret fun _=>⟨fun h=>Or.inr (Or.inl (of_decide_eq_true h)),fun h=>⟨by omega,?_⟩⟩)
     have:=of_decide_eq_false h
     unfold rE
     omega
   ·refine T.cond (fun hc=>?_) (fun hc=>?_)
    ·have h2:a.2=true∧q=true:=by cases h2:a.2 <;> cases h3:q <;> rw [h2,h3] at hc <;> first | exact ⟨rfl,rfl⟩ | cases hc
     obtain ⟨hn,hh⟩:=a2 h2.1
     exact T.ret ⟨hx.take (by omega) ⟨by omega,by omega⟩ hh ((hq h2.1).1 h2.2) fun i hi=>by omega,by dsimp only;omega⟩
    ·refine T.ret ⟨hx.miss fun i hi=>?_,by dsimp only;omega⟩
     by_cases c:i < (j:Int)
     ·exact Or.inl ⟨hi.1,c,hi.2.2⟩
     ·refine Or.inr fun y hy=>?_
      obtain rfl:i=(j:Int):=by omega
      cases h2:a.2 with
      | false=>rw [a3 h2 (by omega)] at hy;cases hy
      | true=>
       rw [(a2 h2).2] at hy
       cases hy
       have h3:q=false:=by cases h3:q with
        | false=>rfl
        | true=>rw [h2,h3] at hc;cases hc
       have:=(hq h2).2 h3
       exact ⟨this.1,Or.inr this.2⟩
  ·rw [eG (by omega)]
   exact hk (I64 (x.1+1),p.1,p.2.2) hp
 ·rw [bU,aS]
  rw [df (show ¬ (gl.length:Int) < ((swp gl t).gl.length:Int) by show ¬ (gl.length:Int) < (gl.length:Int);omega),cond_false]
  refine T.ret (hx.1.miss fun j hj=>Or.inl ⟨hj.1,?_,hj.2⟩)
  have:R.length≤gl.length:=by
   by_cases c:R.length=0
   ·omega
   ·have:=he (R.length - 1) (by omega)
    rw [List.getElem?_eq_getElem (l:=R) (by omega)] at this
    obtain ⟨q,_⟩:=List.getElem?_eq_some_iff.1 this
    omega
  omega
def aG7 (N:Nat) (R:List aE) (o d:aC) (m s:Int) (w r:Bool):Prop:=r=true↔∃ j:Int,(0≤j∧j < (R.length:Int))∧∃ y,rP N R o d m s j=some y∧(w=true→y.gT < y.gM)
theorem aG7.uniq {N:Nat} {R:List aE} {o d:aC} {m s:Int} {w r r':Bool} (h:aG7 N R o d m s w r) (h':aG7 N R o d m s w r'):r=r':=by
 rw [Bool.eq_iff_iff];exact h.trans h'.symm
theorem aRG (N:Nat) (hN:4100 < N) {R gl:List aE} (h:aDN R.length gl) (he:aG8 R gl) (o d:aC) (m s:Int) (w:Bool) (t:Int) :
  T (cE N o d m s w (swp gl t)) (fun r=>aG7 N R o d m s w r.2):=by
 unfold cE fJ
 refine T.eq (a:=false) rfl ?_
 rw [cond_false]
 have h4:=h.1
 refine T.bind (P:=fun r=>aG7 N R o d m s w r.2) ?_ fun r hr=>T.ret hr
 refine T.loopG0 (n:=gl.length) (fun j (x:Int×Bool)=>x.2=true↔∃ i:Int,(0≤i∧i < (j:Int)∧i < (R.length:Int))∧∃ y,rP N R o d m s i=some y∧(w=true→y.gT < y.gM)) _ (F:=fun k (x:Int×Bool) j=>bY N (swp gl t) o d m s w k (swp gl x.1) x.2 j) (fun k x j hj hx hk=>?_) (fun k x hx=>?_) (by omega) (s:=(t,false)) ⟨(fun h=>by cases h),fun ⟨i,hi,_⟩=>by omega⟩
 ·rw [bY,aS]
  rw [dt (show (j:Int) < ((swp gl t).gl.length:Int) by show (j:Int) < (gl.length:Int);omega),cond_true]
  refine T.bind (aNd N (by omega) h he o d m s hj x.1) fun a ha=>?_
  obtain ⟨a1,a2,a3⟩:=ha
  have up:∀ b:Bool,(b=true↔(x.2=true∨(a.2=true∧(w=true→a.1.gT < a.1.gM))))→(b=true↔∃ i:Int,(0≤i∧i < ((j+1:Nat):Int)∧i < (R.length:Int))∧∃ y,rP N R o d m s i=some y∧(w=true→y.gT < y.gM)):=by
   intro b hb
   rw [hb,hx]
   constructor
   ·rintro (⟨i,hi,y,hy⟩ | ⟨g1,g2⟩)
    ·exact ⟨i,by omega,y,hy⟩
    ·obtain ⟨hn,hh⟩:=a2 g1
     exact ⟨(j:Int),by omega,a.1,hh,g2⟩
   ·rintro ⟨i,hi,y,hy,g⟩
    by_cases c:i < (j:Int)
    ·exact Or.inl ⟨i,by omega,y,hy,g⟩
    ·obtain rfl:i=(j:Int):=by omega
     right
     cases h2:a.2 with
     | false=>rw [a3 h2 (by omega)] at hy;cases hy
     | true=>rw [(a2 h2).2] at hy;cases hy;exact ⟨rfl,g⟩
  refine T.cond (fun hc=>?_) (fun hc=>?_)
  ·simp only [aS]
   rw [eG (by omega)]
   refine hk (I64 (x.1+1),_) (up _ ?_)
   rw [hc]
   by_cases g:a.1.gT < a.1.gM
   ·rw [dt g];cases w <;> cases x.2 <;> simp [g]
   ·rw [df g];cases w <;> cases x.2 <;> simp [g]
  ·rw [eG (by omega)]
   exact hk (I64 (x.1+1),x.2) (up _ (by rw [hc];simp))
 ·rw [bY,aS]
  rw [df (show ¬ (gl.length:Int) < ((swp gl t).gl.length:Int) by show ¬ (gl.length:Int) < (gl.length:Int);omega),cond_false]
  have:R.length≤gl.length:=by
   by_cases c:R.length=0
   ·omega
   ·have:=he (R.length - 1) (by omega)
    rw [List.getElem?_eq_getElem (l:=R) (by omega)] at this
    obtain ⟨q,_⟩:=List.getElem?_eq_some_iff.1 this
    omega
  refine T.ret (hx.trans ⟨fun ⟨i,hi,g⟩=>⟨i,by omega,g⟩,fun ⟨i,hi,g⟩=>⟨i,by omega,g⟩⟩)
def inN (R:List aE) (b:aY) (i j:Int):Prop:=∃ f c,Cv R b.gC0 b.gO (fun _=>True) i f c []∧∃ p:Nat,f≤p∧p < f+c∧b.gC0[p]? = some j
theorem aNe (N:Nat) (hN:3 < N) (b:aY) {R:List aE} (o d:aC) (m s:Int) {j:Int} (hj:0≤j∧j < (R.length:Int)) (t:Int) :
  T (cD N o d m s j (wlk b R t)) (fun a=>lH a.1∧rP N R o d m s j=cond a.2 (some a.1) none):=by
 have hg:idx R j=some R[j.toNat]:=yK hj.1 (by omega)
 unfold cD wlk
 refine T.eq hg ?_
 obtain ⟨⟨x,h⟩,e,g1,g2⟩:=hitG N hN o d R[j.toNat].gP
 have un:rP N R o d m s j=cond ((eK .u8 R[j.toNat].gB1 m)==0) none (cond (j==s) none (cond h (some x) none)):=by
  unfold rP
  rw [List.getElem?_eq_getElem (show j.toNat < R.length by omega)]
  dsimp only
  rw [e]
  cases h <;> rfl
 simp only [aS]
 rw [un]
 cases h1:((eK .u8 R[j.toNat].gB1 m)==0) with
 | true=>exact T.ret ⟨wR,rfl⟩
 | false=>
  cases h2:(j==s) with
  | true=>exact T.ret ⟨wR,rfl⟩
  | false=>exact T.eq hg (T.eq e (T.ret ⟨g1,rfl⟩))
theorem aRu (N:Nat) (hN:100 < N) {b:aY} {R:List aE} (o d:aC) (m s t0:Int) {l:List Int} (hl:ord R.length l) (hl':l.length≤20) (t:Int) {Dn:Int→Prop} {x:Int} {mt:aL} (hm:vE N R o d m s Dn x mt) :
  T (bO N l o d m s (wlk b R t0) N t mt x 0) (fun r=>vE N R o d m s (fun j=>Dn j∨j∈l) r.2.2 r.2.1):=by
 refine T.loopG0 (n:=l.length) (fun j (q:Int×aL×Int)=>vE N R o d m s (fun i=>Dn i∨i∈l.take j) q.2.2 q.2.1) _ (F:=fun k (q:Int×aL×Int) j=>bO N l o d m s (wlk b R t0) k q.1 q.2.1 q.2.2 j) (fun k q j hj hx hk=>?_) (fun k q hx=>?_) (by omega) (s:=(t,mt,x)) (hm.miss fun j hj=>Or.inl (by simpa using hj))
 ·rw [bO,aS,dt (by omega),cond_true]
  refine T.bind (P:=fun p=>vE N R o d m s (fun i=>Dn i∨i∈l.take (j+1)) p.2.2 p.1) ?_ fun p hp=>by rw [eG (by omega)];exact hk (I64 (q.1+1),p.1,p.2.2) hp
  rw [dU,List.getElem?_eq_getElem hj,Option.bind_some]
  have he:=hl _ (List.getElem_mem hj)
  have tk:∀ i,i∈l.take (j+1)→i∈l.take j∨i=l[j]:=by
   intro i hi
   rw [lL (List.getElem?_eq_getElem hj),List.mem_append,List.mem_singleton] at hi
   exact hi
  generalize l[j]=e at *
  refine T.bind (aNe N (by omega) b o d m s he _) fun a ha=>?_
  obtain ⟨a1,a2⟩:=ha
  refine T.bind (P:=fun p33=>(p33=true→a.2=true∧(q.2.2 < 0∨rE a.1 e q.2.1 q.2.2))∧(p33=false→a.2=true→0≤q.2.2∧(e=q.2.2∨rE q.2.1 q.2.2 a.1 e))) ?_ fun p33 h33=>?_
  ·refine T.cond (fun hc=>?_) (fun hc=>T.ret ⟨(fun h=>by cases h),fun _ h=>by rw [hc] at h;cases h⟩)
   refine T.cond (fun hc2=>T.ret ⟨fun _=>⟨hc,Or.inl (of_decide_eq_true hc2)⟩,fun h=>by cases h⟩) (fun hc2=>?_)
   have x0:=of_decide_eq_false hc2
   rcases hx with ⟨b1,_,_⟩ | ⟨b1,b2,_⟩
   ·omega
   obtain ⟨m1,_,_,g1⟩:=tP (by omega) b2
   rw [hc,cond_true] at a2
   obtain ⟨_,_,_,g2⟩:=tP (by omega) a2
   refine T.eq (aNc N a1 m1 g2.det g1.det) ?_
   refine T.cond (fun h=>T.ret ⟨fun _=>⟨hc,Or.inr (Or.inl (of_decide_eq_true h))⟩,fun h=>by cases h⟩) (fun h=>?_)
   have n1:=of_decide_eq_false h
   refine T.cond (fun h3=>?_) (fun h3=>?_)
   ·have lt:=of_decide_eq_true h3
    refine T.eq (aNc N m1 a1 g1.det g2.det) (T.ret ⟨fun h4=>⟨hc,Or.inr (Or.inr ⟨?_,lt⟩)⟩,fun h4 _=>⟨by omega,Or.inr (Or.inl ?_)⟩⟩)
    ·have:¬ q.2.1.gT*a.1.gM < a.1.gT*q.2.1.gM:=of_decide_eq_false (by simpa using h4)
     omega
    ·have:decide (q.2.1.gT*a.1.gM < a.1.gT*q.2.1.gM)=true:=by simpa using h4
     exact of_decide_eq_true this
   ·have ge:=of_decide_eq_false h3
    refine T.ret ⟨(fun h=>by cases h),fun _ _=>⟨by omega,?_⟩⟩
    by_cases c:e=q.2.2
    ·exact Or.inl c
    ·right;unfold rE;omega
  ·refine T.cond (fun hc=>?_) (fun hc=>?_)
   ·obtain ⟨g1,g2⟩:=h33.1 hc
    rw [g1,cond_true] at a2
    exact T.ret (hx.take (by omega) he a2 g2 fun i hi=>by
     rcases hi with hi | hi
     ·exact Or.inl (Or.inl hi)
     ·rcases tk i hi with hi | hi
      ·exact Or.inl (Or.inr hi)
      ·exact Or.inr hi)
   ·refine T.ret (hx.miss fun i hi=>?_)
    have last:i=e→∀ y,rP N R o d m s i=some y→0≤q.2.2∧(i=q.2.2∨rE q.2.1 q.2.2 y i):=by
     intro e' y hy
     subst e'
     rw [a2] at hy
     cases h2:a.2 with
     | false=>rw [h2] at hy;cases hy
     | true=>rw [h2] at hy;cases hy;exact h33.2 hc h2
    rcases hi with hi | hi
    ·exact Or.inl (Or.inl hi)
    ·rcases tk i hi with hi | hi
     ·exact Or.inl (Or.inr hi)
     ·exact Or.inr (last hi)
 ·rw [bO,aS,df (by omega),cond_false]
  rw [List.take_length] at hx
  exact T.ret hx
theorem Cv.nil {R:List aE} {o:List Int} {d:List bC} {D:Int→Prop} {i:Int} {f c:Nat} (h:Cv R o d D i f c []):∃ nd,d[i.toNat]? = some nd∧aBN R o f c nd.gLo nd.gHi∧aOT nd∧((nd.gB3 < 0∧nd.gC4=(f:Int)∧nd.gC8=(c:Int))∨(0≤nd.gB3∧∃ c1 c2:Nat,c=c1+c2∧Cv R o d D nd.gB3 f c1 []∧Cv R o d D nd.gB4 (f+c1) c2 [])):=by
 generalize hL:([]:List bA)=L at h
 cases h with
 | pend t _ _ h1 h2=>cases hL
 | leaf _ _ _ nd h1 h2 h3 h4 h5 h6 h7=>exact ⟨nd,h2,h6,h7,Or.inl ⟨h3,h4,h5⟩⟩
 | node _ _ c1 c2 nd L1 L2 h1 h2 h3 g1 g2 h6 h7=>
  have:=List.append_eq_nil_iff.1 hL.symm
  obtain ⟨rfl,rfl⟩:=this
  exact ⟨nd,h2,h6,h7,Or.inr ⟨h3,c1,c2,rfl,g1,g2⟩⟩
theorem aLb (N:Nat) (hN:10 < N) {R:List aE} {b:aY} {o d:aC} {m s:Int} {e:Int} {nd:bC} (hnd:b.gO[e.toNat]? = some nd) {r:aW×Bool} (hr:oF N nd.gLo nd.gHi o d=some r) {j:Int} (hj:inN R b e j) {y:aL} (hy:rP N R o d m s j=some y):r.2=true∧0 < r.1.gd∧r.1.gn*y.gM≤y.gT*r.1.gd:=by
 obtain ⟨f,c,cv,p,p1,p2,p3⟩:=hj
 obtain ⟨nd',h1,h2,h3,_⟩:=cv.nil
 obtain rfl:=eF hnd h1
 obtain ⟨_,t,ht,g⟩:=tP (by omega) hy
 have th:=g.thru (h2 p p1 p2 j p3 t ht)
 obtain ⟨r',e',q⟩:=spanG N hN h3.1 h3.2 g.ho g.hd g.det g.num th
 obtain rfl:=eF hr e'
 exact q.2
theorem aRe (N:Nat) (hN:100 < N) {b:aY} {R:List aE} (hb:xA R.length b) (h20:R.length≤20) (o:aC) {d:aC} (hd:pin d) (m s t0:Int):∀ (k:Nat) (st:List Int) (t:Int) (mt:aL) (x:Int) (l:Nat),l≤st.length→aHv b (st.take l)→wW (st.take l) < k→wW (st.take l) < 1000000000000 →
  (∃ Dn:Int→Prop,vE N R o d m s Dn x mt∧(∀ i∈st.take l,∃ f c,Cv R b.gC0 b.gO (fun _=>True) i f c [])∧∀ j,(0≤j∧j < (R.length:Int))→Dn j∨∃ i∈st.take l,inN R b i j) →
  T (cG N (wlk b R t0) o d m s k st t mt x l) (fun r=>aBL N R o d m s r.2.2.2 r.2.2.1):=by
 obtain ⟨b1,b2,b3,b4⟩:=hb
 intro k
 induction k with
 | zero=>intro st t mt x l _ _ h;omega
 | succ k ih=>
  intro st t mt x l hl hn hw hw' hinv
  obtain ⟨Dn,hm,hcv,hcov⟩:=hinv
  rw [cG]
  simp only [aS]
  have lenT:(st.take l).length=l:=by rw [List.length_take];omega
  have wl:=aBW b3 hn
  rw [lenT] at wl
  refine T.cond (fun hc=>?_) (fun hc=>?_)
  ·obtain ⟨l,rfl⟩:∃ l',l=l'+1:=⟨l - 1,by have:=of_decide_eq_true hc;omega⟩
   have im:I64 (((l+1:Nat):Int) - 1)=(l:Int):=by rw [bF (by omega) (by omega)];omega
   simp only [im,Int.toNat_natCast]
   obtain ⟨e,et⟩:∃ e,st[l]? = some e:=⟨_,List.getElem?_eq_getElem (by omega)⟩
   have hs:=lL et
   rw [hs] at hn hw hw' hcv hcov
   rw [wD] at hw hw'
   have he:=hn e (by simp)
   have hn':aHv b (st.take l):=fun y hy=>hn y (by simp [hy])
   have hcv':∀ i∈st.take l,∃ f c,Cv R b.gC0 b.gO (fun _=>True) i f c []:=fun i hi=>hcv i (by simp [hi])
   have w1:=aFo (x:=e) ⟨he.1,by omega⟩
   have wl':=aBW b3 hn'
   rw [show (st.take l).length=l by rw [List.length_take];omega] at wl'
   have cov:∀ {Dn':Int→Prop},(∀ j,Dn j→Dn' j)→(∀ j,inN R b e j→Dn' j)→∀ j,(0≤j∧j < (R.length:Int))→Dn' j∨∃ i∈st.take l,inN R b i j:=by
    intro Dn' h1 h2 j hj
    rcases hcov j hj with h | ⟨i,hi,h⟩
    ·exact Or.inl (h1 j h)
    ·rw [List.mem_append,List.mem_singleton] at hi
     rcases hi with hi | rfl
     ·exact Or.inr ⟨i,hi,h⟩
     ·exact Or.inl (h2 j h)
   refine T.bind (T.inRS (by omega) (by omega) (by omega)) fun _ _=>T.eq et ?_
   have hidx:e.toNat < b.gO.length:=by omega
   refine T.eq (a:=b.gO[e.toNat]) (yK he.1 hidx) ?_
   have gd:=b4 e.toNat hidx
   have hnd:b.gO[e.toNat]? = some b.gO[e.toNat]:=List.getElem?_eq_getElem hidx
   generalize b.gO[e.toNat]=nd at *
   refine T.bind (T.slcG (by omega) (by omega) (by omega) (by omega) (Or.inl rfl)) fun _ _=>?_
   obtain ⟨r18,e18,h18⟩:=aLx N (by omega) nd.gLo nd.gHi o hd
   refine T.eq e18 ?_
   have out:=fun j (hj:inN R b e j) y (hy:rP N R o d m s j=some y)=>aLb N (by omega) hnd e18 hj hy
   refine T.bind (P:=fun p=>p=true→∀ j,inN R b e j→∀ y,rP N R o d m s j=some y→0≤x∧(j=x∨rE mt x y j)) ?_ fun p19 h19=>?_
   ·refine T.cond (fun hc=>T.ret fun _ j hj y hy=>?_) (fun hc=>?_)
    ·rw [(out j hj y hy).1] at hc;cases hc
    ·refine T.cond (fun hx=>?_) (fun _=>T.ret fun h=>by cases h)
     have x0:=of_decide_eq_true hx
     rcases hm with ⟨q1,_,_⟩ | ⟨q1,q2,_⟩
     ·omega
     obtain ⟨m1,_,_,g1⟩:=tP (by omega) q2
     refine T.eq (aOV N (a:=aW.mk mt.gT mt.gM) ⟨m1.1,m1.2.1⟩ h18) (T.ret fun h j hj y hy=>⟨q1.1,Or.inr (Or.inl ?_)⟩)
     obtain ⟨_,o2,o3⟩:=out j hj y hy
     obtain ⟨_,_,_,g2⟩:=tP (by omega) hy
     exact aKi o2 (by have:=g2.det;omega) (by have:=g1.det;omega) (of_decide_eq_true h) o3
   refine T.cond (fun hp=>?_) (fun _=>T.cond (fun hc=>?_) (fun hc=>?_))
   ·refine ih st (I64 (t+1)) mt x l (by omega) hn' (by omega) (by omega) ⟨fun j=>Dn j∨inN R b e j,hm.miss fun j hj=>?_,hcv',cov (fun _ h=>Or.inl h) (fun _ h=>Or.inr h)⟩
    rcases hj with hj | hj
    ·exact Or.inl hj
    ·exact Or.inr (h19 hp j hj)
   ·have lp:=of_decide_eq_true hc
    have g:=gd.1 lp
    have w2:=aHx (x:=e) (a:=nd.gB4) (b:=nd.gB3) he.1 ⟨by omega,by omega⟩ ⟨by omega,by omega⟩
    refine T.bind (T.appG (by omega) (show (l+2)*8≤140737488355328 by omega)) fun z hz=>?_
    subst hz
    have tk:(sS st l [nd.gB4,nd.gB3]).take (l+2)=st.take l++[nd.gB4,nd.gB3]:=aAY st l [_,_] (by omega)
    refine ih _ (I64 (t+1)) mt x (l+2) (aDe st l [_,_] (by omega)) ?_ ?_ ?_ ⟨Dn,hm,?_,?_⟩
    ·rw [tk]
     intro y hy
     rw [List.mem_append] at hy
     rcases hy with hy | hy
     ·exact hn' y hy
     ·simp at hy
      rcases hy with rfl | rfl <;> omega
    ·rw [tk,wD];omega
    ·rw [tk,wD];omega
    ·rw [tk]
     intro i hi
     rw [List.mem_append] at hi
     rcases hi with hi | hi
     ·exact hcv' i hi
     ·obtain ⟨f,c,cv⟩:=hcv e (by simp)
      obtain ⟨nd',q1,_,_,q4⟩:=cv.nil
      obtain rfl:=eF hnd q1
      rcases q4 with ⟨q4,_⟩ | ⟨_,c1,c2,_,v1,v2⟩
      ·omega
      ·simp at hi
       rcases hi with rfl | rfl
       ·exact ⟨_,_,v2⟩
       ·exact ⟨_,_,v1⟩
    ·rw [tk]
     intro j hj
     rcases hcov j hj with h | ⟨i,hi,h⟩
     ·exact Or.inl h
     ·right
      rw [List.mem_append,List.mem_singleton] at hi
      rcases hi with hi | rfl
      ·exact ⟨i,by simp [hi],h⟩
      ·obtain ⟨f,c,cv,p,p1,p2,p3⟩:=h
       obtain ⟨nd',q1,_,_,q4⟩:=cv.nil
       obtain rfl:=eF hnd q1
       rcases q4 with ⟨q4,_⟩ | ⟨_,c1,c2,q5,v1,v2⟩
       ·omega
       ·by_cases hp:p < f+c1
        ·exact ⟨nd.gB3,by simp,f,c1,v1,p,p1,hp,p3⟩
        ·exact ⟨nd.gB4,by simp,f+c1,c2,v2,p,by omega,by omega,p3⟩
   ·have ln:=of_decide_eq_false hc
    have g:=gd.2 (by omega)
    rw [bF (x:=nd.gC4+nd.gC8) (by omega) (by omega)]
    refine T.bind (T.slcN (l:=b.gC0) g.1 (by omega) (by omega)) fun s23 h23=>?_
    refine T.bind (aRu N hN o d m s t0 (fun y hy=>b1 y (h23.2.1 y hy)) (by omega) (I64 (t+1)) hm) fun p24 h24=>?_
    refine ih st p24.1 p24.2.1 p24.2.2 l (by omega) hn' (by omega) (by omega) ⟨_,h24,hcv',cov (fun _ h=>Or.inl h) (fun j h=>Or.inr ?_)⟩
    obtain ⟨f,c,cv,p,p1,p2,p3⟩:=h
    obtain ⟨nd',q1,_,_,q4⟩:=cv.nil
    obtain rfl:=eF hnd q1
    rcases q4.symm with ⟨q5,_⟩ | ⟨_,q5,q6⟩
    ·omega
    rw [h23.1]
    refine List.mem_of_getElem? (i:=p - f) ?_
    rw [List.getElem?_drop,show nd.gC4.toNat+(p - f)=p by omega,List.getElem?_take_of_lt (by omega)]
    exact p3
  ·have l0:l=0:=by have:=of_decide_eq_false hc;omega
   subst l0
   refine T.ret (hm.miss fun j hj=>?_)
   rcases hcov j hj with h | ⟨i,hi,_⟩
   ·exact Or.inl h
   ·exact absurd hi (by simp)
theorem aR3 (N:Nat) (hN:3 < N) {o d:aC} (h:pU N o d=some false) (P:Vector aC 3):pR N o d P=some (aL.mk 0 0 0 0,false):=by
 unfold pR
 rw [h]
 rfl
theorem aRI (N:Nat) (hN:3 < N) {o d:aC} (h:pU N o d=some false) (R:List aE) (m s j:Int):rP N R o d m s j=none:=by
 unfold rP
 cases R[j.toNat]? with
 | none=>rfl
 | some t=>
  dsimp only
  rw [aR3 N hN h]
  cases ((eK .u8 t.gB1 m)==0) <;> cases (j==s) <;> rfl
theorem aLh {R:List aE} {b:aY} (ht:tY R b) (h:0 < R.length):0 < b.gO.length∧Cv R b.gC0 b.gO (fun _=>True) 0 0 R.length []∧∀ j,(0≤j∧j < (R.length:Int))→inN R b 0 j:=by
 rcases ht with ⟨h0,_⟩ | ⟨_,h1,h2⟩
 ·omega
 ·refine ⟨?_,h2,fun j hj=>?_⟩
  ·obtain ⟨nd,q,_⟩:=h2.nil
   obtain ⟨q',_⟩:=List.getElem?_eq_some_iff.1 q
   omega
  ·obtain ⟨p,p1,p2⟩:=h1 j.toNat (by omega)
   refine ⟨0,R.length,h2,p,by omega,by omega,?_⟩
   rw [p2];congr 1;omega
theorem nearC (N:Nat) (hN:1000000000000 < N) {b:aY} {R:List aE} (hb:xA R.length b) (ht:tY R b) (h20:R.length≤20) (o d:aC) (m s t:Int) :
  T (cX N o d m s (wlk b R t)) (fun r=>aBL N R o d m s r.2.1 r.2.2):=by
 unfold cX iH
 refine T.bind (P:=fun p=>(p=true→∀ j,(0≤j∧j < (R.length:Int))→rP N R o d m s j=none)∧(p=false→pin d∧0 < R.length)) ?_ fun p1 h1=>T.cond (fun hc=>T.ret (Or.inl ⟨rfl,rfl,h1.1 hc⟩)) (fun hc=>?_)
 ·refine T.eq (a:=false) rfl ?_
  simp only [aS,cond_false]
  show T (cond ((b.gO.length:Int)==0) _ _) _
  refine T.cond (fun hc=>T.ret ⟨fun _ j hj=>?_,fun h=>by cases h⟩) (fun hc=>?_)
  ·exfalso
   have:(b.gO.length:Int)=0:=by simpa using hc
   have:=(aLh ht (by omega)).1
   omega
  ·have nz:(b.gO.length:Int)≠0:=by simpa using hc
   obtain ⟨r4,e4,h4⟩:=aJQ N o d
   refine T.eq e4 (T.ret ⟨fun h j hj=>aRI N (by omega) (by rw [e4];congr 1;simpa using h) R m s j,fun h=>⟨aCq (h4 (by simpa using h)).2.1 (by decide),?_⟩⟩)
   rcases ht with ⟨_,h0⟩ | ⟨h0,_⟩
   ·rw [h0] at nz;exact absurd rfl nz
   ·exact h0
 ·obtain ⟨hd,h0⟩:=h1.2 hc
  obtain ⟨n0,cv,cov⟩:=aLh ht h0
  refine T.bind (aRe N (by omega) hb h20 o hd m s t N [0] t (aL.mk 0 0 0 0) (-1) 1 (by simp) ?_ ?_ ?_ ⟨fun _=>False,Or.inl ⟨rfl,rfl,fun _ h=>h.elim⟩,?_,?_⟩) fun r hr=>T.ret hr
  ·intro x hx;have:x=0:=by simpa using hx
   subst this;omega
  ·show (2 ^ 39 - 1+0) < N;omega
  ·show (2 ^ 39 - 1+0) < 1000000000000;decide
  ·intro i hi;have:i=0:=by simpa using hi
   subst this;exact ⟨_,_,cv⟩
  ·intro j hj;exact Or.inr ⟨0,by simp,cov j hj⟩
def aEr (N:Nat) (R:List aE) (o d:aC) (m s:Int) (w:Bool) (j:Int):Prop:=∃ y,rP N R o d m s j=some y∧(w=true→y.gT < y.gM)
theorem anyC2 (N:Nat) (hN:100 < N) {b:aY} {R:List aE} (o d:aC) (m s:Int) (w:Bool) (t0:Int) {l:List Int} (hl:ord R.length l) (hl':l.length≤20) (t:Int) :
  T (bV N l o d m s (wlk b R t0) w N t 0) (fun q=>match q with | .inl _=>∀ j∈l,¬ aEr N R o d m s w j | .inr r=>r.2=true∧∃ j,(0≤j∧j < (R.length:Int))∧aEr N R o d m s w j):=by
 refine T.loopG0 (n:=l.length) (fun j (q:Int)=>∀ i∈l.take j,¬ aEr N R o d m s w i) _ (F:=fun k (q:Int) j=>bV N l o d m s (wlk b R t0) w k q j) (fun k q j hj hx hk=>?_) (fun k q hx=>?_) (by omega) (s:=t) (fun i hi=>absurd hi (by simp))
 ·rw [bV,aS,dt (by omega),cond_true,dU,List.getElem?_eq_getElem hj,Option.bind_some]
  have he:=hl _ (List.getElem_mem hj)
  have tk:∀ i,i∈l.take (j+1)→i∈l.take j∨i=l[j]:=by
   intro i hi
   rw [lL (List.getElem?_eq_getElem hj),List.mem_append,List.mem_singleton] at hi
   exact hi
  generalize l[j]=e at *
  refine T.bind (aNe N (by omega) b o d m s he _) fun a ha=>?_
  obtain ⟨a1,a2⟩:=ha
  refine T.bind (P:=fun p=>p=true↔aEr N R o d m s w e) ?_ fun p hp=>?_
  ·unfold aEr
   refine T.cond (fun hc=>?_) (fun hc=>T.ret ⟨(fun h=>by cases h),fun ⟨y,hy,_⟩=>by rw [a2,hc] at hy;cases hy⟩)
   rw [hc,cond_true] at a2
   rw [aS]
   refine T.ret ⟨fun h=>⟨a.1,a2,fun hw=>?_⟩,fun ⟨y,hy,g⟩=>?_⟩
   ·rw [hw] at h;exact of_decide_eq_true h
   ·rw [a2] at hy;cases hy
    cases w with
    | false=>rfl
    | true=>exact dt (g rfl)
  ·refine T.cond (fun hc=>T.ret ⟨rfl,e,he,hp.1 hc⟩) (fun hc=>?_)
   rw [eG (by omega)]
   refine hk (I64 (q+1)) fun i hi=>?_
   rcases tk i hi with hi | rfl
   ·exact hx i hi
   ·intro g;rw [hp.2 g] at hc;cases hc
 ·rw [bV,aS,df (by omega),cond_false]
  rw [List.take_length] at hx
  exact T.ret hx
theorem anyC1 (N:Nat) (hN:100 < N) {b:aY} {R:List aE} (hb:xA R.length b) (h20:R.length≤20) (o:aC) {d:aC} (hd:pin d) (m s:Int) (w:Bool) (t0:Int):∀ (k:Nat) (st:List Int) (t:Int) (l:Nat),l≤st.length→aHv b (st.take l)→wW (st.take l) < k→wW (st.take l) < 1000000000000 →
  (∃ Dn:Int→Prop,(∀ j,Dn j→¬ aEr N R o d m s w j)∧(∀ i∈st.take l,∃ f c,Cv R b.gC0 b.gO (fun _=>True) i f c [])∧∀ j,(0≤j∧j < (R.length:Int))→Dn j∨∃ i∈st.take l,inN R b i j) →
  T (cY N (wlk b R t0) o d m s w k st t l) (fun q=>match q with | .inl _=>∀ j,(0≤j∧j < (R.length:Int))→¬ aEr N R o d m s w j | .inr r=>r.2=true∧∃ j,(0≤j∧j < (R.length:Int))∧aEr N R o d m s w j):=by
 obtain ⟨b1,b2,b3,b4⟩:=hb
 intro k
 induction k with
 | zero=>intro st t l _ _ h;omega
 | succ k ih=>
  intro st t l hl hn hw hw' hinv
  obtain ⟨Dn,hm,hcv,hcov⟩:=hinv
  rw [cY]
  simp only [aS]
  have lenT:(st.take l).length=l:=by rw [List.length_take];omega
  have wl:=aBW b3 hn
  rw [lenT] at wl
  refine T.cond (fun hc=>?_) (fun hc=>?_)
  ·obtain ⟨l,rfl⟩:∃ l',l=l'+1:=⟨l - 1,by have:=of_decide_eq_true hc;omega⟩
   have im:I64 (((l+1:Nat):Int) - 1)=(l:Int):=by rw [bF (by omega) (by omega)];omega
   simp only [im,Int.toNat_natCast]
   obtain ⟨e,et⟩:∃ e,st[l]? = some e:=⟨_,List.getElem?_eq_getElem (by omega)⟩
   have hs:=lL et
   rw [hs] at hn hw hw' hcv hcov
   rw [wD] at hw hw'
   have he:=hn e (by simp)
   have hn':aHv b (st.take l):=fun y hy=>hn y (by simp [hy])
   have hcv':∀ i∈st.take l,∃ f c,Cv R b.gC0 b.gO (fun _=>True) i f c []:=fun i hi=>hcv i (by simp [hi])
   have w1:=aFo (x:=e) ⟨he.1,by omega⟩
   have wl':=aBW b3 hn'
   rw [show (st.take l).length=l by rw [List.length_take];omega] at wl'
   have cov:∀ {Dn':Int→Prop},(∀ j,Dn j→Dn' j)→(∀ j,inN R b e j→Dn' j)→∀ j,(0≤j∧j < (R.length:Int))→Dn' j∨∃ i∈st.take l,inN R b i j:=by
    intro Dn' h1 h2 j hj
    rcases hcov j hj with h | ⟨i,hi,h⟩
    ·exact Or.inl (h1 j h)
    ·rw [List.mem_append,List.mem_singleton] at hi
     rcases hi with hi | rfl
     ·exact Or.inr ⟨i,hi,h⟩
     ·exact Or.inl (h2 j h)
   refine T.bind (T.inRS (by omega) (by omega) (by omega)) fun _ _=>T.eq et ?_
   have hidx:e.toNat < b.gO.length:=by omega
   refine T.eq (a:=b.gO[e.toNat]) (yK he.1 hidx) ?_
   have gd:=b4 e.toNat hidx
   have hnd:b.gO[e.toNat]? = some b.gO[e.toNat]:=List.getElem?_eq_getElem hidx
   generalize b.gO[e.toNat]=nd at *
   refine T.bind (T.slcG (by omega) (by omega) (by omega) (by omega) (Or.inl rfl)) fun _ _=>?_
   obtain ⟨r18,e18,h18⟩:=aLx N (by omega) nd.gLo nd.gHi o hd
   refine T.eq e18 ?_
   refine T.cond (fun hp=>?_) (fun _=>T.cond (fun hc=>?_) (fun hc=>?_))
   ·refine ih st (I64 (t+1)) l (by omega) hn' (by omega) (by omega) ⟨fun j=>Dn j∨inN R b e j,fun j hj=>?_,hcv',cov (fun _ h=>Or.inl h) (fun _ h=>Or.inr h)⟩
    rcases hj with hj | hj
    ·exact hm j hj
    ·rintro ⟨y,hy,_⟩
     rw [(aLb N (by omega) hnd e18 hj hy).1] at hp
     cases hp
   ·have lp:=of_decide_eq_true hc
    have g:=gd.1 lp
    have w2:=aHx (x:=e) (a:=nd.gB4) (b:=nd.gB3) he.1 ⟨by omega,by omega⟩ ⟨by omega,by omega⟩
    refine T.bind (T.appG (by omega) (show (l+2)*8≤140737488355328 by omega)) fun z hz=>?_
    subst hz
    have tk:(sS st l [nd.gB4,nd.gB3]).take (l+2)=st.take l++[nd.gB4,nd.gB3]:=aAY st l [_,_] (by omega)
    refine ih _ (I64 (t+1)) (l+2) (aDe st l [_,_] (by omega)) ?_ ?_ ?_ ⟨Dn,hm,?_,?_⟩
    ·rw [tk]
     intro y hy
     rw [List.mem_append] at hy
     rcases hy with hy | hy
     ·exact hn' y hy
     ·simp at hy
      rcases hy with rfl | rfl <;> omega
    ·rw [tk,wD];omega
    ·rw [tk,wD];omega
    ·rw [tk]
     intro i hi
     rw [List.mem_append] at hi
     rcases hi with hi | hi
     ·exact hcv' i hi
     ·obtain ⟨f,c,cv⟩:=hcv e (by simp)
      obtain ⟨nd',q1,_,_,q4⟩:=cv.nil
      obtain rfl:=eF hnd q1
      rcases q4 with ⟨q4,_⟩ | ⟨_,c1,c2,_,v1,v2⟩
      ·omega
      ·simp at hi
       rcases hi with rfl | rfl
       ·exact ⟨_,_,v2⟩
       ·exact ⟨_,_,v1⟩
    ·rw [tk]
     intro j hj
     rcases hcov j hj with h | ⟨i,hi,h⟩
     ·exact Or.inl h
     ·right
      rw [List.mem_append,List.mem_singleton] at hi
      rcases hi with hi | rfl
      ·exact ⟨i,by simp [hi],h⟩
      ·obtain ⟨f,c,cv,p,p1,p2,p3⟩:=h
       obtain ⟨nd',q1,_,_,q4⟩:=cv.nil
       obtain rfl:=eF hnd q1
       rcases q4 with ⟨q4,_⟩ | ⟨_,c1,c2,q5,v1,v2⟩
       ·omega
       ·by_cases hp:p < f+c1
        ·exact ⟨nd.gB3,by simp,f,c1,v1,p,p1,hp,p3⟩
        ·exact ⟨nd.gB4,by simp,f+c1,c2,v2,p,by omega,by omega,p3⟩
   ·have ln:=of_decide_eq_false hc
    have g:=gd.2 (by omega)
    rw [bF (x:=nd.gC4+nd.gC8) (by omega) (by omega)]
    refine T.bind (T.slcN (l:=b.gC0) g.1 (by omega) (by omega)) fun s23 h23=>?_
    refine T.bind (anyC2 N hN o d m s w t0 (fun y hy=>b1 y (h23.2.1 y hy)) (by omega) (I64 (t+1))) fun q hq=>?_
    cases q with
    | inr r=>exact T.ret hq
    | inl p18=>
     refine ih st p18 l (by omega) hn' (by omega) (by omega) ⟨fun j=>Dn j∨j∈s23,fun j hj=>?_,hcv',cov (fun _ h=>Or.inl h) (fun j h=>Or.inr ?_)⟩
     ·rcases hj with hj | hj
      ·exact hm j hj
      ·exact hq j hj
     ·obtain ⟨f,c,cv,p,p1,p2,p3⟩:=h
      obtain ⟨nd',q1,_,_,q4⟩:=cv.nil
      obtain rfl:=eF hnd q1
      rcases q4.symm with ⟨q5,_⟩ | ⟨_,q5,q6⟩
      ·omega
      rw [h23.1]
      refine List.mem_of_getElem? (i:=p - f) ?_
      rw [List.getElem?_drop,show nd.gC4.toNat+(p - f)=p by omega,List.getElem?_take_of_lt (by omega)]
      exact p3
  ·have l0:l=0:=by have:=of_decide_eq_false hc;omega
   subst l0
   refine T.ret fun j hj=>?_
   rcases hcov j hj with h | ⟨i,hi,_⟩
   ·exact hm j h
   ·exact absurd hi (by simp)
theorem anyC (N:Nat) (hN:1000000000000 < N) {b:aY} {R:List aE} (hb:xA R.length b) (ht:tY R b) (h20:R.length≤20) (o d:aC) (m s:Int) (w:Bool) (t:Int) :
  T (dJ N o d m s w (wlk b R t)) (fun r=>aG7 N R o d m s w r.2):=by
 unfold dJ iH
 refine T.bind (P:=fun p=>(p=true→∀ j,(0≤j∧j < (R.length:Int))→rP N R o d m s j=none)∧(p=false→pin d∧0 < R.length)) ?_ fun p1 h1=>T.cond (fun hc=>T.ret ⟨(fun h=>by cases h),fun ⟨j,hj,y,hy,_⟩=>by rw [h1.1 hc j hj] at hy;cases hy⟩) (fun hc=>?_)
 ·refine T.eq (a:=false) rfl ?_
  simp only [aS,cond_false]
  show T (cond ((b.gO.length:Int)==0) _ _) _
  refine T.cond (fun hc=>T.ret ⟨fun _ j hj=>?_,fun h=>by cases h⟩) (fun hc=>?_)
  ·exfalso
   have:(b.gO.length:Int)=0:=by simpa using hc
   have:=(aLh ht (by omega)).1
   omega
  ·have nz:(b.gO.length:Int)≠0:=by simpa using hc
   obtain ⟨r4,e4,h4⟩:=aJQ N o d
   refine T.eq e4 (T.ret ⟨fun h j hj=>aRI N (by omega) (by rw [e4];congr 1;simpa using h) R m s j,fun h=>⟨aCq (h4 (by simpa using h)).2.1 (by decide),?_⟩⟩)
   rcases ht with ⟨_,h0⟩ | ⟨h0,_⟩
   ·rw [h0] at nz;exact absurd rfl nz
   ·exact h0
 ·obtain ⟨hd,h0⟩:=h1.2 hc
  obtain ⟨n0,cv,cov⟩:=aLh ht h0
  refine T.bind (anyC1 N (by omega) hb h20 o hd m s w t N [0] t 1 (by simp) ?_ ?_ ?_ ⟨fun _=>False,fun _ h=>h.elim,?_,?_⟩) fun q hq=>?_
  ·intro x hx;have:x=0:=by simpa using hx
   subst this;omega
  ·show (2 ^ 39 - 1+0) < N;omega
  ·show (2 ^ 39 - 1+0) < 1000000000000;decide
  ·intro i hi;have:i=0:=by simpa using hi
   subst this;exact ⟨_,_,cv⟩
  ·intro j hj;exact Or.inr ⟨0,by simp,cov j hj⟩
  ·cases q with
   | inl p=>exact T.ret ⟨(fun h=>by cases h),fun ⟨j,hj,y,hy⟩=>absurd ⟨y,hy⟩ (hq j hj)⟩
   | inr p=>exact T.ret ⟨fun _=>hq.2,fun _=>hq.1⟩
def drV (N:Nat) (sd fi se dep x:Int):Int:=((Option.bind (pY N fi se dep x) fun r=>Option.bind (iI N r sd) fun b=>oA N b x).getD 0)
def mM (N:Nat) (sd fi se:Int) (s:aA):Prop:=s.gA=true∧s.gC=sd∧s.gB=fi∧s.gD=se∧(s.gD1.gis=true→iI N s.gD1.gE6 sd=some s.gD1.gE7)
theorem aP4 {a b:bK} (h:bK.eq a b=true):a=b:=by
 unfold bK.eq at h
 cases a;cases b
 simp at h
 simp [h]
theorem aRM (N:Nat) (hN:20 < N) {sd fi se:Int} {s:aA} (h:mM N sd fi se s) (dep x:Int):T (fW N dep x s) (fun r=>r.2=drV N sd fi se dep x∧mM N sd fi se (aA.mk r.1 s.gA s.gC s.gB s.gD)):=by
 obtain ⟨h1,h2,h3,h4,h5⟩:=h
 unfold fW
 rw [h1,h2,h3,h4]
 rw [show (!true)=false from rfl,cond_false]
 obtain ⟨w,ew⟩:∃ w,pY N fi se dep x=some w:=by unfold pY;exact ⟨_,rfl⟩
 obtain ⟨bl,eb,_⟩:=aR6 N hN w sd
 obtain ⟨v,ev,_⟩:=aQM N bl x
 have dv:drV N sd fi se dep x=v:=by unfold drV;rw [ew,Option.bind_some,eb,Option.bind_some,ev];rfl
 rw [ew,Option.bind_some]
 refine T.bind (P:=fun p=>p.1.gE7=bl∧mM N sd fi se (aA.mk p.1 true sd fi se)) ?_ fun p hp=>?_
 ·refine T.bind (P:=fun q=>q=false→s.gD1.gis=true∧w=s.gD1.gE6) ?_ fun q hq=>?_
  ·refine T.cond (fun _=>T.ret fun h=>by cases h) (fun hc=>T.ret fun h=>⟨by simpa using hc,aP4 (by simpa using h)⟩)
  ·refine T.cond (fun _=>?_) (fun hc=>?_)
   ·exact T.eq eb (T.ret ⟨rfl,rfl,rfl,rfl,rfl,fun _=>eb⟩)
   ·obtain ⟨q1,q2⟩:=hq hc
    have:=h5 q1
    rw [← q2,eb] at this
    exact T.ret ⟨(Option.some.inj this).symm,rfl,rfl,rfl,rfl,h5⟩
 ·refine T.eq (a:=v) (by rw [hp.1];exact ev) (T.ret ⟨dv.symm,hp.2⟩)
structure Fnd where
 near:aC→aC→Int→Int→Int×aL
 any:aC→aC→Int→Int→Bool→Bool
def aAM (N:Nat) (F:Fnd) (b:List (List aD)) (s:aF) (ray:aH) (dep:Int) (ov:Bool) (sm:aG):Option (aG×aR×Bool):=
 Option.bind (cond (dep==0) (some 9) (some 4)) fun p1=>
 cond (decide ((F.near ray.go ray.gd p1 ray.gC5).1 < 0)) (
  some (sm,aR.mk 0 (aC.mk 0 0 0) (aB.mk 0 0 0) (aB.mk 0 0 0) (aQ.mk 0 (#v[0,0,0]) 0) false,false)) (
  Option.bind (idx s.gE (F.near ray.go ray.gd p1 ray.gC5).1) fun e4=>
  Option.bind (kY N e4.gP[1] e4.gP[0]) fun r9=>
  Option.bind (kY N e4.gP[2] e4.gP[0]) fun r14=>
  Option.bind (nA N r9 r14) fun r15=>
  Option.bind (fM N r15) fun r16=>
  Option.bind (Option.bind (qH N ray.go ray.gd (F.near ray.go ray.gd p1 ray.gC5).2) fun r18=>
  Option.bind (jK N r16 ray.gd) fun r19=>
  Option.bind (idx s.gA5 e4.gC1) fun e20=>
  cond (dep==0) (
   aV ((eK .u8 e4.gB1 8) != 0) fun x21=>
   some (aR.mk (F.near ray.go ray.gd p1 ray.gC5).1 r18 r19 (aB.mk 0 0 0) e20 x21)) (
   some (aR.mk (F.near ray.go ray.gd p1 ray.gC5).1 r18 r19 (aB.mk 0 0 0) e20 false))) fun p17=>
  Option.bind (cond (decide (e4.gA6≥0)) (idx b e4.gA6) (some [])) fun lv=>
  Option.bind (kJ N p17.gI.gB6 lv e4.gUv (F.near ray.go ray.gd p1 ray.gC5).2 dep) fun r24=>
  Option.bind (aV (cond (dep==0) (!ov) false) fun x26=>
  cond x26 (
   Option.bind (mP N p17.gat) fun r27=>
   Option.bind (mP N ray.go) fun r28=>
   Option.bind (tA N r27 r28) fun r29=>
   Option.bind (oH N r29) fun r30=>
   cond p17.gB5 (
    some (aG.mk (aB.mk 0 0 0) 0 r30 p17.gn e4.gB9)) (
    some (aG.mk (aB.mk 0 0 0) 1 r30 p17.gn e4.gB9))) (
   some sm)) fun p25=>
  some (p25,aR.mk p17.gi p17.gat p17.gn r24 p17.gI p17.gB5,true))
def aAg (N:Nat) (c:List aB) (f l:aB):Option aB:=
 Option.bind (iL N (f :: c)) fun r2=>Option.bind (kZ N [l,r2]) fun r3=>some r3
def fU (N:Nat) (F:Fnd) (dr:Int→Int) (ls:List aT) (pl:aR) (f:aB):Nat→aB→Int→Option aB
 | 0,_,_=>none
 | k+1,l,j=>
  cond (decide (j < (ls.length:Int))) (
   Option.bind (idx ls j) fun e8=>
   Option.bind (mY N e8 pl.gat pl.gn (#v[dr (I64 (8+(I64 (2*j)))),dr (I64 (9+(I64 (2*j))))])) fun r13=>
   Option.bind (cond (cond r13.gC2 true (F.any pl.gat r13.gC6 2 pl.gi (!r13.gC7))) (some l) (aAg N [pl.gc,r13.gC3] f l)) fun l'=>
   fU N F dr ls pl f k l' (I64 (j+1))) (
   some l)
def xE (N:Nat) (F:Fnd) (dr:Int→Int→Int) (b:List (List aD)) (s:aF) (depth:Int) (sky:aB) (ray:aH) (f l:aB) (dep:Int) (sm:aG):Option (aH×aB×aB×Bool×aG):=
 Option.bind (aAM N F b s ray dep false sm) fun r1=>
 cond (!r1.2.2) (Option.bind (aAg N [sky] f l) fun l'=>some (ray,f,l',true,r1.1)) (
 cond r1.2.1.gB5 (cond (r1.2.1.gI.gJ==4) (some (ray,f,l,true,r1.1)) (some (ray,f,l,true,r1.1))) (
 cond (r1.2.1.gI.gJ==4) (Option.bind (aAg N [r1.2.1.gc] f l) fun l'=>some (ray,f,l',true,r1.1)) (
 Option.bind (cond (r1.2.1.gI.gJ==0) (fU N F (dr dep) s.gF r1.2.1 f N l 0) (some l)) fun l'=>
 cond (dep==depth) (some (ray,f,l',true,r1.1)) (
 Option.bind (iT N r1.2.1.gI r1.2.1.gc r1.2.1.gn ray.gd (#v[dr dep 4,dr dep 5])) fun r18=>
 Option.bind (iL N [f,r18.gC3]) fun r19=>
 Option.bind (cond (decide (dep≥2)) (Option.bind (eT N r19 (dr dep 7)) fun r23=>some (r23.1,cond r18.gB8 true (!r23.2))) (some (r19,r18.gB8))) fun p21=>
 some (aH.mk r1.2.1.gat r18.gD4 r1.2.1.gi,p21.1,l',p21.2,r1.1)))))
def aBl (N:Nat) (F:Fnd) (dr:Int→Int→Int) (b:List (List aD)) (s:aF) (depth:Int) (sky:aB):Nat→aH→aB→aB→Int→Bool→aG→Option (aB×aG)
 | 0,_,_,_,_,_,_=>none
 | k+1,ray,f,l,dep,ov,sm=>
  cond (cond (decide (dep≤depth)) (!ov) false) (
   Option.bind (xE N F dr b s depth sky ray f l dep sm) fun a=>
   aBl N F dr b s depth sky k a.1 a.2.1 a.2.2.1 (I64 (dep+1)) a.2.2.2.1 a.2.2.2.2) (
   some (l,sm))
def dK (N:Nat) (R:List aE):Fnd:=⟨fun o d m s=>((bX N o d m s (swp R 0)).getD (swp R 0,-1,aL.mk 0 0 0 0)).2,fun o d m s w=>((cE N o d m s w (swp R 0)).getD (swp R 0,false)).2⟩
theorem aHm {R:List aE} (h:R.length≤20):aDN R.length R∧aG8 R R:=⟨⟨by omega,fun i hi t ht=>by rw [List.getElem?_eq_none hi] at ht;cases ht⟩,fun _ _=>rfl⟩
theorem aFT (N:Nat) (hN:4100 < N) {R:List aE} (h:R.length≤20) (o d:aC) (m s:Int):aBL N R o d m s ((dK N R).near o d m s).1 ((dK N R).near o d m s).2:=by
 obtain ⟨r,e,hr⟩:=aHa N hN (aHm h).1 (aHm h).2 o d m s 0
 unfold dK
 dsimp only
 rw [e]
 exact hr
theorem aI1 (N:Nat) (hN:4100 < N) {R:List aE} (h:R.length≤20) (o d:aC) (m s:Int) (w:Bool):aG7 N R o d m s w ((dK N R).any o d m s w):=by
 obtain ⟨r,e,hr⟩:=aRG N hN (aHm h).1 (aHm h).2 o d m s w 0
 unfold dK
 dsimp only
 rw [e]
 exact hr
section
variable {ι:Type} {N:Nat}
def opt0 (t:ι→Int):Option ι→Int:=fun i=>match i with | none=>0 | some i=>t i
theorem aRk (hN:4100 < N) {R gl:List aE} (h20:R.length≤20) (h:aDN R.length gl) (he:aG8 R gl) (o d:aC) (m s:Int) (t:ι→Int) :
  TU (fun i=>bX N o d m s (swp gl (t i))) (fun a:Int×aL=>a=(dK N R).near o d m s∧a.1 < (R.length:Int)∧lH a.2) (fun i a r=>∃ t',r=(swp gl t',a)∧qA (t i) t' (gl.length:Int)):=by
 obtain ⟨a,⟨a1,a2⟩,ha⟩:=aNp N hN h o d m s (opt0 t)
 obtain ⟨r,e,t',rfl,_⟩:=ha none
 obtain ⟨r',e',hr'⟩:=aHa N hN h he o d m s 0
 have e1:bX N o d m s (swp gl 0)=some (swp gl t',a):=e
 rw [e1] at e'
 cases e'
 obtain ⟨q1,q2⟩:=hr'.uniq (aFT N hN h20 o d m s)
 exact ⟨a,⟨Prod.ext q1 q2,a1,a2⟩,fun i=>ha (some i)⟩
theorem aRm (hN:1000000000000 < N) {b:aY} {R:List aE} (hb:xA R.length b) (ht:tY R b) (h20:R.length≤20) (o d:aC) (m s:Int) (t:ι→Int) :
  TU (fun i=>cX N o d m s (wlk b R (t i))) (fun a:Int×aL=>a=(dK N R).near o d m s∧a.1 < (R.length:Int)∧lH a.2) (fun i a r=>∃ t',r=(t',a)):=by
 obtain ⟨a,⟨a1,a2⟩,ha⟩:=aOh N hN hb h20 o d m s (opt0 t)
 obtain ⟨r,e,t',rfl⟩:=ha none
 obtain ⟨r',e',hr'⟩:=nearC N hN hb ht h20 o d m s 0
 have e1:cX N o d m s (wlk b R 0)=some (t',a):=e
 rw [e1] at e'
 cases e'
 obtain ⟨q1,q2⟩:=hr'.uniq (aFT N (by omega) h20 o d m s)
 exact ⟨a,⟨Prod.ext q1 q2,a1,a2⟩,fun i=>ha (some i)⟩
theorem anyFS (hN:4100 < N) {R gl:List aE} (h20:R.length≤20) (h:aDN R.length gl) (he:aG8 R gl) (o d:aC) (m s:Int) (w:Bool) (t:ι→Int) :
  TU (fun i=>cE N o d m s w (swp gl (t i))) (fun a:Bool=>a=(dK N R).any o d m s w) (fun i a r=>∃ t',r=(swp gl t',a)∧qA (t i) t' (gl.length:Int)):=by
 obtain ⟨a,_,ha⟩:=anyU N hN h o d m s w (opt0 t)
 obtain ⟨r,e,t',rfl,_⟩:=ha none
 obtain ⟨r',e',hr'⟩:=aRG N hN h he o d m s w 0
 have e1:cE N o d m s w (swp gl 0)=some (swp gl t',a):=e
 rw [e1] at e'
 cases e'
 exact ⟨a,hr'.uniq (aI1 N hN h20 o d m s w),fun i=>ha (some i)⟩
theorem anyFW (hN:1000000000000 < N) {b:aY} {R:List aE} (hb:xA R.length b) (ht:tY R b) (h20:R.length≤20) (o d:aC) (m s:Int) (w:Bool) (t:ι→Int) :
  TU (fun i=>dJ N o d m s w (wlk b R (t i))) (fun a:Bool=>a=(dK N R).any o d m s w) (fun i a r=>∃ t',r=(t',a)):=by
 obtain ⟨a,_,ha⟩:=anyW N hN hb h20 o d m s w (opt0 t)
 obtain ⟨r,e,t',rfl⟩:=ha none
 obtain ⟨r',e',hr'⟩:=anyC N hN hb ht h20 o d m s w 0
 have e1:dJ N o d m s w (wlk b R 0)=some (t',a):=e
 rw [e1] at e'
 cases e'
 exact ⟨a,hr'.uniq (aI1 N (by omega) h20 o d m s w),fun i=>ha (some i)⟩
end
theorem TU.te {ι ρ α β:Type} {o:Option α} {B:ι→α→Option ρ} {P:α→Prop} {Q:β→Prop} {S:ι→β→ρ→Prop} (h:T o P) (hf:∀ a,o=some a→P a→TU (fun i=>B i a) Q S):TU (fun i=>Option.bind o (B i)) Q S:=by
 obtain ⟨a,e,pa⟩:=h
 rw [show (fun i=>Option.bind o (B i))=fun i=>B i a from funext fun i=>by rw [e];rfl]
 exact hf a e pa
section
variable {ι:Type} {N:Nat} (hN:4100 < N) {b:List (List aD)} {s:aF} {v:aI} {sky:aB} (hr:Rdy b s v sky)
include hN hr
theorem aRR {gl:List aE} (hsw:aDN s.gE.length gl) (heq:aG8 s.gE gl) (hcon:v.gB2=true) (hfit:(s.gF.length:Int)≤(lG v.gA3).2) {ray:aH} (hray:aEg ray) (f l:aB) (dep:Int) (ov:Bool) (sm:aG) (st:ι→aJ) (src:aA) (t:ι→Int) :
  TU (fun i=>kT N b ray f l dep ov sm s v sky (st i) src (swp gl (t i))) (fun a:aG×aR×Bool=>(aFL a.2.1∧(a.2.1.gI∈s.gA5∨a.2.1.gI.gJ=0))∧aAM N (dK N s.gE) b s ray dep ov sm=some a∧(ov=true→a.1=sm)∧(a.2.2=false→a.2.1.gI.gJ=0)) (fun i a r=>∃ x t',r=(a.1,x,swp gl t',a.2.1,a.2.2)∧qA (t i) t' (gl.length:Int)∧qA (st i).gB7 x 4):=by
 unfold kT
 refine TU.te (P:=fun _=>True) (T.cond (fun _=>T.ret trivial) (fun _=>T.ret trivial)) fun p1 ep1 _=>?_
 refine TU.bind (aRk (by omega) hr.few hsw heq ray.go ray.gd p1 ray.gC5 t) fun a ha r hr'=>?_
 obtain ⟨hF,ha⟩:=ha
 have h':∃ t':ι→Int,∀ i,r i=(swp gl (t' i),a)∧qA (t i) (t' i) (gl.length:Int):=⟨fun i=>(hr' i).choose,fun i=>(hr' i).choose_spec⟩
 obtain ⟨t',e''⟩:=h'
 have e':∀ i,r i=(swp gl (t' i),a):=fun i=>(e'' i).1
 simp only [e']
 have hx:∀ i,∃ x,(cond v.gB2 (some (I64 ((st i).gB7+4))) (some (st i).gB7))=some x∧qA (st i).gB7 x 4:=fun i=>⟨_,by rw [hcon];rfl,bF (aKI _) (aLC _),fun _=>dH _⟩
 have hx':∃ x:ι→Int,∀ i,(cond v.gB2 (some (I64 ((st i).gB7+4))) (some (st i).gB7))=some (x i)∧qA (st i).gB7 (x i) 4:=⟨fun i=>(hx i).choose,fun i=>(hx i).choose_spec⟩
 obtain ⟨x,ex⟩:=hx'
 simp only [fun i=>(ex i).1,Option.bind_some]
 refine TU.cond (fun hc=>?_) (fun hc=>?_)
 ·exact TU.ret (sm,aR.mk 0 (aC.mk 0 0 0) (aB.mk 0 0 0) (aB.mk 0 0 0) (aQ.mk 0 (#v[0,0,0]) 0) false,false) ⟨⟨⟨⟨z64,z64,z64⟩,aHR,aHR,mat0⟩,Or.inr rfl⟩,by unfold aAM;rw [ep1,Option.bind_some,← hF,hc,cond_true],fun _=>rfl,fun _=>rfl⟩ fun i=>⟨x i,t' i,rfl,(e'' i).2,(ex i).2⟩
 have h0:=of_decide_eq_false hc
 refine TU.te (T.idx (by omega) (by omega)) fun e4 ee4 h4=>?_
 have ht:=hr.tri e4 (List.mem_of_getElem? h4)
 refine TU.te (T.inRO (by decide) (by decide)) fun _ _ _=>TU.e (a:=e4.gP[1]) (fun i=>aAV e4.gP 1 (by decide)) (TU.te (T.inRO (by decide) (by decide)) fun _ _ _=>TU.e (a:=e4.gP[0]) (fun i=>aAV e4.gP 0 (by decide)) (TU.te (aJU N _ _) fun r9 e9 _=>?_))
 refine TU.te (T.inRO (by decide) (by decide)) fun _ _ _=>TU.e (a:=e4.gP[2]) (fun i=>aAV e4.gP 2 (by decide)) (TU.te (T.inRO (by decide) (by decide)) fun _ _ _=>TU.e (a:=e4.gP[0]) (fun i=>aAV e4.gP 0 (by decide)) (TU.te (aJU N _ _) fun r14 e14 _=>?_))
 refine TU.te (aH3 N _ _) fun r15 e15 _=>TU.te (aLg (by omega) r15) fun r16 e16 h16=>?_
 refine TU.te (P:=fun p:aR=>pin p.gat∧vin p.gn∧aBO p.gI∧p.gI∈s.gA5) ?_ fun p17 e17 h17=>?_
 ·refine T.bind (aNz (by omega) hray.1 hray.2 ha.2) fun r18 h18=>T.bind (aL4 (by omega) h16 ray.gd) fun r19 h19=>T.bind (T.idx ht.1.1 ht.1.2) fun e20 h20=>?_
  have hm:=List.mem_of_getElem? h20
  refine T.cond (fun _=>?_) (fun _=>T.ret ⟨h18,h19,hr.mat _ hm,hm⟩)
  rw [aS]
  exact T.ret ⟨h18,h19,hr.mat _ hm,hm⟩
 have hy:∃ (lv:List aD),(aFB lv∧cond (decide (e4.gA6≥0)) (idx b e4.gA6) (some [])=some lv)∧∀ i,∃ y,(cond (decide (e4.gA6≥0)) (Option.bind (idx b e4.gA6) fun e23=>cond (!v.gB2) (some ((I64 (x i+4),e23))) (some ((x i,e23)))) (some ((x i,[]))))=some (y,lv)∧qA (st i).gB7 y 4:=by
  by_cases h:e4.gA6≥0
  ·obtain ⟨lv,e,hl⟩:=T.idx h ht.2.1
   refine ⟨lv,⟨hr.lev lv (List.mem_of_getElem? hl),by rw [dt h,cond_true,e]⟩,fun i=>?_⟩
   rw [dt h,cond_true,e,Option.bind_some,hcon]
   exact ⟨x i,rfl,(ex i).2⟩
  ·refine ⟨[],⟨⟨by simp,fun t h=>absurd h (by simp)⟩,by rw [df h,cond_false]⟩,fun i=>?_⟩
   rw [df h,cond_false]
   exact ⟨x i,rfl,(ex i).2⟩
 obtain ⟨lv,⟨hlv,elv⟩,hy⟩:=hy
 have hy':∃ y:ι→Int,∀ i,(cond (decide (e4.gA6≥0)) (Option.bind (idx b e4.gA6) fun e23=>cond (!v.gB2) (some ((I64 (x i+4),e23))) (some ((x i,e23)))) (some ((x i,[]))))=some (y i,lv)∧qA (st i).gB7 (y i) 4:=⟨fun i=>(hy i).choose,fun i=>(hy i).choose_spec⟩
 obtain ⟨y,ey⟩:=hy'
 simp only [fun i=>(ey i).1,Option.bind_some]
 refine TU.te (aJL (by omega) h17.2.2.1.1 hlv ht.2.2.1 ha.2 _) fun r24 e24 h24=>?_
 refine TU.te (P:=fun _=>True) ?_ fun p25 e25 _=>?_
 ·rw [aS]
  refine T.cond (fun _=>?_) (fun _=>T.ret trivial)
  refine T.eq (aAK _ h17.1) (T.eq (aAK _ hray.1) (T.eq (aFF _ (aAI _) (aAI _)) (T.bind (aMM (by omega) (aFI _ _)) fun _ _=>T.cond (fun _=>T.ret trivial) (fun _=>T.ret trivial))))
 ·exact TU.ret (p25,aR.mk p17.gi p17.gat p17.gn r24 p17.gI p17.gB5,true) ⟨⟨⟨h17.1,h17.2.1,h24,h17.2.2.1⟩,Or.inl h17.2.2.2⟩,by
   unfold aAM
   rw [ep1,Option.bind_some,← hF,hc,cond_false,ee4,Option.bind_some,e9,Option.bind_some,e14,Option.bind_some,e15,Option.bind_some,e16,Option.bind_some,e17,Option.bind_some,elv,Option.bind_some,e24,Option.bind_some,e25,Option.bind_some],fun h=>by subst h;cases hd:(dep==0) <;> rw [hd] at e25 <;> exact (Option.some.inj e25).symm,fun h=>by cases h⟩ fun i=>⟨y i,t' i,rfl,(e'' i).2,(ey i).2⟩
end
section
variable {ι:Type} {N:Nat} (hN:1000000000000 < N) {b:List (List aD)} {s:aF} {v:aI} {sky:aB} (hr:Rdy b s v sky)
include hN hr
theorem aSN {bv:aY} {gl:List aE} (hbv:xA gl.length bv) (htr:tY s.gE bv) (hgl:gl=s.gE) (hcon:v.gB2=false) {ray:aH} (hray:aEg ray) (f l:aB) (dep:Int) (ov:Bool) (sm:aG) (st:ι→aJ) (src:aA) (t:ι→Int) :
  TU (fun i=>mO N b ray f l dep ov sm s v sky (st i) src (wlk bv gl (t i))) (fun a:aG×aR×Bool=>(aFL a.2.1∧(a.2.1.gI∈s.gA5∨a.2.1.gI.gJ=0))∧aAM N (dK N s.gE) b s ray dep ov sm=some a∧(ov=true→a.1=sm)∧(a.2.2=false→a.2.1.gI.gJ=0)) (fun i a r=>∃ x t',r=(a.1,x,t',a.2.1,a.2.2)∧noR (t i) t' 0∧noR (st i).gB7 x 4):=by
 unfold mO
 refine TU.te (P:=fun _=>True) (T.cond (fun _=>T.ret trivial) (fun _=>T.ret trivial)) fun p1 ep1 _=>?_
 subst hgl
 refine TU.bind (aRm (by omega) hbv htr hr.few ray.go ray.gd p1 ray.gC5 t) fun a ha r hr'=>?_
 obtain ⟨hF,ha⟩:=ha
 have h':∃ t':ι→Int,∀ i,r i=(t' i,a):=⟨fun i=>(hr' i).choose,fun i=>(hr' i).choose_spec⟩
 obtain ⟨t',e'⟩:=h'
 simp only [e']
 have hx:∀ i,∃ x,(cond v.gB2 (some (I64 ((st i).gB7+4))) (some (st i).gB7))=some x∧noR (st i).gB7 x 4:=fun i=>⟨_,by rw [hcon];rfl,trivial⟩
 have hx':∃ x:ι→Int,∀ i,(cond v.gB2 (some (I64 ((st i).gB7+4))) (some (st i).gB7))=some (x i)∧noR (st i).gB7 (x i) 4:=⟨fun i=>(hx i).choose,fun i=>(hx i).choose_spec⟩
 obtain ⟨x,ex⟩:=hx'
 simp only [fun i=>(ex i).1,Option.bind_some]
 refine TU.cond (fun hc=>?_) (fun hc=>?_)
 ·exact TU.ret (sm,aR.mk 0 (aC.mk 0 0 0) (aB.mk 0 0 0) (aB.mk 0 0 0) (aQ.mk 0 (#v[0,0,0]) 0) false,false) ⟨⟨⟨⟨z64,z64,z64⟩,aHR,aHR,mat0⟩,Or.inr rfl⟩,by unfold aAM;rw [ep1,Option.bind_some,← hF,hc,cond_true],fun _=>rfl,fun _=>rfl⟩ fun i=>⟨x i,t' i,rfl,trivial,(ex i).2⟩
 have h0:=of_decide_eq_false hc
 refine TU.te (T.idx (by omega) (by omega)) fun e4 ee4 h4=>?_
 have ht:=hr.tri e4 (List.mem_of_getElem? h4)
 refine TU.te (T.inRO (by decide) (by decide)) fun _ _ _=>TU.e (a:=e4.gP[1]) (fun i=>aAV e4.gP 1 (by decide)) (TU.te (T.inRO (by decide) (by decide)) fun _ _ _=>TU.e (a:=e4.gP[0]) (fun i=>aAV e4.gP 0 (by decide)) (TU.te (aJU N _ _) fun r9 e9 _=>?_))
 refine TU.te (T.inRO (by decide) (by decide)) fun _ _ _=>TU.e (a:=e4.gP[2]) (fun i=>aAV e4.gP 2 (by decide)) (TU.te (T.inRO (by decide) (by decide)) fun _ _ _=>TU.e (a:=e4.gP[0]) (fun i=>aAV e4.gP 0 (by decide)) (TU.te (aJU N _ _) fun r14 e14 _=>?_))
 refine TU.te (aH3 N _ _) fun r15 e15 _=>TU.te (aLg (by omega) r15) fun r16 e16 h16=>?_
 refine TU.te (P:=fun p:aR=>pin p.gat∧vin p.gn∧aBO p.gI∧p.gI∈s.gA5) ?_ fun p17 e17 h17=>?_
 ·refine T.bind (aNz (by omega) hray.1 hray.2 ha.2) fun r18 h18=>T.bind (aL4 (by omega) h16 ray.gd) fun r19 h19=>T.bind (T.idx ht.1.1 ht.1.2) fun e20 h20=>?_
  have hm:=List.mem_of_getElem? h20
  refine T.cond (fun _=>?_) (fun _=>T.ret ⟨h18,h19,hr.mat _ hm,hm⟩)
  rw [aS]
  exact T.ret ⟨h18,h19,hr.mat _ hm,hm⟩
 have hy:∃ (lv:List aD),(aFB lv∧cond (decide (e4.gA6≥0)) (idx b e4.gA6) (some [])=some lv)∧∀ i,∃ y,(cond (decide (e4.gA6≥0)) (Option.bind (idx b e4.gA6) fun e23=>cond (!v.gB2) (some ((I64 (x i+4),e23))) (some ((x i,e23)))) (some ((x i,[]))))=some (y,lv)∧noR (st i).gB7 y 4:=by
  by_cases h:e4.gA6≥0
  ·obtain ⟨lv,e,hl⟩:=T.idx h ht.2.1
   refine ⟨lv,⟨hr.lev lv (List.mem_of_getElem? hl),by rw [dt h,cond_true,e]⟩,fun i=>?_⟩
   rw [dt h,cond_true,e,Option.bind_some,hcon]
   exact ⟨_,rfl,trivial⟩
  ·refine ⟨[],⟨⟨by simp,fun t h=>absurd h (by simp)⟩,by rw [df h,cond_false]⟩,fun i=>?_⟩
   rw [df h,cond_false]
   exact ⟨x i,rfl,(ex i).2⟩
 obtain ⟨lv,⟨hlv,elv⟩,hy⟩:=hy
 have hy':∃ y:ι→Int,∀ i,(cond (decide (e4.gA6≥0)) (Option.bind (idx b e4.gA6) fun e23=>cond (!v.gB2) (some ((I64 (x i+4),e23))) (some ((x i,e23)))) (some ((x i,[]))))=some (y i,lv)∧noR (st i).gB7 (y i) 4:=⟨fun i=>(hy i).choose,fun i=>(hy i).choose_spec⟩
 obtain ⟨y,ey⟩:=hy'
 simp only [fun i=>(ey i).1,Option.bind_some]
 refine TU.te (aJL (by omega) h17.2.2.1.1 hlv ht.2.2.1 ha.2 _) fun r24 e24 h24=>?_
 refine TU.te (P:=fun _=>True) ?_ fun p25 e25 _=>?_
 ·rw [aS]
  refine T.cond (fun _=>?_) (fun _=>T.ret trivial)
  refine T.eq (aAK _ h17.1) (T.eq (aAK _ hray.1) (T.eq (aFF _ (aAI _) (aAI _)) (T.bind (aMM (by omega) (aFI _ _)) fun _ _=>T.cond (fun _=>T.ret trivial) (fun _=>T.ret trivial))))
 ·exact TU.ret (p25,aR.mk p17.gi p17.gat p17.gn r24 p17.gI p17.gB5,true) ⟨⟨⟨h17.1,h17.2.1,h24,h17.2.2.1⟩,Or.inl h17.2.2.2⟩,by
   unfold aAM
   rw [ep1,Option.bind_some,← hF,hc,cond_false,ee4,Option.bind_some,e9,Option.bind_some,e14,Option.bind_some,e15,Option.bind_some,e16,Option.bind_some,e17,Option.bind_some,elv,Option.bind_some,e24,Option.bind_some,e25,Option.bind_some],fun h=>by subst h;cases hd:(dep==0) <;> rw [hd] at e25 <;> exact (Option.some.inj e25).symm,fun h=>by cases h⟩ fun i=>⟨y i,t' i,rfl,trivial,(ey i).2⟩
end
section
variable {ι:Type} {N:Nat} (hN:4100 < N) {b:List (List aD)} {s:aF} {v:aI} {sky:aB} (hr:Rdy b s v sky)
include hN
theorem aEB {sd fi se:Int} (x:Int) (ray:ι→aH) (f l:ι→aB) (dep:Int) (ov:ι→Bool) (sm:ι→aG) (st:ι→aJ) {src:aA} (hs:mM N sd fi se src) (sw:ι→aK) :
  TC (fun i=>dI N b x (ray i) (f i) (l i) dep (ov i) (sm i) s v sky (st i) src (sw i)) (fun r=>r.2=drV N sd fi se dep x∧mM N sd fi se (aA.mk r.1 src.gA src.gC src.gB src.gD)):=by
 obtain ⟨a,e,h⟩:=aRM N (by omega) hs dep x
 refine ⟨(a.1,a.2),h,fun i=>?_⟩
 unfold dI
 rw [e];rfl
theorem aO9 {c:List aB} (hc:∀ x∈c,vin x) (hl:c.length≤2) (ray:ι→aH) {f l:aB} (hf:vin f) (hlv:vin l) (dep:Int) (ov:Bool) (sm:ι→aG) (st:ι→aJ) (src:ι→aA) (sw:ι→aK) :
  TC (fun i=>hQ N b c (ray i) f l dep ov (sm i) s v sky (st i) (src i) (sw i)) (fun r=>vin r∧(ov=false→aAg N c f l=some r)∧(ov=true→r=l)):=by
 unfold hQ aAg
 cases ov with
 | true=>exact TC.ret _ ⟨hlv,(fun h=>by cases h),fun _=>rfl⟩
 | false=>
  refine TC.t (P:=fun z=>z=[f]++c) ⟨_,lK (l:=[f]) (r:=c) (by simp;omega),rfl⟩ fun z hz=>?_
  subst hz
  obtain ⟨r2,e2,h2⟩:=aIt (N:=N) (by omega) ([f]++c) (by intro x hx;simp at hx;rcases hx with rfl | hx;exact hf;exact hc x hx) (by simp;omega)
  refine TC.t (P:=fun r=>r=r2) ⟨_,e2,rfl⟩ fun r hr=>?_
  subst hr
  refine TC.t (P:=fun r'=>r'=aF9 l r) ⟨_,aLc (by omega) hlv h2,rfl⟩ fun r3 h3=>TC.ret _ ⟨by rw [h3];exact aA5 _ _,fun _=>?_,fun h=>by cases h⟩
  rw [show f :: c=[f]++c from rfl,e2,Option.bind_some,aLc (by omega) hlv h2,h3];rfl
include hr
theorem aQq {gl:List aE} (hsw:aDN s.gE.length gl) (heq:aG8 s.gE gl) (hcon:v.gB2=true) (hfit:(s.gF.length:Int)≤(lG v.gA3).2) {sd fi se:Int} {pl:aR} (hp:aFL pl) (ray:aH) {f l:aB} (hf:vin f) (hl:vin l) (dep:Int) (ov:Bool) (sm:aG) (st:ι→aJ) {src:aA} (hs:mM N sd fi se src) (t:ι→Int) :
  TU (fun i=>jJ N b pl ray f l dep ov sm s v sky (st i) src (swp gl (t i))) (fun a:aB×aA=>vin a.1∧mM N sd fi se a.2∧((ov=false∧pl.gI.gJ=0)→fU N (dK N s.gE) (drV N sd fi se dep) s.gF pl f N l 0=some a.1)∧(¬ (ov=false∧pl.gI.gJ=0)→a.1=l)) (fun i a r=>∃ t',r=(a.1,a.2,swp gl t')∧qA (t i) t' ((gl.length:Int)*(lG v.gA3).2)):=by
 skip
 unfold jJ
 have l5:=hr.lights
 simp only [aS]
 refine TU.bind (P:=fun a:aB×aA=>vin a.1∧mM N sd fi se a.2∧((ov=false∧pl.gI.gJ=0)→fU N (dK N s.gE) (drV N sd fi se dep) s.gF pl f N l 0=some a.1)∧(¬ (ov=false∧pl.gI.gJ=0)→a.1=l)) (S:=fun i a r=>∃ t',r=(a.1,a.2,swp gl t')∧qA (t i) t' ((gl.length:Int)*(s.gF.length:Int))) ?_ fun a ha r hr'=>?_
 ·refine TU.loop0 (n:=s.gF.length) (fun j (x:aB×aA) t'=>(vin x.1∧mM N sd fi se x.2∧((ov=false∧pl.gI.gJ=0)→fU N (dK N s.gE) (drV N sd fi se dep) s.gF pl f N l 0=fU N (dK N s.gE) (drV N sd fi se dep) s.gF pl f (N - j) x.1 (j:Int))∧(¬ (ov=false∧pl.gI.gJ=0)→x.1=l))∧∀ i,qA (t i) (t' i) ((gl.length:Int)*(j:Int))) (F:=fun i k t' (x:aB×aA) j=>fD N (s.gF.length:Int) s b ray f dep ov sm v sky (st i) pl k x.1 x.2 (swp gl t') j) (fun k t' x j hj hx hk=>?_) (fun k t' x hx=>?_) (by omega) (s:=(l,src)) (h:=t) ⟨⟨hl,hs,fun _=>rfl,fun _=>rfl⟩,fun i=>by rw [show ((0:Nat):Int)=0 from rfl,Int.mul_zero];exact aIw _⟩
  ·have hlj:=hr.light _ (List.getElem_mem hj)
   obtain ⟨⟨x1,x2,x3,x4⟩,x5⟩:=hx
   simp only [fD,dt (show (j:Int) < (s.gF.length:Int) by omega),cond_true,aS]
   refine TU.bind (P:=fun a:aB×aA×aT×jF=>vin a.1∧mM N sd fi se a.2.1∧((ov=false∧pl.gI.gJ=0)→fU N (dK N s.gE) (drV N sd fi se dep) s.gF pl f (N - j) x.1 (j:Int)=fU N (dK N s.gE) (drV N sd fi se dep) s.gF pl f (N - (j+1)) a.1 ((j+1:Nat):Int))∧(¬ (ov=false∧pl.gI.gJ=0)→a.1=x.1)) (S:=fun i a r=>∃ tn,r=(a.1,a.2.1,swp gl (tn),a.2.2.1,a.2.2.2)∧qA (t' i) tn (gl.length:Int)) ?_ fun a ha r hr'=>?_
   ·refine TU.e (a:=s.gF[j]) (fun i=>by rw [dU,List.getElem?_eq_getElem hj]) ?_
    refine TU.c (aEB hN _ _ _ _ _ _ _ _ x2 _) fun r10 h10=>TU.c (aEB hN _ _ _ _ _ _ _ _ h10.2 _) fun r12 h12=>?_
    refine TU.te (aQ3 (by omega) hlj pl.gat hp.2.1 _) fun r13 e13 h13=>?_
    rw [h10.1,h12.1] at e13
    have sp:∀ l',(cond (cond r13.gC2 true ((dK N s.gE).any pl.gat r13.gC6 2 pl.gi (!r13.gC7))) (some x.1) (aAg N [pl.gc,r13.gC3] f x.1))=some l'→fU N (dK N s.gE) (drV N sd fi se dep) s.gF pl f (N - j) x.1 (j:Int)=fU N (dK N s.gE) (drV N sd fi se dep) s.gF pl f (N - (j+1)) l' ((j+1:Nat):Int):=by
     intro l' hl'
     rw [show N - j=(N - (j+1))+1 by omega,fU,dt (show (j:Int) < (s.gF.length:Int) by omega),cond_true,dU,List.getElem?_eq_getElem hj,Option.bind_some,e13,Option.bind_some,hl',Option.bind_some,eG (by omega)]
    refine TU.cond (fun hc=>by rw [hcon] at hc;cases hd:r13.gC2 <;> rw [hd] at hc <;> cases hc) (fun hdark=>?_)
    refine TU.bind (P:=fun q:Bool=>q=(!((dK N s.gE).any pl.gat r13.gC6 2 pl.gi (!r13.gC7))&&(!r13.gC2&&(pl.gI.gJ==0)))) (S:=fun i a r=>∃ tn,r=(swp gl (tn),a)∧qA (t' i) tn (gl.length:Int)) ?_ fun an ean ra hra=>?_
    ·refine TU.bind (anyFS (by omega) hr.few hsw heq pl.gat r13.gC6 2 pl.gi (!r13.gC7) t') fun an ean ra hra=>?_
     have hn:∃ tn:ι→Int,∀ i,ra i=(swp gl (tn i),an)∧qA (t' i) (tn i) (gl.length:Int):=⟨fun i=>(hra i).choose,fun i=>(hra i).choose_spec⟩
     obtain ⟨tn,en⟩:=hn
     simp only [fun i=>(en i).1]
     subst ean
     refine TU.cond (fun h1=>TU.cond (fun h2=>TU.ret (pl.gI.gJ==0) (by rw [h1,h2];rfl) fun i=>⟨tn i,rfl,(en i).2⟩) (fun h2=>TU.ret false (by rw [h1,h2];rfl) fun i=>⟨tn i,rfl,(en i).2⟩)) (fun h1=>TU.ret false (by rw [h1];rfl) fun i=>⟨tn i,rfl,(en i).2⟩)
    ·have hn:∃ tn:ι→Int,∀ i,ra i=(swp gl (tn i),an)∧qA (t' i) (tn i) (gl.length:Int):=⟨fun i=>(hra i).choose,fun i=>(hra i).choose_spec⟩
     obtain ⟨tn,en⟩:=hn
     simp only [fun i=>(en i).1]
     refine TU.cond (fun hc=>?_) (fun hc=>TU.ret (_,_,_,_) ⟨x1,h12.2,fun hA=>sp _ ?_,fun _=>rfl⟩ fun i=>⟨tn i,rfl,(en i).2⟩)
     ·have ha3:((dK N s.gE).any pl.gat r13.gC6 2 pl.gi (!r13.gC7))=false∧r13.gC2=false∧pl.gI.gJ=0:=by
       rw [ean] at hc
       simpa using hc
      refine TU.c (aO9 hN (by intro y hy;simp at hy;rcases hy with rfl | rfl;exact hp.2.2.1;exact h13) (by simp) _ hf x1 _ _ _ _ _ _) fun r17 h17=>TU.ret (_,_,_,_) ⟨h17.1,h12.2,fun hA=>sp _ (by rw [ha3.1,ha3.2.1];exact h17.2.1 hA.1),fun hA=>h17.2.2 ?_⟩ fun i=>⟨tn i,rfl,(en i).2⟩
      cases hov:ov with
      | true=>rfl
      | false=>exact absurd ⟨hov,ha3.2.2⟩ hA
     ·rw [hc] at ean
      have k0:(pl.gI.gJ==0)=true:=by simpa using hA.2
      rw [k0] at ean
      cases hd:r13.gC2 with
      | true=>rfl
      | false=>
       rw [hd] at ean
       have:((dK N s.gE).any pl.gat r13.gC6 2 pl.gi (!r13.gC7))=true:=by simpa using ean
       rw [this];rfl
   ·have hn:∃ tn:ι→Int,∀ i,r i=(a.1,a.2.1,swp gl (tn i),a.2.2.1,a.2.2.2)∧qA (t' i) (tn i) (gl.length:Int):=⟨fun i=>(hr' i).choose,fun i=>(hr' i).choose_spec⟩
    obtain ⟨tn,en⟩:=hn
    simp only [fun i=>(en i).1]
    rw [eG (by omega)]
    obtain ⟨y1,y2,y3,y4⟩:=ha
    exact hk (a.1,a.2.1) tn ⟨⟨y1,y2,fun hA=>(x3 hA).trans (y3 hA),fun hA=>(y4 hA).trans (x4 hA)⟩,fun i=>aLB (aKd (x5 i) (en i).2) (by rw [show ((j+1:Nat):Int)=(j:Int)+1 from by omega,Int.mul_add,Int.mul_one])⟩
  ·simp only [fD,df (show ¬ (s.gF.length:Int) < (s.gF.length:Int) by omega),cond_false]
   obtain ⟨⟨x1,x2,x3,x4⟩,x5⟩:=hx
   refine TU.ret x ⟨x1,x2,fun hA=>(x3 hA).trans ?_,x4⟩ fun i=>⟨t' i,rfl,x5 i⟩
   rw [show N - s.gF.length=(N - s.gF.length - 1)+1 by omega,fU,df (by omega),cond_false]
 have h2:∃ t2:ι→Int,∀ i,r i=(a.1,a.2,swp gl (t2 i))∧qA (t i) (t2 i) ((gl.length:Int)*(s.gF.length:Int)):=⟨fun i=>(hr' i).choose,fun i=>(hr' i).choose_spec⟩
 obtain ⟨t2,e2⟩:=h2
 simp only [fun i=>(e2 i).1]
 simp only [hcon,Bool.not_true,cond_false,aK4,Option.bind_some,aS]
 obtain ⟨n,hn⟩:=Int.eq_ofNat_of_zero_le (show 0≤(lG v.gA3).2 - (s.gF.length:Int) by omega)
 have cl:(lG v.gA3).2 < 1000:=by unfold lG;cases (v.gA3==0) <;> cases (v.gA3==1) <;> cases (v.gA3==2) <;> decide
 have ig:I64 ((lG v.gA3).2 - (s.gF.length:Int))=(n:Int):=by rw [hn,bF (by omega) (by omega)]
 refine TU.bind (P:=fun _:Unit=>True) (S:=fun i _ r=>∃ t',r=swp gl t'∧qA (t2 i) t' ((gl.length:Int)*(n:Int))) ?_ fun _ _ r hr'=>?_
 ·refine TU.loop0 (n:=n) (fun j (_:Unit) t'=>∀ i,qA (t2 i) (t' i) ((gl.length:Int)*(j:Int))) (F:=fun i k t' (_:Unit) j=>fE N (lG v.gA3) (s.gF.length:Int) pl k (swp gl t') j) (fun k t' _ j hj hx hk=>?_) (fun k t' _ hx=>?_) (by omega) (s:=()) (h:=t2) (fun i=>by rw [show ((0:Nat):Int)=0 from rfl,Int.mul_zero];exact aIw _)
  ·simp only [fE,aS,ig,dt (show (j:Int) < (n:Int) by omega),cond_true]
   refine TU.bind (anyU N (by omega) hsw pl.gat (aC.mk 0 0 0) 2 pl.gi false t') fun an _ ra hra=>?_
   have hn:∃ tn:ι→Int,∀ i,ra i=(swp gl (tn i),an)∧qA (t' i) (tn i) (gl.length:Int):=⟨fun i=>(hra i).choose,fun i=>(hra i).choose_spec⟩
   obtain ⟨tn,en⟩:=hn
   simp only [fun i=>(en i).1]
   rw [eG (by omega)]
   exact hk () tn fun i=>aLB (aKd (hx i) (en i).2) (by rw [show ((j+1:Nat):Int)=(j:Int)+1 from by omega,Int.mul_add,Int.mul_one])
  ·simp only [fE,aS,ig,df (show ¬ (n:Int) < (n:Int) by omega),cond_false]
   exact TU.ret () trivial fun i=>⟨t' i,rfl,hx i⟩
 ·have h3:∃ t3:ι→Int,∀ i,r i=swp gl (t3 i)∧qA (t2 i) (t3 i) ((gl.length:Int)*(n:Int)):=⟨fun i=>(hr' i).choose,fun i=>(hr' i).choose_spec⟩
  obtain ⟨t3,e3⟩:=h3
  simp only [fun i=>(e3 i).1]
  exact TU.ret a ha fun i=>⟨t3 i,rfl,aLB (aKd (e2 i).2 (e3 i).2) (by rw [← Int.mul_add];congr 1;omega)⟩
end
section
variable {ι:Type} {N:Nat} (hN:1000000000000 < N) {b:List (List aD)} {s:aF} {v:aI} {sky:aB} (hr:Rdy b s v sky)
include hN
theorem aDz {sd fi se:Int} (x:Int) (ray:ι→aH) (f l:ι→aB) (dep:Int) (ov:ι→Bool) (sm:ι→aG) (st:ι→aJ) {src:aA} (hs:mM N sd fi se src) (sw:ι→aM) :
  TC (fun i=>dW N b x (ray i) (f i) (l i) dep (ov i) (sm i) s v sky (st i) src (sw i)) (fun r=>r.2=drV N sd fi se dep x∧mM N sd fi se (aA.mk r.1 src.gA src.gC src.gB src.gD)):=by
 obtain ⟨a,e,h⟩:=aRM N (by omega) hs dep x
 refine ⟨(a.1,a.2),h,fun i=>?_⟩
 unfold dW
 rw [e];rfl
theorem aOF {c:List aB} (hc:∀ x∈c,vin x) (hl:c.length≤2) (ray:ι→aH) {f l:aB} (hf:vin f) (hlv:vin l) (dep:Int) (ov:Bool) (sm:ι→aG) (st:ι→aJ) (src:ι→aA) (sw:ι→aM) :
  TC (fun i=>iQ N b c (ray i) f l dep ov (sm i) s v sky (st i) (src i) (sw i)) (fun r=>vin r∧(ov=false→aAg N c f l=some r)∧(ov=true→r=l)):=by
 unfold iQ aAg
 cases ov with
 | true=>exact TC.ret _ ⟨hlv,(fun h=>by cases h),fun _=>rfl⟩
 | false=>
  refine TC.t (P:=fun z=>z=[f]++c) ⟨_,lK (l:=[f]) (r:=c) (by simp;omega),rfl⟩ fun z hz=>?_
  subst hz
  obtain ⟨r2,e2,h2⟩:=aIt (N:=N) (by omega) ([f]++c) (by intro x hx;simp at hx;rcases hx with rfl | hx;exact hf;exact hc x hx) (by simp;omega)
  refine TC.t (P:=fun r=>r=r2) ⟨_,e2,rfl⟩ fun r hr=>?_
  subst hr
  refine TC.t (P:=fun r'=>r'=aF9 l r) ⟨_,aLc (by omega) hlv h2,rfl⟩ fun r3 h3=>TC.ret _ ⟨by rw [h3];exact aA5 _ _,fun _=>?_,fun h=>by cases h⟩
  rw [show f :: c=[f]++c from rfl,e2,Option.bind_some,aLc (by omega) hlv h2,h3];rfl
include hr
theorem aPe {bv:aY} {gl:List aE} (hbv:xA gl.length bv) (htr:tY s.gE bv) (hgl:gl=s.gE) (hcon:v.gB2=false) {sd fi se:Int} {pl:aR} (hp:aFL pl) (ray:aH) {f l:aB} (hf:vin f) (hl:vin l) (dep:Int) (ov:Bool) (sm:aG) (st:ι→aJ) {src:aA} (hs:mM N sd fi se src) (t:ι→Int) :
  TU (fun i=>kU N b pl ray f l dep ov sm s v sky (st i) src (wlk bv gl (t i))) (fun a:aB×aA=>vin a.1∧mM N sd fi se a.2∧((ov=false∧pl.gI.gJ=0)→fU N (dK N s.gE) (drV N sd fi se dep) s.gF pl f N l 0=some a.1)∧(¬ (ov=false∧pl.gI.gJ=0)→a.1=l)) (fun i a r=>∃ t',r=(a.1,a.2,wlk bv gl t')∧noR (t i) t' ((0:Int)*(lG v.gA3).2)):=by
 subst hgl
 unfold kU
 have l5:=hr.lights
 simp only [aS]
 refine TU.bind (P:=fun a:aB×aA=>vin a.1∧mM N sd fi se a.2∧((ov=false∧pl.gI.gJ=0)→fU N (dK N s.gE) (drV N sd fi se dep) s.gF pl f N l 0=some a.1)∧(¬ (ov=false∧pl.gI.gJ=0)→a.1=l)) (S:=fun i a r=>∃ t',r=(a.1,a.2,wlk bv s.gE t')∧noR (t i) t' ((0:Int)*(s.gF.length:Int))) ?_ fun a ha r hr'=>?_
 ·refine TU.loop0 (n:=s.gF.length) (fun j (x:aB×aA) t'=>(vin x.1∧mM N sd fi se x.2∧((ov=false∧pl.gI.gJ=0)→fU N (dK N s.gE) (drV N sd fi se dep) s.gF pl f N l 0=fU N (dK N s.gE) (drV N sd fi se dep) s.gF pl f (N - j) x.1 (j:Int))∧(¬ (ov=false∧pl.gI.gJ=0)→x.1=l))∧∀ i,noR (t i) (t' i) ((0:Int)*(j:Int))) (F:=fun i k t' (x:aB×aA) j=>fV N (s.gF.length:Int) s b ray f dep ov sm v sky (st i) pl k x.1 x.2 (wlk bv s.gE t') j) (fun k t' x j hj hx hk=>?_) (fun k t' x hx=>?_) (by omega) (s:=(l,src)) (h:=t) ⟨⟨hl,hs,fun _=>rfl,fun _=>rfl⟩,fun i=>by rw [show ((0:Nat):Int)=0 from rfl,Int.mul_zero];exact noR_0 _⟩
  ·have hlj:=hr.light _ (List.getElem_mem hj)
   obtain ⟨⟨x1,x2,x3,x4⟩,x5⟩:=hx
   simp only [fV,dt (show (j:Int) < (s.gF.length:Int) by omega),cond_true,aS]
   refine TU.bind (P:=fun a:aB×aA×aT×jF=>vin a.1∧mM N sd fi se a.2.1∧((ov=false∧pl.gI.gJ=0)→fU N (dK N s.gE) (drV N sd fi se dep) s.gF pl f (N - j) x.1 (j:Int)=fU N (dK N s.gE) (drV N sd fi se dep) s.gF pl f (N - (j+1)) a.1 ((j+1:Nat):Int))∧(¬ (ov=false∧pl.gI.gJ=0)→a.1=x.1)) (S:=fun i a r=>∃ tn,r=(a.1,a.2.1,(tn),a.2.2.1,a.2.2.2)∧noR (t' i) tn (0:Int)) ?_ fun a ha r hr'=>?_
   ·refine TU.e (a:=s.gF[j]) (fun i=>by rw [dU,List.getElem?_eq_getElem hj]) ?_
    refine TU.c (aDz hN _ _ _ _ _ _ _ _ x2 _) fun r10 h10=>TU.c (aDz hN _ _ _ _ _ _ _ _ h10.2 _) fun r12 h12=>?_
    refine TU.te (aQ3 (by omega) hlj pl.gat hp.2.1 _) fun r13 e13 h13=>?_
    rw [h10.1,h12.1] at e13
    have sp:∀ l',(cond (cond r13.gC2 true ((dK N s.gE).any pl.gat r13.gC6 2 pl.gi (!r13.gC7))) (some x.1) (aAg N [pl.gc,r13.gC3] f x.1))=some l'→fU N (dK N s.gE) (drV N sd fi se dep) s.gF pl f (N - j) x.1 (j:Int)=fU N (dK N s.gE) (drV N sd fi se dep) s.gF pl f (N - (j+1)) l' ((j+1:Nat):Int):=by
     intro l' hl'
     rw [show N - j=(N - (j+1))+1 by omega,fU,dt (show (j:Int) < (s.gF.length:Int) by omega),cond_true,dU,List.getElem?_eq_getElem hj,Option.bind_some,e13,Option.bind_some,hl',Option.bind_some,eG (by omega)]
    refine TU.cond (fun hc=>TU.ret (x.1,aA.mk r12.1 ((aA.mk r10.1 x.2.gA x.2.gC x.2.gB x.2.gD).gA) ((aA.mk r10.1 x.2.gA x.2.gC x.2.gB x.2.gD).gC) ((aA.mk r10.1 x.2.gA x.2.gC x.2.gB x.2.gD).gB) ((aA.mk r10.1 x.2.gA x.2.gC x.2.gB x.2.gD).gD),s.gF[j],r13) ⟨x1,h12.2,fun hA=>sp _ (by have hd:r13.gC2=true:=(by cases hd:r13.gC2 with | true=>rfl | false=>rw [hd] at hc;cases hc);rw [hd];rfl),fun _=>rfl⟩ fun i=>⟨t' i,rfl,trivial⟩) (fun hdark=>?_)
    refine TU.bind (P:=fun q:Bool=>q=(!((dK N s.gE).any pl.gat r13.gC6 2 pl.gi (!r13.gC7))&&(!r13.gC2&&(pl.gI.gJ==0)))) (S:=fun i a r=>∃ tn,r=((tn),a)∧noR (t' i) tn (0:Int)) ?_ fun an ean ra hra=>?_
    ·refine TU.bind (anyFW (by omega) hbv htr hr.few pl.gat r13.gC6 2 pl.gi (!r13.gC7) t') fun an ean ra hra=>?_
     have hn:∃ tn:ι→Int,∀ i,ra i=(tn i,an)∧noR (t' i) (tn i) 0:=⟨fun i=>(hra i).choose,fun i=>⟨(hra i).choose_spec,trivial⟩⟩
     obtain ⟨tn,en⟩:=hn
     simp only [fun i=>(en i).1]
     subst ean
     refine TU.cond (fun h1=>TU.cond (fun h2=>TU.ret (pl.gI.gJ==0) (by rw [h1,h2];rfl) fun i=>⟨tn i,rfl,(en i).2⟩) (fun h2=>TU.ret false (by rw [h1,h2];rfl) fun i=>⟨tn i,rfl,(en i).2⟩)) (fun h1=>TU.ret false (by rw [h1];rfl) fun i=>⟨tn i,rfl,(en i).2⟩)
    ·have hn:∃ tn:ι→Int,∀ i,ra i=((tn i),an)∧noR (t' i) (tn i) (0:Int):=⟨fun i=>(hra i).choose,fun i=>(hra i).choose_spec⟩
     obtain ⟨tn,en⟩:=hn
     simp only [fun i=>(en i).1]
     refine TU.cond (fun hc=>?_) (fun hc=>TU.ret (_,_,_,_) ⟨x1,h12.2,fun hA=>sp _ ?_,fun _=>rfl⟩ fun i=>⟨tn i,rfl,(en i).2⟩)
     ·have ha3:((dK N s.gE).any pl.gat r13.gC6 2 pl.gi (!r13.gC7))=false∧r13.gC2=false∧pl.gI.gJ=0:=by
       rw [ean] at hc
       simpa using hc
      refine TU.c (aOF hN (by intro y hy;simp at hy;rcases hy with rfl | rfl;exact hp.2.2.1;exact h13) (by simp) _ hf x1 _ _ _ _ _ _) fun r17 h17=>TU.ret (_,_,_,_) ⟨h17.1,h12.2,fun hA=>sp _ (by rw [ha3.1,ha3.2.1];exact h17.2.1 hA.1),fun hA=>h17.2.2 ?_⟩ fun i=>⟨tn i,rfl,(en i).2⟩
      cases hov:ov with
      | true=>rfl
      | false=>exact absurd ⟨hov,ha3.2.2⟩ hA
     ·rw [hc] at ean
      have k0:(pl.gI.gJ==0)=true:=by simpa using hA.2
      rw [k0] at ean
      cases hd:r13.gC2 with
      | true=>rfl
      | false=>
       rw [hd] at ean
       have:((dK N s.gE).any pl.gat r13.gC6 2 pl.gi (!r13.gC7))=true:=by simpa using ean
       rw [this];rfl
   ·have hn:∃ tn:ι→Int,∀ i,r i=(a.1,a.2.1,(tn i),a.2.2.1,a.2.2.2)∧noR (t' i) (tn i) (0:Int):=⟨fun i=>(hr' i).choose,fun i=>(hr' i).choose_spec⟩
    obtain ⟨tn,en⟩:=hn
    simp only [fun i=>(en i).1]
    rw [eG (by omega)]
    obtain ⟨y1,y2,y3,y4⟩:=ha
    exact hk (a.1,a.2.1) tn ⟨⟨y1,y2,fun hA=>(x3 hA).trans (y3 hA),fun hA=>(y4 hA).trans (x4 hA)⟩,fun i=>noR_e (noR_t (x5 i) (en i).2) (by rw [show ((j+1:Nat):Int)=(j:Int)+1 from by omega,Int.mul_add,Int.mul_one])⟩
  ·simp only [fV,df (show ¬ (s.gF.length:Int) < (s.gF.length:Int) by omega),cond_false]
   obtain ⟨⟨x1,x2,x3,x4⟩,x5⟩:=hx
   refine TU.ret x ⟨x1,x2,fun hA=>(x3 hA).trans ?_,x4⟩ fun i=>⟨t' i,rfl,x5 i⟩
   rw [show N - s.gF.length=(N - s.gF.length - 1)+1 by omega,fU,df (by omega),cond_false]
 have h2:∃ t2:ι→Int,∀ i,r i=(a.1,a.2,wlk bv s.gE (t2 i))∧noR (t i) (t2 i) ((0:Int)*(s.gF.length:Int)):=⟨fun i=>(hr' i).choose,fun i=>(hr' i).choose_spec⟩
 obtain ⟨t2,e2⟩:=h2
 simp only [fun i=>(e2 i).1]
 simp only [hcon,Bool.not_false,cond_true]
 exact TU.ret a ha fun i=>⟨t2 i,rfl,trivial⟩
end
section
variable {ι:Type} {N:Nat} (hN:4100 < N) {b:List (List aD)} {s:aF} {v:aI} {sky:aB} (hr:Rdy b s v sky)
include hN hr
theorem aSb {gl:List aE} (hsw:aDN s.gE.length gl) (heq:aG8 s.gE gl) (hcon:v.gB2=true) (hfit:(s.gF.length:Int)≤(lG v.gA3).2) {sd fi se:Int} {ray:aH} (hray:aEg ray) {f l:aB} (hf:vin f) (hl:vin l) (dep:Int) (ov:Bool) (sm:aG) (st:ι→aJ) {src:aA} (hsrc:mM N sd fi se src) (t:ι→Int) :
  TU (fun i=>kR N b ray f l dep ov sm s v sky (st i) src (swp gl (t i))) (fun a:aH×aB×aB×Bool×aG×aA=>(aEg a.1∧vin a.2.1∧vin a.2.2.1∧mM N sd fi se a.2.2.2.2.2)∧(ov=true→a.2.2.1=l∧a.2.2.2.1=true∧a.2.2.2.2.1=sm)∧(ov=false→∃ q,xE N (dK N s.gE) (drV N sd fi se) b s v.gN sky ray f l dep sm=some q∧a.2.2.1=q.2.2.1∧a.2.2.2.1=q.2.2.2.1∧a.2.2.2.2.1=q.2.2.2.2∧(q.2.2.2.1=false→a.1=q.1∧a.2.1=q.2.1))) (fun i a r=>∃ x t',r=(a.1,a.2.1,a.2.2.1,a.2.2.2.1,a.2.2.2.2.1,x,a.2.2.2.2.2,swp gl t')):=by
 unfold kR
 refine TU.bind (aRR hN hr hsw heq hcon hfit hray f l dep ov sm st src t) fun a ha r hr'=>?_
 have h1:∃ (x t1:ι→Int),∀ i,r i=(a.1,x i,swp gl (t1 i),a.2.1,a.2.2)∧qA (t i) (t1 i) (gl.length:Int)∧qA (st i).gB7 (x i) 4:=⟨fun i=>(hr' i).choose,fun i=>(hr' i).choose_spec.choose,fun i=>(hr' i).choose_spec.choose_spec⟩
 obtain ⟨x,t1,e1⟩:=h1
 simp only [fun i=>(e1 i).1]
 obtain ⟨⟨hp,hm⟩,hsp,hsm,hk0⟩:=ha
 obtain ⟨sm',pl,hit⟩:=a
 dsimp only at *
 refine TU.c (P:=fun p:aB×Bool=>vin p.1∧(ov=true→p.1=l∧p.2=true)∧(ov=false→(hit=false→aAg N [sky] f l=some p.1∧p.2=true)∧(hit=true→p.1=l∧p.2=false))) (TC.cond (fun hc=>TC.bind (aO9 hN (by intro y hy;simp at hy;rcases hy with rfl;exact hr.sky) (by simp) _ hf hl _ _ _ _ _ _) fun r3 h3=>TC.bind (aMz _ _ _ _ _ _ _ _ _ _) fun _ _=>TC.ret _ ⟨h3.1,fun h=>⟨h3.2.2 h,by rw [h];rfl⟩,fun h=>⟨fun _=>⟨h3.2.1 h,by rw [h];rfl⟩,(fun hh=>by rw [hh] at hc;cases hc)⟩⟩) (fun hc=>TC.ret _ ⟨hl,fun h=>⟨rfl,h⟩,fun h=>⟨(fun hh=>by rw [hh] at hc;cases hc),fun _=>⟨rfl,h⟩⟩⟩)) fun p2 h2=>?_
 refine TU.c (aMz _ _ _ _ _ _ _ _ _ _) fun _ _=>?_
 simp only [aS]
 refine TU.c (P:=fun p:aB×Bool=>vin p.1∧(ov=true→p.1=l∧p.2=true)∧(ov=false→(hit=false→p.1=p2.1∧p.2=true)∧(hit=true→(pl.gB5=true→p.1=l∧p.2=true)∧(pl.gB5=false→(pl.gI.gJ=4→aAg N [pl.gc] f l=some p.1∧p.2=true)∧(pl.gI.gJ≠4→p.1=l∧p.2=false))))) (TC.cond (fun hc=>TC.bind (aO9 hN (by intro y hy;simp at hy;rcases hy with rfl;exact hp.2.2.1) (by simp) _ hf h2.1 _ _ _ _ _ _) fun r3 h3=>TC.bind (aMz _ _ _ _ _ _ _ _ _ _) fun _ _=>TC.ret _ ⟨h3.1,fun h=>?_,fun h=>⟨fun hh=>?_,fun hh=>⟨fun g=>?_,fun g=>⟨fun _=>?_,fun g4=>?_⟩⟩⟩⟩) (fun hc=>TC.ret _ ⟨h2.1,fun h=>?_,fun h=>⟨fun hh=>?_,fun hh=>⟨fun g=>?_,fun g=>⟨fun g4=>?_,fun _=>?_⟩⟩⟩⟩)) fun p6 p6l=>?_
 ·obtain ⟨a1,a2⟩:=h2.2.1 h
  exact ⟨(h3.2.2 (by rw [a2];rfl)).trans a1,by rw [a2];rfl⟩
 ·have k4:pl.gI.gJ=4:=by simpa using hc
  rw [hk0 hh] at k4;cases k4
 ·obtain ⟨a1,a2⟩:=(h2.2.2 h).2 hh
  exact ⟨(h3.2.2 (by rw [a2,g];rfl)).trans a1,by rw [a2,g];rfl⟩
 ·obtain ⟨a1,a2⟩:=(h2.2.2 h).2 hh
  have:=h3.2.1 (by rw [a2,g];rfl)
  rw [a1] at this
  exact ⟨this,by rw [a2,g];rfl⟩
 ·exact absurd (by simpa using hc) g4
 ·obtain ⟨a1,a2⟩:=h2.2.1 h
  exact ⟨a1,by rw [a2];rfl⟩
 ·obtain ⟨a1,a2⟩:=(h2.2.2 h).1 hh
  exact ⟨rfl,by rw [a2];rfl⟩
 ·obtain ⟨a1,a2⟩:=(h2.2.2 h).2 hh
  exact ⟨a1,by rw [a2,g];rfl⟩
 ·rw [g4] at hc;cases hc
 ·obtain ⟨a1,a2⟩:=(h2.2.2 h).2 hh
  exact ⟨a1,by rw [a2,g];rfl⟩
 refine TU.bind (P:=fun z:aB×aA=>vin z.1∧mM N sd fi se z.2∧((p6.2=false∧pl.gI.gJ=0)→fU N (dK N s.gE) (drV N sd fi se dep) s.gF pl f N p6.1 0=some z.1)∧(¬ (p6.2=false∧pl.gI.gJ=0)→z.1=p6.1)) (S:=fun i z r=>∃ t2,r=(z.1,z.2,swp gl t2)∧qA (t1 i) t2 ((gl.length:Int)*(lG v.gA3).2)) ?_ fun z hz rz hrz=>?_
 ·simp only [hcon,cond_true,Option.bind_some]
  refine TU.bind (aQq hN hr hsw heq hcon hfit hp (ι:=ι) ray hf p6l.1 dep p6.2 sm' _ hsrc t1) fun z hz rz hrz=>?_
  have h2:∃ t2:ι→Int,∀ i,rz i=(z.1,z.2,swp gl (t2 i))∧qA (t1 i) (t2 i) ((gl.length:Int)*(lG v.gA3).2):=⟨fun i=>(hrz i).choose,fun i=>(hrz i).choose_spec⟩
  obtain ⟨t2,e2⟩:=h2
  simp only [fun i=>(e2 i).1]
  exact TU.ret (z.1,z.2) hz fun i=>⟨t2 i,rfl,(e2 i).2⟩
 have h2':∃ t2:ι→Int,∀ i,rz i=(z.1,z.2,swp gl (t2 i))∧qA (t1 i) (t2 i) ((gl.length:Int)*(lG v.gA3).2):=⟨fun i=>(hrz i).choose,fun i=>(hrz i).choose_spec⟩
 obtain ⟨t2,e2⟩:=h2'
 simp only [fun i=>(e2 i).1]
 -- an end
 have stop:∀ m:Bool,m=true→(p6.2=true∨(dep==v.gN)=true)→(ov=true→z.1=l∧m=true∧sm'=sm)∧(ov=false→∃ q,xE N (dK N s.gE) (drV N sd fi se) b s v.gN sky ray f l dep sm=some q∧z.1=q.2.2.1∧m=q.2.2.2.1∧sm'=q.2.2.2.2∧(q.2.2.2.1=false→ray=q.1∧f=q.2.1)):=by
  intro m hm1 hs
  refine ⟨fun h=>?_,fun h=>?_⟩
  ·obtain ⟨a1,a2⟩:=p6l.2.1 h
   exact ⟨(hz.2.2.2 (fun hA=>by rw [a2] at hA;cases hA.1)).trans a1,hm1,hsm h⟩
  ·rw [h] at hsp
   unfold xE
   rw [hsp,Option.bind_some]
   have p6h:=p6l.2.2 h
   have p2h:=h2.2.2 h
   cases hh:hit with
   | false=>
    obtain ⟨a1,a2⟩:=p6h.1 hh
    obtain ⟨b1,b2⟩:=p2h.1 hh
    refine ⟨(ray,f,p2.1,true,sm'),by simp only [Bool.not_false,cond_true,b1,Option.bind_some],(hz.2.2.2 (fun hA=>by rw [a2] at hA;cases hA.1)).trans a1,hm1,rfl,fun h=>by cases h⟩
   | true=>
    obtain ⟨c1,c2⟩:=p6h.2 hh
    simp only [Bool.not_true,cond_false]
    cases hho:pl.gB5 with
    | true=>
     obtain ⟨a1,a2⟩:=c1 hho
     refine ⟨(ray,f,l,true,sm'),by rw [cond_true];cases (pl.gI.gJ==4) <;> rfl,(hz.2.2.2 (fun hA=>by rw [a2] at hA;cases hA.1)).trans a1,hm1,rfl,fun h=>by cases h⟩
    | false=>
     rw [cond_false]
     obtain ⟨d1,d2⟩:=c2 hho
     by_cases k4:pl.gI.gJ=4
     ·obtain ⟨a1,a2⟩:=d1 k4
      refine ⟨(ray,f,p6.1,true,sm'),by rw [show (pl.gI.gJ==4)=true by simpa using k4,cond_true,a1,Option.bind_some],hz.2.2.2 (fun hA=>by rw [a2] at hA;cases hA.1),hm1,rfl,fun h=>by cases h⟩
     ·obtain ⟨a1,a2⟩:=d2 k4
      have hd:(dep==v.gN)=true:=by rcases hs with h | h;rw [a2] at h;cases h;exact h
      refine ⟨(ray,f,z.1,true,sm'),?_,rfl,hm1,rfl,fun h=>by cases h⟩
      rw [show (pl.gI.gJ==4)=false by simpa using k4,cond_false]
      by_cases k0:pl.gI.gJ=0
      ·have:=hz.2.2.1 ⟨a2,k0⟩
       rw [a1] at this
       rw [show (pl.gI.gJ==0)=true by simpa using k0,cond_true,this,Option.bind_some,hd,cond_true]
      ·have:=hz.2.2.2 (fun hA=>k0 hA.2)
       rw [a1] at this
       rw [show (pl.gI.gJ==0)=false by simpa using k0,cond_false,Option.bind_some,hd,cond_true,this]
 refine TU.te (P:=fun p=>p=true↔(p6.2=true∨(dep==v.gN)=true)) (T.cond (fun h=>T.ret ⟨fun _=>Or.inl h,fun _=>rfl⟩) (fun h=>T.ret ⟨fun h'=>Or.inr h',fun h'=>by rcases h' with h' | h';rw [h] at h';cases h';exact h'⟩)) fun p14 _ h14=>TU.cond (fun hc=>?_) (fun hc=>?_)
 ·exact TU.c (aMz _ _ _ _ _ _ _ _ _ _) fun _ _=>TU.ret (ray,f,z.1,cond p6.2 true true,sm',z.2) ⟨⟨hray,hf,hz.1,hz.2.1⟩,stop _ (by cases p6.2 <;> rfl) (h14.1 hc)⟩ fun i=>⟨x i,t2 i,rfl⟩
 have n6:p6.2=false:=by cases h:p6.2 with
  | false=>rfl
  | true=>rw [h14.2 (Or.inl h)] at hc;cases hc
 have nd:(dep==v.gN)=false:=by cases h:(dep==v.gN) with
  | false=>rfl
  | true=>rw [h14.2 (Or.inr h)] at hc;cases hc
 refine TU.c (aEB hN _ _ _ _ _ _ _ _ hz.2.1 _) fun r16 h16=>TU.c (aEB hN _ _ _ _ _ _ _ _ h16.2 _) fun r17 h17=>?_
 refine TU.te (aJT (by omega) hp.2.2.2 hp.2.2.1 hp.2.1 ray.gd _) fun r18 e18 h18=>TU.te (aIt (by omega) _ (by intro y hy;simp at hy;rcases hy with rfl | rfl;exact hf;exact h18.2) (by simp)) fun r19 e19 h19=>?_
 rw [h16.1,h17.1] at e18
 refine TU.c (aMz _ _ _ _ _ _ _ _ _ _) fun _ _=>?_
 refine TU.c (P:=fun p:aB×Bool×aA=>vin p.1∧mM N sd fi se p.2.2∧(cond (decide (dep≥2)) (Option.bind (eT N r19 (drV N sd fi se dep 7)) fun r23=>some (r23.1,cond r18.gB8 true (!r23.2))) (some (r19,r18.gB8)))=some (p.1,p.2.1)) ?_ fun p21 h21=>?_
 ·refine TC.cond (fun h2d=>TC.bind (aEB hN _ _ _ _ _ _ _ _ h17.2 _) fun r22 h22=>?_) (fun h2d=>TC.ret _ ⟨h19,h17.2,by rw [h2d,n6];rfl⟩)
  obtain ⟨r23,e23,h23⟩:=aHc (N:=N) (by omega) h19 r22.2
  refine TC.t (P:=fun r=>r=r23) ⟨_,e23,rfl⟩ fun r hr=>?_
  subst hr
  rw [h22.1] at e23
  exact TC.bind (aMz _ _ _ _ _ _ _ _ _ _) fun _ _=>TC.ret _ ⟨h23,h22.2,by rw [h2d,n6,cond_true,e23];rfl⟩
 ·refine TU.ret (aH.mk pl.gat r18.gD4 pl.gi,p21.1,z.1,p21.2.1,sm',p21.2.2) ⟨⟨⟨hp.1,h18.1⟩,h21.1,hz.1,h21.2.1⟩,fun h=>?_,fun h=>?_⟩ fun i=>⟨x i,t2 i,rfl⟩
  ·obtain ⟨a1,a2⟩:=p6l.2.1 h
   rw [n6] at a2;cases a2
  ·refine ⟨(aH.mk pl.gat r18.gD4 pl.gi,p21.1,z.1,p21.2.1,sm'),?_,rfl,rfl,rfl,fun _=>⟨rfl,rfl⟩⟩
   rw [h] at hsp
   unfold xE
   rw [hsp,Option.bind_some]
   have p6h:=p6l.2.2 h
   cases hh:hit with
   | false=>have:=(p6h.1 hh).2;rw [n6] at this;cases this
   | true=>
    obtain ⟨c1,c2⟩:=p6h.2 hh
    simp only [Bool.not_true,cond_false]
    cases hho:pl.gB5 with
    | true=>have:=(c1 hho).2;rw [n6] at this;cases this
    | false=>
     rw [cond_false]
     obtain ⟨d1,d2⟩:=c2 hho
     by_cases k4:pl.gI.gJ=4
     ·have:=(d1 k4).2;rw [n6] at this;cases this
     ·obtain ⟨a1,a2⟩:=d2 k4
      rw [show (pl.gI.gJ==4)=false by simpa using k4,cond_false]
      have hl':(cond (pl.gI.gJ==0) (fU N (dK N s.gE) (drV N sd fi se dep) s.gF pl f N l 0) (some l))=some z.1:=by
       by_cases k0:pl.gI.gJ=0
       ·have:=hz.2.2.1 ⟨a2,k0⟩
        rw [a1] at this
        rw [show (pl.gI.gJ==0)=true by simpa using k0,cond_true,this]
       ·have:=hz.2.2.2 (fun hA=>k0 hA.2)
        rw [a1] at this
        rw [show (pl.gI.gJ==0)=false by simpa using k0,cond_false,this]
      rw [hl',Option.bind_some,nd,cond_false,e18,Option.bind_some,e19,Option.bind_some,h21.2.2,Option.bind_some]
end
section
variable {ι:Type} {N:Nat} (hN:1000000000000 < N) {b:List (List aD)} {s:aF} {v:aI} {sky:aB} (hr:Rdy b s v sky)
include hN hr
theorem aSm {bv:aY} {gl:List aE} (hbv:xA gl.length bv) (htr:tY s.gE bv) (hgl:gl=s.gE) (hcon:v.gB2=false) {sd fi se:Int} {ray:aH} (hray:aEg ray) {f l:aB} (hf:vin f) (hl:vin l) (dep:Int) (ov:Bool) (sm:aG) (st:ι→aJ) {src:aA} (hsrc:mM N sd fi se src) (t:ι→Int) :
  TU (fun i=>mK N b ray f l dep ov sm s v sky (st i) src (wlk bv gl (t i))) (fun a:aH×aB×aB×Bool×aG×aA=>(aEg a.1∧vin a.2.1∧vin a.2.2.1∧mM N sd fi se a.2.2.2.2.2)∧(ov=true→a.2.2.1=l∧a.2.2.2.1=true∧a.2.2.2.2.1=sm)∧(ov=false→∃ q,xE N (dK N s.gE) (drV N sd fi se) b s v.gN sky ray f l dep sm=some q∧a.2.2.1=q.2.2.1∧a.2.2.2.1=q.2.2.2.1∧a.2.2.2.2.1=q.2.2.2.2∧(q.2.2.2.1=false→a.1=q.1∧a.2.1=q.2.1))) (fun i a r=>∃ x t',r=(a.1,a.2.1,a.2.2.1,a.2.2.2.1,a.2.2.2.2.1,x,a.2.2.2.2.2,wlk bv gl t')):=by
 unfold mK
 refine TU.bind (aSN hN hr hbv htr hgl hcon hray f l dep ov sm st src t) fun a ha r hr'=>?_
 have h1:∃ (x t1:ι→Int),∀ i,r i=(a.1,x i,(t1 i),a.2.1,a.2.2)∧noR (t i) (t1 i) 0∧noR (st i).gB7 (x i) 4:=⟨fun i=>(hr' i).choose,fun i=>(hr' i).choose_spec.choose,fun i=>(hr' i).choose_spec.choose_spec⟩
 obtain ⟨x,t1,e1⟩:=h1
 simp only [fun i=>(e1 i).1]
 obtain ⟨⟨hp,hm⟩,hsp,hsm,hk0⟩:=ha
 obtain ⟨sm',pl,hit⟩:=a
 dsimp only at *
 refine TU.c (P:=fun p:aB×Bool=>vin p.1∧(ov=true→p.1=l∧p.2=true)∧(ov=false→(hit=false→aAg N [sky] f l=some p.1∧p.2=true)∧(hit=true→p.1=l∧p.2=false))) (TC.cond (fun hc=>TC.bind (aOF hN (by intro y hy;simp at hy;rcases hy with rfl;exact hr.sky) (by simp) _ hf hl _ _ _ _ _ _) fun r3 h3=>TC.bind (aMf _ _ _ _ _ _ _ _ _ _) fun _ _=>TC.ret _ ⟨h3.1,fun h=>⟨h3.2.2 h,by rw [h];rfl⟩,fun h=>⟨fun _=>⟨h3.2.1 h,by rw [h];rfl⟩,(fun hh=>by rw [hh] at hc;cases hc)⟩⟩) (fun hc=>TC.ret _ ⟨hl,fun h=>⟨rfl,h⟩,fun h=>⟨(fun hh=>by rw [hh] at hc;cases hc),fun _=>⟨rfl,h⟩⟩⟩)) fun p2 h2=>?_
 refine TU.c (aMf _ _ _ _ _ _ _ _ _ _) fun _ _=>?_
 simp only [aS]
 refine TU.c (P:=fun p:aB×Bool=>vin p.1∧(ov=true→p.1=l∧p.2=true)∧(ov=false→(hit=false→p.1=p2.1∧p.2=true)∧(hit=true→(pl.gB5=true→p.1=l∧p.2=true)∧(pl.gB5=false→(pl.gI.gJ=4→aAg N [pl.gc] f l=some p.1∧p.2=true)∧(pl.gI.gJ≠4→p.1=l∧p.2=false))))) (TC.cond (fun hc=>TC.bind (aOF hN (by intro y hy;simp at hy;rcases hy with rfl;exact hp.2.2.1) (by simp) _ hf h2.1 _ _ _ _ _ _) fun r3 h3=>TC.bind (aMf _ _ _ _ _ _ _ _ _ _) fun _ _=>TC.ret _ ⟨h3.1,fun h=>?_,fun h=>⟨fun hh=>?_,fun hh=>⟨fun g=>?_,fun g=>⟨fun _=>?_,fun g4=>?_⟩⟩⟩⟩) (fun hc=>TC.ret _ ⟨h2.1,fun h=>?_,fun h=>⟨fun hh=>?_,fun hh=>⟨fun g=>?_,fun g=>⟨fun g4=>?_,fun _=>?_⟩⟩⟩⟩)) fun p6 p6l=>?_
 ·obtain ⟨a1,a2⟩:=h2.2.1 h
  exact ⟨(h3.2.2 (by rw [a2];rfl)).trans a1,by rw [a2];rfl⟩
 ·have k4:pl.gI.gJ=4:=by simpa using hc
  rw [hk0 hh] at k4;cases k4
 ·obtain ⟨a1,a2⟩:=(h2.2.2 h).2 hh
  exact ⟨(h3.2.2 (by rw [a2,g];rfl)).trans a1,by rw [a2,g];rfl⟩
 ·obtain ⟨a1,a2⟩:=(h2.2.2 h).2 hh
  have:=h3.2.1 (by rw [a2,g];rfl)
  rw [a1] at this
  exact ⟨this,by rw [a2,g];rfl⟩
 ·exact absurd (by simpa using hc) g4
 ·obtain ⟨a1,a2⟩:=h2.2.1 h
  exact ⟨a1,by rw [a2];rfl⟩
 ·obtain ⟨a1,a2⟩:=(h2.2.2 h).1 hh
  exact ⟨rfl,by rw [a2];rfl⟩
 ·obtain ⟨a1,a2⟩:=(h2.2.2 h).2 hh
  exact ⟨a1,by rw [a2,g];rfl⟩
 ·rw [g4] at hc;cases hc
 ·obtain ⟨a1,a2⟩:=(h2.2.2 h).2 hh
  exact ⟨a1,by rw [a2,g];rfl⟩
 refine TU.bind (P:=fun z:aB×aA=>vin z.1∧mM N sd fi se z.2∧((p6.2=false∧pl.gI.gJ=0)→fU N (dK N s.gE) (drV N sd fi se dep) s.gF pl f N p6.1 0=some z.1)∧(¬ (p6.2=false∧pl.gI.gJ=0)→z.1=p6.1)) (S:=fun i z r=>∃ t2,r=(z.1,z.2,wlk bv gl t2)∧noR (t1 i) t2 ((0:Int)*(lG v.gA3).2)) ?_ fun z hz rz hrz=>?_
 ·refine TU.t (P:=fun p11=>p11=(!p6.2&&(pl.gI.gJ==0))) (by rw [hcon];cases p6.2 <;> exact ⟨_,rfl,rfl⟩) fun p11 e11=>TU.cond (fun _=>?_) (fun h11=>TU.ret (p6.1,src) ⟨p6l.1,hsrc,(fun hA=>by rw [e11,hA.1,hA.2] at h11;cases h11),fun _=>rfl⟩ fun i=>⟨t1 i,rfl,trivial⟩)
  refine TU.bind (aPe hN hr hbv htr hgl hcon hp (ι:=ι) ray hf p6l.1 dep p6.2 sm' _ hsrc t1) fun z hz rz hrz=>?_
  have h2:∃ t2:ι→Int,∀ i,rz i=(z.1,z.2,wlk bv gl (t2 i))∧noR (t1 i) (t2 i) ((0:Int)*(lG v.gA3).2):=⟨fun i=>(hrz i).choose,fun i=>(hrz i).choose_spec⟩
  obtain ⟨t2,e2⟩:=h2
  simp only [fun i=>(e2 i).1]
  exact TU.ret (z.1,z.2) hz fun i=>⟨t2 i,rfl,(e2 i).2⟩
 have h2':∃ t2:ι→Int,∀ i,rz i=(z.1,z.2,wlk bv gl (t2 i))∧noR (t1 i) (t2 i) ((0:Int)*(lG v.gA3).2):=⟨fun i=>(hrz i).choose,fun i=>(hrz i).choose_spec⟩
 obtain ⟨t2,e2⟩:=h2'
 simp only [fun i=>(e2 i).1]
 -- an end
 have stop:∀ m:Bool,m=true→(p6.2=true∨(dep==v.gN)=true)→(ov=true→z.1=l∧m=true∧sm'=sm)∧(ov=false→∃ q,xE N (dK N s.gE) (drV N sd fi se) b s v.gN sky ray f l dep sm=some q∧z.1=q.2.2.1∧m=q.2.2.2.1∧sm'=q.2.2.2.2∧(q.2.2.2.1=false→ray=q.1∧f=q.2.1)):=by
  intro m hm1 hs
  refine ⟨fun h=>?_,fun h=>?_⟩
  ·obtain ⟨a1,a2⟩:=p6l.2.1 h
   exact ⟨(hz.2.2.2 (fun hA=>by rw [a2] at hA;cases hA.1)).trans a1,hm1,hsm h⟩
  ·rw [h] at hsp
   unfold xE
   rw [hsp,Option.bind_some]
   have p6h:=p6l.2.2 h
   have p2h:=h2.2.2 h
   cases hh:hit with
   | false=>
    obtain ⟨a1,a2⟩:=p6h.1 hh
    obtain ⟨b1,b2⟩:=p2h.1 hh
    refine ⟨(ray,f,p2.1,true,sm'),by simp only [Bool.not_false,cond_true,b1,Option.bind_some],(hz.2.2.2 (fun hA=>by rw [a2] at hA;cases hA.1)).trans a1,hm1,rfl,fun h=>by cases h⟩
   | true=>
    obtain ⟨c1,c2⟩:=p6h.2 hh
    simp only [Bool.not_true,cond_false]
    cases hho:pl.gB5 with
    | true=>
     obtain ⟨a1,a2⟩:=c1 hho
     refine ⟨(ray,f,l,true,sm'),by rw [cond_true];cases (pl.gI.gJ==4) <;> rfl,(hz.2.2.2 (fun hA=>by rw [a2] at hA;cases hA.1)).trans a1,hm1,rfl,fun h=>by cases h⟩
    | false=>
     rw [cond_false]
     obtain ⟨d1,d2⟩:=c2 hho
     by_cases k4:pl.gI.gJ=4
     ·obtain ⟨a1,a2⟩:=d1 k4
      refine ⟨(ray,f,p6.1,true,sm'),by rw [show (pl.gI.gJ==4)=true by simpa using k4,cond_true,a1,Option.bind_some],hz.2.2.2 (fun hA=>by rw [a2] at hA;cases hA.1),hm1,rfl,fun h=>by cases h⟩
     ·obtain ⟨a1,a2⟩:=d2 k4
      have hd:(dep==v.gN)=true:=by rcases hs with h | h;rw [a2] at h;cases h;exact h
      refine ⟨(ray,f,z.1,true,sm'),?_,rfl,hm1,rfl,fun h=>by cases h⟩
      rw [show (pl.gI.gJ==4)=false by simpa using k4,cond_false]
      by_cases k0:pl.gI.gJ=0
      ·have:=hz.2.2.1 ⟨a2,k0⟩
       rw [a1] at this
       rw [show (pl.gI.gJ==0)=true by simpa using k0,cond_true,this,Option.bind_some,hd,cond_true]
      ·have:=hz.2.2.2 (fun hA=>k0 hA.2)
       rw [a1] at this
       rw [show (pl.gI.gJ==0)=false by simpa using k0,cond_false,Option.bind_some,hd,cond_true,this]
 refine TU.te (P:=fun p=>p=true↔(p6.2=true∨(dep==v.gN)=true)) (T.cond (fun h=>T.ret ⟨fun _=>Or.inl h,fun _=>rfl⟩) (fun h=>T.ret ⟨fun h'=>Or.inr h',fun h'=>by rcases h' with h' | h';rw [h] at h';cases h';exact h'⟩)) fun p14 _ h14=>TU.cond (fun hc=>?_) (fun hc=>?_)
 ·exact TU.c (aMf _ _ _ _ _ _ _ _ _ _) fun _ _=>TU.ret (ray,f,z.1,cond p6.2 true true,sm',z.2) ⟨⟨hray,hf,hz.1,hz.2.1⟩,stop _ (by cases p6.2 <;> rfl) (h14.1 hc)⟩ fun i=>⟨x i,t2 i,rfl⟩
 have n6:p6.2=false:=by cases h:p6.2 with
  | false=>rfl
  | true=>rw [h14.2 (Or.inl h)] at hc;cases hc
 have nd:(dep==v.gN)=false:=by cases h:(dep==v.gN) with
  | false=>rfl
  | true=>rw [h14.2 (Or.inr h)] at hc;cases hc
 refine TU.c (aDz hN _ _ _ _ _ _ _ _ hz.2.1 _) fun r16 h16=>TU.c (aDz hN _ _ _ _ _ _ _ _ h16.2 _) fun r17 h17=>?_
 refine TU.te (aJT (by omega) hp.2.2.2 hp.2.2.1 hp.2.1 ray.gd _) fun r18 e18 h18=>TU.te (aIt (by omega) _ (by intro y hy;simp at hy;rcases hy with rfl | rfl;exact hf;exact h18.2) (by simp)) fun r19 e19 h19=>?_
 rw [h16.1,h17.1] at e18
 refine TU.c (aMf _ _ _ _ _ _ _ _ _ _) fun _ _=>?_
 refine TU.c (P:=fun p:aB×Bool×aA=>vin p.1∧mM N sd fi se p.2.2∧(cond (decide (dep≥2)) (Option.bind (eT N r19 (drV N sd fi se dep 7)) fun r23=>some (r23.1,cond r18.gB8 true (!r23.2))) (some (r19,r18.gB8)))=some (p.1,p.2.1)) ?_ fun p21 h21=>?_
 ·refine TC.cond (fun h2d=>TC.bind (aDz hN _ _ _ _ _ _ _ _ h17.2 _) fun r22 h22=>?_) (fun h2d=>TC.ret _ ⟨h19,h17.2,by rw [h2d,n6];rfl⟩)
  obtain ⟨r23,e23,h23⟩:=aHc (N:=N) (by omega) h19 r22.2
  refine TC.t (P:=fun r=>r=r23) ⟨_,e23,rfl⟩ fun r hr=>?_
  subst hr
  rw [h22.1] at e23
  exact TC.bind (aMf _ _ _ _ _ _ _ _ _ _) fun _ _=>TC.ret _ ⟨h23,h22.2,by rw [h2d,n6,cond_true,e23];rfl⟩
 ·refine TU.ret (aH.mk pl.gat r18.gD4 pl.gi,p21.1,z.1,p21.2.1,sm',p21.2.2) ⟨⟨⟨hp.1,h18.1⟩,h21.1,hz.1,h21.2.1⟩,fun h=>?_,fun h=>?_⟩ fun i=>⟨x i,t2 i,rfl⟩
  ·obtain ⟨a1,a2⟩:=p6l.2.1 h
   rw [n6] at a2;cases a2
  ·refine ⟨(aH.mk pl.gat r18.gD4 pl.gi,p21.1,z.1,p21.2.1,sm'),?_,rfl,rfl,rfl,fun _=>⟨rfl,rfl⟩⟩
   rw [h] at hsp
   unfold xE
   rw [hsp,Option.bind_some]
   have p6h:=p6l.2.2 h
   cases hh:hit with
   | false=>have:=(p6h.1 hh).2;rw [n6] at this;cases this
   | true=>
    obtain ⟨c1,c2⟩:=p6h.2 hh
    simp only [Bool.not_true,cond_false]
    cases hho:pl.gB5 with
    | true=>have:=(c1 hho).2;rw [n6] at this;cases this
    | false=>
     rw [cond_false]
     obtain ⟨d1,d2⟩:=c2 hho
     by_cases k4:pl.gI.gJ=4
     ·have:=(d1 k4).2;rw [n6] at this;cases this
     ·obtain ⟨a1,a2⟩:=d2 k4
      rw [show (pl.gI.gJ==4)=false by simpa using k4,cond_false]
      have hl':(cond (pl.gI.gJ==0) (fU N (dK N s.gE) (drV N sd fi se dep) s.gF pl f N l 0) (some l))=some z.1:=by
       by_cases k0:pl.gI.gJ=0
       ·have:=hz.2.2.1 ⟨a2,k0⟩
        rw [a1] at this
        rw [show (pl.gI.gJ==0)=true by simpa using k0,cond_true,this]
       ·have:=hz.2.2.2 (fun hA=>k0 hA.2)
        rw [a1] at this
        rw [show (pl.gI.gJ==0)=false by simpa using k0,cond_false,this]
      rw [hl',Option.bind_some,nd,cond_false,e18,Option.bind_some,e19,Option.bind_some,h21.2.2,Option.bind_some]
end
def aC2 (N:Nat) (b:List (List aD)) (s:aF) (v:aI) (sky:aB) (x y z:Int):Option aG:=
 Option.bind (sB N v.gD8 v.gW v.gH x y (#v[drV N v.gS (I64 (I64 (y*v.gW)+x)) z 0 0,drV N v.gS (I64 (I64 (y*v.gW)+x)) z 0 1,drV N v.gS (I64 (I64 (y*v.gW)+x)) z 0 2,drV N v.gS (I64 (I64 (y*v.gW)+x)) z 0 3])) fun r15=>
 Option.bind (aBl N (dK N s.gE) (drV N v.gS (I64 (I64 (y*v.gW)+x)) z) b s v.gN sky N (aH.mk r15.1 r15.2.1 (-1)) (aB.mk 4294967296 4294967296 4294967296) (aB.mk 0 0 0) 0 false (aG.mk (aB.mk 0 0 0) 0 0 (aB.mk 0 0 0) (-1))) fun q=>
 some (aG.mk q.1 q.2.gD2 q.2.gN q.2.gD3 q.2.gB9)
def inV (v:aI) (x y z:Int):Prop:=(0≤x∧x < v.gW)∧(0≤y∧y < v.gH)∧0≤z∧z < v.gD0
theorem vec4 {v:Vector Int 4} {a b c d:Int} (h0:v[0]=a) (h1:v[1]=b) (h2:v[2]=c) (h3:v[3]=d):v=#v[a,b,c,d]:=by
 apply Vector.ext
 intro i hi
 have:i=0∨i=1∨i=2∨i=3:=by omega
 rcases this with rfl | rfl | rfl | rfl
 ·exact h0
 ·exact h1
 ·exact h2
 ·exact h3
theorem sX (N:Nat) (F:Fnd) (dr:Int→Int→Int) (b:List (List aD)) (s:aF) (depth:Int) (sky:aB) (k:Nat) (ray:aH) (f l:aB) (dep:Int) (sm:aG):aBl N F dr b s depth sky (k+1) ray f l dep true sm=some (l,sm):=by
 rw [aBl]
 cases decide (dep≤depth) <;> rfl
section
variable {ι:Type} {N:Nat} (hN:4100 < N) {b:List (List aD)} {s:aF} {v:aI} {sky:aB} (hr:Rdy b s v sky)
include hN hr
theorem aOp {gl:List aE} (hsw:aDN s.gE.length gl) (heq:aG8 s.gE gl) (hcon:v.gB2=true) (hfit:(s.gF.length:Int)≤(lG v.gA3).2) (x y z:Int) (st:ι→aJ) (t:ι→Int) :
  TU (fun i=>fC N b x y z s v sky (st i) (swp gl (t i))) (fun a:aG×Int=>(inV v x y z→a.2=0∧aC2 N b s v sky x y z=some a.1)∧(¬ inV v x y z→a=(aG.mk (aB.mk 0 0 0) 0 0 (aB.mk 0 0 0) 0,2))) (fun i a r=>∃ st' t',r=(st',swp gl t',a.1,a.2)):=by
 unfold fC sW
 simp only [aS,Option.bind_some]
 refine TU.cond (fun hc=>TU.ret (aG.mk (aB.mk 0 0 0) 0 0 (aB.mk 0 0 0) 0,2) ⟨fun h=>?_,fun _=>rfl⟩ fun i=>⟨st i,t i,rfl⟩) (fun hc=>?_)
 ·exfalso
  obtain ⟨⟨h1,h2⟩,⟨h3,h4⟩,h5,h6⟩:=h
  rw [df (show ¬ x < 0 by omega),df (show ¬ x≥v.gW by omega),df (show ¬ y < 0 by omega),df (show ¬ y≥v.gH by omega),df (show ¬ z < 0 by omega),df (show ¬ z≥v.gD0 by omega)] at hc
  cases hc
 have inr:inV v x y z:=by
  have oo:∀ {a:Prop} [Decidable a] {b:Bool},cond b true (decide a)=false→b=false∧¬ a:=by
   intro a _ b h
   cases b with
   | true=>cases h
   | false=>exact ⟨rfl,of_decide_eq_false h⟩
  obtain ⟨hc,c6⟩:=oo hc
  obtain ⟨hc,c5⟩:=oo hc
  obtain ⟨hc,c4⟩:=oo hc
  obtain ⟨hc,c3⟩:=oo hc
  obtain ⟨hc,c2⟩:=oo hc
  have c1:=of_decide_eq_false hc
  exact ⟨⟨by omega,by omega⟩,⟨by omega,by omega⟩,by omega,by omega⟩
 generalize hpix:I64 (I64 (y*v.gW)+x)=pix
 refine TU.c (P:=fun p:aA×Vector Int 4=>mM N v.gS pix z p.1∧p.2=#v[drV N v.gS pix z 0 0,drV N v.gS pix z 0 1,drV N v.gS pix z 0 2,drV N v.gS pix z 0 3]) ?_ fun p8 hp8=>?_
 ·have main:∀ (k j:Nat) (src:aA) (q:Vector Int 4),4 - j < k→j≤4→mM N v.gS pix z src→(∀ i,(h:i < 4)→i < j→q[i]=drV N v.gS pix z 0 (i:Int))→TC (fun i=>fI N b s v sky (st i) (swp gl (t i)) k src q (j:Int)) (fun p:aA×Vector Int 4=>mM N v.gS pix z p.1∧p.2=#v[drV N v.gS pix z 0 0,drV N v.gS pix z 0 1,drV N v.gS pix z 0 2,drV N v.gS pix z 0 3]):=by
   intro k
   induction k with
   | zero=>intro j src q h;omega
   | succ k ih=>
    intro j src q hk hj hs hq
    simp only [fI]
    refine TC.cond (fun hc=>?_) (fun hc=>TC.ret _ ⟨hs,?_⟩)
    ·have hj4:j < 4:=by have:=of_decide_eq_true hc;omega
     refine TC.bind (aEB (by omega) _ _ _ _ _ _ _ _ hs _) fun r12 h12=>TC.t (T.inRO (by omega) (by omega)) fun _ _=>TC.t (T.vgI hj4) fun _ _=>?_
     rw [eG (by omega)]
     refine ih (j+1) _ _ (by omega) (by omega) h12.2 fun i hi hij=>?_
     rw [Int.toNat_natCast,Vector.getElem_setIfInBounds hi]
     by_cases c:j=i
     ·subst c;rw [if_pos rfl,h12.1]
     ·rw [if_neg c];exact hq i hi (by omega)
    ·have:j=4:=by have:=of_decide_eq_false hc;omega
     subst this
     exact vec4 (hq 0 (by decide) (by decide)) (hq 1 (by decide) (by decide)) (hq 2 (by decide) (by decide)) (hq 3 (by decide) (by decide))
  exact main N 0 _ _ (by omega) (by decide) ⟨rfl,rfl,rfl,rfl,fun h=>by cases h⟩ fun i _ h=>absurd h (by omega)
 refine TU.te (rayN (by omega) _ _ _ _ _ _) fun r15 e15 h15=>?_
 rw [hp8.2] at e15
 obtain ⟨_,_,⟨d0,d8⟩,_⟩:=hr.view
 obtain ⟨n,hn⟩:=Int.eq_ofNat_of_zero_le (show 0≤v.gN+1 by omega)
 refine TU.bind (P:=fun a:aA×aH×aB×aB×Bool×aG=>aBl N (dK N s.gE) (drV N v.gS pix z) b s v.gN sky N (aH.mk r15.1 r15.2.1 (-1)) (aB.mk 4294967296 4294967296 4294967296) (aB.mk 0 0 0) 0 false (aG.mk (aB.mk 0 0 0) 0 0 (aB.mk 0 0 0) (-1))=some (a.2.2.2.1,a.2.2.2.2.2)) (S:=fun i a r=>∃ (st':aJ) (t':Int),∃ dd:Int,r=(st',swp gl t',a.1,a.2.1,a.2.2.1,a.2.2.2.1,dd,a.2.2.2.2.1,a.2.2.2.2.2)) ?_ fun a ha r hr'=>?_
 ·refine TU.loop0 (n:=n) (fun j (x:aA×aH×aB×aB×Bool×aG) (h:ι→aJ×Int)=>(aEg x.2.1∧vin x.2.2.1∧vin x.2.2.2.1∧mM N v.gS pix z x.1)∧aBl N (dK N s.gE) (drV N v.gS pix z) b s v.gN sky N (aH.mk r15.1 r15.2.1 (-1)) (aB.mk 4294967296 4294967296 4294967296) (aB.mk 0 0 0) 0 false (aG.mk (aB.mk 0 0 0) 0 0 (aB.mk 0 0 0) (-1))=aBl N (dK N s.gE) (drV N v.gS pix z) b s v.gN sky (N - j) x.2.1 x.2.2.1 x.2.2.2.1 (j:Int) x.2.2.2.2.1 x.2.2.2.2.2) (F:=fun i k (h:aJ×Int) (x:aA×aH×aB×aB×Bool×aG) j=>eE N v b s sky k h.1 (swp gl h.2) x.1 x.2.1 x.2.2.1 x.2.2.2.1 j x.2.2.2.2.1 x.2.2.2.2.2) (fun k h x j hj hx hk=>?_) (fun k h x hx=>?_) (by omega) (s:=(p8.1,aH.mk r15.1 r15.2.1 (-1),aB.mk 4294967296 4294967296 4294967296,aB.mk 0 0 0,false,aG.mk (aB.mk 0 0 0) 0 0 (aB.mk 0 0 0) (-1))) (h:=fun i=>(st i,t i)) ⟨⟨h15,aQ1,aHR,hp8.1⟩,rfl⟩
  ·simp only [eE,aS,dt (show (j:Int)≤v.gN by omega),cond_true]
   simp only [hcon]
   refine TU.t (P:=fun r=>r=true) (by cases x.2.2.2.2.1 <;> exact ⟨_,rfl,rfl⟩) fun p26 h26=>?_
   rw [h26]
   simp only [cond_true]
   obtain ⟨⟨x1,x2,x3,x4⟩,x5⟩:=hx
   refine TU.bind (aSb hN hr hsw heq hcon hfit x1 x2 x3 (j:Int) x.2.2.2.2.1 x.2.2.2.2.2 (fun i=>(h i).1) x4 (fun i=>(h i).2)) fun a ha r hr'=>?_
   have h1:∃ (y t1:ι→Int),∀ i,r i=(a.1,a.2.1,a.2.2.1,a.2.2.2.1,a.2.2.2.2.1,y i,a.2.2.2.2.2,swp gl (t1 i)):=⟨fun i=>(hr' i).choose,fun i=>(hr' i).choose_spec.choose,fun i=>(hr' i).choose_spec.choose_spec⟩
   obtain ⟨y,t1,e1⟩:=h1
   simp only [e1]
   rw [eG (by omega)]
   obtain ⟨⟨a1,a2,a3,a4⟩,a5,a6⟩:=ha
   refine hk (a.2.2.2.2.2,a.1,a.2.1,a.2.2.1,a.2.2.2.1,a.2.2.2.2.1) (fun i=>(aJ.mk (h i).1.gK (y i) (I64 ((h i).1.gL+1)),t1 i)) ⟨⟨a1,a2,a3,a4⟩,x5.trans ?_⟩
   dsimp only
   cases ho:x.2.2.2.2.1 with
   | true=>
    obtain ⟨b1,b2,b3⟩:=a5 ho
    rw [b1,b2,b3,show N - j=(N - j - 1)+1 by omega,sX,show N - (j+1)=(N - (j+1) - 1)+1 by omega,sX]
   | false=>
    obtain ⟨q,q1,q2,q3,q4,q5⟩:=a6 ho
    rw [show N - j=(N - (j+1))+1 by omega,aBl,dt (show (j:Int)≤v.gN by omega)]
    simp only [Bool.not_false,cond_true,q1,Option.bind_some]
    rw [eG (by omega),q2,q3,q4]
    cases hq:q.2.2.2.1 with
    | true=>rw [show N - (j+1)=(N - (j+1) - 1)+1 by omega,sX,sX]
    | false=>
     obtain ⟨c1,c2⟩:=q5 hq
     rw [c1,c2]
  ·simp only [eE,aS,df (show ¬ (n:Int)≤v.gN by omega),cond_false,Option.bind_some]
   refine TU.ret x ?_ fun i=>⟨_,_,_,rfl⟩
   rw [hx.2,show N - n=(N - n - 1)+1 by omega,aBl,df (show ¬ (n:Int)≤v.gN by omega)]
   rfl
 ·have h1:∃ (st':ι→aJ) (t':ι→Int) (dd:ι→Int),∀ i,r i=(st' i,swp gl (t' i),a.1,a.2.1,a.2.2.1,a.2.2.2.1,dd i,a.2.2.2.2.1,a.2.2.2.2.2):=⟨fun i=>(hr' i).choose,fun i=>(hr' i).choose_spec.choose,fun i=>(hr' i).choose_spec.choose_spec.choose,fun i=>(hr' i).choose_spec.choose_spec.choose_spec⟩
  obtain ⟨st',t',dd,e1⟩:=h1
  simp only [e1]
  refine TU.ret (aG.mk a.2.2.2.1 a.2.2.2.2.2.gD2 a.2.2.2.2.2.gN a.2.2.2.2.2.gD3 a.2.2.2.2.2.gB9,0) ⟨fun _=>⟨rfl,?_⟩,fun h=>absurd inr h⟩ fun i=>⟨st' i,t' i,rfl⟩
  unfold aC2
  rw [hpix,e15,Option.bind_some,ha,Option.bind_some]
end
section
variable {ι:Type} {N:Nat} (hN:1000000000000 < N) {b:List (List aD)} {s:aF} {v:aI} {sky:aB} (hr:Rdy b s v sky)
include hN hr
theorem aOe {bv:aY} {gl:List aE} (hbv:xA gl.length bv) (htr:tY s.gE bv) (hgl:gl=s.gE) (hcon:v.gB2=false) (x y z:Int) (st:ι→aJ) (t:ι→Int) :
  TU (fun i=>eS N b x y z s v sky (st i) (wlk bv gl (t i))) (fun a:aG×Int=>(inV v x y z→a.2=0∧aC2 N b s v sky x y z=some a.1)∧(¬ inV v x y z→a=(aG.mk (aB.mk 0 0 0) 0 0 (aB.mk 0 0 0) 0,2))) (fun i a r=>∃ st' t',r=(st',wlk bv gl t',a.1,a.2)):=by
 unfold eS sW
 simp only [aS,Option.bind_some]
 refine TU.cond (fun hc=>TU.ret (aG.mk (aB.mk 0 0 0) 0 0 (aB.mk 0 0 0) 0,2) ⟨fun h=>?_,fun _=>rfl⟩ fun i=>⟨st i,t i,rfl⟩) (fun hc=>?_)
 ·exfalso
  obtain ⟨⟨h1,h2⟩,⟨h3,h4⟩,h5,h6⟩:=h
  rw [df (show ¬ x < 0 by omega),df (show ¬ x≥v.gW by omega),df (show ¬ y < 0 by omega),df (show ¬ y≥v.gH by omega),df (show ¬ z < 0 by omega),df (show ¬ z≥v.gD0 by omega)] at hc
  cases hc
 have inr:inV v x y z:=by
  have oo:∀ {a:Prop} [Decidable a] {b:Bool},cond b true (decide a)=false→b=false∧¬ a:=by
   intro a _ b h
   cases b with
   | true=>cases h
   | false=>exact ⟨rfl,of_decide_eq_false h⟩
  obtain ⟨hc,c6⟩:=oo hc
  obtain ⟨hc,c5⟩:=oo hc
  obtain ⟨hc,c4⟩:=oo hc
  obtain ⟨hc,c3⟩:=oo hc
  obtain ⟨hc,c2⟩:=oo hc
  have c1:=of_decide_eq_false hc
  exact ⟨⟨by omega,by omega⟩,⟨by omega,by omega⟩,by omega,by omega⟩
 generalize hpix:I64 (I64 (y*v.gW)+x)=pix
 refine TU.c (P:=fun p:aA×Vector Int 4=>mM N v.gS pix z p.1∧p.2=#v[drV N v.gS pix z 0 0,drV N v.gS pix z 0 1,drV N v.gS pix z 0 2,drV N v.gS pix z 0 3]) ?_ fun p8 hp8=>?_
 ·have main:∀ (k j:Nat) (src:aA) (q:Vector Int 4),4 - j < k→j≤4→mM N v.gS pix z src→(∀ i,(h:i < 4)→i < j→q[i]=drV N v.gS pix z 0 (i:Int))→TC (fun i=>iB N b s v sky (st i) (wlk bv gl (t i)) k src q (j:Int)) (fun p:aA×Vector Int 4=>mM N v.gS pix z p.1∧p.2=#v[drV N v.gS pix z 0 0,drV N v.gS pix z 0 1,drV N v.gS pix z 0 2,drV N v.gS pix z 0 3]):=by
   intro k
   induction k with
   | zero=>intro j src q h;omega
   | succ k ih=>
    intro j src q hk hj hs hq
    simp only [iB]
    refine TC.cond (fun hc=>?_) (fun hc=>TC.ret _ ⟨hs,?_⟩)
    ·have hj4:j < 4:=by have:=of_decide_eq_true hc;omega
     refine TC.bind (aDz (by omega) _ _ _ _ _ _ _ _ hs _) fun r12 h12=>TC.t (T.inRO (by omega) (by omega)) fun _ _=>TC.t (T.vgI hj4) fun _ _=>?_
     rw [eG (by omega)]
     refine ih (j+1) _ _ (by omega) (by omega) h12.2 fun i hi hij=>?_
     rw [Int.toNat_natCast,Vector.getElem_setIfInBounds hi]
     by_cases c:j=i
     ·subst c;rw [if_pos rfl,h12.1]
     ·rw [if_neg c];exact hq i hi (by omega)
    ·have:j=4:=by have:=of_decide_eq_false hc;omega
     subst this
     exact vec4 (hq 0 (by decide) (by decide)) (hq 1 (by decide) (by decide)) (hq 2 (by decide) (by decide)) (hq 3 (by decide) (by decide))
  exact main N 0 _ _ (by omega) (by decide) ⟨rfl,rfl,rfl,rfl,fun h=>by cases h⟩ fun i _ h=>absurd h (by omega)
 refine TU.te (rayN (by omega) _ _ _ _ _ _) fun r15 e15 h15=>?_
 rw [hp8.2] at e15
 obtain ⟨_,_,⟨d0,d8⟩,_⟩:=hr.view
 obtain ⟨n,hn⟩:=Int.eq_ofNat_of_zero_le (show 0≤v.gN+1 by omega)
 refine TU.bind (P:=fun a:aA×aH×aB×aB×Bool×aG=>aBl N (dK N s.gE) (drV N v.gS pix z) b s v.gN sky N (aH.mk r15.1 r15.2.1 (-1)) (aB.mk 4294967296 4294967296 4294967296) (aB.mk 0 0 0) 0 false (aG.mk (aB.mk 0 0 0) 0 0 (aB.mk 0 0 0) (-1))=some (a.2.2.2.1,a.2.2.2.2.2)) (S:=fun i a r=>∃ (st':aJ) (t':Int),∃ dd:Int,r=(st',wlk bv gl t',a.1,a.2.1,a.2.2.1,a.2.2.2.1,dd,a.2.2.2.2.1,a.2.2.2.2.2)) ?_ fun a ha r hr'=>?_
 ·refine TU.loop0 (n:=n) (fun j (x:aA×aH×aB×aB×Bool×aG) (h:ι→aJ×Int)=>(aEg x.2.1∧vin x.2.2.1∧vin x.2.2.2.1∧mM N v.gS pix z x.1)∧aBl N (dK N s.gE) (drV N v.gS pix z) b s v.gN sky N (aH.mk r15.1 r15.2.1 (-1)) (aB.mk 4294967296 4294967296 4294967296) (aB.mk 0 0 0) 0 false (aG.mk (aB.mk 0 0 0) 0 0 (aB.mk 0 0 0) (-1))=aBl N (dK N s.gE) (drV N v.gS pix z) b s v.gN sky (N - j) x.2.1 x.2.2.1 x.2.2.2.1 (j:Int) x.2.2.2.2.1 x.2.2.2.2.2) (F:=fun i k (h:aJ×Int) (x:aA×aH×aB×aB×Bool×aG) j=>eW N v b s sky k h.1 (wlk bv gl h.2) x.1 x.2.1 x.2.2.1 x.2.2.2.1 j x.2.2.2.2.1 x.2.2.2.2.2) (fun k h x j hj hx hk=>?_) (fun k h x hx=>?_) (by omega) (s:=(p8.1,aH.mk r15.1 r15.2.1 (-1),aB.mk 4294967296 4294967296 4294967296,aB.mk 0 0 0,false,aG.mk (aB.mk 0 0 0) 0 0 (aB.mk 0 0 0) (-1))) (h:=fun i=>(st i,t i)) ⟨⟨h15,aQ1,aHR,hp8.1⟩,rfl⟩
  ·simp only [eW,aS,dt (show (j:Int)≤v.gN by omega),cond_true]
   refine TU.t (P:=fun q=>q=(!x.2.2.2.2.1)) (by rw [hcon];cases x.2.2.2.2.1 <;> exact ⟨_,rfl,rfl⟩) fun p26 h26=>TU.cond (fun _=>?_) (fun hc=>TU.ret x ?_ fun i=>⟨_,_,_,rfl⟩)
   case refine_2=>
    have ho:x.2.2.2.2.1=true:=by cases h:x.2.2.2.2.1 with
     | true=>rfl
     | false=>rw [h26,h] at hc;cases hc
    obtain ⟨_,x5⟩:=hx
    rw [x5,ho,show N - j=(N - j - 1)+1 by omega,sX]
   obtain ⟨⟨x1,x2,x3,x4⟩,x5⟩:=hx
   refine TU.bind (aSm hN hr hbv htr hgl hcon x1 x2 x3 (j:Int) x.2.2.2.2.1 x.2.2.2.2.2 (fun i=>(h i).1) x4 (fun i=>(h i).2)) fun a ha r hr'=>?_
   have h1:∃ (y t1:ι→Int),∀ i,r i=(a.1,a.2.1,a.2.2.1,a.2.2.2.1,a.2.2.2.2.1,y i,a.2.2.2.2.2,wlk bv gl (t1 i)):=⟨fun i=>(hr' i).choose,fun i=>(hr' i).choose_spec.choose,fun i=>(hr' i).choose_spec.choose_spec⟩
   obtain ⟨y,t1,e1⟩:=h1
   simp only [e1]
   rw [eG (by omega)]
   obtain ⟨⟨a1,a2,a3,a4⟩,a5,a6⟩:=ha
   refine hk (a.2.2.2.2.2,a.1,a.2.1,a.2.2.1,a.2.2.2.1,a.2.2.2.2.1) (fun i=>(aJ.mk (h i).1.gK (y i) (I64 ((h i).1.gL+1)),t1 i)) ⟨⟨a1,a2,a3,a4⟩,x5.trans ?_⟩
   dsimp only
   cases ho:x.2.2.2.2.1 with
   | true=>
    obtain ⟨b1,b2,b3⟩:=a5 ho
    rw [b1,b2,b3,show N - j=(N - j - 1)+1 by omega,sX,show N - (j+1)=(N - (j+1) - 1)+1 by omega,sX]
   | false=>
    obtain ⟨q,q1,q2,q3,q4,q5⟩:=a6 ho
    rw [show N - j=(N - (j+1))+1 by omega,aBl,dt (show (j:Int)≤v.gN by omega)]
    simp only [Bool.not_false,cond_true,q1,Option.bind_some]
    rw [eG (by omega),q2,q3,q4]
    cases hq:q.2.2.2.1 with
    | true=>rw [show N - (j+1)=(N - (j+1) - 1)+1 by omega,sX,sX]
    | false=>
     obtain ⟨c1,c2⟩:=q5 hq
     rw [c1,c2]
  ·simp only [eW,aS,df (show ¬ (n:Int)≤v.gN by omega),cond_false,Option.bind_some]
   refine TU.ret x ?_ fun i=>⟨_,_,_,rfl⟩
   rw [hx.2,show N - n=(N - n - 1)+1 by omega,aBl,df (show ¬ (n:Int)≤v.gN by omega)]
   rfl
 ·have h1:∃ (st':ι→aJ) (t':ι→Int) (dd:ι→Int),∀ i,r i=(st' i,wlk bv gl (t' i),a.1,a.2.1,a.2.2.1,a.2.2.2.1,dd i,a.2.2.2.2.1,a.2.2.2.2.2):=⟨fun i=>(hr' i).choose,fun i=>(hr' i).choose_spec.choose,fun i=>(hr' i).choose_spec.choose_spec.choose,fun i=>(hr' i).choose_spec.choose_spec.choose_spec⟩
  obtain ⟨st',t',dd,e1⟩:=h1
  simp only [e1]
  refine TU.ret (aG.mk a.2.2.2.1 a.2.2.2.2.2.gD2 a.2.2.2.2.2.gN a.2.2.2.2.2.gD3 a.2.2.2.2.2.gB9,0) ⟨fun _=>⟨rfl,?_⟩,fun h=>absurd inr h⟩ fun i=>⟨st' i,t' i,rfl⟩
  unfold aC2
  rw [hpix,e15,Option.bind_some,ha,Option.bind_some]
end
def lU (t:aE):Bool:=(eK .u8 t.gB1 15) != 0
def xG (R:List aE) (i:Int):Int:=(((R.take i.toNat).filter lU).length:Int)
theorem aIC {R:List aE} {i:Nat} {t:aE} (h:R[i]? = some t) (hk:lU t=true):(R.filter lU)[((R.take i).filter lU).length]? = some t:=by
 have:R=R.take i++t :: R.drop (i+1):=by
  obtain ⟨hi,e⟩:=List.getElem?_eq_some_iff.1 h
  rw [← e,List.getElem_cons_drop,List.take_append_drop]
 have e2:R.filter lU=(R.take i).filter lU++t :: (R.drop (i+1)).filter lU:=by
  conv=>lhs;rw [this]
  rw [List.filter_append,List.filter_cons,if_pos hk]
 rw [e2,List.getElem?_append_right (by omega),Nat.sub_self];rfl
theorem aF2 {R:List aE} {i j:Nat} {t:aE} (h:R[i]? = some t) (hk:lU t=true) (hij:i < j):((R.take i).filter lU).length < ((R.take j).filter lU).length:=by
 have h1:R.take (i+1)=R.take i++[t]:=lL h
 have h2:((R.take (i+1)).filter lU).length=((R.take i).filter lU).length+1:=by
  rw [h1,List.filter_append,List.length_append,List.filter_cons,if_pos hk];rfl
 have h3:((R.take (i+1)).filter lU).length≤((R.take j).filter lU).length:=by
  have:R.take (i+1)=(R.take j).take (i+1):=by rw [List.take_take];congr 1;omega
  rw [this]
  exact ((List.take_sublist _ _).filter lU).length_le
 omega
theorem aMH {R:List aE}:∀ {j:Nat},j < (R.filter lU).length→∃ i:Nat,i < R.length∧∃ t,R[i]? = some t∧lU t=true∧((R.take i).filter lU).length=j:=by
 induction R with
 | nil=>intro j h;simp at h
 | cons a R ih=>
  intro j h
  cases ha:lU a with
  | true=>
   cases j with
   | zero=>exact ⟨0,by simp,a,rfl,ha,by simp⟩
   | succ j=>
    rw [List.filter_cons,if_pos ha,List.length_cons] at h
    obtain ⟨i,h1,t,h2,h3,h4⟩:=ih (j:=j) (by omega)
    exact ⟨i+1,by simp;omega,t,by simpa using h2,h3,by rw [List.take_succ_cons,List.filter_cons,if_pos ha,List.length_cons,h4]⟩
  | false=>
   rw [List.filter_cons,if_neg (by simp [ha])] at h
   obtain ⟨i,h1,t,h2,h3,h4⟩:=ih h
   exact ⟨i+1,by simp;omega,t,by simpa using h2,h3,by rw [List.take_succ_cons,List.filter_cons,if_neg (by simp [ha]),h4]⟩
def SkR (R:List aE) (s s':Int):Prop:=∀ i:Int,0≤i→∀ t,R[i.toNat]? = some t→lU t=true→((i==s)=(xG R i==s'))
theorem sk0 (R:List aE):SkR R (-1) (-1):=by
 intro i hi t _ _
 have a:(i == -1)=false:=by simp;omega
 have b:(xG R i == -1)=false:=by simp;unfold xG;omega
 rw [a,b]
theorem skI {R:List aE} {x:Int} (hx:0≤x) {t:aE} (ht:R[x.toNat]? = some t) (hk:lU t=true):SkR R x (xG R x):=by
 intro i hi u hu hku
 rw [Bool.eq_iff_iff,beq_iff_eq,beq_iff_eq]
 constructor
 ·intro e;rw [e]
 ·intro e
  unfold xG at e
  have e':((R.take i.toNat).filter lU).length=((R.take x.toNat).filter lU).length:=by omega
  by_cases c:i.toNat < x.toNat
  ·have:=aF2 hu hku c;omega
  ·by_cases c2:x.toNat < i.toNat
   ·have:=aF2 ht hk c2;omega
   ·omega
def msk (m:Int):Prop:=m=9∨m=4∨m=2
theorem aPC {m:Int} (hm:msk m) {t:aE} (h:lU t=false):(eK .u8 t.gB1 m)=0:=by
 have h15:(eK .u8 t.gB1 15)=0:=by unfold lU at h;simpa using h
 have key:∀ x:BitVec 8,x &&& 15#8=0#8→x &&& 9#8=0#8∧x &&& 4#8=0#8∧x &&& 2#8=0#8:=by decide +kernel
 have e:∀ k:Int,eK .u8 t.gB1 k=IntKind.u8.wrap ((BitVec.ofInt 8 t.gB1 &&& BitVec.ofInt 8 k).toNat:Int):=fun k=>rfl
 have w:∀ y:BitVec 8,IntKind.u8.wrap ((y.toNat:Nat):Int)=(y.toNat:Int):=by decide +kernel
 have z:BitVec.ofInt 8 t.gB1 &&& 15#8=0#8:=by
  rw [e 15,w] at h15
  apply BitVec.eq_of_toNat_eq
  have:((BitVec.ofInt 8 t.gB1 &&& BitVec.ofInt 8 15).toNat:Int)=0:=h15
  have e15:BitVec.ofInt 8 15=15#8:=by decide
  rw [e15] at this
  show (BitVec.ofInt 8 t.gB1 &&& 15#8).toNat=0
  omega
 obtain ⟨a,b,c⟩:=key _ z
 rcases hm with rfl | rfl | rfl
 ·rw [e 9,show BitVec.ofInt 8 9=9#8 by decide,a];rfl
 ·rw [e 4,show BitVec.ofInt 8 4=4#8 by decide,b];rfl
 ·rw [e 2,show BitVec.ofInt 8 2=2#8 by decide,c];rfl
theorem aJ5 {N:Nat} {R:List aE} {o d:aC} {m s i:Int} {y:aL} (hm:msk m) (h:rP N R o d m s i=some y):∃ t,R[i.toNat]? = some t∧lU t=true:=by
 unfold rP at h
 cases ht:R[i.toNat]? with
 | none=>rw [ht] at h;cases h
 | some t=>
  refine ⟨t,rfl,?_⟩
  cases hk:lU t with
  | true=>rfl
  | false=>
   rw [ht] at h
   dsimp only at h
   rw [aPC hm hk] at h
   cases h
theorem aFM {N:Nat} {R:List aE} {o d:aC} {m s s' i:Int} (hs:SkR R s s') (hi:0≤i) {t:aE} (ht:R[i.toNat]? = some t) (hk:lU t=true):rP N (R.filter lU) o d m s' (xG R i)=rP N R o d m s i:=by
 unfold rP
 rw [ht,show (xG R i).toNat=((R.take i.toNat).filter lU).length by unfold xG;omega,aIC ht hk,hs i hi t ht hk]
theorem aK1 {R:List aE} {i:Int} {t:aE} (ht:R[i.toNat]? = some t) (hk:lU t=true):0≤xG R i∧xG R i < ((R.filter lU).length:Int):=by
 have:=aIC ht hk
 obtain ⟨q,_⟩:=List.getElem?_eq_some_iff.1 this
 unfold xG
 omega
theorem aOP {N:Nat} {R:List aE} {o d:aC} {m s s':Int} (hm:msk m) (hs:SkR R s s') {x:Int} {mt:aL} (h:aBL N R o d m s x mt) {x':Int} {mt':aL} (h':aBL N (R.filter lU) o d m s' x' mt'):mt'=mt∧((x = -1∧x' = -1)∨(0≤x∧x'=xG R x∧∃ t,R[x.toNat]? = some t∧lU t=true)):=by
 have sur:∀ j' y,(0≤j'∧j' < ((R.filter lU).length:Int))→rP N (R.filter lU) o d m s' j'=some y→∃ j:Int,(0≤j∧j < (R.length:Int))∧(∃ t,R[j.toNat]? = some t∧lU t=true)∧xG R j=j'∧rP N R o d m s j=some y:=by
  intro j' y hj hy
  obtain ⟨j,a1,t,a2,a3,a4⟩:=aMH (R:=R) (j:=j'.toNat) (by omega)
  have e:xG R (j:Int)=j':=by unfold xG;rw [Int.toNat_natCast];omega
  refine ⟨(j:Int),by omega,⟨t,a2,a3⟩,e,?_⟩
  rw [← aFM (i:=(j:Int)) hs (by omega) a2 a3,e]
  exact hy
 rcases h with ⟨a1,a2,a3⟩ | ⟨a1,a2,a3⟩
 ·have n:aBL N (R.filter lU) o d m s' (-1) (aL.mk 0 0 0 0):=by
   refine Or.inl ⟨rfl,rfl,fun j' hj=>?_⟩
   cases hh:rP N (R.filter lU) o d m s' j' with
   | none=>rfl
   | some y=>
    obtain ⟨j,b1,_,_,b4⟩:=sur j' y hj hh
    rw [a3 j b1] at b4;cases b4
  obtain ⟨e1,e2⟩:=h'.uniq n
  exact ⟨e2.trans a2.symm,Or.inl ⟨a1,e1⟩⟩
 ·obtain ⟨t,t1,t2⟩:=aJ5 hm a2
  have n:aBL N (R.filter lU) o d m s' (xG R x) mt:=by
   refine Or.inr ⟨aK1 t1 t2,by rw [aFM hs a1.1 t1 t2];exact a2,fun j' hj y hy=>?_⟩
   obtain ⟨j,b1,⟨u,u1,u2⟩,b3,b4⟩:=sur j' y hj hy
   rcases a3 j b1 y b4 with e | e
   ·left;rw [← b3,e]
   ·right
    unfold rE at *
    rcases e with e | ⟨e,e'⟩
    ·exact Or.inl e
    ·refine Or.inr ⟨e,?_⟩
     rw [← b3]
     have:=aF2 (j:=j.toNat) t1 t2 (by omega)
     unfold xG;omega
  obtain ⟨e1,e2⟩:=h'.uniq n
  exact ⟨e2,Or.inr ⟨a1.1,e1,t,t1,t2⟩⟩
theorem aQd {N:Nat} {R:List aE} {o d:aC} {m s s':Int} {w:Bool} (hm:msk m) (hs:SkR R s s') {r r':Bool} (h:aG7 N R o d m s w r) (h':aG7 N (R.filter lU) o d m s' w r'):r'=r:=by
 unfold aG7 at h h'
 rw [Bool.eq_iff_iff,h,h']
 constructor
 ·rintro ⟨j',hj,y,hy,g⟩
  obtain ⟨j,a1,t,a2,a3,a4⟩:=aMH (R:=R) (j:=j'.toNat) (by omega)
  have e:xG R (j:Int)=j':=by unfold xG;rw [Int.toNat_natCast];omega
  exact ⟨(j:Int),by omega,y,by rw [← aFM (i:=(j:Int)) hs (by omega) a2 a3,e];exact hy,g⟩
 ·rintro ⟨j,hj,y,hy,g⟩
  obtain ⟨t,t1,t2⟩:=aJ5 hm hy
  exact ⟨xG R j,aK1 t1 t2,y,by rw [aFM hs hj.1 t1 t2];exact hy,g⟩
theorem qQ {α β:Type} {o:Option α} {f:α→Option β} {r:β} (h:Option.bind o f=some r):∃ a,o=some a∧f a=some r:=by
 cases o with
 | none=>cases h
 | some a=>exact ⟨a,rfl,h⟩
structure Two (N:Nat) (b b':List (List aD)) (s s':aF):Prop where
 tris:s'.gE=s.gE.filter lU
 few:s.gE.length≤20
 mats:∀ t∈s.gE,idx s'.gA5 t.gC1=idx s.gA5 t.gC1
 levs:∀ t∈s.gE,0≤t.gA6→idx b' t.gA6=idx b t.gA6
 lights:s'.gF=s.gF
def simR (R:List aE) (r r':aH):Prop:=r'.go=r.go∧r'.gd=r.gd∧SkR R r.gC5 r'.gC5
theorem aOs {N:Nat} (hN:4100 < N) {b b':List (List aD)} {s s':aF} (h:Two N b b' s s') (o d:aC) {m:Int} (hm:msk m) {k k':Int} (hk:SkR s.gE k k') :
  ((dK N s'.gE).near o d m k').2=((dK N s.gE).near o d m k).2∧((((dK N s.gE).near o d m k).1 = -1∧((dK N s'.gE).near o d m k').1 = -1)∨(0≤((dK N s.gE).near o d m k).1∧((dK N s'.gE).near o d m k').1=xG s.gE ((dK N s.gE).near o d m k).1∧∃ t,s.gE[((dK N s.gE).near o d m k).1.toNat]? = some t∧lU t=true)):=by
 have l:(s.gE.filter lU).length≤20:=Nat.le_trans (List.length_filter_le _ _) h.few
 rw [h.tris]
 exact aOP hm hk (aFT N hN h.few o d m k) (aFT N hN l o d m k')
theorem aP2 {N:Nat} (hN:4100 < N) {b b':List (List aD)} {s s':aF} (h:Two N b b' s s') (o d:aC) {k k':Int} (hk:SkR s.gE k k') (w:Bool):(dK N s'.gE).any o d 2 k' w=(dK N s.gE).any o d 2 k w:=by
 have l:(s.gE.filter lU).length≤20:=Nat.le_trans (List.length_filter_le _ _) h.few
 rw [h.tris]
 exact aQd (Or.inr (Or.inr rfl)) hk (aI1 N hN h.few o d 2 k w) (aI1 N hN l o d 2 k' w)
def aCV (p:aR) (i:Int):aR:=aR.mk i p.gat p.gn p.gc p.gI p.gB5
theorem meet2 {N:Nat} (hN:4100 < N) {b b':List (List aD)} {s s':aF} (h:Two N b b' s s') {ray ray':aH} (hr:simR s.gE ray ray') (dep:Int) (ov:Bool) (sm:aG) {r:aG×aR×Bool} (e:aAM N (dK N s.gE) b s ray dep ov sm=some r) :
  ∃ i,aAM N (dK N s'.gE) b' s' ray' dep ov sm=some (r.1,aCV r.2.1 i,r.2.2)∧(r.2.2=true→SkR s.gE r.2.1.gi i):=by
 obtain ⟨r1,r2,r3⟩:=hr
 unfold aAM at e ⊢
 obtain ⟨p1,ep,e⟩:=qQ e
 have hm:msk p1:=by cases hd:(dep==0) <;> rw [hd] at ep <;> cases ep;exact Or.inr (Or.inl rfl);exact Or.inl rfl
 rw [ep,Option.bind_some,r1,r2]
 obtain ⟨n1,n2⟩:=aOs hN h ray.go ray.gd hm r3
 rw [n1]
 rcases n2 with ⟨a1,a2⟩ | ⟨a1,a2,t,t1,t2⟩
 ·rw [a1,dt (by decide),cond_true] at e
  cases e
  rw [a2,dt (by decide),cond_true]
  exact ⟨0,rfl,fun h=>by cases h⟩
 ·generalize hx:(dK N s.gE).near ray.go ray.gd p1 ray.gC5=x at *
  rw [df (show ¬ x.1 < 0 by omega),cond_false] at e
  have cl:=aK1 t1 t2
  rw [a2,df (show ¬ xG s.gE x.1 < 0 by omega),cond_false]
  obtain ⟨e4,ee4,e⟩:=qQ e
  have hidx:x.1.toNat < s.gE.length:=by obtain ⟨q,_⟩:=List.getElem?_eq_some_iff.1 t1;exact q
  have t4:e4=t:=by
   have:=(yK a1 hidx).symm.trans ee4
   have h2:=(List.getElem?_eq_getElem hidx).symm.trans t1
   rw [← Option.some.inj this,Option.some.inj h2]
  subst t4
  have tm:e4∈s.gE:=List.mem_of_getElem? t1
  have i':idx s'.gE (xG s.gE x.1)=some e4:=by
   rw [h.tris]
   unfold xG
   rw [dU]
   exact aIC t1 t2
  rw [i',Option.bind_some]
  obtain ⟨r9,e9,e⟩:=qQ e
  obtain ⟨r14,e14,e⟩:=qQ e
  obtain ⟨r15,e15,e⟩:=qQ e
  obtain ⟨r16,e16,e⟩:=qQ e
  obtain ⟨p17,e17,e⟩:=qQ e
  obtain ⟨lv,elv,e⟩:=qQ e
  obtain ⟨r24,e24,e⟩:=qQ e
  obtain ⟨p25,e25,e⟩:=qQ e
  cases e
  rw [e9,Option.bind_some,e14,Option.bind_some,e15,Option.bind_some,e16,Option.bind_some]
  obtain ⟨r18,e18,e17⟩:=qQ e17
  obtain ⟨r19,e19,e17⟩:=qQ e17
  obtain ⟨e20,ee20,e17⟩:=qQ e17
  rw [e18,Option.bind_some,e19,Option.bind_some,h.mats e4 tm,ee20,Option.bind_some]
  have lv':(cond (decide (e4.gA6≥0)) (idx b' e4.gA6) (some []))=some lv:=by
   rw [← elv]
   by_cases c:e4.gA6≥0
   ·rw [dt c,cond_true,cond_true,h.levs e4 tm c]
   ·rw [df c];rfl
  refine ⟨xG s.gE x.1,?_,fun _=>?_⟩
  ·cases hd:(dep==0) with
   | true=>
    rw [hd,cond_true,aS] at e17
    cases e17
    rw [cond_true,aS,Option.bind_some,lv',Option.bind_some]
    rw [hd] at e25
    rw [e24,Option.bind_some]
    dsimp only at e25 ⊢
    rw [e25,Option.bind_some]
    rfl
   | false=>
    rw [hd,cond_false] at e17
    cases e17
    rw [cond_false,Option.bind_some,lv',Option.bind_some]
    rw [hd] at e25
    rw [e24,Option.bind_some]
    dsimp only at e25 ⊢
    rw [e25,Option.bind_some]
    rfl
  ·have:p17.gi=x.1:=by
    cases hd:(dep==0) with
    | true=>rw [hd,cond_true,aS] at e17;cases e17;rfl
    | false=>rw [hd,cond_false] at e17;cases e17;rfl
   show SkR s.gE p17.gi _
   rw [this]
   exact skI a1 t1 t2
theorem aRh {N:Nat} (hN:4100 < N) {b b':List (List aD)} {s s':aF} (h:Two N b b' s s') (dr:Int→Int) (ls:List aT) (pl:aR) {i:Int} (hi:SkR s.gE pl.gi i) (f:aB):∀ (k:Nat) (l:aB) (j:Int),fU N (dK N s'.gE) dr ls (aCV pl i) f k l j=fU N (dK N s.gE) dr ls pl f k l j:=by
 intro k
 induction k with
 | zero=>intro l j;rfl
 | succ k ih=>
  intro l j
  rw [fU,fU]
  have:∀ way w,(dK N s'.gE).any (aCV pl i).gat way 2 (aCV pl i).gi w=(dK N s.gE).any pl.gat way 2 pl.gi w:=fun way w=>aP2 hN h pl.gat way hi w
  simp only [this,ih]
  rfl
theorem step2 {N:Nat} (hN:4100 < N) {b b':List (List aD)} {s s':aF} (h:Two N b b' s s') (dr:Int→Int→Int) (depth:Int) (sky:aB) {ray ray':aH} (hr:simR s.gE ray ray') (f l:aB) (dep:Int) (sm:aG) {q:aH×aB×aB×Bool×aG} (e:xE N (dK N s.gE) dr b s depth sky ray f l dep sm=some q) :
  ∃ q',xE N (dK N s'.gE) dr b' s' depth sky ray' f l dep sm=some q'∧q'.2=q.2∧simR s.gE q.1 q'.1:=by
 unfold xE at e ⊢
 obtain ⟨r1,em,e⟩:=qQ e
 obtain ⟨i,em',hi⟩:=meet2 hN h hr dep false sm em
 rw [em',Option.bind_some]
 dsimp only
 obtain ⟨sm',pl,hit⟩:=r1
 dsimp only at *
 cases hit with
 | false=>
  simp only [Bool.not_false,cond_true] at e ⊢
  obtain ⟨l',el,e⟩:=qQ e
  cases e
  exact ⟨(ray',f,l',true,sm'),by rw [el];rfl,rfl,hr⟩
 | true=>
  have hi:=hi rfl
  simp only [Bool.not_true,cond_false,show (aCV pl i).gB5=pl.gB5 from rfl,show (aCV pl i).gI=pl.gI from rfl,show (aCV pl i).gc=pl.gc from rfl,show (aCV pl i).gn=pl.gn from rfl,show (aCV pl i).gat=pl.gat from rfl,show (aCV pl i).gi=i from rfl] at e ⊢
  rw [h.lights,aRh hN h (dr dep) s.gF pl hi f N l 0]
  cases hho:pl.gB5 with
  | true=>
   rw [hho,cond_true] at e
   rw [cond_true]
   cases h4:(pl.gI.gJ==4) <;> rw [h4] at e <;> cases e <;> exact ⟨_,rfl,rfl,hr⟩
  | false=>
   rw [hho,cond_false] at e
   rw [cond_false]
   cases h4:(pl.gI.gJ==4) with
   | true=>
    rw [h4,cond_true] at e
    rw [cond_true]
    obtain ⟨l',el,e⟩:=qQ e
    cases e
    exact ⟨(ray',f,l',true,sm'),by rw [el];rfl,rfl,hr⟩
   | false=>
    rw [h4,cond_false] at e
    rw [cond_false]
    obtain ⟨l',el,e⟩:=qQ e
    rw [el,Option.bind_some]
    cases hd:(dep==depth) with
    | true=>rw [hd,cond_true] at e;cases e;exact ⟨_,rfl,rfl,hr⟩
    | false=>
     rw [hd,cond_false] at e
     rw [cond_false,hr.2.1]
     obtain ⟨r18,e18,e⟩:=qQ e
     obtain ⟨r19,e19,e⟩:=qQ e
     obtain ⟨p21,e21,e⟩:=qQ e
     cases e
     exact ⟨(aH.mk pl.gat r18.gD4 i,p21.1,l',p21.2,sm'),by rw [e18,Option.bind_some,e19,Option.bind_some,e21,Option.bind_some],rfl,rfl,rfl,hi⟩
theorem go2 {N:Nat} (hN:4100 < N) {b b':List (List aD)} {s s':aF} (h:Two N b b' s s') (dr:Int→Int→Int) (depth:Int) (sky:aB):∀ (k:Nat) (ray ray':aH) (f l:aB) (dep:Int) (ov:Bool) (sm:aG) (r:aB×aG),simR s.gE ray ray'→aBl N (dK N s.gE) dr b s depth sky k ray f l dep ov sm=some r→aBl N (dK N s'.gE) dr b' s' depth sky k ray' f l dep ov sm=some r:=by
 intro k
 induction k with
 | zero=>intro _ _ _ _ _ _ _ _ _ e;cases e
 | succ k ih=>
  intro ray ray' f l dep ov sm r hr e
  rw [aBl] at e ⊢
  cases hc:(cond (decide (dep≤depth)) (!ov) false) with
  | false=>rw [hc] at e;exact e
  | true=>
   rw [hc,cond_true] at e
   rw [cond_true]
   obtain ⟨q,eq,e⟩:=qQ e
   obtain ⟨q',eq',h2,h3⟩:=step2 hN h dr depth sky hr f l dep sm eq
   rw [eq',Option.bind_some,h2]
   exact ih _ _ _ _ _ _ _ _ h3 e
theorem aQz {N:Nat} (hN:4100 < N) {b b':List (List aD)} {s s':aF} (h:Two N b b' s s') (v:aI) (sky:aB) (x y z:Int) {r:aG} (e:aC2 N b s v sky x y z=some r):aC2 N b' s' v sky x y z=some r:=by
 unfold aC2 at e ⊢
 obtain ⟨r15,e15,e⟩:=qQ e
 obtain ⟨q,eq,e⟩:=qQ e
 rw [e15,Option.bind_some,go2 hN h _ v.gN sky N _ _ _ _ _ _ _ _ ⟨rfl,rfl,sk0 _⟩ eq,Option.bind_some]
 exact e
theorem aHH (v:aG):aG.eq v v=true:=by unfold aG.eq aB.eq;simp
theorem aPZ {N:Nat} {s:aF} {n:Int}:∀ (k:Nat) (a:List (List aD)) (i:Int) (b:List (List aD)),0≤i→i=(a.length:Int)→n < 100→a.length≤100→iW N n s k a i=some b→(∀ j,j < a.length→b[j]? = a[j]?)∧(∀ j:Nat,a.length≤j→j < n.toNat→∃ t r,s.gR[j]? = some t∧nG N t=some r∧b[j]? = some r.1)∧(a.length≤n.toNat→b.length=n.toNat):=by
 intro k
 induction k with
 | zero=>intro _ _ _ _ _ _ _ e;cases e
 | succ k ih=>
  intro a i b h0 h1 hn ha e
  rw [iW] at e
  by_cases c:i < n
  ·rw [dt c,cond_true] at e
   obtain ⟨t,e1,e⟩:=qQ e
   obtain ⟨r,e2,e⟩:=qQ e
   rw [lK (by simp;omega),Option.bind_some,bF (by omega) (by omega)] at e
   obtain ⟨g1,g2,g3⟩:=ih _ _ _ (by omega) (by simp;omega) hn (by simp;omega) e
   have i0:i=((a.length:Nat):Int):=h1
   rw [i0,dU] at e1
   have last:b[a.length]? = some r.1:=by
    rw [g1 a.length (by simp),List.getElem?_append_right (by omega),Nat.sub_self];rfl
   refine ⟨fun j hj=>?_,fun j hj hjn=>?_,fun _=>g3 (by simp;omega)⟩
   ·rw [g1 j (by simp;omega),List.getElem?_append_left hj]
   ·by_cases cj:j=a.length
    ·subst cj;exact ⟨t,r,e1,e2,last⟩
    ·exact g2 j (by simp;omega) hjn
  ·rw [df c,cond_false] at e
   cases e
   exact ⟨fun j _=>rfl,(fun j hj hjn=>by omega),fun h=>by omega⟩
theorem keepT (N:Nat) (s:aF) (hs:s.gE.length≤20) (hN:20 < N):dE N (s.gE.length:Int) s N [] 0=some (s.gE.filter lU):=by
 have h:T (dE N (s.gE.length:Int) s N [] 0) (fun r=>r=s.gE.filter lU):=by
  refine T.loopG0 (n:=s.gE.length) (fun i l=>l=(s.gE.take i).filter lU) _ (F:=dE N (s.gE.length:Int) s) (fun k l i hi hl hk=>?_) (fun k l hl=>?_) (by omega) (by simp)
  ·rw [dE,dt (by omega),cond_true,dU,List.getElem?_eq_getElem hi]
   have ll:l.length≤20:=by rw [hl];exact Nat.le_trans (List.length_filter_le _ _) (by rw [List.length_take];omega)
   have tk:s.gE.take (i+1)=s.gE.take i++[s.gE[i]]:=lL (List.getElem?_eq_getElem hi)
   have fl:(s.gE.take (i+1)).filter lU=l++[s.gE[i]].filter lU:=by rw [tk,List.filter_append,hl]
   simp only [aS,Option.bind_some]
   rw [eG (by omega)]
   cases hk':lU s.gE[i] with
   | true=>
    rw [show ((eK .u8 s.gE[i].gB1 15) != 0)=true from hk',cond_true,lK (by simp;omega),Option.bind_some,Option.bind_some]
    refine hk _ ?_
    rw [fl,List.filter_cons,if_pos hk'];rfl
   | false=>
    rw [show ((eK .u8 s.gE[i].gB1 15) != 0)=false from hk',cond_false,Option.bind_some]
    refine hk _ ?_
    rw [fl,List.filter_cons,if_neg (by simp [hk'])];simp
  ·rw [dE,df (by omega),cond_false,hl,List.take_length]
   exact T.ret rfl
 obtain ⟨r,e,rfl⟩:=h
 exact e
theorem aP7 (N:Nat) (hN:1000000000000 < N) (hw:dG N=some true) (s:aF) (v:aI) (at':Vector Int 3):iX N s v at'=some true:=by
 have main:T (iX N s v at') (fun r=>r=true):=by
  unfold iX
  have i0:idx at'.toList 0=some at'[0]:=idxV at' 0 (by decide)
  have i1:idx at'.toList 1=some at'[1]:=idxV at' 1 (by decide)
  have i2:idx at'.toList 2=some at'[2]:=idxV at' 2 (by decide)
  refine T.bind (fewT2 N (by omega) s) fun r1 h0=>?_
  obtain ⟨h1,m8,t4⟩:=h0
  simp only [aS]
  rw [keepT N r1 h1.1 (by omega)]
  simp only [Option.bind_some]
  rw [lK (by simp;omega),Option.bind_some,lK (by simp;omega),Option.bind_some,lK (by simp;omega),Option.bind_some,lK (by simp;omega),Option.bind_some]
  simp only [List.nil_append]
  generalize hs2:aF.mk (r1.gE.filter lU) (r1.gA5++[aQ.mk 1 (#v[0,0,0]) 0]) (r1.gR++[aD.mk 1 ([#v[1,2,3]])]) r1.gF r1.gA1 r1.gA2 r1.gA8 r1.gA9 r1.gTo=s2
  have h2:few s2:=by
   subst hs2
   refine ⟨Nat.le_trans (List.length_filter_le _ _) h1.1,?_,?_,h1.2.2.2.1,fun t ht=>?_⟩
   ·show (r1.gA5++[_]).length≤10;simp;omega
   ·show (r1.gR++[_]).length≤6;simp;omega
   ·rcases List.mem_append.1 ht with ht | ht
    ·exact h1.2.2.2.2 t ht
    ·rw [List.mem_singleton] at ht;subst ht;decide
  have two:∀ {b b':List (List aD)} {sky sky':aB},Rdy b r1 v sky→newL N r1 b sky→newL N s2 b' sky'→Two N b b' r1 s2∧sky'=sky:=by
   intro b b' sky sky' hr l l'
   have lt:s2.gF=r1.gF:=by subst hs2;rfl
   refine ⟨⟨by subst hs2;rfl,h1.1,fun t ht=>?_,fun t ht h=>?_,lt⟩,?_⟩
   ·obtain ⟨q,_⟩:=hr.tri t ht
    rw [show s2.gA5=r1.gA5++[aQ.mk 1 (#v[0,0,0]) 0] by subst hs2;rfl]
    obtain ⟨j,e⟩:∃ j:Nat,t.gC1=(j:Int):=⟨t.gC1.toNat,by omega⟩
    rw [e,dU,dU,List.getElem?_append_left (by omega)]
   ·obtain ⟨_,q,_⟩:=hr.tri t ht
    obtain ⟨_,a2,a3⟩:=aPZ N [] 0 b (by omega) rfl (by omega) (by simp) l.1
    obtain ⟨_,b2,_⟩:=aPZ N [] 0 b' (by omega) rfl (by have:=h2.2.2.1;omega) (by simp) l'.1
    have a3:=a3 (by simp)
    have tx:s2.gR=r1.gR++[aD.mk 1 ([#v[1,2,3]])]:=by subst hs2;rfl
    obtain ⟨j,e⟩:∃ j:Nat,t.gA6=(j:Int):=⟨t.gA6.toNat,by omega⟩
    rw [e,dU,dU]
    obtain ⟨t1,r1',u1,u2,u3⟩:=a2 j (by simp) (by omega)
    obtain ⟨t2,r2',v1,v2,v3⟩:=b2 j (by simp) (by rw [tx];simp;omega)
    rw [tx,List.getElem?_append_left (by omega)] at v1
    obtain rfl:=eF u1 v1
    obtain rfl:=eF u2 v2
    rw [u3,v3]
   ·exact eF (lt▸l'.2) l.2
  obtain ⟨q,eq,hq⟩:=newT N (by omega) r1 v h1
  obtain ⟨q',eq',hq'⟩:=newT N (by omega) s2 v h2
  refine T.eq eq ?_
  have triv:∀ (c:Bool) {α:Type} (f:Unit→Option α),Option.bind (cond c (some ()) (some ())) f=f ():=fun c _ _=>by cases c <;> rfl
  rcases q with e | r | r | r | r
  ·simp only [kK,eq',Option.bind_some,aS]
   rcases q' with e' | r' | r' | r' | r'
   ·dsimp only;rw [triv,hw];exact ⟨true,rfl,rfl⟩
   ·exact hq'.elim
   ·dsimp only;rw [triv,hw];exact ⟨true,rfl,rfl⟩
   ·exact hq'.elim
   ·dsimp only;rw [triv,hw];exact ⟨true,rfl,rfl⟩
  ·exact hq.elim
  ·simp only [kK,eq',Option.bind_some,aS]
   rcases q' with e' | r' | r' | r' | r'
   ·dsimp only;rw [triv,hw];exact ⟨true,rfl,rfl⟩
   ·exact hq'.elim
   ·obtain ⟨⟨z1,z2,z3,hr,hsw,he,hcon,_,hfit,heq⟩,_,l1⟩:=hq
    obtain ⟨⟨y1,y2,y3,hr',hsw',he',_,_,hfit',heq'⟩,_,l2⟩:=hq'
    obtain ⟨A,B,C,lv,sky,gl,e⟩:=r
    obtain ⟨A',B',C',lv',sky',gl',e'⟩:=r'
    dsimp only at *
    subst he he' z1 z2 z3 y1 y2 y3
    obtain ⟨tw,rfl⟩:=two hr l1 l2
    obtain ⟨a,⟨pa,pb⟩,ha⟩:=aOp (ι:=Unit) (N:=N) (by omega) hr hsw heq hcon hfit.2 at'[0] at'[1] at'[2] (fun _=>aJ.mk 0 0 0) (fun _=>0)
    obtain ⟨c,⟨pc,pd⟩,hc⟩:=aOp (ι:=Unit) (N:=N) (by omega) hr' hsw' heq' hcon hfit'.2 at'[0] at'[1] at'[2] (fun _=>aJ.mk 0 0 0) (fun _=>0)
    obtain ⟨_,e1,s1,t1,rfl⟩:=ha ()
    obtain ⟨_,e2,s3,t2,rfl⟩:=hc ()
    have same:a=c:=by
     by_cases g:inV v at'[0] at'[1] at'[2]
     ·obtain ⟨a1,a2⟩:=pa g
      obtain ⟨c1,c2⟩:=pc g
      exact Prod.ext (eF (aQz (by omega) tw v _ _ _ _ a2) c2) (a1.trans c1.symm)
     ·rw [pb g,pd g]
    have sc:aF.mk s2.gE s2.gA5 (r1.gR++[aD.mk 1 ([#v[1,2,3]])]) s2.gF r1.gA1 r1.gA2 r1.gA8 r1.gA9 r1.gTo=s2:=by subst hs2;rfl
    simp only [i0,i1,i2,Option.bind_some,bne_self_eq_false,cond_false]
    refine T.eq e1 ?_
    rw [sc]
    refine T.eq e2 ?_
    rw [same]
    simp only [aHH,beq_self_eq_true,cond_true,hw,Option.bind_some]
    exact ⟨true,rfl,rfl⟩
   ·exact hq'.elim
   ·exact absurd (hq.1.2.2.2.2.2.2.1.symm.trans hq'.1.2.2.2.2.2.2.1) (by decide)
  ·exact hq.elim
  ·simp only [kK,eq',Option.bind_some,aS]
   rcases q' with e' | r' | r' | r' | r'
   ·dsimp only;rw [triv,hw];exact ⟨true,rfl,rfl⟩
   ·exact hq'.elim
   ·exact absurd (hq.1.2.2.2.2.2.2.1.symm.trans hq'.1.2.2.2.2.2.2.1) (by decide)
   ·exact hq'.elim
   ·obtain ⟨⟨z1,z2,z3,hr,⟨hb,hgl⟩,he,hcon,ht⟩,_,l1⟩:=hq
    obtain ⟨⟨y1,y2,y3,hr',⟨hb',hgl'⟩,he',_,ht'⟩,_,l2⟩:=hq'
    obtain ⟨A,B,C,lv,sky,bv0,w,e⟩:=r
    obtain ⟨A',B',C',lv',sky',bv1,w',e'⟩:=r'
    dsimp only at *
    subst he he' hgl hgl' z1 z2 z3 y1 y2 y3
    obtain ⟨tw,rfl⟩:=two hr l1 l2
    obtain ⟨a,⟨pa,pb⟩,ha⟩:=aOe (ι:=Unit) hN hr hb ht rfl hcon at'[0] at'[1] at'[2] (fun _=>aJ.mk 0 0 0) (fun _=>0)
    obtain ⟨c,⟨pc,pd⟩,hc⟩:=aOe (ι:=Unit) hN hr' hb' ht' rfl hcon at'[0] at'[1] at'[2] (fun _=>aJ.mk 0 0 0) (fun _=>0)
    obtain ⟨_,e1,s1,t1,rfl⟩:=ha ()
    obtain ⟨_,e2,s3,t2,rfl⟩:=hc ()
    have same:a=c:=by
     by_cases g:inV v at'[0] at'[1] at'[2]
     ·obtain ⟨a1,a2⟩:=pa g
      obtain ⟨c1,c2⟩:=pc g
      exact Prod.ext (eF (aQz (by omega) tw v _ _ _ _ a2) c2) (a1.trans c1.symm)
     ·rw [pb g,pd g]
    have sc:aF.mk s2.gE s2.gA5 (r1.gR++[aD.mk 1 ([#v[1,2,3]])]) s2.gF r1.gA1 r1.gA2 r1.gA8 r1.gA9 r1.gTo=s2:=by subst hs2;rfl
    simp only [i0,i1,i2,Option.bind_some,bne_self_eq_false,cond_false]
    refine T.eq e1 ?_
    rw [sc]
    refine T.eq e2 ?_
    rw [same]
    simp only [aHH,beq_self_eq_true,cond_true,hw,Option.bind_some]
    exact ⟨true,rfl,rfl⟩
 obtain ⟨r,e,rfl⟩:=main
 exact e
end Go.UK
