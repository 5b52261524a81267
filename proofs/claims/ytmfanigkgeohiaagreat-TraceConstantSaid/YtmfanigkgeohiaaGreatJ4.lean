/- A part of the proof: what the functions of the program compute. -/
import Derived.Test.YtmfanigkgeohiaaGreatJ3
namespace Go.UK
open Go Go.Proofs
set_option maxRecDepth 20000
set_option maxHeartbeats 2000000
set_option linter.all false
theorem nk {N c:Nat} (h:c≤N):∃ k,N=k+c:=⟨N - c,by omega⟩
section
variable {N:Nat} (hN:1000 < N)
include hN
theorem aLv (p:aC):T (fI N p) vin:=by obtain ⟨k,rfl⟩:=nk (show 65≤N by omega);exact zG k p
theorem aMC {n:aB} (hn:vin n) (d:aC):T (jC N n d) vin:=by obtain ⟨k,rfl⟩:=nk (show 70≤N by omega);exact aP2 k hn d
theorem aJn {c:Vector Int 3} (hc:∀ x∈c.toList,0≤x∧x≤65535) {l:List aD} (hl:aEr l) {u:Vector (Vector Int 2) 3} (hu:aNN u) {m:aL} (hm:lB m) (i:Int):T (kB N c l u m i) vin:=by obtain ⟨k,rfl⟩:=nk (show 400≤N by omega);exact aOh k hc hl hu hm i
theorem aNW {o d:aC} {m:aL} (ho:pin o) (hd:pin d) (hm:lB m):T (qC N o d m) pin:=by obtain ⟨k,rfl⟩:=nk (show 3≤N by omega);exact aP5 k ho hd hm
theorem aL7 {v:aB} (hv:vin v):T (oI N v) cS:=by obtain ⟨k,rfl⟩:=nk (show 65≤N by omega);exact aPp k hv
theorem aQ2 {l:aS} (h:vG l) (p:aC) {n:aB} (hn:vin n) (v:Vector Int 2):T (mW N l p n v) (fun r=>vin r.gC1):=by obtain ⟨k,rfl⟩:=nk (show 70≤N by omega);exact lampT k h p hn v
theorem aJs {m:aU} (hm:aBG m) {c n:aB} (hc:vin c) (hn:vin n) (d:aC) (v:Vector Int 2):T (iR N m c n d v) aF0:=by obtain ⟨k,rfl⟩:=nk (show 70≤N by omega);exact aOm k hm hc hn d v
theorem aG6 {f:aB} (hf:vin f) (a:Int):T (eM N f a) (fun r=>vin r.1):=by obtain ⟨k,rfl⟩:=nk (show 70≤N by omega);exact aMG k hf a
theorem aIc (l:List aB) (h:∀ x∈l,vin x) (hl:l.length≤10):T (iE N l) vin:=by obtain ⟨k,rfl⟩:=nk (show 3≤N by omega);exact aDv k l h (by omega) (by omega)
theorem aLn {u v:aB} (hu:vin u) (hv:vin v):kZ N [u,v]=some (aFb u v):=by obtain ⟨k,rfl⟩:=nk (show 3≤N by omega);exact aK5 k hu hv
theorem rayN (c:bP) (w h x y:Int) (v:Vector Int 4):T (rX N c w h x y v) (fun r=>pin r.1∧pin r.2.1):=by obtain ⟨k,rfl⟩:=nk (show 6≤N by omega);exact aOj k c w h x y v
end
theorem idxV {n:Nat} (v:Vector Int n) (i:Nat) (h:i < n):idx v.toList (i:Int)=some v[i]:=by rw [eW];exact aAF v i h
def v0 : aB:=aB.mk 0 0 0
theorem aHN : vin v0:=⟨z64,z64,z64⟩
def aFR (p:aR):Prop:=pin p.gat∧vin p.gn∧vin p.gc∧aBG p.gF
def aEZ (r:aH):Prop:=pin r.go∧pin r.gd
theorem mat0 : aBG (aU.mk 0 (#v[0,0,0]) 0):=⟨by intro x hx;simp at hx;omega,by decide,by decide⟩
section
variable {ι ρ ρ' β:Type}
def TC (A:ι→Option ρ) (P:ρ→Prop):Prop:=∃ a,P a∧∀ i,A i=some a
theorem TU.c {A:ι→Option ρ} {B:ι→ρ→Option ρ'} {P:ρ→Prop} {Q:β→Prop} {S:ι→β→ρ'→Prop} (h:TC A P) (hf:∀ a,P a→TU (fun i=>B i a) Q S):TU (fun i=>Option.bind (A i) (B i)) Q S:=by
 obtain ⟨a,pa,e⟩:=h
 exact TU.e e (hf a pa)
theorem TC.of {o:Option ρ} {A:ι→Option ρ} {P:ρ→Prop} (h:T o P) (e:∀ i,A i=o):TC A P:=by
 obtain ⟨a,rfl,pa⟩:=h
 exact ⟨a,pa,e⟩
theorem TC.bind {A:ι→Option ρ} {B:ι→ρ→Option ρ'} {P:ρ→Prop} {Q:ρ'→Prop} (h:TC A P) (hf:∀ a,P a→TC (fun i=>B i a) Q):TC (fun i=>Option.bind (A i) (B i)) Q:=by
 obtain ⟨a,pa,e⟩:=h
 obtain ⟨b,qb,e'⟩:=hf a pa
 exact ⟨b,qb,fun i=>by show Option.bind (A i) (B i)=_;rw [e i];exact e' i⟩
theorem TC.t {α:Type} {o:Option α} {B:ι→α→Option ρ} {P:α→Prop} {Q:ρ→Prop} (h:T o P) (hf:∀ a,P a→TC (fun i=>B i a) Q):TC (fun i=>Option.bind o (B i)) Q:=by
 obtain ⟨a,rfl,pa⟩:=h
 exact hf a pa
theorem TC.cond {c:Bool} {A B:ι→Option ρ} {Q:ρ→Prop} (h1:c=true→TC A Q) (h2:c=false→TC B Q):TC (fun i=>_root_.cond c (A i) (B i)) Q:=by
 cases c with
 | true=>exact h1 rfl
 | false=>exact h2 rfl
theorem TC.ret (a:ρ) {Q:ρ→Prop} (h:Q a):TC (fun _:ι=>some a) Q:=⟨a,h,fun _=>rfl⟩
end
def noR (_ _ _:Int):Prop:=True
theorem noR_0 (a:Int):noR a a 0:=trivial
theorem noR_t {a b c n m:Int} (_:noR a b n) (_:noR b c m):noR a c (n+m):=trivial
theorem aQq : vin (aB.mk 4294967296 4294967296 4294967296):=⟨⟨by decide,by decide⟩,⟨by decide,by decide⟩,by decide,by decide⟩
theorem aKq {a b n m:Int} (h:pN a b n) (e:n=m):pN a b m:=e▸h
theorem noR_e {a b n m:Int} (h:noR a b n) (e:n=m):noR a b m:=trivial
set_option maxHeartbeats 4000000
section
variable {ι:Type} {N:Nat} (hN:4100 < N) {b:List (List aD)} {s:aG} {v:aI} {sky:aB} (hr:Rdy b s v sky)
include hN
omit hN in
theorem aM1 (x:ι→Bool) (ray:ι→aH) (f l:ι→aB) (dep:Int) (ov:ι→Bool) (sm:ι→aF) (st:ι→aJ) (src:ι→aA) (sw:ι→aK) :
  TC (fun i=>dX N b (x i) (ray i) (f i) (l i) dep (ov i) (sm i) s v sky (st i) (src i) (sw i)) (fun _=>True):=⟨(),trivial,fun i=>rfl⟩
include hr
end
section
variable {ι:Type} {N:Nat} (hN:1000000000000 < N) {b:List (List aD)} {s:aG} {v:aI} {sky:aB} (hr:Rdy b s v sky)
include hN
omit hN in
theorem aNF (x:ι→Bool) (ray:ι→aH) (f l:ι→aB) (dep:Int) (ov:ι→Bool) (sm:ι→aF) (st:ι→aJ) (src:ι→aA) (sw:ι→aM) :
  TC (fun i=>eT N b (x i) (ray i) (f i) (l i) dep (ov i) (sm i) s v sky (st i) (src i) (sw i)) (fun _=>True):=⟨(),trivial,fun i=>rfl⟩
include hr
end
section
variable {ι:Type} {N:Nat} (hN:4100 < N) {b:List (List aD)} {s:aG} {v:aI} {sky:aB} (hr:Rdy b s v sky)
include hN hr
end
section
variable {ι:Type} {N:Nat} (hN:1000000000000 < N) {b:List (List aD)} {s:aG} {v:aI} {sky:aB} (hr:Rdy b s v sky)
include hN hr
end
section
variable {ι:Type} {N:Nat} (hN:4100 < N) {b:List (List aD)} {s:aG} {v:aI} {sky:aB} (hr:Rdy b s v sky)
include hN hr
end
section
variable {ι:Type} {N:Nat} (hN:1000000000000 < N) {b:List (List aD)} {s:aG} {v:aI} {sky:aB} (hr:Rdy b s v sky)
include hN hr
end
theorem wvalE {w w':aP} (h:wok w) (h':wok w') (e:nN w=nN w'):w=w':=by
 obtain ⟨⟨a1,a2⟩,a3,a4⟩:=h
 obtain ⟨⟨b1,b2⟩,b3,b4⟩:=h'
 have e':w.gHi*18446744073709551616+w.gLo=w'.gHi*18446744073709551616+w'.gLo:=e
 cases w;cases w'
 dsimp only at *
 congr 1 <;> omega
theorem cmpA (N:Nat) {w w':aP} (h:wok w) (h':wok w'):nD N w w'=some (if nN w=nN w' then 0 else if nN w < nN w' then -1 else 1):=by
 unfold nD
 have eqv:aP.eq w w'=decide (nN w=nN w'):=by
  rw [Bool.eq_iff_iff,decide_eq_true_eq]
  constructor
  ·intro e
   unfold aP.eq at e
   have:w.gHi=w'.gHi∧w.gLo=w'.gLo:=by simpa using e
   show w.gHi*18446744073709551616+w.gLo=w'.gHi*18446744073709551616+w'.gLo
   rw [this.1,this.2]
  ·intro e
   rw [wvalE h h' e]
   unfold aP.eq;simp
 rw [eqv]
 by_cases e:nN w=nN w'
 ·rw [dt e,if_pos e];rfl
 ·rw [df e,if_neg e,cond_false]
  obtain ⟨⟨a1,a2⟩,a3,a4⟩:=h
  obtain ⟨⟨b1,b2⟩,b3,b4⟩:=h'
  have e1:nN w=w.gHi*18446744073709551616+w.gLo:=rfl
  have e2:nN w'=w'.gHi*18446744073709551616+w'.gLo:=rfl
  simp only [aQ]
  by_cases c:w.gHi < w'.gHi
  ·rw [dt c,cond_true,Option.bind_some,cond_true,if_pos (by omega)]
  ·rw [df c,cond_false]
   by_cases c2:w.gHi=w'.gHi
   ·rw [show (w.gHi==w'.gHi)=true by simpa using c2,cond_true]
    by_cases c3:w.gLo < w'.gLo
    ·rw [dt c3,Option.bind_some,cond_true,if_pos (by omega)]
    ·rw [df c3,Option.bind_some,cond_false,if_neg (by omega)]
   ·rw [show (w.gHi==w'.gHi)=false by simpa using c2,cond_false,Option.bind_some,cond_false,if_neg (by omega)]
theorem aLa (N:Nat) {a b c d:Int} (ha:cS a) (hb:cS b) (hc:cS c) (hd:cS d):(Option.bind (fJ N a b) fun r1=>Option.bind (fJ N c d) fun r2=>Option.bind (nD N r1 r2) fun r3=>some (decide (r3 < 0)))=some (decide (a*b < c*d)):=by
 obtain ⟨w,e,ok,v⟩:=aGL N ha hb
 obtain ⟨w',e',ok',v'⟩:=aGL N hc hd
 rw [e,Option.bind_some,e',Option.bind_some,cmpA N ok ok',Option.bind_some,v,v']
 congr 1
 by_cases h:a*b=c*d
 ·rw [if_pos h,df (show ¬ a*b < c*d by omega)];rfl
 ·rw [if_neg h]
  by_cases h2:a*b < c*d
  ·rw [if_pos h2,dt h2];rfl
  ·rw [if_neg h2,df h2];rfl
theorem aOA (N:Nat) {a b:aW} (ha:qB a) (hb:qB b):dW N a b=some (decide (a.gn*b.gd < b.gn*a.gd)):=by
 unfold dW
 exact aLa N ha.1 hb.2 hb.1 ha.2
theorem aNl (N:Nat) {m n:aL} (hm:lB m) (hn:lB n) (h1:1≤m.gM) (h2:1≤n.gM):qH N m n=some (decide (m.gT*n.gM < n.gT*m.gM)):=by
 unfold qH
 rw [df (show ¬ m.gM < 1 by omega),df (show ¬ n.gM < 1 by omega)]
 simp only [aQ,cond_false]
 exact aLa N hm.1 hn.2.1 hn.1 hm.2.1
theorem aIy {a b A B:Int} (ha:-A≤a∧a≤A) (hb:-B≤b∧b≤B) : -(A*B)≤a*b∧a*b≤A*B:=by
 have hA:0≤A:=by omega
 have hB:0≤B:=by omega
 have e:(a*b).natAbs≤A.natAbs*B.natAbs:=by
  rw [Int.natAbs_mul]
  exact Nat.mul_le_mul (by omega) (by omega)
 have e2:((A.natAbs*B.natAbs:Nat):Int)=A*B:=by rw [Int.natCast_mul,Int.natAbs_of_nonneg hA,Int.natAbs_of_nonneg hB]
 rw [← e2]
 generalize A.natAbs*B.natAbs=M at *
 omega
def aBJ (a b:aC):aC:=⟨a.gX - b.gX,a.gY - b.gY,a.gZ - b.gZ⟩
def tG (a b:aC):aC:=⟨a.gY*b.gZ - a.gZ*b.gY,a.gZ*b.gX - a.gX*b.gZ,a.gX*b.gY - a.gY*b.gX⟩
def aBa (a b:aC):Int:=a.gX*b.gX+a.gY*b.gY+a.gZ*b.gZ
theorem aPE (N:Nat) {a b:aC} {m n:Int} (ha:pwi m a) (hb:pwi n b) (h:m+n≤1000000000000):lA N a b=some (aBJ a b)∧pwi (m+n) (aBJ a b):=by
 unfold pwi at *
 unfold lA aBJ
 rw [bF (by omega) (by omega),bF (by omega) (by omega),bF (by omega) (by omega)]
 exact ⟨rfl,by dsimp only;omega⟩
theorem aL3 (N:Nat) {a b:aC} {m n:Int} (ha:pwi m a) (hb:pwi n b) (h:m*n≤1000000000000000000):mT N a b=some (tG a b)∧pwi (2*(m*n)) (tG a b):=by
 obtain ⟨ax,ay,az⟩:=ha
 obtain ⟨bx,by',bz⟩:=hb
 have q1:=aIy ay bz
 have q2:=aIy az by'
 have q3:=aIy az bx
 have q4:=aIy ax bz
 have q5:=aIy ax by'
 have q6:=aIy ay bx
 unfold mT tG pwi
 simp only [aQ]
 generalize a.gY*b.gZ=c1 at *
 generalize a.gZ*b.gY=c2 at *
 generalize a.gZ*b.gX=c3 at *
 generalize a.gX*b.gZ=c4 at *
 generalize a.gX*b.gY=c5 at *
 generalize a.gY*b.gX=c6 at *
 generalize m*n=M at *
 rw [bF (x:=c1) (by omega) (by omega),bF (x:=c2) (by omega) (by omega),bF (x:=c3) (by omega) (by omega),bF (x:=c4) (by omega) (by omega),bF (x:=c5) (by omega) (by omega),bF (x:=c6) (by omega) (by omega),bF (x:=c1 - c2) (by omega) (by omega),bF (x:=c3 - c4) (by omega) (by omega),bF (x:=c5 - c6) (by omega) (by omega)]
 exact ⟨rfl,by omega⟩
theorem aLh (N:Nat) {a b:aC} {m n:Int} (ha:pwi m a) (hb:pwi n b) (h:m*n≤1000000000000000000):qP N a b=some (aBa a b) ∧ -(3*(m*n))≤aBa a b∧aBa a b≤3*(m*n):=by
 obtain ⟨ax,ay,az⟩:=ha
 obtain ⟨bx,by',bz⟩:=hb
 have q1:=aIy ax bx
 have q2:=aIy ay by'
 have q3:=aIy az bz
 unfold qP aBa
 simp only [aQ]
 generalize a.gX*b.gX=c1 at *
 generalize a.gY*b.gY=c2 at *
 generalize a.gZ*b.gZ=c3 at *
 generalize m*n=M at *
 rw [bF (x:=c1) (by omega) (by omega),bF (x:=c2) (by omega) (by omega),bF (x:=c3) (by omega) (by omega),bF (x:=c1+c2) (by omega) (by omega),bF (x:=c1+c2+c3) (by omega) (by omega)]
 exact ⟨rfl,by omega⟩
def oW (s d e f:aC):aL:=
 let m:aL:=⟨aBa f (tG s e),aBa e (tG d f),aBa s (tG d f),aBa d (tG s e)⟩
 if m.gM < 0 then ⟨-m.gT,-m.gM,-m.gU,-m.gV⟩ else m
theorem cr1 (sx sy sz dx dy dz ex ey ez fx fy fz:Int) :
  (ex*(dy*fz - dz*fy)+ey*(dz*fx - dx*fz)+ez*(dx*fy - dy*fx))*sx+(fx*(sy*ez - sz*ey)+fy*(sz*ex - sx*ez)+fz*(sx*ey - sy*ex))*dx=(sx*(dy*fz - dz*fy)+sy*(dz*fx - dx*fz)+sz*(dx*fy - dy*fx))*ex+(dx*(sy*ez - sz*ey)+dy*(sz*ex - sx*ez)+dz*(sx*ey - sy*ex))*fx:=by
 grind
theorem cr2 (sx sy sz dx dy dz ex ey ez fx fy fz:Int) :
  (ex*(dy*fz - dz*fy)+ey*(dz*fx - dx*fz)+ez*(dx*fy - dy*fx))*sy+(fx*(sy*ez - sz*ey)+fy*(sz*ex - sx*ez)+fz*(sx*ey - sy*ex))*dy=(sx*(dy*fz - dz*fy)+sy*(dz*fx - dx*fz)+sz*(dx*fy - dy*fx))*ey+(dx*(sy*ez - sz*ey)+dy*(sz*ex - sx*ez)+dz*(sx*ey - sy*ex))*fy:=by
 grind
theorem cr3 (sx sy sz dx dy dz ex ey ez fx fy fz:Int) :
  (ex*(dy*fz - dz*fy)+ey*(dz*fx - dx*fz)+ez*(dx*fy - dy*fx))*sz+(fx*(sy*ez - sz*ey)+fy*(sz*ex - sx*ez)+fz*(sx*ey - sy*ex))*dz=(sx*(dy*fz - dz*fy)+sy*(dz*fx - dx*fz)+sz*(dx*fy - dy*fx))*ez+(dx*(sy*ez - sz*ey)+dy*(sz*ex - sx*ez)+dz*(sx*ey - sy*ex))*fz:=by
 grind
theorem aQ3 (s d e f:aC):(oW s d e f).gM*s.gX+(oW s d e f).gT*d.gX=(oW s d e f).gU*e.gX+(oW s d e f).gV*f.gX∧(oW s d e f).gM*s.gY+(oW s d e f).gT*d.gY=(oW s d e f).gU*e.gY+(oW s d e f).gV*f.gY∧(oW s d e f).gM*s.gZ+(oW s d e f).gT*d.gZ=(oW s d e f).gU*e.gZ+(oW s d e f).gV*f.gZ:=by
 obtain ⟨sx,sy,sz⟩:=s
 obtain ⟨dx,dy,dz⟩:=d
 obtain ⟨ex,ey,ez⟩:=e
 obtain ⟨fx,fy,fz⟩:=f
 have h1:=cr1 sx sy sz dx dy dz ex ey ez fx fy fz
 have h2:=cr2 sx sy sz dx dy dz ex ey ez fx fy fz
 have h3:=cr3 sx sy sz dx dy dz ex ey ez fx fy fz
 unfold oW aBa tG
 dsimp only
 generalize (ex*(dy*fz - dz*fy)+ey*(dz*fx - dx*fz)+ez*(dx*fy - dy*fx))=D at *
 generalize (fx*(sy*ez - sz*ey)+fy*(sz*ex - sx*ez)+fz*(sx*ey - sy*ex))=M at *
 generalize (sx*(dy*fz - dz*fy)+sy*(dz*fx - dx*fz)+sz*(dx*fy - dy*fx))=U at *
 generalize (dx*(sy*ez - sz*ey)+dy*(sz*ex - sx*ez)+dz*(sx*ey - sy*ex))=V at *
 split
 ·dsimp only
  simp only [Int.neg_mul]
  omega
 ·exact ⟨h1,h2,h3⟩
structure Geo (o d:aC) (P:Vector aC 3) (m:aL):Prop where
 ho:pwi 65536 o
 hd:pwi 131072 d
 pts:∀ p∈P.toList,pwi 65536 p
 det:1≤m.gM
 num:0 < m.gT
 u:0≤m.gU
 v:0≤m.gV
 uv:m.gU+m.gV≤m.gM
 x:m.gM*(o.gX - P[0].gX)+m.gT*d.gX=m.gU*(P[1].gX - P[0].gX)+m.gV*(P[2].gX - P[0].gX)
 y:m.gM*(o.gY - P[0].gY)+m.gT*d.gY=m.gU*(P[1].gY - P[0].gY)+m.gV*(P[2].gY - P[0].gY)
 z:m.gM*(o.gZ - P[0].gZ)+m.gT*d.gZ=m.gU*(P[1].gZ - P[0].gZ)+m.gV*(P[2].gZ - P[0].gZ)
theorem aPQ {s d e f:aC} {B:Int} (h1:-B≤aBa f (tG s e)∧aBa f (tG s e)≤B) (h2:-B≤aBa e (tG d f)∧aBa e (tG d f)≤B) (h3:-B≤aBa s (tG d f)∧aBa s (tG d f)≤B) (h4:-B≤aBa d (tG s e)∧aBa d (tG s e)≤B) :
  (-B≤(oW s d e f).gT∧(oW s d e f).gT≤B)∧(-B≤(oW s d e f).gM∧(oW s d e f).gM≤B)∧(-B≤(oW s d e f).gU∧(oW s d e f).gU≤B) ∧ -B≤(oW s d e f).gV∧(oW s d e f).gV≤B:=by
 unfold oW
 dsimp only
 split
 ·dsimp only;omega
 ·dsimp only;omega
theorem aMb {s d e f:aC} (h:(oW s d e f).gM≠0):1≤(oW s d e f).gM:=by
 unfold oW at *
 dsimp only at *
 split at h
 ·rename_i c;rw [if_pos c];dsimp only at *;omega
 ·rename_i c;rw [if_neg c];dsimp only at *;omega
theorem hitG (N:Nat) (hN:3 < N) (o d:aC) (P:Vector aC 3):T (pG N o d P) (fun r=>lB r.1∧(r.2=true→Geo o d P r.1)):=by
 unfold pG
 refine T.bind (P:=fun r=>r=false→pwi 65536 o∧pwi 131072 d∧∀ p∈P.toList,pwi 65536 p) ?_ fun p1 h1=>?_
 ·refine T.bind (aJN N o d) fun r2 h2=>?_
  refine T.cond (fun _=>T.ret fun h=>by cases h) (fun hc=>?_)
  obtain ⟨a,b,_⟩:=h2 (by simpa using hc)
  refine T.bind (T.slc3 P) fun s3 h3=>?_
  subst h3
  exact T.bind (aQt N _ (by simpa using hN) (by simp)) fun r4 h4=>T.ret fun e=>⟨a,b,h4 e⟩
 refine T.cond (fun _=>T.ret ⟨wJ,fun h=>by cases h⟩) (fun hc=>?_)
 obtain ⟨ho,hd,hP⟩:=h1 hc
 have q0:=hP _ (aHv P (show 0 < 3 by decide))
 have q1:=hP _ (aHv P (show 1 < 3 by decide))
 have q2:=hP _ (aHv P (show 2 < 3 by decide))
 have i0:idx P.toList 0=some P[0]:=by rw [show (0:Int)=((0:Nat):Int) from rfl,eW];exact aAF P 0 (by decide)
 have i1:idx P.toList 1=some P[1]:=by rw [show (1:Int)=((1:Nat):Int) from rfl,eW];exact aAF P 1 (by decide)
 have i2:idx P.toList 2=some P[2]:=by rw [show (2:Int)=((2:Nat):Int) from rfl,eW];exact aAF P 2 (by decide)
 obtain ⟨E,be⟩:=aPE N q1 q0 (by decide)
 obtain ⟨F,bf⟩:=aPE N q2 q0 (by decide)
 obtain ⟨S,bs⟩:=aPE N ho q0 (by decide)
 obtain ⟨Q,bq⟩:=aL3 N hd bf (by decide)
 obtain ⟨W,bw⟩:=aL3 N bs be (by decide)
 obtain ⟨D1,b1⟩:=aLh N bf bw (by decide)
 obtain ⟨D2,b2⟩:=aLh N be bq (by decide)
 obtain ⟨D3,b3⟩:=aLh N bs bq (by decide)
 obtain ⟨D4,b4⟩:=aLh N hd bw (by decide)
 simp only [i0,i1,i2,E,F,S,Q,W,D1,D2,D3,D4,Option.bind_some]
 have cr:=aQ3 (aBJ o P[0]) d (aBJ P[1] P[0]) (aBJ P[2] P[0])
 have bb:=aPQ (B:=20000000000000000) (s:=aBJ o P[0]) (d:=d) (e:=aBJ P[1] P[0]) (f:=aBJ P[2] P[0]) ⟨by omega,by omega⟩ ⟨by omega,by omega⟩ ⟨by omega,by omega⟩ ⟨by omega,by omega⟩
 have dd:=aMb (s:=aBJ o P[0]) (d:=d) (e:=aBJ P[1] P[0]) (f:=aBJ P[2] P[0])
 refine T.bind (P:=fun p=>p=oW (aBJ o P[0]) d (aBJ P[1] P[0]) (aBJ P[2] P[0])) ?_ fun m' hm'=>?_
 ·unfold oW
  dsimp only
  refine T.cond (fun h=>T.ret ?_) (fun h=>T.ret ?_)
  ·rw [if_pos (of_decide_eq_true h),bF (by omega) (by omega),bF (by omega) (by omega),bF (by omega) (by omega),bF (by omega) (by omega)]
   simp only [Int.zero_sub]
  ·rw [if_neg (of_decide_eq_false h)]
 subst hm'
 simp only [aQ]
 generalize oW (aBJ o P[0]) d (aBJ P[1] P[0]) (aBJ P[2] P[0])=m at *
 obtain ⟨⟨n1,n2⟩,⟨n3,n4⟩,⟨n5,n6⟩,n7,n8⟩:=bb
 have m64:lB m:=⟨⟨by omega,by omega⟩,⟨by omega,by omega⟩,⟨by omega,by omega⟩,by omega,by omega⟩
 rw [bF (x:=m.gU+m.gV) (by omega) (by omega)]
 refine T.cond (fun _=>T.ret ⟨wJ,fun h=>by cases h⟩) (fun hc=>T.ret ⟨m64,fun _=>?_⟩)
 have o5:¬ m.gM=0∧0≤m.gU∧0≤m.gV∧m.gU+m.gV≤m.gM∧0 < m.gT:=by
  have oo:∀ {a:Prop} [Decidable a] {b:Bool},cond b true (decide a)=false→b=false∧¬ a:=by
   intro a _ b h
   cases b with
   | true=>cases h
   | false=>exact ⟨rfl,of_decide_eq_false h⟩
  obtain ⟨hc,c5⟩:=oo hc
  obtain ⟨hc,c4⟩:=oo hc
  obtain ⟨hc,c3⟩:=oo hc
  obtain ⟨hc,c2⟩:=oo hc
  have c1:¬ m.gM=0:=by simpa using hc
  exact ⟨c1,by omega,by omega,by omega,by omega⟩
 obtain ⟨c1,c2,c3,c4,c5⟩:=o5
 exact ⟨ho,hd,hP,dd c1,c5,c2,c3,c4,cr.1,cr.2.1,cr.2.2⟩
theorem conv {D u v a b c X lo hi:Int} (hu:0≤u) (hv:0≤v) (huv:u+v≤D) (ha:lo≤a∧a≤hi) (hb:lo≤b∧b≤hi) (hc:lo≤c∧c≤hi) (hX:X=D*a+u*(b - a)+v*(c - a)):D*lo≤X∧X≤D*hi:=by
 have hw:0≤D - u - v:=by omega
 have e:X=(D - u - v)*a+u*b+v*c:=by rw [hX];grind
 have l1:=Int.mul_le_mul_of_nonneg_left ha.1 hw
 have l2:=Int.mul_le_mul_of_nonneg_left hb.1 hu
 have l3:=Int.mul_le_mul_of_nonneg_left hc.1 hv
 have m1:=Int.mul_le_mul_of_nonneg_left ha.2 hw
 have m2:=Int.mul_le_mul_of_nonneg_left hb.2 hu
 have m3:=Int.mul_le_mul_of_nonneg_left hc.2 hv
 have e1:D*lo=(D - u - v)*lo+u*lo+v*lo:=by grind
 have e2:D*hi=(D - u - v)*hi+u*hi+v*hi:=by grind
 omega
def Thru (o d lo hi:aC) (n D:Int):Prop:=(D*lo.gX≤D*o.gX+n*d.gX∧D*o.gX+n*d.gX≤D*hi.gX)∧(D*lo.gY≤D*o.gY+n*d.gY∧D*o.gY+n*d.gY≤D*hi.gY)∧D*lo.gZ≤D*o.gZ+n*d.gZ∧D*o.gZ+n*d.gZ≤D*hi.gZ
theorem Geo.thru {o d:aC} {P:Vector aC 3} {m:aL} (g:Geo o d P m) {lo hi:aC} (h:∀ p∈P.toList,ple lo p∧ple p hi):Thru o d lo hi m.gT m.gM:=by
 have h0:=h _ (aHv P (show 0 < 3 by decide))
 have h1:=h _ (aHv P (show 1 < 3 by decide))
 have h2:=h _ (aHv P (show 2 < 3 by decide))
 unfold ple at h0 h1 h2
 refine ⟨conv g.u g.v g.uv (a:=P[0].gX) (b:=P[1].gX) (c:=P[2].gX) ⟨h0.1.1,h0.2.1⟩ ⟨h1.1.1,h1.2.1⟩ ⟨h2.1.1,h2.2.1⟩ ?_,conv g.u g.v g.uv (a:=P[0].gY) (b:=P[1].gY) (c:=P[2].gY) ⟨h0.1.2.1,h0.2.2.1⟩ ⟨h1.1.2.1,h1.2.2.1⟩ ⟨h2.1.2.1,h2.2.2.1⟩ ?_,conv g.u g.v g.uv (a:=P[0].gZ) (b:=P[1].gZ) (c:=P[2].gZ) ⟨h0.1.2.2,h0.2.2.2⟩ ⟨h1.1.2.2,h1.2.2.2⟩ ⟨h2.1.2.2,h2.2.2.2⟩ ?_⟩
 ·have:=g.x;rw [Int.mul_sub] at this;omega
 ·have:=g.y;rw [Int.mul_sub] at this;omega
 ·have:=g.z;rw [Int.mul_sub] at this;omega
theorem spanG (N:Nat) (hN:10 < N) {lo hi o d:aC} (hl:pwi 65536 lo) (hh:pwi 65536 hi) (ho:pwi 65536 o) (hd:pwi 131072 d) {n D:Int} (hD:1≤D) (hn:0 < n) (th:Thru o d lo hi n D) :
  T (oJ N lo hi o d) (fun r=>qB r.1∧r.2=true∧0 < r.1.gd∧r.1.gn*D≤n*r.1.gd):=by
 unfold oJ
 have z1:qB (aW.mk 0 1):=⟨z64,by decide,by decide⟩
 have z0:qB (aW.mk 0 0):=⟨z64,z64⟩
 let I:aW×aW×Bool→Prop:=fun s=>(qB s.1∧0 < s.1.gd∧s.1.gn*D≤n*s.1.gd)∧qB s.2.1∧(s.2.2=true→0 < s.2.1.gd∧n*s.2.1.gd≤s.2.1.gn*D)
 refine T.bind (T.loopG0 (n:=3) (fun _ s=>I s) (fun o=>match o with | .inl p=>I p | .inr p=>False) (F:=fun k (s:aW×aW×Bool) i=>jN N lo hi o d k s.1 s.2.1 s.2.2 i) (fun k s i hi' hs hk=>?_) (fun k s hs=>?_) (by omega) (s:=(aW.mk 0 1,aW.mk 0 0,false)) ⟨⟨z1,by decide,by show 0*D≤n*1;omega⟩,z0,fun h=>by cases h⟩) fun q hq=>?_
 ·rw [jN,dt (by omega),cond_true]
  refine T.bind (P:=fun o=>match o with | .inl p=>I (p.1,p.2.1,p.2.2.2) | .inr p=>False) ?_ fun q hq=>?_
  ·refine T.bind (P:=fun e:Vector Int 4=>∃ l h oo dd,e=#v[l,h,oo,dd]∧(-65536≤l∧l≤65536)∧(-65536≤h∧h≤65536)∧(-65536≤oo∧oo≤65536)∧(-131072≤dd∧dd≤131072)∧D*l≤D*oo+n*dd∧D*oo+n*dd≤D*h) ?_ fun e7 h7=>?_
   ·unfold pwi at hl hh ho hd
    have:i=0∨i=1∨i=2:=by omega
    rcases this with rfl | rfl | rfl
    ·exact ⟨_,rfl,_,_,_,_,rfl,hl.1,hh.1,ho.1,hd.1,th.1⟩
    ·exact ⟨_,rfl,_,_,_,_,rfl,hl.2.1,hh.2.1,ho.2.1,hd.2.1,th.2.1⟩
    ·exact ⟨_,rfl,_,_,_,_,rfl,hl.2.2,hh.2.2,ho.2.2,hd.2.2,th.2.2⟩
   obtain ⟨l,h,oo,dd,rfl,b1,b2,b3,b4,t1,t2⟩:=h7
   refine T.bind (T.inRO (by decide) (by decide)) fun _ _=>T.eq (a:=l) rfl (T.bind (T.inRO (by decide) (by decide)) fun _ _=>T.eq (a:=oo) rfl ?_)
   refine T.bind (T.inRO (by decide) (by decide)) fun _ _=>T.eq (a:=h) rfl (T.bind (T.inRO (by decide) (by decide)) fun _ _=>T.eq (a:=oo) rfl ?_)
   refine T.bind (T.inRO (by decide) (by decide)) fun _ _=>T.eq (a:=dd) rfl ?_
   simp only [aQ]
   rw [bF (x:=l - oo) (by omega) (by omega),bF (x:=h - oo) (by omega) (by omega)]
   have near:(l - oo)*D≤n*dd:=by rw [Int.sub_mul,Int.mul_comm l,Int.mul_comm oo];omega
   have far:n*dd≤(h - oo)*D:=by rw [Int.sub_mul,Int.mul_comm h,Int.mul_comm oo];omega
   have nf:l - oo≤h - oo:=by
    have:(l - oo)*D≤(h - oo)*D:=by omega
    exact Int.le_of_mul_le_mul_right this (by omega)
   rw [df (show ¬ l - oo > h - oo by omega),cond_false]
   have r1:∀ a b:Int,(-1000000≤a∧a≤1000000)→(-1000000≤b∧b≤1000000)→qB (aW.mk a b):=fun a b h h'=>⟨⟨by dsimp only;omega,by dsimp only;omega⟩,by dsimp only;omega,by dsimp only;omega⟩
   by_cases d0:dd=0
   ·rw [show (dd==0)=true by simpa using d0,cond_true]
    rw [d0,Int.mul_zero] at near far
    have n0:l - oo≤0:=by
     have:(l - oo)*D≤0*D:=by omega
     exact Int.le_of_mul_le_mul_right this (by omega)
    have f0:0≤h - oo:=by
     have:0*D≤(h - oo)*D:=by omega
     exact Int.le_of_mul_le_mul_right this (by omega)
    rw [df (show ¬ l - oo > 0 by omega),df (show ¬ h - oo < 0 by omega)]
    exact T.ret hs
   ·rw [show (dd==0)=false by simpa using d0,cond_false,Option.bind_some,cond_false,cond_false]
    refine T.cond (fun hc=>?_) (fun hc=>?_)
    ·have dn:=of_decide_eq_true hc
     rw [bF (x:=0 - (h - oo)) (by omega) (by omega),bF (x:=0 - (l - oo)) (by omega) (by omega),bF (x:=0 - dd) (by omega) (by omega)]
     have e1:0 < 0 - dd∧(0 - (h - oo))*D≤n*(0 - dd):=⟨by omega,by rw [Int.sub_mul,Int.mul_sub,Int.zero_mul,Int.mul_zero];omega⟩
     have e2:0 < 0 - dd∧n*(0 - dd)≤(0 - (l - oo))*D:=⟨by omega,by rw [Int.sub_mul,Int.mul_sub,Int.zero_mul,Int.mul_zero];omega⟩
     have g1:=r1 (0 - (h - oo)) (0 - dd) ⟨by omega,by omega⟩ ⟨by omega,by omega⟩
     have g2:=r1 (0 - (l - oo)) (0 - dd) ⟨by omega,by omega⟩ ⟨by omega,by omega⟩
     refine T.bind (P:=fun r=>qB r∧0 < r.gd∧r.gn*D≤n*r.gd) (T.bind (aAJ N hs.1.1 g1) fun _ _=>T.cond (fun _=>T.ret ⟨g1,e1⟩) (fun _=>T.ret hs.1)) fun p24 h24=>?_
     refine T.bind (P:=fun _=>True) (T.cond (fun _=>T.ret trivial) (fun _=>T.bind (aAJ N g2 hs.2.1) fun _ _=>T.ret trivial)) fun p26 _=>?_
     exact T.cond (fun _=>T.ret ⟨h24,g2,fun _=>e2⟩) (fun _=>T.ret ⟨h24,hs.2⟩)
    ·have dp:=of_decide_eq_false hc
     have e1:0 < dd∧(l - oo)*D≤n*dd:=⟨by omega,near⟩
     have e2:0 < dd∧n*dd≤(h - oo)*D:=⟨by omega,far⟩
     have g1:=r1 (l - oo) dd ⟨by omega,by omega⟩ ⟨by omega,by omega⟩
     have g2:=r1 (h - oo) dd ⟨by omega,by omega⟩ ⟨by omega,by omega⟩
     refine T.bind (P:=fun r=>qB r∧0 < r.gd∧r.gn*D≤n*r.gd) (T.bind (aAJ N hs.1.1 g1) fun _ _=>T.cond (fun _=>T.ret ⟨g1,e1⟩) (fun _=>T.ret hs.1)) fun p24 h24=>?_
     refine T.bind (P:=fun _=>True) (T.cond (fun _=>T.ret trivial) (fun _=>T.bind (aAJ N g2 hs.2.1) fun _ _=>T.ret trivial)) fun p26 _=>?_
     exact T.cond (fun _=>T.ret ⟨h24,g2,fun _=>e2⟩) (fun _=>T.ret ⟨h24,hs.2⟩)
  ·cases q with
   | inl p=>rw [eE (by omega)];exact hk (_,_,_) hq
   | inr p=>exact hq.elim
 ·rw [jN,df (by omega),cond_false];exact T.ret hs
 ·cases q with
  | inr p=>exact hq.elim
  | inl p=>
   obtain ⟨⟨a1,a2,a3⟩,a4,a5⟩:=hq
   refine T.bind (P:=fun r=>r=true) (T.cond (fun _=>T.ret rfl) (fun hc=>?_)) fun p32 h32=>T.ret ⟨a1,h32,a2,a3⟩
   have hf:p.2.2=true:=by cases h:p.2.2 with
    | true=>rfl
    | false=>rw [h] at hc;cases hc
   obtain ⟨b1,b2⟩:=a5 hf
   refine T.eq (aOA N a4 a1) (T.ret ?_)
   have:¬ p.2.1.gn*p.1.gd < p.1.gn*p.2.1.gd:=by
    have q1:p.1.gn*D*p.2.1.gd≤n*p.1.gd*p.2.1.gd:=Int.mul_le_mul_of_nonneg_right a3 (by omega)
    have q2:n*p.2.1.gd*p.1.gd≤p.2.1.gn*D*p.1.gd:=Int.mul_le_mul_of_nonneg_right b2 (by omega)
    have q3:(p.1.gn*p.2.1.gd)*D≤(p.2.1.gn*p.1.gd)*D:=by
     have e1:p.1.gn*D*p.2.1.gd=(p.1.gn*p.2.1.gd)*D:=by grind
     have e2:n*p.1.gd*p.2.1.gd=n*p.2.1.gd*p.1.gd:=by grind
     have e3:p.2.1.gn*D*p.1.gd=(p.2.1.gn*p.1.gd)*D:=by grind
     omega
    have:=Int.le_of_mul_le_mul_right q3 (by omega)
    omega
   rw [df this];rfl
def vU (N:Nat) (R:List aE) (o d:aC) (m s i:Int):Option aL:=
 match R[i.toNat]? with
 | none=>none
 | some t=>cond ((eZ .u8 t.gB4 m)==0) none (cond (i==s) none (match pG N o d t.gP with | some (x,true)=>some x | _=>none))
theorem tJ {N:Nat} (hN:3 < N) {R:List aE} {o d:aC} {m s i:Int} {y:aL} (h:vU N R o d m s i=some y):lB y∧∃ t,R[i.toNat]? = some t∧Geo o d t.gP y:=by
 unfold vU at h
 cases ht:R[i.toNat]? with
 | none=>rw [ht] at h;cases h
 | some t=>
  rw [ht] at h
  dsimp only at h
  cases h1:(eZ .u8 t.gB4 m==0) with
  | true=>rw [h1] at h;cases h
  | false=>
   cases h2:(i==s) with
   | true=>rw [h1,h2] at h;cases h
   | false=>
    rw [h1,h2,cond_false,cond_false] at h
    obtain ⟨⟨x,b⟩,e,g1,g2⟩:=hitG N hN o d t.gP
    rw [e] at h
    cases b with
    | false=>cases h
    | true=>cases h;exact ⟨g1,t,rfl,g2 rfl⟩
def sD (x:aL) (i:Int) (y:aL) (j:Int):Prop:=x.gT*y.gM < y.gT*x.gM∨(x.gT*y.gM=y.gT*x.gM∧i < j)
theorem aK9 {a b c d e f:Int} (hd:0 < d) (hf:0 < f) (hb:0 < b) (h:a*d < c*b) (g:c*f≤e*d):a*f < e*b:=by
 have q1:a*d*f < c*b*f:=Int.mul_lt_mul_of_pos_right h hf
 have q2:c*f*b≤e*d*b:=Int.mul_le_mul_of_nonneg_right g (by omega)
 have e1:a*d*f=a*f*d:=by grind
 have e2:c*b*f=c*f*b:=by grind
 have e3:e*d*b=e*b*d:=by grind
 have q3:a*f*d < e*b*d:=by omega
 exact Int.lt_of_mul_lt_mul_right q3 (by omega)
theorem aPR {a b c d e f:Int} (hd:0 < d) (hf:0 < f) (hb:0 < b) (h:a*d≤c*b) (g:c*f < e*d):a*f < e*b:=by
 have q1:a*d*f≤c*b*f:=Int.mul_le_mul_of_nonneg_right h (by omega)
 have q2:c*f*b < e*d*b:=Int.mul_lt_mul_of_pos_right g hb
 have e1:a*d*f=a*f*d:=by grind
 have e2:c*b*f=c*f*b:=by grind
 have e3:e*d*b=e*b*d:=by grind
 have q3:a*f*d < e*b*d:=by omega
 exact Int.lt_of_mul_lt_mul_right q3 (by omega)
theorem aRz {a b c d e f:Int} (hd:0 < d) (h:a*d=c*b) (g:c*f=e*d):a*f=e*b:=by
 have q3:a*f*d=e*b*d:=by
  have e1:a*f*d=a*d*f:=by grind
  have e2:e*b*d=e*d*b:=by grind
  rw [e1,e2,h,← g];grind
 exact Int.eq_of_mul_eq_mul_right (by omega) q3
theorem aOX {x y z:aL} {i j k:Int} (hx:1≤x.gM) (hy:1≤y.gM) (hz:1≤z.gM) (h:sD x i y j) (g:sD y j z k):sD x i z k:=by
 unfold sD at *
 rcases h with h | ⟨h,h'⟩
 ·rcases g with g | ⟨g,g'⟩
  ·exact Or.inl (aK9 (by omega) (by omega) (by omega) h (by omega))
  ·exact Or.inl (aK9 (by omega) (by omega) (by omega) h (by omega))
 ·rcases g with g | ⟨g,g'⟩
  ·exact Or.inl (aPR (by omega) (by omega) (by omega) (by omega) g)
  ·exact Or.inr ⟨aRz (by omega) h g,by omega⟩
def uV (N:Nat) (R:List aE) (o d:aC) (m s:Int) (Dn:Int→Prop) (x:Int) (mt:aL):Prop:=
 (x = -1∧mt=aL.mk 0 0 0 0∧∀ j,Dn j→vU N R o d m s j=none)∨((0≤x∧x < (R.length:Int))∧vU N R o d m s x=some mt∧∀ j,Dn j→∀ y,vU N R o d m s j=some y→j=x∨sD mt x y j)
def aEO (N:Nat) (R:List aE) (o d:aC) (m s x:Int) (mt:aL):Prop:=uV N R o d m s (fun j=>0≤j∧j < (R.length:Int)) x mt
theorem aEO.uniq {N:Nat} {R:List aE} {o d:aC} {m s:Int} {x x':Int} {mt mt':aL} (h:aEO N R o d m s x mt) (h':aEO N R o d m s x' mt'):x=x'∧mt=mt':=by
 rcases h with ⟨a1,a2,a3⟩ | ⟨a1,a2,a3⟩ <;> rcases h' with ⟨b1,b2,b3⟩ | ⟨b1,b2,b3⟩
 ·exact ⟨by omega,by rw [a2,b2]⟩
 ·rw [a3 x' b1] at b2;cases b2
 ·rw [b3 x a1] at a2;cases a2
 ·rcases a3 x' b1 mt' b2 with e | e
  ·subst e
   rw [a2] at b2
   cases b2
   exact ⟨rfl,rfl⟩
  ·rcases b3 x a1 mt a2 with e' | e'
   ·subst e'
    rw [a2] at b2
    cases b2
    exact ⟨rfl,rfl⟩
   ·exfalso
    unfold sD at e e'
    omega
theorem uV.miss {N:Nat} {R:List aE} {o d:aC} {m s:Int} {Dn:Int→Prop} {x:Int} {mt:aL} (h:uV N R o d m s Dn x mt) {D':Int→Prop} (hD:∀ j,D' j→Dn j∨∀ y,vU N R o d m s j=some y→0≤x∧(j=x∨sD mt x y j)):uV N R o d m s D' x mt:=by
 rcases h with ⟨a1,a2,a3⟩ | ⟨a1,a2,a3⟩
 ·refine Or.inl ⟨a1,a2,fun j hj=>?_⟩
  rcases hD j hj with g | g
  ·exact a3 j g
  ·cases hh:vU N R o d m s j with
   | none=>rfl
   | some y=>have:=(g y hh).1;omega
 ·refine Or.inr ⟨a1,a2,fun j hj y hy=>?_⟩
  rcases hD j hj with g | g
  ·exact a3 j g y hy
  ·exact (g y hy).2
theorem uV.take {N:Nat} (hN:3 < N) {R:List aE} {o d:aC} {m s:Int} {Dn:Int→Prop} {x:Int} {mt:aL} (h:uV N R o d m s Dn x mt) {e:Int} {y:aL} (he:0≤e∧e < (R.length:Int)) (hy:vU N R o d m s e=some y) (hb:x < 0∨sD y e mt x) {D':Int→Prop} (hD:∀ j,D' j→Dn j∨j=e):uV N R o d m s D' e y:=by
 refine Or.inr ⟨he,hy,fun j hj z hz=>?_⟩
 rcases (hD j hj).symm with g | g
 ·exact Or.inl g
 rcases h with ⟨a1,a2,a3⟩ | ⟨a1,a2,a3⟩
 ·rw [a3 j g] at hz;cases hz
 ·have hb':sD y e mt x:=by rcases hb with hb | hb;omega;exact hb
  rcases a3 j g z hz with q | q
  ·subst q
   rw [a2] at hz;cases hz
   exact Or.inr hb'
  ·obtain ⟨_,t1,_,g1⟩:=tJ hN hy
   obtain ⟨_,t2,_,g2⟩:=tJ hN a2
   obtain ⟨_,t3,_,g3⟩:=tJ hN hz
   exact Or.inr (aOX g1.det g2.det g3.det hb' q)
def aGp (R gl:List aE):Prop:=∀ i,i < R.length→gl[i]? = R[i]?
theorem aOU (N:Nat) (hN:3 < N) {R gl:List aE} (h:aDc R.length gl) (he:aGp R gl) (o d:aC) (m s:Int) {j:Nat} (hj:j < gl.length) (t:Int) :
  T (cR N o d m s (j:Int) (swp gl t)) (fun a=>lB a.1∧(a.2=true→j < R.length∧vU N R o d m s (j:Int)=some a.1)∧(a.2=false→j < R.length→vU N R o d m s (j:Int)=none)):=by
 have hg:idx gl (j:Int)=some gl[j]:=by rw [eW];exact List.getElem?_eq_getElem hj
 unfold cR lN swp
 refine T.eq rfl (T.eq hg ?_)
 obtain ⟨⟨x,b⟩,e,g1,g2⟩:=hitG N hN o d gl[j].gP
 refine T.eq e ?_
 have un:j < R.length→vU N R o d m s (j:Int)=cond ((eZ .u8 gl[j].gB4 m)==0) none (cond ((j:Int)==s) none (cond b (some x) none)):=by
  intro hn
  unfold vU
  rw [Int.toNat_natCast,← he j hn,List.getElem?_eq_getElem hj]
  dsimp only
  rw [e]
  cases b <;> rfl
 have zero:¬ j < R.length→(eZ .u8 gl[j].gB4 m)=0:=by
  intro hn
  rw [h.2 j (by omega) gl[j] (List.getElem?_eq_getElem hj)]
  unfold eZ
  have:BitVec.ofInt IntKind.u8.bits 0 &&& BitVec.ofInt IntKind.u8.bits m=0:=by
   rw [show BitVec.ofInt IntKind.u8.bits 0=0 from rfl]
   exact BitVec.zero_and
  rw [this];rfl
 cases b with
 | false=>
  refine T.bind (P:=fun p=>p=false) ⟨_,rfl,rfl⟩ fun p hp=>T.ret ⟨g1,?_,?_⟩
  ·intro h;rw [hp] at h;cases h
  ·intro _ hn;rw [un hn];cases ((eZ .u8 gl[j].gB4 m)==0) <;> cases ((j:Int)==s) <;> rfl
 | true=>
  refine T.bind (P:=fun p=>p=(!((eZ .u8 gl[j].gB4 m)==0) && !((j:Int)==s))) ?_ fun p hp=>T.ret ⟨g1,?_,?_⟩
  ·dsimp only
   rw [cond_true]
   refine T.eq hg ?_
   rw [aQ]
   cases hb:(eZ .u8 gl[j].gB4 m != 0) with
   | true=>rw [cond_true];refine T.ret ?_;rw [show ((eZ .u8 gl[j].gB4 m)==0)=false by simpa using hb];rfl
   | false=>rw [cond_false];refine T.ret ?_;rw [show ((eZ .u8 gl[j].gB4 m)==0)=true by simpa using hb];rfl
  ·intro hc
   dsimp only at hc
   rw [hp] at hc
   simp only [Bool.and_eq_true,Bool.not_eq_true'] at hc
   have hn:j < R.length:=Classical.byContradiction fun hn=>by rw [zero hn] at hc;cases hc.1
   exact ⟨hn,by rw [un hn,hc.1,hc.2];rfl⟩
  ·intro hc hn
   dsimp only at hc
   rw [hp] at hc
   rw [un hn]
   cases h1:((eZ .u8 gl[j].gB4 m)==0) with
   | true=>rfl
   | false=>
    rw [h1] at hc
    cases h2:((j:Int)==s) with
    | true=>rfl
    | false=>rw [h2] at hc;cases hc
theorem aHE (N:Nat) (hN:4100 < N) {R gl:List aE} (h:aDc R.length gl) (he:aGp R gl) (o d:aC) (m s t:Int) :
  T (bX N o d m s (swp gl t)) (fun r=>aEO N R o d m s r.2.1 r.2.2):=by
 unfold bX fE
 refine T.eq (a:=false) rfl ?_
 rw [cond_false]
 have h4:=h.1
 refine T.bind (P:=fun r=>aEO N R o d m s r.2.2 r.2.1) ?_ fun r hr=>T.ret hr
 refine T.loopG0 (n:=gl.length) (fun j (x:Int×aL×Int)=>uV N R o d m s (fun i=>0≤i∧i < (j:Int)∧i < (R.length:Int)) x.2.2 x.2.1∧x.2.2 < (j:Int)) _ (F:=fun k (x:Int×aL×Int) j=>bU N (swp gl t) o d m s k (swp gl x.1) x.2.1 x.2.2 j) (fun k x j hj hx hk=>?_) (fun k x hx=>?_) (by omega) (s:=(t,aL.mk 0 0 0 0,-1)) ⟨Or.inl ⟨rfl,rfl,fun j hj=>by omega⟩,by show (-1:Int) < 0;decide⟩
 ·rw [bU,aQ]
  rw [dt (show (j:Int) < ((swp gl t).gl.length:Int) by show (j:Int) < (gl.length:Int);omega),cond_true]
  obtain ⟨hx,hxj⟩:=hx
  refine T.bind (P:=fun p=>uV N R o d m s (fun i=>0≤i∧i < ((j+1:Nat):Int)∧i < (R.length:Int)) p.2.2 p.1∧p.2.2 < ((j+1:Nat):Int)) ?_ fun p hp=>?_
  ·refine T.bind (aOU N (by omega) h he o d m s hj x.1) fun a ha=>?_
   obtain ⟨a1,a2,a3⟩:=ha
   refine T.bind (P:=fun q=>a.2=true→(q=true→x.2.2 < 0∨sD a.1 (j:Int) x.2.1 x.2.2)∧(q=false→0≤x.2.2∧sD x.2.1 x.2.2 a.1 (j:Int))) ?_ fun q hq=>?_
   ·refine T.cond (fun hc=>T.ret fun _=>⟨fun _=>Or.inl (of_decide_eq_true hc),fun h=>by cases h⟩) (fun hc=>?_)
    have x0:=of_decide_eq_false hc
    rcases hx with ⟨b1,_,_⟩ | ⟨b1,b2,_⟩
    ·omega
    obtain ⟨m1,_,_,g1⟩:=tJ (by omega) b2
    cases h2:a.2 with
    | false=>exact T.bind (aLd N a1 m1) fun _ _=>T.ret fun h=>by cases h
    | true=>
     obtain ⟨_,_,_,g2⟩:=tJ (by omega) (a2 h2).2
     refine T.eq (aNl N a1 m1 g2.det g1.det) (T.ret fun _=>⟨fun h=>Or.inr (Or.inl (of_decide_eq_true h)),fun h=>⟨by omega,?_⟩⟩)
     have:=of_decide_eq_false h
     unfold sD
     omega
   ·refine T.cond (fun hc=>?_) (fun hc=>?_)
    ·have h2:a.2=true∧q=true:=by cases h2:a.2 <;> cases h3:q <;> rw [h2,h3] at hc <;> first | exact ⟨rfl,rfl⟩ | cases hc
     obtain ⟨hn,hh⟩:=a2 h2.1
     exact T.ret ⟨hx.take (by omega) ⟨by omega,by omega⟩ hh ((hq h2.1).1 h2.2) fun i hi=>by omega,by dsimp only;omega⟩
    ·refine T.ret ⟨hx.miss fun i hi=>?_,by dsimp only;omega⟩
     by_cases c:i < (j:Int)
     ·exact Or.inl ⟨hi.1,c,hi.2.2⟩
     ·refine Or.inr fun y hy=>?_
      obtain rfl:i=(j:Int):=by omega
      cases h2:a.2 with
      | false=>rw [a3 h2 (by omega)] at hy;cases hy
      | true=>
       rw [(a2 h2).2] at hy
       cases hy
       have h3:q=false:=by cases h3:q with
        | false=>rfl
        | true=>rw [h2,h3] at hc;cases hc
       have:=(hq h2).2 h3
       exact ⟨this.1,Or.inr this.2⟩
  ·rw [eE (by omega)]
   exact hk (I64 (x.1+1),p.1,p.2.2) hp
 ·rw [bU,aQ]
  rw [df (show ¬ (gl.length:Int) < ((swp gl t).gl.length:Int) by show ¬ (gl.length:Int) < (gl.length:Int);omega),cond_false]
  refine T.ret (hx.1.miss fun j hj=>Or.inl ⟨hj.1,?_,hj.2⟩)
  have:R.length≤gl.length:=by
   by_cases c:R.length=0
   ·omega
   ·have:=he (R.length - 1) (by omega)
    rw [List.getElem?_eq_getElem (l:=R) (by omega)] at this
    obtain ⟨q,_⟩:=List.getElem?_eq_some_iff.1 this
    omega
  omega
def aKI (N:Nat) (R:List aE) (o d:aC) (m s:Int) (w r:Bool):Prop:=r=true↔∃ j:Int,(0≤j∧j < (R.length:Int))∧∃ y,vU N R o d m s j=some y∧(w=true→y.gT < y.gM)
theorem aKI.uniq {N:Nat} {R:List aE} {o d:aC} {m s:Int} {w r r':Bool} (h:aKI N R o d m s w r) (h':aKI N R o d m s w r'):r=r':=by
 rw [Bool.eq_iff_iff];exact h.trans h'.symm
theorem aQ1 (N:Nat) (hN:4100 < N) {R gl:List aE} (h:aDc R.length gl) (he:aGp R gl) (o d:aC) (m s:Int) (w:Bool) (t:Int) :
  T (cD N o d m s w (swp gl t)) (fun r=>aKI N R o d m s w r.2):=by
 unfold cD fE
 refine T.eq (a:=false) rfl ?_
 rw [cond_false]
 have h4:=h.1
 refine T.bind (P:=fun r=>aKI N R o d m s w r.2) ?_ fun r hr=>T.ret hr
 refine T.loopG0 (n:=gl.length) (fun j (x:Int×Bool)=>x.2=true↔∃ i:Int,(0≤i∧i < (j:Int)∧i < (R.length:Int))∧∃ y,vU N R o d m s i=some y∧(w=true→y.gT < y.gM)) _ (F:=fun k (x:Int×Bool) j=>bY N (swp gl t) o d m s w k (swp gl x.1) x.2 j) (fun k x j hj hx hk=>?_) (fun k x hx=>?_) (by omega) (s:=(t,false)) ⟨(fun h=>by cases h),fun ⟨i,hi,_⟩=>by omega⟩
 ·rw [bY,aQ]
  rw [dt (show (j:Int) < ((swp gl t).gl.length:Int) by show (j:Int) < (gl.length:Int);omega),cond_true]
  refine T.bind (aOU N (by omega) h he o d m s hj x.1) fun a ha=>?_
  obtain ⟨a1,a2,a3⟩:=ha
  have up:∀ b:Bool,(b=true↔(x.2=true∨(a.2=true∧(w=true→a.1.gT < a.1.gM))))→(b=true↔∃ i:Int,(0≤i∧i < ((j+1:Nat):Int)∧i < (R.length:Int))∧∃ y,vU N R o d m s i=some y∧(w=true→y.gT < y.gM)):=by
   intro b hb
   rw [hb,hx]
   constructor
   ·rintro (⟨i,hi,y,hy⟩ | ⟨g1,g2⟩)
    ·exact ⟨i,by omega,y,hy⟩
    ·obtain ⟨hn,hh⟩:=a2 g1
     exact ⟨(j:Int),by omega,a.1,hh,g2⟩
   ·rintro ⟨i,hi,y,hy,g⟩
    by_cases c:i < (j:Int)
    ·exact Or.inl ⟨i,by omega,y,hy,g⟩
    ·obtain rfl:i=(j:Int):=by omega
     right
     cases h2:a.2 with
     | false=>rw [a3 h2 (by omega)] at hy;cases hy
     | true=>rw [(a2 h2).2] at hy;cases hy;exact ⟨rfl,g⟩
  refine T.cond (fun hc=>?_) (fun hc=>?_)
  ·simp only [aQ]
   rw [eE (by omega)]
   refine hk (I64 (x.1+1),_) (up _ ?_)
   rw [hc]
   by_cases g:a.1.gT < a.1.gM
   ·rw [dt g];cases w <;> cases x.2 <;> simp [g]
   ·rw [df g];cases w <;> cases x.2 <;> simp [g]
  ·rw [eE (by omega)]
   exact hk (I64 (x.1+1),x.2) (up _ (by rw [hc];simp))
 ·rw [bY,aQ]
  rw [df (show ¬ (gl.length:Int) < ((swp gl t).gl.length:Int) by show ¬ (gl.length:Int) < (gl.length:Int);omega),cond_false]
  have:R.length≤gl.length:=by
   by_cases c:R.length=0
   ·omega
   ·have:=he (R.length - 1) (by omega)
    rw [List.getElem?_eq_getElem (l:=R) (by omega)] at this
    obtain ⟨q,_⟩:=List.getElem?_eq_some_iff.1 this
    omega
  refine T.ret (hx.trans ⟨fun ⟨i,hi,g⟩=>⟨i,by omega,g⟩,fun ⟨i,hi,g⟩=>⟨i,by omega,g⟩⟩)
def inN (R:List aE) (b:aY) (i j:Int):Prop:=∃ f c,Cv R b.gB9 b.gQ (fun _=>True) i f c []∧∃ p:Nat,f≤p∧p < f+c∧b.gB9[p]? = some j
theorem aNv (N:Nat) (hN:3 < N) (b:aY) {R:List aE} (o d:aC) (m s:Int) {j:Int} (hj:0≤j∧j < (R.length:Int)) (t:Int) :
  T (cE N o d m s j (wlk b R t)) (fun a=>lB a.1∧vU N R o d m s j=cond a.2 (some a.1) none):=by
 have hg:idx R j=some R[j.toNat]:=aAQ hj.1 (by omega)
 unfold cE wlk
 refine T.eq hg ?_
 obtain ⟨⟨x,h⟩,e,g1,g2⟩:=hitG N hN o d R[j.toNat].gP
 have un:vU N R o d m s j=cond ((eZ .u8 R[j.toNat].gB4 m)==0) none (cond (j==s) none (cond h (some x) none)):=by
  unfold vU
  rw [List.getElem?_eq_getElem (show j.toNat < R.length by omega)]
  dsimp only
  rw [e]
  cases h <;> rfl
 simp only [aQ]
 rw [un]
 cases h1:((eZ .u8 R[j.toNat].gB4 m)==0) with
 | true=>exact T.ret ⟨wJ,rfl⟩
 | false=>
  cases h2:(j==s) with
  | true=>exact T.ret ⟨wJ,rfl⟩
  | false=>exact T.eq hg (T.eq e (T.ret ⟨g1,rfl⟩))
theorem aRl (N:Nat) (hN:100 < N) {b:aY} {R:List aE} (o d:aC) (m s t0:Int) {l:List Int} (hl:ord R.length l) (hl':l.length≤20) (t:Int) {Dn:Int→Prop} {x:Int} {mt:aL} (hm:uV N R o d m s Dn x mt) :
  T (bN N l o d m s (wlk b R t0) N t mt x 0) (fun r=>uV N R o d m s (fun j=>Dn j∨j∈l) r.2.2 r.2.1):=by
 refine T.loopG0 (n:=l.length) (fun j (q:Int×aL×Int)=>uV N R o d m s (fun i=>Dn i∨i∈l.take j) q.2.2 q.2.1) _ (F:=fun k (q:Int×aL×Int) j=>bN N l o d m s (wlk b R t0) k q.1 q.2.1 q.2.2 j) (fun k q j hj hx hk=>?_) (fun k q hx=>?_) (by omega) (s:=(t,mt,x)) (hm.miss fun j hj=>Or.inl (by simpa using hj))
 ·rw [bN,aQ,dt (by omega),cond_true]
  refine T.bind (P:=fun p=>uV N R o d m s (fun i=>Dn i∨i∈l.take (j+1)) p.2.2 p.1) ?_ fun p hp=>by rw [eE (by omega)];exact hk (I64 (q.1+1),p.1,p.2.2) hp
  rw [eW,List.getElem?_eq_getElem hj,Option.bind_some]
  have he:=hl _ (List.getElem_mem hj)
  have tk:∀ i,i∈l.take (j+1)→i∈l.take j∨i=l[j]:=by
   intro i hi
   rw [oU (List.getElem?_eq_getElem hj),List.mem_append,List.mem_singleton] at hi
   exact hi
  generalize l[j]=e at *
  refine T.bind (aNv N (by omega) b o d m s he _) fun a ha=>?_
  obtain ⟨a1,a2⟩:=ha
  refine T.bind (P:=fun p33=>(p33=true→a.2=true∧(q.2.2 < 0∨sD a.1 e q.2.1 q.2.2))∧(p33=false→a.2=true→0≤q.2.2∧(e=q.2.2∨sD q.2.1 q.2.2 a.1 e))) ?_ fun p33 h33=>?_
  ·refine T.cond (fun hc=>?_) (fun hc=>T.ret ⟨(fun h=>by cases h),fun _ h=>by rw [hc] at h;cases h⟩)
   refine T.cond (fun hc2=>T.ret ⟨fun _=>⟨hc,Or.inl (of_decide_eq_true hc2)⟩,fun h=>by cases h⟩) (fun hc2=>?_)
   have x0:=of_decide_eq_false hc2
   rcases hx with ⟨b1,_,_⟩ | ⟨b1,b2,_⟩
   ·omega
   obtain ⟨m1,_,_,g1⟩:=tJ (by omega) b2
   rw [hc,cond_true] at a2
   obtain ⟨_,_,_,g2⟩:=tJ (by omega) a2
   refine T.eq (aNl N a1 m1 g2.det g1.det) ?_
   refine T.cond (fun h=>T.ret ⟨fun _=>⟨hc,Or.inr (Or.inl (of_decide_eq_true h))⟩,fun h=>by cases h⟩) (fun h=>?_)
   have n1:=of_decide_eq_false h
   refine T.cond (fun h3=>?_) (fun h3=>?_)
   ·have lt:=of_decide_eq_true h3
    refine T.eq (aNl N m1 a1 g1.det g2.det) (T.ret ⟨fun h4=>⟨hc,Or.inr (Or.inr ⟨?_,lt⟩)⟩,fun h4 _=>⟨by omega,Or.inr (Or.inl ?_)⟩⟩)
    ·have:¬ q.2.1.gT*a.1.gM < a.1.gT*q.2.1.gM:=of_decide_eq_false (by simpa using h4)
     omega
    ·have:decide (q.2.1.gT*a.1.gM < a.1.gT*q.2.1.gM)=true:=by simpa using h4
     exact of_decide_eq_true this
   ·have ge:=of_decide_eq_false h3
    refine T.ret ⟨(fun h=>by cases h),fun _ _=>⟨by omega,?_⟩⟩
    by_cases c:e=q.2.2
    ·exact Or.inl c
    ·right;unfold sD;omega
  ·refine T.cond (fun hc=>?_) (fun hc=>?_)
   ·obtain ⟨g1,g2⟩:=h33.1 hc
    rw [g1,cond_true] at a2
    exact T.ret (hx.take (by omega) he a2 g2 fun i hi=>by
     rcases hi with hi | hi
     ·exact Or.inl (Or.inl hi)
     ·rcases tk i hi with hi | hi
      ·exact Or.inl (Or.inr hi)
      ·exact Or.inr hi)
   ·refine T.ret (hx.miss fun i hi=>?_)
    have last:i=e→∀ y,vU N R o d m s i=some y→0≤q.2.2∧(i=q.2.2∨sD q.2.1 q.2.2 y i):=by
     intro e' y hy
     subst e'
     rw [a2] at hy
     cases h2:a.2 with
     | false=>rw [h2] at hy;cases hy
     | true=>rw [h2] at hy;cases hy;exact h33.2 hc h2
    rcases hi with hi | hi
    ·exact Or.inl (Or.inl hi)
    ·rcases tk i hi with hi | hi
     ·exact Or.inl (Or.inr hi)
     ·exact Or.inr (last hi)
 ·rw [bN,aQ,df (by omega),cond_false]
  rw [List.take_length] at hx
  exact T.ret hx
theorem Cv.nil {R:List aE} {o:List Int} {d:List bC} {D:Int→Prop} {i:Int} {f c:Nat} (h:Cv R o d D i f c []):∃ nd,d[i.toNat]? = some nd∧aBD R o f c nd.gLo nd.gHi∧aNu nd∧((nd.gA6 < 0∧nd.gC2=(f:Int)∧nd.gC9=(c:Int))∨(0≤nd.gA6∧∃ c1 c2:Nat,c=c1+c2∧Cv R o d D nd.gA6 f c1 []∧Cv R o d D nd.gA7 (f+c1) c2 [])):=by
 generalize hL:([]:List bA)=L at h
 cases h with
 | pend t _ _ h1 h2=>cases hL
 | leaf _ _ _ nd h1 h2 h3 h4 h5 h6 h7=>exact ⟨nd,h2,h6,h7,Or.inl ⟨h3,h4,h5⟩⟩
 | node _ _ c1 c2 nd L1 L2 h1 h2 h3 g1 g2 h6 h7=>
  have:=List.append_eq_nil_iff.1 hL.symm
  obtain ⟨rfl,rfl⟩:=this
  exact ⟨nd,h2,h6,h7,Or.inr ⟨h3,c1,c2,rfl,g1,g2⟩⟩
theorem aLL (N:Nat) (hN:10 < N) {R:List aE} {b:aY} {o d:aC} {m s:Int} {e:Int} {nd:bC} (hnd:b.gQ[e.toNat]? = some nd) {r:aW×Bool} (hr:oJ N nd.gLo nd.gHi o d=some r) {j:Int} (hj:inN R b e j) {y:aL} (hy:vU N R o d m s j=some y):r.2=true∧0 < r.1.gd∧r.1.gn*y.gM≤y.gT*r.1.gd:=by
 obtain ⟨f,c,cv,p,p1,p2,p3⟩:=hj
 obtain ⟨nd',h1,h2,h3,_⟩:=cv.nil
 obtain rfl:=dA hnd h1
 obtain ⟨_,t,ht,g⟩:=tJ (by omega) hy
 have th:=g.thru (h2 p p1 p2 j p3 t ht)
 obtain ⟨r',e',q⟩:=spanG N hN h3.1 h3.2 g.ho g.hd g.det g.num th
 obtain rfl:=dA hr e'
 exact q.2
theorem aRa (N:Nat) (hN:100 < N) {b:aY} {R:List aE} (hb:wR R.length b) (h20:R.length≤20) (o:aC) {d:aC} (hd:pin d) (m s t0:Int):∀ (k:Nat) (st:List Int) (t:Int) (mt:aL) (x:Int) (l:Nat),l≤st.length→aHu b (st.take l)→wW (st.take l) < k→wW (st.take l) < 1000000000000 →
  (∃ Dn:Int→Prop,uV N R o d m s Dn x mt∧(∀ i∈st.take l,∃ f c,Cv R b.gB9 b.gQ (fun _=>True) i f c [])∧∀ j,(0≤j∧j < (R.length:Int))→Dn j∨∃ i∈st.take l,inN R b i j) →
  T (cF N (wlk b R t0) o d m s k st t mt x l) (fun r=>aEO N R o d m s r.2.2.2 r.2.2.1):=by
 obtain ⟨b1,b2,b3,b4⟩:=hb
 intro k
 induction k with
 | zero=>intro st t mt x l _ _ h;omega
 | succ k ih=>
  intro st t mt x l hl hn hw hw' hinv
  obtain ⟨Dn,hm,hcv,hcov⟩:=hinv
  rw [cF]
  simp only [aQ]
  have lenT:(st.take l).length=l:=by rw [List.length_take];omega
  have wl:=aBg b3 hn
  rw [lenT] at wl
  refine T.cond (fun hc=>?_) (fun hc=>?_)
  ·obtain ⟨l,rfl⟩:∃ l',l=l'+1:=⟨l - 1,by have:=of_decide_eq_true hc;omega⟩
   have im:I64 (((l+1:Nat):Int) - 1)=(l:Int):=by rw [bF (by omega) (by omega)];omega
   simp only [im,Int.toNat_natCast]
   obtain ⟨e,et⟩:∃ e,st[l]? = some e:=⟨_,List.getElem?_eq_getElem (by omega)⟩
   have hs:=oU et
   rw [hs] at hn hw hw' hcv hcov
   rw [vO] at hw hw'
   have he:=hn e (by simp)
   have hn':aHu b (st.take l):=fun y hy=>hn y (by simp [hy])
   have hcv':∀ i∈st.take l,∃ f c,Cv R b.gB9 b.gQ (fun _=>True) i f c []:=fun i hi=>hcv i (by simp [hi])
   have w1:=aGc (x:=e) ⟨he.1,by omega⟩
   have wl':=aBg b3 hn'
   rw [show (st.take l).length=l by rw [List.length_take];omega] at wl'
   have cov:∀ {Dn':Int→Prop},(∀ j,Dn j→Dn' j)→(∀ j,inN R b e j→Dn' j)→∀ j,(0≤j∧j < (R.length:Int))→Dn' j∨∃ i∈st.take l,inN R b i j:=by
    intro Dn' h1 h2 j hj
    rcases hcov j hj with h | ⟨i,hi,h⟩
    ·exact Or.inl (h1 j h)
    ·rw [List.mem_append,List.mem_singleton] at hi
     rcases hi with hi | rfl
     ·exact Or.inr ⟨i,hi,h⟩
     ·exact Or.inl (h2 j h)
   refine T.bind (T.inRS (by omega) (by omega) (by omega)) fun _ _=>T.eq et ?_
   have hidx:e.toNat < b.gQ.length:=by omega
   refine T.eq (a:=b.gQ[e.toNat]) (aAQ he.1 hidx) ?_
   have gd:=b4 e.toNat hidx
   have hnd:b.gQ[e.toNat]? = some b.gQ[e.toNat]:=List.getElem?_eq_getElem hidx
   generalize b.gQ[e.toNat]=nd at *
   refine T.bind (T.slcG (by omega) (by omega) (by omega) (by omega) (Or.inl rfl)) fun _ _=>?_
   obtain ⟨r18,e18,h18⟩:=aL8 N (by omega) nd.gLo nd.gHi o hd
   refine T.eq e18 ?_
   have out:=fun j (hj:inN R b e j) y (hy:vU N R o d m s j=some y)=>aLL N (by omega) hnd e18 hj hy
   refine T.bind (P:=fun p=>p=true→∀ j,inN R b e j→∀ y,vU N R o d m s j=some y→0≤x∧(j=x∨sD mt x y j)) ?_ fun p19 h19=>?_
   ·refine T.cond (fun hc=>T.ret fun _ j hj y hy=>?_) (fun hc=>?_)
    ·rw [(out j hj y hy).1] at hc;cases hc
    ·refine T.cond (fun hx=>?_) (fun _=>T.ret fun h=>by cases h)
     have x0:=of_decide_eq_true hx
     rcases hm with ⟨q1,_,_⟩ | ⟨q1,q2,_⟩
     ·omega
     obtain ⟨m1,_,_,g1⟩:=tJ (by omega) q2
     refine T.eq (aOA N (a:=aW.mk mt.gT mt.gM) ⟨m1.1,m1.2.1⟩ h18) (T.ret fun h j hj y hy=>⟨q1.1,Or.inr (Or.inl ?_)⟩)
     obtain ⟨_,o2,o3⟩:=out j hj y hy
     obtain ⟨_,_,_,g2⟩:=tJ (by omega) hy
     exact aK9 o2 (by have:=g2.det;omega) (by have:=g1.det;omega) (of_decide_eq_true h) o3
   refine T.cond (fun hp=>?_) (fun _=>T.cond (fun hc=>?_) (fun hc=>?_))
   ·refine ih st (I64 (t+1)) mt x l (by omega) hn' (by omega) (by omega) ⟨fun j=>Dn j∨inN R b e j,hm.miss fun j hj=>?_,hcv',cov (fun _ h=>Or.inl h) (fun _ h=>Or.inr h)⟩
    rcases hj with hj | hj
    ·exact Or.inl hj
    ·exact Or.inr (h19 hp j hj)
   ·have lp:=of_decide_eq_true hc
    have g:=gd.1 lp
    have w2:=aH1 (x:=e) (a:=nd.gA7) (b:=nd.gA6) he.1 ⟨by omega,by omega⟩ ⟨by omega,by omega⟩
    refine T.bind (T.appG (by omega) (show (l+2)*8≤140737488355328 by omega)) fun z hz=>?_
    subst hz
    have tk:(sU st l [nd.gA7,nd.gA6]).take (l+2)=st.take l++[nd.gA7,nd.gA6]:=aAa st l [_,_] (by omega)
    refine ih _ (I64 (t+1)) mt x (l+2) (aDI st l [_,_] (by omega)) ?_ ?_ ?_ ⟨Dn,hm,?_,?_⟩
    ·rw [tk]
     intro y hy
     rw [List.mem_append] at hy
     rcases hy with hy | hy
     ·exact hn' y hy
     ·simp at hy
      rcases hy with rfl | rfl <;> omega
    ·rw [tk,vO];omega
    ·rw [tk,vO];omega
    ·rw [tk]
     intro i hi
     rw [List.mem_append] at hi
     rcases hi with hi | hi
     ·exact hcv' i hi
     ·obtain ⟨f,c,cv⟩:=hcv e (by simp)
      obtain ⟨nd',q1,_,_,q4⟩:=cv.nil
      obtain rfl:=dA hnd q1
      rcases q4 with ⟨q4,_⟩ | ⟨_,c1,c2,_,v1,v2⟩
      ·omega
      ·simp at hi
       rcases hi with rfl | rfl
       ·exact ⟨_,_,v2⟩
       ·exact ⟨_,_,v1⟩
    ·rw [tk]
     intro j hj
     rcases hcov j hj with h | ⟨i,hi,h⟩
     ·exact Or.inl h
     ·right
      rw [List.mem_append,List.mem_singleton] at hi
      rcases hi with hi | rfl
      ·exact ⟨i,by simp [hi],h⟩
      ·obtain ⟨f,c,cv,p,p1,p2,p3⟩:=h
       obtain ⟨nd',q1,_,_,q4⟩:=cv.nil
       obtain rfl:=dA hnd q1
       rcases q4 with ⟨q4,_⟩ | ⟨_,c1,c2,q5,v1,v2⟩
       ·omega
       ·by_cases hp:p < f+c1
        ·exact ⟨nd.gA6,by simp,f,c1,v1,p,p1,hp,p3⟩
        ·exact ⟨nd.gA7,by simp,f+c1,c2,v2,p,by omega,by omega,p3⟩
   ·have ln:=of_decide_eq_false hc
    have g:=gd.2 (by omega)
    rw [bF (x:=nd.gC2+nd.gC9) (by omega) (by omega)]
    refine T.bind (T.slcN (l:=b.gB9) g.1 (by omega) (by omega)) fun s23 h23=>?_
    refine T.bind (aRl N hN o d m s t0 (fun y hy=>b1 y (h23.2.1 y hy)) (by omega) (I64 (t+1)) hm) fun p24 h24=>?_
    refine ih st p24.1 p24.2.1 p24.2.2 l (by omega) hn' (by omega) (by omega) ⟨_,h24,hcv',cov (fun _ h=>Or.inl h) (fun j h=>Or.inr ?_)⟩
    obtain ⟨f,c,cv,p,p1,p2,p3⟩:=h
    obtain ⟨nd',q1,_,_,q4⟩:=cv.nil
    obtain rfl:=dA hnd q1
    rcases q4.symm with ⟨q5,_⟩ | ⟨_,q5,q6⟩
    ·omega
    rw [h23.1]
    refine List.mem_of_getElem? (i:=p - f) ?_
    rw [List.getElem?_drop,show nd.gC2.toNat+(p - f)=p by omega,List.getElem?_take_of_lt (by omega)]
    exact p3
  ·have l0:l=0:=by have:=of_decide_eq_false hc;omega
   subst l0
   refine T.ret (hm.miss fun j hj=>?_)
   rcases hcov j hj with h | ⟨i,hi,_⟩
   ·exact Or.inl h
   ·exact absurd hi (by simp)
theorem aRo (N:Nat) (hN:3 < N) {o d:aC} (h:pM N o d=some false) (P:Vector aC 3):pG N o d P=some (aL.mk 0 0 0 0,false):=by
 unfold pG
 rw [h]
 rfl
theorem aQg (N:Nat) (hN:3 < N) {o d:aC} (h:pM N o d=some false) (R:List aE) (m s j:Int):vU N R o d m s j=none:=by
 unfold vU
 cases R[j.toNat]? with
 | none=>rfl
 | some t=>
  dsimp only
  rw [aRo N hN h]
  cases ((eZ .u8 t.gB4 m)==0) <;> cases (j==s) <;> rfl
theorem aL5 {R:List aE} {b:aY} (ht:tS R b) (h:0 < R.length):0 < b.gQ.length∧Cv R b.gB9 b.gQ (fun _=>True) 0 0 R.length []∧∀ j,(0≤j∧j < (R.length:Int))→inN R b 0 j:=by
 rcases ht with ⟨h0,_⟩ | ⟨_,h1,h2⟩
 ·omega
 ·refine ⟨?_,h2,fun j hj=>?_⟩
  ·obtain ⟨nd,q,_⟩:=h2.nil
   obtain ⟨q',_⟩:=List.getElem?_eq_some_iff.1 q
   omega
  ·obtain ⟨p,p1,p2⟩:=h1 j.toNat (by omega)
   refine ⟨0,R.length,h2,p,by omega,by omega,?_⟩
   rw [p2];congr 1;omega
theorem nearC (N:Nat) (hN:1000000000000 < N) {b:aY} {R:List aE} (hb:wR R.length b) (ht:tS R b) (h20:R.length≤20) (o d:aC) (m s t:Int) :
  T (cX N o d m s (wlk b R t)) (fun r=>aEO N R o d m s r.2.1 r.2.2):=by
 unfold cX iG
 refine T.bind (P:=fun p=>(p=true→∀ j,(0≤j∧j < (R.length:Int))→vU N R o d m s j=none)∧(p=false→pin d∧0 < R.length)) ?_ fun p1 h1=>T.cond (fun hc=>T.ret (Or.inl ⟨rfl,rfl,h1.1 hc⟩)) (fun hc=>?_)
 ·refine T.eq (a:=false) rfl ?_
  simp only [aQ,cond_false]
  show T (cond ((b.gQ.length:Int)==0) _ _) _
  refine T.cond (fun hc=>T.ret ⟨fun _ j hj=>?_,fun h=>by cases h⟩) (fun hc=>?_)
  ·exfalso
   have:(b.gQ.length:Int)=0:=by simpa using hc
   have:=(aL5 ht (by omega)).1
   omega
  ·have nz:(b.gQ.length:Int)≠0:=by simpa using hc
   obtain ⟨r4,e4,h4⟩:=aJN N o d
   refine T.eq e4 (T.ret ⟨fun h j hj=>aQg N (by omega) (by rw [e4];congr 1;simpa using h) R m s j,fun h=>⟨aCj (h4 (by simpa using h)).2.1 (by decide),?_⟩⟩)
   rcases ht with ⟨_,h0⟩ | ⟨h0,_⟩
   ·rw [h0] at nz;exact absurd rfl nz
   ·exact h0
 ·obtain ⟨hd,h0⟩:=h1.2 hc
  obtain ⟨n0,cv,cov⟩:=aL5 ht h0
  refine T.bind (aRa N (by omega) hb h20 o hd m s t N [0] t (aL.mk 0 0 0 0) (-1) 1 (by simp) ?_ ?_ ?_ ⟨fun _=>False,Or.inl ⟨rfl,rfl,fun _ h=>h.elim⟩,?_,?_⟩) fun r hr=>T.ret hr
  ·intro x hx;have:x=0:=by simpa using hx
   subst this;omega
  ·show (2 ^ 39 - 1+0) < N;omega
  ·show (2 ^ 39 - 1+0) < 1000000000000;decide
  ·intro i hi;have:i=0:=by simpa using hi
   subst this;exact ⟨_,_,cv⟩
  ·intro j hj;exact Or.inr ⟨0,by simp,cov j hj⟩
def aEV (N:Nat) (R:List aE) (o d:aC) (m s:Int) (w:Bool) (j:Int):Prop:=∃ y,vU N R o d m s j=some y∧(w=true→y.gT < y.gM)
theorem anyC2 (N:Nat) (hN:100 < N) {b:aY} {R:List aE} (o d:aC) (m s:Int) (w:Bool) (t0:Int) {l:List Int} (hl:ord R.length l) (hl':l.length≤20) (t:Int) :
  T (bW N l o d m s (wlk b R t0) w N t 0) (fun q=>match q with | .inl _=>∀ j∈l,¬ aEV N R o d m s w j | .inr r=>r.2=true∧∃ j,(0≤j∧j < (R.length:Int))∧aEV N R o d m s w j):=by
 refine T.loopG0 (n:=l.length) (fun j (q:Int)=>∀ i∈l.take j,¬ aEV N R o d m s w i) _ (F:=fun k (q:Int) j=>bW N l o d m s (wlk b R t0) w k q j) (fun k q j hj hx hk=>?_) (fun k q hx=>?_) (by omega) (s:=t) (fun i hi=>absurd hi (by simp))
 ·rw [bW,aQ,dt (by omega),cond_true,eW,List.getElem?_eq_getElem hj,Option.bind_some]
  have he:=hl _ (List.getElem_mem hj)
  have tk:∀ i,i∈l.take (j+1)→i∈l.take j∨i=l[j]:=by
   intro i hi
   rw [oU (List.getElem?_eq_getElem hj),List.mem_append,List.mem_singleton] at hi
   exact hi
  generalize l[j]=e at *
  refine T.bind (aNv N (by omega) b o d m s he _) fun a ha=>?_
  obtain ⟨a1,a2⟩:=ha
  refine T.bind (P:=fun p=>p=true↔aEV N R o d m s w e) ?_ fun p hp=>?_
  ·unfold aEV
   refine T.cond (fun hc=>?_) (fun hc=>T.ret ⟨(fun h=>by cases h),fun ⟨y,hy,_⟩=>by rw [a2,hc] at hy;cases hy⟩)
   rw [hc,cond_true] at a2
   rw [aQ]
   refine T.ret ⟨fun h=>⟨a.1,a2,fun hw=>?_⟩,fun ⟨y,hy,g⟩=>?_⟩
   ·rw [hw] at h;exact of_decide_eq_true h
   ·rw [a2] at hy;cases hy
    cases w with
    | false=>rfl
    | true=>exact dt (g rfl)
  ·refine T.cond (fun hc=>T.ret ⟨rfl,e,he,hp.1 hc⟩) (fun hc=>?_)
   rw [eE (by omega)]
   refine hk (I64 (q+1)) fun i hi=>?_
   rcases tk i hi with hi | rfl
   ·exact hx i hi
   ·intro g;rw [hp.2 g] at hc;cases hc
 ·rw [bW,aQ,df (by omega),cond_false]
  rw [List.take_length] at hx
  exact T.ret hx
theorem anyC1 (N:Nat) (hN:100 < N) {b:aY} {R:List aE} (hb:wR R.length b) (h20:R.length≤20) (o:aC) {d:aC} (hd:pin d) (m s:Int) (w:Bool) (t0:Int):∀ (k:Nat) (st:List Int) (t:Int) (l:Nat),l≤st.length→aHu b (st.take l)→wW (st.take l) < k→wW (st.take l) < 1000000000000 →
  (∃ Dn:Int→Prop,(∀ j,Dn j→¬ aEV N R o d m s w j)∧(∀ i∈st.take l,∃ f c,Cv R b.gB9 b.gQ (fun _=>True) i f c [])∧∀ j,(0≤j∧j < (R.length:Int))→Dn j∨∃ i∈st.take l,inN R b i j) →
  T (cW N (wlk b R t0) o d m s w k st t l) (fun q=>match q with | .inl _=>∀ j,(0≤j∧j < (R.length:Int))→¬ aEV N R o d m s w j | .inr r=>r.2=true∧∃ j,(0≤j∧j < (R.length:Int))∧aEV N R o d m s w j):=by
 obtain ⟨b1,b2,b3,b4⟩:=hb
 intro k
 induction k with
 | zero=>intro st t l _ _ h;omega
 | succ k ih=>
  intro st t l hl hn hw hw' hinv
  obtain ⟨Dn,hm,hcv,hcov⟩:=hinv
  rw [cW]
  simp only [aQ]
  have lenT:(st.take l).length=l:=by rw [List.length_take];omega
  have wl:=aBg b3 hn
  rw [lenT] at wl
  refine T.cond (fun hc=>?_) (fun hc=>?_)
  ·obtain ⟨l,rfl⟩:∃ l',l=l'+1:=⟨l - 1,by have:=of_decide_eq_true hc;omega⟩
   have im:I64 (((l+1:Nat):Int) - 1)=(l:Int):=by rw [bF (by omega) (by omega)];omega
   simp only [im,Int.toNat_natCast]
   obtain ⟨e,et⟩:∃ e,st[l]? = some e:=⟨_,List.getElem?_eq_getElem (by omega)⟩
   have hs:=oU et
   rw [hs] at hn hw hw' hcv hcov
   rw [vO] at hw hw'
   have he:=hn e (by simp)
   have hn':aHu b (st.take l):=fun y hy=>hn y (by simp [hy])
   have hcv':∀ i∈st.take l,∃ f c,Cv R b.gB9 b.gQ (fun _=>True) i f c []:=fun i hi=>hcv i (by simp [hi])
   have w1:=aGc (x:=e) ⟨he.1,by omega⟩
   have wl':=aBg b3 hn'
   rw [show (st.take l).length=l by rw [List.length_take];omega] at wl'
   have cov:∀ {Dn':Int→Prop},(∀ j,Dn j→Dn' j)→(∀ j,inN R b e j→Dn' j)→∀ j,(0≤j∧j < (R.length:Int))→Dn' j∨∃ i∈st.take l,inN R b i j:=by
    intro Dn' h1 h2 j hj
    rcases hcov j hj with h | ⟨i,hi,h⟩
    ·exact Or.inl (h1 j h)
    ·rw [List.mem_append,List.mem_singleton] at hi
     rcases hi with hi | rfl
     ·exact Or.inr ⟨i,hi,h⟩
     ·exact Or.inl (h2 j h)
   refine T.bind (T.inRS (by omega) (by omega) (by omega)) fun _ _=>T.eq et ?_
   have hidx:e.toNat < b.gQ.length:=by omega
   refine T.eq (a:=b.gQ[e.toNat]) (aAQ he.1 hidx) ?_
   have gd:=b4 e.toNat hidx
   have hnd:b.gQ[e.toNat]? = some b.gQ[e.toNat]:=List.getElem?_eq_getElem hidx
   generalize b.gQ[e.toNat]=nd at *
   refine T.bind (T.slcG (by omega) (by omega) (by omega) (by omega) (Or.inl rfl)) fun _ _=>?_
   obtain ⟨r18,e18,h18⟩:=aL8 N (by omega) nd.gLo nd.gHi o hd
   refine T.eq e18 ?_
   refine T.cond (fun hp=>?_) (fun _=>T.cond (fun hc=>?_) (fun hc=>?_))
   ·refine ih st (I64 (t+1)) l (by omega) hn' (by omega) (by omega) ⟨fun j=>Dn j∨inN R b e j,fun j hj=>?_,hcv',cov (fun _ h=>Or.inl h) (fun _ h=>Or.inr h)⟩
    rcases hj with hj | hj
    ·exact hm j hj
    ·rintro ⟨y,hy,_⟩
     rw [(aLL N (by omega) hnd e18 hj hy).1] at hp
     cases hp
   ·have lp:=of_decide_eq_true hc
    have g:=gd.1 lp
    have w2:=aH1 (x:=e) (a:=nd.gA7) (b:=nd.gA6) he.1 ⟨by omega,by omega⟩ ⟨by omega,by omega⟩
    refine T.bind (T.appG (by omega) (show (l+2)*8≤140737488355328 by omega)) fun z hz=>?_
    subst hz
    have tk:(sU st l [nd.gA7,nd.gA6]).take (l+2)=st.take l++[nd.gA7,nd.gA6]:=aAa st l [_,_] (by omega)
    refine ih _ (I64 (t+1)) (l+2) (aDI st l [_,_] (by omega)) ?_ ?_ ?_ ⟨Dn,hm,?_,?_⟩
    ·rw [tk]
     intro y hy
     rw [List.mem_append] at hy
     rcases hy with hy | hy
     ·exact hn' y hy
     ·simp at hy
      rcases hy with rfl | rfl <;> omega
    ·rw [tk,vO];omega
    ·rw [tk,vO];omega
    ·rw [tk]
     intro i hi
     rw [List.mem_append] at hi
     rcases hi with hi | hi
     ·exact hcv' i hi
     ·obtain ⟨f,c,cv⟩:=hcv e (by simp)
      obtain ⟨nd',q1,_,_,q4⟩:=cv.nil
      obtain rfl:=dA hnd q1
      rcases q4 with ⟨q4,_⟩ | ⟨_,c1,c2,_,v1,v2⟩
      ·omega
      ·simp at hi
       rcases hi with rfl | rfl
       ·exact ⟨_,_,v2⟩
       ·exact ⟨_,_,v1⟩
    ·rw [tk]
     intro j hj
     rcases hcov j hj with h | ⟨i,hi,h⟩
     ·exact Or.inl h
     ·right
      rw [List.mem_append,List.mem_singleton] at hi
      rcases hi with hi | rfl
      ·exact ⟨i,by simp [hi],h⟩
      ·obtain ⟨f,c,cv,p,p1,p2,p3⟩:=h
       obtain ⟨nd',q1,_,_,q4⟩:=cv.nil
       obtain rfl:=dA hnd q1
       rcases q4 with ⟨q4,_⟩ | ⟨_,c1,c2,q5,v1,v2⟩
       ·omega
       ·by_cases hp:p < f+c1
        ·exact ⟨nd.gA6,by simp,f,c1,v1,p,p1,hp,p3⟩
        ·exact ⟨nd.gA7,by simp,f+c1,c2,v2,p,by omega,by omega,p3⟩
   ·have ln:=of_decide_eq_false hc
    have g:=gd.2 (by omega)
    rw [bF (x:=nd.gC2+nd.gC9) (by omega) (by omega)]
    refine T.bind (T.slcN (l:=b.gB9) g.1 (by omega) (by omega)) fun s23 h23=>?_
    refine T.bind (anyC2 N hN o d m s w t0 (fun y hy=>b1 y (h23.2.1 y hy)) (by omega) (I64 (t+1))) fun q hq=>?_
    cases q with
    | inr r=>exact T.ret hq
    | inl p18=>
     refine ih st p18 l (by omega) hn' (by omega) (by omega) ⟨fun j=>Dn j∨j∈s23,fun j hj=>?_,hcv',cov (fun _ h=>Or.inl h) (fun j h=>Or.inr ?_)⟩
     ·rcases hj with hj | hj
      ·exact hm j hj
      ·exact hq j hj
     ·obtain ⟨f,c,cv,p,p1,p2,p3⟩:=h
      obtain ⟨nd',q1,_,_,q4⟩:=cv.nil
      obtain rfl:=dA hnd q1
      rcases q4.symm with ⟨q5,_⟩ | ⟨_,q5,q6⟩
      ·omega
      rw [h23.1]
      refine List.mem_of_getElem? (i:=p - f) ?_
      rw [List.getElem?_drop,show nd.gC2.toNat+(p - f)=p by omega,List.getElem?_take_of_lt (by omega)]
      exact p3
  ·have l0:l=0:=by have:=of_decide_eq_false hc;omega
   subst l0
   refine T.ret fun j hj=>?_
   rcases hcov j hj with h | ⟨i,hi,_⟩
   ·exact hm j h
   ·exact absurd hi (by simp)
theorem anyC (N:Nat) (hN:1000000000000 < N) {b:aY} {R:List aE} (hb:wR R.length b) (ht:tS R b) (h20:R.length≤20) (o d:aC) (m s:Int) (w:Bool) (t:Int) :
  T (dI N o d m s w (wlk b R t)) (fun r=>aKI N R o d m s w r.2):=by
 unfold dI iG
 refine T.bind (P:=fun p=>(p=true→∀ j,(0≤j∧j < (R.length:Int))→vU N R o d m s j=none)∧(p=false→pin d∧0 < R.length)) ?_ fun p1 h1=>T.cond (fun hc=>T.ret ⟨(fun h=>by cases h),fun ⟨j,hj,y,hy,_⟩=>by rw [h1.1 hc j hj] at hy;cases hy⟩) (fun hc=>?_)
 ·refine T.eq (a:=false) rfl ?_
  simp only [aQ,cond_false]
  show T (cond ((b.gQ.length:Int)==0) _ _) _
  refine T.cond (fun hc=>T.ret ⟨fun _ j hj=>?_,fun h=>by cases h⟩) (fun hc=>?_)
  ·exfalso
   have:(b.gQ.length:Int)=0:=by simpa using hc
   have:=(aL5 ht (by omega)).1
   omega
  ·have nz:(b.gQ.length:Int)≠0:=by simpa using hc
   obtain ⟨r4,e4,h4⟩:=aJN N o d
   refine T.eq e4 (T.ret ⟨fun h j hj=>aQg N (by omega) (by rw [e4];congr 1;simpa using h) R m s j,fun h=>⟨aCj (h4 (by simpa using h)).2.1 (by decide),?_⟩⟩)
   rcases ht with ⟨_,h0⟩ | ⟨h0,_⟩
   ·rw [h0] at nz;exact absurd rfl nz
   ·exact h0
 ·obtain ⟨hd,h0⟩:=h1.2 hc
  obtain ⟨n0,cv,cov⟩:=aL5 ht h0
  refine T.bind (anyC1 N (by omega) hb h20 o hd m s w t N [0] t 1 (by simp) ?_ ?_ ?_ ⟨fun _=>False,fun _ h=>h.elim,?_,?_⟩) fun q hq=>?_
  ·intro x hx;have:x=0:=by simpa using hx
   subst this;omega
  ·show (2 ^ 39 - 1+0) < N;omega
  ·show (2 ^ 39 - 1+0) < 1000000000000;decide
  ·intro i hi;have:i=0:=by simpa using hi
   subst this;exact ⟨_,_,cv⟩
  ·intro j hj;exact Or.inr ⟨0,by simp,cov j hj⟩
  ·cases q with
   | inl p=>exact T.ret ⟨(fun h=>by cases h),fun ⟨j,hj,y,hy⟩=>absurd ⟨y,hy⟩ (hq j hj)⟩
   | inr p=>exact T.ret ⟨fun _=>hq.2,fun _=>hq.1⟩
def drV (N:Nat) (sd fi se dep x:Int):Int:=((Option.bind (pK N fi se dep x) fun r=>Option.bind (iF N r sd) fun b=>nV N b x).getD 0)
def mH (N:Nat) (sd fi se:Int) (s:aA):Prop:=s.gA=true∧s.gC=sd∧s.gB=fi∧s.gD=se∧(s.gD2.gis=true→iF N s.gD2.gE6 sd=some s.gD2.gE7)
theorem aQD {a b:bK} (h:bK.eq a b=true):a=b:=by
 unfold bK.eq at h
 cases a;cases b
 simp at h
 simp [h]
theorem aQn (N:Nat) (hN:20 < N) {sd fi se:Int} {s:aA} (h:mH N sd fi se s) (dep x:Int):T (fO N dep x s) (fun r=>r.2=drV N sd fi se dep x∧mH N sd fi se (aA.mk r.1 s.gA s.gC s.gB s.gD)):=by
 obtain ⟨h1,h2,h3,h4,h5⟩:=h
 unfold fO
 rw [h1,h2,h3,h4]
 rw [show (!true)=false from rfl,cond_false]
 obtain ⟨w,ew⟩:∃ w,pK N fi se dep x=some w:=by unfold pK;exact ⟨_,rfl⟩
 obtain ⟨bl,eb,_⟩:=aSC N hN w sd
 obtain ⟨v,ev,_⟩:=aPa N bl x
 have dv:drV N sd fi se dep x=v:=by unfold drV;rw [ew,Option.bind_some,eb,Option.bind_some,ev];rfl
 rw [ew,Option.bind_some]
 refine T.bind (P:=fun p=>p.1.gE7=bl∧mH N sd fi se (aA.mk p.1 true sd fi se)) ?_ fun p hp=>?_
 ·refine T.bind (P:=fun q=>q=false→s.gD2.gis=true∧w=s.gD2.gE6) ?_ fun q hq=>?_
  ·refine T.cond (fun _=>T.ret fun h=>by cases h) (fun hc=>T.ret fun h=>⟨by simpa using hc,aQD (by simpa using h)⟩)
  ·refine T.cond (fun _=>?_) (fun hc=>?_)
   ·exact T.eq eb (T.ret ⟨rfl,rfl,rfl,rfl,rfl,fun _=>eb⟩)
   ·obtain ⟨q1,q2⟩:=hq hc
    have:=h5 q1
    rw [← q2,eb] at this
    exact T.ret ⟨(Option.some.inj this).symm,rfl,rfl,rfl,rfl,h5⟩
 ·refine T.eq (a:=v) (by rw [hp.1];exact ev) (T.ret ⟨dv.symm,hp.2⟩)
structure Fnd where
 near:aC→aC→Int→Int→Int×aL
 any:aC→aC→Int→Int→Bool→Bool
def aCn (N:Nat) (F:Fnd) (b:List (List aD)) (s:aG) (ray:aH) (dep:Int) (ov:Bool) (sm:aF):Option (aF×aR×Bool):=
 Option.bind (cond (dep==0) (some 9) (some 4)) fun p1=>
 cond (decide ((F.near ray.go ray.gd p1 ray.gD1).1 < 0)) (
  some (sm,aR.mk 0 (aC.mk 0 0 0) (aB.mk 0 0 0) (aB.mk 0 0 0) (aU.mk 0 (#v[0,0,0]) 0) false,false)) (
  Option.bind (idx s.gG (F.near ray.go ray.gd p1 ray.gD1).1) fun e4=>
  Option.bind (lA N e4.gP[1] e4.gP[0]) fun r9=>
  Option.bind (lA N e4.gP[2] e4.gP[0]) fun r14=>
  Option.bind (mT N r9 r14) fun r15=>
  Option.bind (fI N r15) fun r16=>
  Option.bind (Option.bind (qC N ray.go ray.gd (F.near ray.go ray.gd p1 ray.gD1).2) fun r18=>
  Option.bind (jC N r16 ray.gd) fun r19=>
  Option.bind (idx s.gB1 e4.gC8) fun e20=>
  cond (dep==0) (
   aV ((eZ .u8 e4.gB4 8) != 0) fun x21=>
   some (aR.mk (F.near ray.go ray.gd p1 ray.gD1).1 r18 r19 (aB.mk 0 0 0) e20 x21)) (
   some (aR.mk (F.near ray.go ray.gd p1 ray.gD1).1 r18 r19 (aB.mk 0 0 0) e20 false))) fun p17=>
  Option.bind (cond (decide (e4.gA9≥0)) (idx b e4.gA9) (some [])) fun lv=>
  Option.bind (kB N p17.gF.gB0 lv e4.gUv (F.near ray.go ray.gd p1 ray.gD1).2 dep) fun r24=>
  Option.bind (aV (cond (dep==0) (!ov) false) fun x26=>
  cond x26 (
   Option.bind (mF N p17.gat) fun r27=>
   Option.bind (mF N ray.go) fun r28=>
   Option.bind (sV N r27 r28) fun r29=>
   Option.bind (oI N r29) fun r30=>
   cond p17.gA8 (
    some (aF.mk (aB.mk 0 0 0) 0 r30 p17.gn e4.gB5)) (
    some (aF.mk (aB.mk 0 0 0) 1 r30 p17.gn e4.gB5))) (
   some sm)) fun p25=>
  some (p25,aR.mk p17.gi p17.gat p17.gn r24 p17.gF p17.gA8,true))
def aAd (N:Nat) (c:List aB) (f l:aB):Option aB:=
 Option.bind (iE N (f :: c)) fun r2=>Option.bind (kZ N [l,r2]) fun r3=>some r3
def iQ (N:Nat) (F:Fnd) (dr:Int→Int) (ls:List aS) (pl:aR) (f:aB):Nat→aB→Int→Option aB
 | 0,_,_=>none
 | k+1,l,j=>
  cond (decide (j < (ls.length:Int))) (
   Option.bind (idx ls j) fun e8=>
   Option.bind (mW N e8 pl.gat pl.gn (#v[dr (I64 (8+(I64 (2*j)))),dr (I64 (9+(I64 (2*j))))])) fun r13=>
   Option.bind (cond (cond r13.gC0 true (F.any pl.gat r13.gC6 2 pl.gi (!r13.gC7))) (some l) (aAd N [pl.gc,r13.gC1] f l)) fun l'=>
   iQ N F dr ls pl f k l' (I64 (j+1))) (
   some l)
def aA0 (N:Nat) (F:Fnd) (dr:Int→Int→Int) (b:List (List aD)) (s:aG) (depth:Int) (sky:aB) (ray:aH) (f l:aB) (dep:Int) (sm:aF):Option (aH×aB×aB×Bool×aF):=
 Option.bind (aCn N F b s ray dep false sm) fun r1=>
 cond (!r1.2.2) (Option.bind (aAd N [sky] f l) fun l'=>some (ray,f,l',true,r1.1)) (
 cond r1.2.1.gA8 (cond (r1.2.1.gF.gI==4) (some (ray,f,l,true,r1.1)) (some (ray,f,l,true,r1.1))) (
 cond (r1.2.1.gF.gI==4) (Option.bind (aAd N [r1.2.1.gc] f l) fun l'=>some (ray,f,l',true,r1.1)) (
 Option.bind (cond (r1.2.1.gF.gI==0) (iQ N F (dr dep) s.gJ r1.2.1 f N l 0) (some l)) fun l'=>
 cond (dep==depth) (some (ray,f,l',true,r1.1)) (
 Option.bind (iR N r1.2.1.gF r1.2.1.gc r1.2.1.gn ray.gd (#v[dr dep 4,dr dep 5])) fun r18=>
 Option.bind (iE N [f,r18.gC1]) fun r19=>
 Option.bind (cond (decide (dep≥2)) (Option.bind (eM N r19 (dr dep 7)) fun r23=>some (r23.1,cond r18.gB3 true (!r23.2))) (some (r19,r18.gB3))) fun p21=>
 some (aH.mk r1.2.1.gat r18.gD6 r1.2.1.gi,p21.1,l',p21.2,r1.1)))))
def aC8 (N:Nat) (F:Fnd) (dr:Int→Int→Int) (b:List (List aD)) (s:aG) (depth:Int) (sky:aB):Nat→aH→aB→aB→Int→Bool→aF→Option (aB×aF)
 | 0,_,_,_,_,_,_=>none
 | k+1,ray,f,l,dep,ov,sm=>
  cond (cond (decide (dep≤depth)) (!ov) false) (
   Option.bind (aA0 N F dr b s depth sky ray f l dep sm) fun a=>
   aC8 N F dr b s depth sky k a.1 a.2.1 a.2.2.1 (I64 (dep+1)) a.2.2.2.1 a.2.2.2.2) (
   some (l,sm))
def fQ (N:Nat) (R:List aE):Fnd:=⟨fun o d m s=>((bX N o d m s (swp R 0)).getD (swp R 0,-1,aL.mk 0 0 0 0)).2,fun o d m s w=>((cD N o d m s w (swp R 0)).getD (swp R 0,false)).2⟩
theorem aHe {R:List aE} (h:R.length≤20):aDc R.length R∧aGp R R:=⟨⟨by omega,fun i hi t ht=>by rw [List.getElem?_eq_none hi] at ht;cases ht⟩,fun _ _=>rfl⟩
theorem aLz (N:Nat) (hN:4100 < N) {R:List aE} (h:R.length≤20) (o d:aC) (m s:Int):aEO N R o d m s ((fQ N R).near o d m s).1 ((fQ N R).near o d m s).2:=by
 obtain ⟨r,e,hr⟩:=aHE N hN (aHe h).1 (aHe h).2 o d m s 0
 unfold fQ
 dsimp only
 rw [e]
 exact hr
theorem aOL (N:Nat) (hN:4100 < N) {R:List aE} (h:R.length≤20) (o d:aC) (m s:Int) (w:Bool):aKI N R o d m s w ((fQ N R).any o d m s w):=by
 obtain ⟨r,e,hr⟩:=aQ1 N hN (aHe h).1 (aHe h).2 o d m s w 0
 unfold fQ
 dsimp only
 rw [e]
 exact hr
section
variable {ι:Type} {N:Nat}
def opt0 (t:ι→Int):Option ι→Int:=fun i=>match i with | none=>0 | some i=>t i
theorem aSQ (hN:4100 < N) {R gl:List aE} (h20:R.length≤20) (h:aDc R.length gl) (he:aGp R gl) (o d:aC) (m s:Int) (t:ι→Int) :
  TU (fun i=>bX N o d m s (swp gl (t i))) (fun a:Int×aL=>a=(fQ N R).near o d m s∧a.1 < (R.length:Int)∧lB a.2) (fun i a r=>∃ t',r=(swp gl t',a)∧pN (t i) t' (gl.length:Int)):=by
 obtain ⟨a,⟨a1,a2⟩,ha⟩:=aOb N hN h o d m s (opt0 t)
 obtain ⟨r,e,t',rfl,_⟩:=ha none
 obtain ⟨r',e',hr'⟩:=aHE N hN h he o d m s 0
 have e1:bX N o d m s (swp gl 0)=some (swp gl t',a):=e
 rw [e1] at e'
 cases e'
 obtain ⟨q1,q2⟩:=hr'.uniq (aLz N hN h20 o d m s)
 exact ⟨a,⟨Prod.ext q1 q2,a1,a2⟩,fun i=>ha (some i)⟩
theorem aQ4 (hN:1000000000000 < N) {b:aY} {R:List aE} (hb:wR R.length b) (ht:tS R b) (h20:R.length≤20) (o d:aC) (m s:Int) (t:ι→Int) :
  TU (fun i=>cX N o d m s (wlk b R (t i))) (fun a:Int×aL=>a=(fQ N R).near o d m s∧a.1 < (R.length:Int)∧lB a.2) (fun i a r=>∃ t',r=(t',a)):=by
 obtain ⟨a,⟨a1,a2⟩,ha⟩:=aO6 N hN hb h20 o d m s (opt0 t)
 obtain ⟨r,e,t',rfl⟩:=ha none
 obtain ⟨r',e',hr'⟩:=nearC N hN hb ht h20 o d m s 0
 have e1:cX N o d m s (wlk b R 0)=some (t',a):=e
 rw [e1] at e'
 cases e'
 obtain ⟨q1,q2⟩:=hr'.uniq (aLz N (by omega) h20 o d m s)
 exact ⟨a,⟨Prod.ext q1 q2,a1,a2⟩,fun i=>ha (some i)⟩
theorem anyFS (hN:4100 < N) {R gl:List aE} (h20:R.length≤20) (h:aDc R.length gl) (he:aGp R gl) (o d:aC) (m s:Int) (w:Bool) (t:ι→Int) :
  TU (fun i=>cD N o d m s w (swp gl (t i))) (fun a:Bool=>a=(fQ N R).any o d m s w) (fun i a r=>∃ t',r=(swp gl t',a)∧pN (t i) t' (gl.length:Int)):=by
 obtain ⟨a,_,ha⟩:=anyU N hN h o d m s w (opt0 t)
 obtain ⟨r,e,t',rfl,_⟩:=ha none
 obtain ⟨r',e',hr'⟩:=aQ1 N hN h he o d m s w 0
 have e1:cD N o d m s w (swp gl 0)=some (swp gl t',a):=e
 rw [e1] at e'
 cases e'
 exact ⟨a,hr'.uniq (aOL N hN h20 o d m s w),fun i=>ha (some i)⟩
theorem anyFW (hN:1000000000000 < N) {b:aY} {R:List aE} (hb:wR R.length b) (ht:tS R b) (h20:R.length≤20) (o d:aC) (m s:Int) (w:Bool) (t:ι→Int) :
  TU (fun i=>dI N o d m s w (wlk b R (t i))) (fun a:Bool=>a=(fQ N R).any o d m s w) (fun i a r=>∃ t',r=(t',a)):=by
 obtain ⟨a,_,ha⟩:=anyW N hN hb h20 o d m s w (opt0 t)
 obtain ⟨r,e,t',rfl⟩:=ha none
 obtain ⟨r',e',hr'⟩:=anyC N hN hb ht h20 o d m s w 0
 have e1:dI N o d m s w (wlk b R 0)=some (t',a):=e
 rw [e1] at e'
 cases e'
 exact ⟨a,hr'.uniq (aOL N (by omega) h20 o d m s w),fun i=>ha (some i)⟩
end
theorem TU.te {ι ρ α β:Type} {o:Option α} {B:ι→α→Option ρ} {P:α→Prop} {Q:β→Prop} {S:ι→β→ρ→Prop} (h:T o P) (hf:∀ a,o=some a→P a→TU (fun i=>B i a) Q S):TU (fun i=>Option.bind o (B i)) Q S:=by
 obtain ⟨a,e,pa⟩:=h
 rw [show (fun i=>Option.bind o (B i))=fun i=>B i a from funext fun i=>by rw [e];rfl]
 exact hf a e pa
section
variable {ι:Type} {N:Nat} (hN:4100 < N) {b:List (List aD)} {s:aG} {v:aI} {sky:aB} (hr:Rdy b s v sky)
include hN hr
theorem aRc {gl:List aE} (hsw:aDc s.gG.length gl) (heq:aGp s.gG gl) (hcon:v.gA4=true) (hfit:(s.gJ.length:Int)≤(kN v.gS).2) {ray:aH} (hray:aEZ ray) (f l:aB) (dep:Int) (ov:Bool) (sm:aF) (st:ι→aJ) (src:aA) (t:ι→Int) :
  TU (fun i=>kM N b ray f l dep ov sm s v sky (st i) src (swp gl (t i))) (fun a:aF×aR×Bool=>(aFR a.2.1∧(a.2.1.gF∈s.gB1∨a.2.1.gF.gI=0))∧aCn N (fQ N s.gG) b s ray dep ov sm=some a∧(ov=true→a.1=sm)∧(a.2.2=false→a.2.1.gF.gI=0)) (fun i a r=>∃ x t',r=(a.1,x,swp gl t',a.2.1,a.2.2)∧pN (t i) t' (gl.length:Int)∧pN (st i).gB2 x 4):=by
 unfold kM
 refine TU.te (P:=fun _=>True) (T.cond (fun _=>T.ret trivial) (fun _=>T.ret trivial)) fun p1 ep1 _=>?_
 refine TU.bind (aSQ (by omega) hr.few hsw heq ray.go ray.gd p1 ray.gD1 t) fun a ha r hr'=>?_
 obtain ⟨hF,ha⟩:=ha
 have h':∃ t':ι→Int,∀ i,r i=(swp gl (t' i),a)∧pN (t i) (t' i) (gl.length:Int):=⟨fun i=>(hr' i).choose,fun i=>(hr' i).choose_spec⟩
 obtain ⟨t',e''⟩:=h'
 have e':∀ i,r i=(swp gl (t' i),a):=fun i=>(e'' i).1
 simp only [e']
 have hx:∀ i,∃ x,(cond v.gA4 (some (I64 ((st i).gB2+4))) (some (st i).gB2))=some x∧pN (st i).gB2 x 4:=fun i=>⟨_,by rw [hcon];rfl,bF (aKL _) (aKi _),fun _=>dE _⟩
 have hx':∃ x:ι→Int,∀ i,(cond v.gA4 (some (I64 ((st i).gB2+4))) (some (st i).gB2))=some (x i)∧pN (st i).gB2 (x i) 4:=⟨fun i=>(hx i).choose,fun i=>(hx i).choose_spec⟩
 obtain ⟨x,ex⟩:=hx'
 simp only [fun i=>(ex i).1,Option.bind_some]
 refine TU.cond (fun hc=>?_) (fun hc=>?_)
 ·exact TU.ret (sm,aR.mk 0 (aC.mk 0 0 0) (aB.mk 0 0 0) (aB.mk 0 0 0) (aU.mk 0 (#v[0,0,0]) 0) false,false) ⟨⟨⟨⟨z64,z64,z64⟩,aHN,aHN,mat0⟩,Or.inr rfl⟩,by unfold aCn;rw [ep1,Option.bind_some,← hF,hc,cond_true],fun _=>rfl,fun _=>rfl⟩ fun i=>⟨x i,t' i,rfl,(e'' i).2,(ex i).2⟩
 have h0:=of_decide_eq_false hc
 refine TU.te (T.idx (by omega) (by omega)) fun e4 ee4 h4=>?_
 have ht:=hr.tri e4 (List.mem_of_getElem? h4)
 refine TU.te (T.inRO (by decide) (by decide)) fun _ _ _=>TU.e (a:=e4.gP[1]) (fun i=>aAF e4.gP 1 (by decide)) (TU.te (T.inRO (by decide) (by decide)) fun _ _ _=>TU.e (a:=e4.gP[0]) (fun i=>aAF e4.gP 0 (by decide)) (TU.te (aI2 N _ _) fun r9 e9 _=>?_))
 refine TU.te (T.inRO (by decide) (by decide)) fun _ _ _=>TU.e (a:=e4.gP[2]) (fun i=>aAF e4.gP 2 (by decide)) (TU.te (T.inRO (by decide) (by decide)) fun _ _ _=>TU.e (a:=e4.gP[0]) (fun i=>aAF e4.gP 0 (by decide)) (TU.te (aI2 N _ _) fun r14 e14 _=>?_))
 refine TU.te (aIb N _ _) fun r15 e15 _=>TU.te (aLv (by omega) r15) fun r16 e16 h16=>?_
 refine TU.te (P:=fun p:aR=>pin p.gat∧vin p.gn∧aBG p.gF∧p.gF∈s.gB1) ?_ fun p17 e17 h17=>?_
 ·refine T.bind (aNW (by omega) hray.1 hray.2 ha.2) fun r18 h18=>T.bind (aMC (by omega) h16 ray.gd) fun r19 h19=>T.bind (T.idx ht.1.1 ht.1.2) fun e20 h20=>?_
  have hm:=List.mem_of_getElem? h20
  refine T.cond (fun _=>?_) (fun _=>T.ret ⟨h18,h19,hr.mat _ hm,hm⟩)
  rw [aQ]
  exact T.ret ⟨h18,h19,hr.mat _ hm,hm⟩
 have hy:∃ (lv:List aD),(aEr lv∧cond (decide (e4.gA9≥0)) (idx b e4.gA9) (some [])=some lv)∧∀ i,∃ y,(cond (decide (e4.gA9≥0)) (Option.bind (idx b e4.gA9) fun e23=>cond (!v.gA4) (some ((I64 (x i+4),e23))) (some ((x i,e23)))) (some ((x i,[]))))=some (y,lv)∧pN (st i).gB2 y 4:=by
  by_cases h:e4.gA9≥0
  ·obtain ⟨lv,e,hl⟩:=T.idx h ht.2.1
   refine ⟨lv,⟨hr.lev lv (List.mem_of_getElem? hl),by rw [dt h,cond_true,e]⟩,fun i=>?_⟩
   rw [dt h,cond_true,e,Option.bind_some,hcon]
   exact ⟨x i,rfl,(ex i).2⟩
  ·refine ⟨[],⟨⟨by simp,fun t h=>absurd h (by simp)⟩,by rw [df h,cond_false]⟩,fun i=>?_⟩
   rw [df h,cond_false]
   exact ⟨x i,rfl,(ex i).2⟩
 obtain ⟨lv,⟨hlv,elv⟩,hy⟩:=hy
 have hy':∃ y:ι→Int,∀ i,(cond (decide (e4.gA9≥0)) (Option.bind (idx b e4.gA9) fun e23=>cond (!v.gA4) (some ((I64 (x i+4),e23))) (some ((x i,e23)))) (some ((x i,[]))))=some (y i,lv)∧pN (st i).gB2 (y i) 4:=⟨fun i=>(hy i).choose,fun i=>(hy i).choose_spec⟩
 obtain ⟨y,ey⟩:=hy'
 simp only [fun i=>(ey i).1,Option.bind_some]
 refine TU.te (aJn (by omega) h17.2.2.1.1 hlv ht.2.2.1 ha.2 _) fun r24 e24 h24=>?_
 refine TU.te (P:=fun _=>True) ?_ fun p25 e25 _=>?_
 ·rw [aQ]
  refine T.cond (fun _=>?_) (fun _=>T.ret trivial)
  refine T.eq (aAC _ h17.1) (T.eq (aAC _ hray.1) (T.eq (aFM _ (aAE _) (aAE _)) (T.bind (aL7 (by omega) (aFE _ _)) fun _ _=>T.cond (fun _=>T.ret trivial) (fun _=>T.ret trivial))))
 ·exact TU.ret (p25,aR.mk p17.gi p17.gat p17.gn r24 p17.gF p17.gA8,true) ⟨⟨⟨h17.1,h17.2.1,h24,h17.2.2.1⟩,Or.inl h17.2.2.2⟩,by
   unfold aCn
   rw [ep1,Option.bind_some,← hF,hc,cond_false,ee4,Option.bind_some,e9,Option.bind_some,e14,Option.bind_some,e15,Option.bind_some,e16,Option.bind_some,e17,Option.bind_some,elv,Option.bind_some,e24,Option.bind_some,e25,Option.bind_some],fun h=>by subst h;cases hd:(dep==0) <;> rw [hd] at e25 <;> exact (Option.some.inj e25).symm,fun h=>by cases h⟩ fun i=>⟨y i,t' i,rfl,(e'' i).2,(ey i).2⟩
end
section
variable {ι:Type} {N:Nat} (hN:1000000000000 < N) {b:List (List aD)} {s:aG} {v:aI} {sky:aB} (hr:Rdy b s v sky)
include hN hr
theorem aRu {bv:aY} {gl:List aE} (hbv:wR gl.length bv) (htr:tS s.gG bv) (hgl:gl=s.gG) (hcon:v.gA4=false) {ray:aH} (hray:aEZ ray) (f l:aB) (dep:Int) (ov:Bool) (sm:aF) (st:ι→aJ) (src:aA) (t:ι→Int) :
  TU (fun i=>mI N b ray f l dep ov sm s v sky (st i) src (wlk bv gl (t i))) (fun a:aF×aR×Bool=>(aFR a.2.1∧(a.2.1.gF∈s.gB1∨a.2.1.gF.gI=0))∧aCn N (fQ N s.gG) b s ray dep ov sm=some a∧(ov=true→a.1=sm)∧(a.2.2=false→a.2.1.gF.gI=0)) (fun i a r=>∃ x t',r=(a.1,x,t',a.2.1,a.2.2)∧noR (t i) t' 0∧noR (st i).gB2 x 4):=by
 unfold mI
 refine TU.te (P:=fun _=>True) (T.cond (fun _=>T.ret trivial) (fun _=>T.ret trivial)) fun p1 ep1 _=>?_
 subst hgl
 refine TU.bind (aQ4 (by omega) hbv htr hr.few ray.go ray.gd p1 ray.gD1 t) fun a ha r hr'=>?_
 obtain ⟨hF,ha⟩:=ha
 have h':∃ t':ι→Int,∀ i,r i=(t' i,a):=⟨fun i=>(hr' i).choose,fun i=>(hr' i).choose_spec⟩
 obtain ⟨t',e'⟩:=h'
 simp only [e']
 have hx:∀ i,∃ x,(cond v.gA4 (some (I64 ((st i).gB2+4))) (some (st i).gB2))=some x∧noR (st i).gB2 x 4:=fun i=>⟨_,by rw [hcon];rfl,trivial⟩
 have hx':∃ x:ι→Int,∀ i,(cond v.gA4 (some (I64 ((st i).gB2+4))) (some (st i).gB2))=some (x i)∧noR (st i).gB2 (x i) 4:=⟨fun i=>(hx i).choose,fun i=>(hx i).choose_spec⟩
 obtain ⟨x,ex⟩:=hx'
 simp only [fun i=>(ex i).1,Option.bind_some]
 refine TU.cond (fun hc=>?_) (fun hc=>?_)
 ·exact TU.ret (sm,aR.mk 0 (aC.mk 0 0 0) (aB.mk 0 0 0) (aB.mk 0 0 0) (aU.mk 0 (#v[0,0,0]) 0) false,false) ⟨⟨⟨⟨z64,z64,z64⟩,aHN,aHN,mat0⟩,Or.inr rfl⟩,by unfold aCn;rw [ep1,Option.bind_some,← hF,hc,cond_true],fun _=>rfl,fun _=>rfl⟩ fun i=>⟨x i,t' i,rfl,trivial,(ex i).2⟩
 have h0:=of_decide_eq_false hc
 refine TU.te (T.idx (by omega) (by omega)) fun e4 ee4 h4=>?_
 have ht:=hr.tri e4 (List.mem_of_getElem? h4)
 refine TU.te (T.inRO (by decide) (by decide)) fun _ _ _=>TU.e (a:=e4.gP[1]) (fun i=>aAF e4.gP 1 (by decide)) (TU.te (T.inRO (by decide) (by decide)) fun _ _ _=>TU.e (a:=e4.gP[0]) (fun i=>aAF e4.gP 0 (by decide)) (TU.te (aI2 N _ _) fun r9 e9 _=>?_))
 refine TU.te (T.inRO (by decide) (by decide)) fun _ _ _=>TU.e (a:=e4.gP[2]) (fun i=>aAF e4.gP 2 (by decide)) (TU.te (T.inRO (by decide) (by decide)) fun _ _ _=>TU.e (a:=e4.gP[0]) (fun i=>aAF e4.gP 0 (by decide)) (TU.te (aI2 N _ _) fun r14 e14 _=>?_))
 refine TU.te (aIb N _ _) fun r15 e15 _=>TU.te (aLv (by omega) r15) fun r16 e16 h16=>?_
 refine TU.te (P:=fun p:aR=>pin p.gat∧vin p.gn∧aBG p.gF∧p.gF∈s.gB1) ?_ fun p17 e17 h17=>?_
 ·refine T.bind (aNW (by omega) hray.1 hray.2 ha.2) fun r18 h18=>T.bind (aMC (by omega) h16 ray.gd) fun r19 h19=>T.bind (T.idx ht.1.1 ht.1.2) fun e20 h20=>?_
  have hm:=List.mem_of_getElem? h20
  refine T.cond (fun _=>?_) (fun _=>T.ret ⟨h18,h19,hr.mat _ hm,hm⟩)
  rw [aQ]
  exact T.ret ⟨h18,h19,hr.mat _ hm,hm⟩
 have hy:∃ (lv:List aD),(aEr lv∧cond (decide (e4.gA9≥0)) (idx b e4.gA9) (some [])=some lv)∧∀ i,∃ y,(cond (decide (e4.gA9≥0)) (Option.bind (idx b e4.gA9) fun e23=>cond (!v.gA4) (some ((I64 (x i+4),e23))) (some ((x i,e23)))) (some ((x i,[]))))=some (y,lv)∧noR (st i).gB2 y 4:=by
  by_cases h:e4.gA9≥0
  ·obtain ⟨lv,e,hl⟩:=T.idx h ht.2.1
   refine ⟨lv,⟨hr.lev lv (List.mem_of_getElem? hl),by rw [dt h,cond_true,e]⟩,fun i=>?_⟩
   rw [dt h,cond_true,e,Option.bind_some,hcon]
   exact ⟨_,rfl,trivial⟩
  ·refine ⟨[],⟨⟨by simp,fun t h=>absurd h (by simp)⟩,by rw [df h,cond_false]⟩,fun i=>?_⟩
   rw [df h,cond_false]
   exact ⟨x i,rfl,(ex i).2⟩
 obtain ⟨lv,⟨hlv,elv⟩,hy⟩:=hy
 have hy':∃ y:ι→Int,∀ i,(cond (decide (e4.gA9≥0)) (Option.bind (idx b e4.gA9) fun e23=>cond (!v.gA4) (some ((I64 (x i+4),e23))) (some ((x i,e23)))) (some ((x i,[]))))=some (y i,lv)∧noR (st i).gB2 (y i) 4:=⟨fun i=>(hy i).choose,fun i=>(hy i).choose_spec⟩
 obtain ⟨y,ey⟩:=hy'
 simp only [fun i=>(ey i).1,Option.bind_some]
 refine TU.te (aJn (by omega) h17.2.2.1.1 hlv ht.2.2.1 ha.2 _) fun r24 e24 h24=>?_
 refine TU.te (P:=fun _=>True) ?_ fun p25 e25 _=>?_
 ·rw [aQ]
  refine T.cond (fun _=>?_) (fun _=>T.ret trivial)
  refine T.eq (aAC _ h17.1) (T.eq (aAC _ hray.1) (T.eq (aFM _ (aAE _) (aAE _)) (T.bind (aL7 (by omega) (aFE _ _)) fun _ _=>T.cond (fun _=>T.ret trivial) (fun _=>T.ret trivial))))
 ·exact TU.ret (p25,aR.mk p17.gi p17.gat p17.gn r24 p17.gF p17.gA8,true) ⟨⟨⟨h17.1,h17.2.1,h24,h17.2.2.1⟩,Or.inl h17.2.2.2⟩,by
   unfold aCn
   rw [ep1,Option.bind_some,← hF,hc,cond_false,ee4,Option.bind_some,e9,Option.bind_some,e14,Option.bind_some,e15,Option.bind_some,e16,Option.bind_some,e17,Option.bind_some,elv,Option.bind_some,e24,Option.bind_some,e25,Option.bind_some],fun h=>by subst h;cases hd:(dep==0) <;> rw [hd] at e25 <;> exact (Option.some.inj e25).symm,fun h=>by cases h⟩ fun i=>⟨y i,t' i,rfl,trivial,(ey i).2⟩
end
section
variable {ι:Type} {N:Nat} (hN:4100 < N) {b:List (List aD)} {s:aG} {v:aI} {sky:aB} (hr:Rdy b s v sky)
include hN
theorem aEC {sd fi se:Int} (x:Int) (ray:ι→aH) (f l:ι→aB) (dep:Int) (ov:ι→Bool) (sm:ι→aF) (st:ι→aJ) {src:aA} (hs:mH N sd fi se src) (sw:ι→aK) :
  TC (fun i=>dH N b x (ray i) (f i) (l i) dep (ov i) (sm i) s v sky (st i) src (sw i)) (fun r=>r.2=drV N sd fi se dep x∧mH N sd fi se (aA.mk r.1 src.gA src.gC src.gB src.gD)):=by
 obtain ⟨a,e,h⟩:=aQn N (by omega) hs dep x
 refine ⟨(a.1,a.2),h,fun i=>?_⟩
 unfold dH
 rw [e];rfl
theorem aOM {c:List aB} (hc:∀ x∈c,vin x) (hl:c.length≤2) (ray:ι→aH) {f l:aB} (hf:vin f) (hlv:vin l) (dep:Int) (ov:Bool) (sm:ι→aF) (st:ι→aJ) (src:ι→aA) (sw:ι→aK) :
  TC (fun i=>fX N b c (ray i) f l dep ov (sm i) s v sky (st i) (src i) (sw i)) (fun r=>vin r∧(ov=false→aAd N c f l=some r)∧(ov=true→r=l)):=by
 unfold fX aAd
 cases ov with
 | true=>exact TC.ret _ ⟨hlv,(fun h=>by cases h),fun _=>rfl⟩
 | false=>
  refine TC.t (P:=fun z=>z=[f]++c) ⟨_,qD (l:=[f]) (r:=c) (by simp;omega),rfl⟩ fun z hz=>?_
  subst hz
  obtain ⟨r2,e2,h2⟩:=aIc (N:=N) (by omega) ([f]++c) (by intro x hx;simp at hx;rcases hx with rfl | hx;exact hf;exact hc x hx) (by simp;omega)
  refine TC.t (P:=fun r=>r=r2) ⟨_,e2,rfl⟩ fun r hr=>?_
  subst hr
  refine TC.t (P:=fun r'=>r'=aFb l r) ⟨_,aLn (by omega) hlv h2,rfl⟩ fun r3 h3=>TC.ret _ ⟨by rw [h3];exact aAl _ _,fun _=>?_,fun h=>by cases h⟩
  rw [show f :: c=[f]++c from rfl,e2,Option.bind_some,aLn (by omega) hlv h2,h3];rfl
include hr
theorem aQS {gl:List aE} (hsw:aDc s.gG.length gl) (heq:aGp s.gG gl) (hcon:v.gA4=true) (hfit:(s.gJ.length:Int)≤(kN v.gS).2) {sd fi se:Int} {pl:aR} (hp:aFR pl) (ray:aH) {f l:aB} (hf:vin f) (hl:vin l) (dep:Int) (ov:Bool) (sm:aF) (st:ι→aJ) {src:aA} (hs:mH N sd fi se src) (t:ι→Int) :
  TU (fun i=>jE N b pl ray f l dep ov sm s v sky (st i) src (swp gl (t i))) (fun a:aB×aA=>vin a.1∧mH N sd fi se a.2∧((ov=false∧pl.gF.gI=0)→iQ N (fQ N s.gG) (drV N sd fi se dep) s.gJ pl f N l 0=some a.1)∧(¬ (ov=false∧pl.gF.gI=0)→a.1=l)) (fun i a r=>∃ t',r=(a.1,a.2,swp gl t')∧pN (t i) t' ((gl.length:Int)*(kN v.gS).2)):=by
 skip
 unfold jE
 have l5:=hr.lights
 simp only [aQ]
 refine TU.bind (P:=fun a:aB×aA=>vin a.1∧mH N sd fi se a.2∧((ov=false∧pl.gF.gI=0)→iQ N (fQ N s.gG) (drV N sd fi se dep) s.gJ pl f N l 0=some a.1)∧(¬ (ov=false∧pl.gF.gI=0)→a.1=l)) (S:=fun i a r=>∃ t',r=(a.1,a.2,swp gl t')∧pN (t i) t' ((gl.length:Int)*(s.gJ.length:Int))) ?_ fun a ha r hr'=>?_
 ·refine TU.loop0 (n:=s.gJ.length) (fun j (x:aB×aA) t'=>(vin x.1∧mH N sd fi se x.2∧((ov=false∧pl.gF.gI=0)→iQ N (fQ N s.gG) (drV N sd fi se dep) s.gJ pl f N l 0=iQ N (fQ N s.gG) (drV N sd fi se dep) s.gJ pl f (N - j) x.1 (j:Int))∧(¬ (ov=false∧pl.gF.gI=0)→x.1=l))∧∀ i,pN (t i) (t' i) ((gl.length:Int)*(j:Int))) (F:=fun i k t' (x:aB×aA) j=>eY N (s.gJ.length:Int) s b ray f dep ov sm v sky (st i) pl k x.1 x.2 (swp gl t') j) (fun k t' x j hj hx hk=>?_) (fun k t' x hx=>?_) (by omega) (s:=(l,src)) (h:=t) ⟨⟨hl,hs,fun _=>rfl,fun _=>rfl⟩,fun i=>by rw [show ((0:Nat):Int)=0 from rfl,Int.mul_zero];exact aIt _⟩
  ·have hlj:=hr.light _ (List.getElem_mem hj)
   obtain ⟨⟨x1,x2,x3,x4⟩,x5⟩:=hx
   simp only [eY,dt (show (j:Int) < (s.gJ.length:Int) by omega),cond_true,aQ]
   refine TU.bind (P:=fun a:aB×aA×aS×jB=>vin a.1∧mH N sd fi se a.2.1∧((ov=false∧pl.gF.gI=0)→iQ N (fQ N s.gG) (drV N sd fi se dep) s.gJ pl f (N - j) x.1 (j:Int)=iQ N (fQ N s.gG) (drV N sd fi se dep) s.gJ pl f (N - (j+1)) a.1 ((j+1:Nat):Int))∧(¬ (ov=false∧pl.gF.gI=0)→a.1=x.1)) (S:=fun i a r=>∃ tn,r=(a.1,a.2.1,swp gl (tn),a.2.2.1,a.2.2.2)∧pN (t' i) tn (gl.length:Int)) ?_ fun a ha r hr'=>?_
   ·refine TU.e (a:=s.gJ[j]) (fun i=>by rw [eW,List.getElem?_eq_getElem hj]) ?_
    refine TU.c (aEC hN _ _ _ _ _ _ _ _ x2 _) fun r10 h10=>TU.c (aEC hN _ _ _ _ _ _ _ _ h10.2 _) fun r12 h12=>?_
    refine TU.te (aQ2 (by omega) hlj pl.gat hp.2.1 _) fun r13 e13 h13=>?_
    rw [h10.1,h12.1] at e13
    have sp:∀ l',(cond (cond r13.gC0 true ((fQ N s.gG).any pl.gat r13.gC6 2 pl.gi (!r13.gC7))) (some x.1) (aAd N [pl.gc,r13.gC1] f x.1))=some l'→iQ N (fQ N s.gG) (drV N sd fi se dep) s.gJ pl f (N - j) x.1 (j:Int)=iQ N (fQ N s.gG) (drV N sd fi se dep) s.gJ pl f (N - (j+1)) l' ((j+1:Nat):Int):=by
     intro l' hl'
     rw [show N - j=(N - (j+1))+1 by omega,iQ,dt (show (j:Int) < (s.gJ.length:Int) by omega),cond_true,eW,List.getElem?_eq_getElem hj,Option.bind_some,e13,Option.bind_some,hl',Option.bind_some,eE (by omega)]
    refine TU.cond (fun hc=>by rw [hcon] at hc;cases hd:r13.gC0 <;> rw [hd] at hc <;> cases hc) (fun hdark=>?_)
    refine TU.bind (P:=fun q:Bool=>q=(!((fQ N s.gG).any pl.gat r13.gC6 2 pl.gi (!r13.gC7))&&(!r13.gC0&&(pl.gF.gI==0)))) (S:=fun i a r=>∃ tn,r=(swp gl (tn),a)∧pN (t' i) tn (gl.length:Int)) ?_ fun an ean ra hra=>?_
    ·refine TU.bind (anyFS (by omega) hr.few hsw heq pl.gat r13.gC6 2 pl.gi (!r13.gC7) t') fun an ean ra hra=>?_
     have hn:∃ tn:ι→Int,∀ i,ra i=(swp gl (tn i),an)∧pN (t' i) (tn i) (gl.length:Int):=⟨fun i=>(hra i).choose,fun i=>(hra i).choose_spec⟩
     obtain ⟨tn,en⟩:=hn
     simp only [fun i=>(en i).1]
     subst ean
     refine TU.cond (fun h1=>TU.cond (fun h2=>TU.ret (pl.gF.gI==0) (by rw [h1,h2];rfl) fun i=>⟨tn i,rfl,(en i).2⟩) (fun h2=>TU.ret false (by rw [h1,h2];rfl) fun i=>⟨tn i,rfl,(en i).2⟩)) (fun h1=>TU.ret false (by rw [h1];rfl) fun i=>⟨tn i,rfl,(en i).2⟩)
    ·have hn:∃ tn:ι→Int,∀ i,ra i=(swp gl (tn i),an)∧pN (t' i) (tn i) (gl.length:Int):=⟨fun i=>(hra i).choose,fun i=>(hra i).choose_spec⟩
     obtain ⟨tn,en⟩:=hn
     simp only [fun i=>(en i).1]
     refine TU.cond (fun hc=>?_) (fun hc=>TU.ret (_,_,_,_) ⟨x1,h12.2,fun hA=>sp _ ?_,fun _=>rfl⟩ fun i=>⟨tn i,rfl,(en i).2⟩)
     ·have ha3:((fQ N s.gG).any pl.gat r13.gC6 2 pl.gi (!r13.gC7))=false∧r13.gC0=false∧pl.gF.gI=0:=by
       rw [ean] at hc
       simpa using hc
      refine TU.c (aOM hN (by intro y hy;simp at hy;rcases hy with rfl | rfl;exact hp.2.2.1;exact h13) (by simp) _ hf x1 _ _ _ _ _ _) fun r17 h17=>TU.ret (_,_,_,_) ⟨h17.1,h12.2,fun hA=>sp _ (by rw [ha3.1,ha3.2.1];exact h17.2.1 hA.1),fun hA=>h17.2.2 ?_⟩ fun i=>⟨tn i,rfl,(en i).2⟩
      cases hov:ov with
      | true=>rfl
      | false=>exact absurd ⟨hov,ha3.2.2⟩ hA
     ·rw [hc] at ean
      have k0:(pl.gF.gI==0)=true:=by simpa using hA.2
      rw [k0] at ean
      cases hd:r13.gC0 with
      | true=>rfl
      | false=>
       rw [hd] at ean
       have:((fQ N s.gG).any pl.gat r13.gC6 2 pl.gi (!r13.gC7))=true:=by simpa using ean
       rw [this];rfl
   ·have hn:∃ tn:ι→Int,∀ i,r i=(a.1,a.2.1,swp gl (tn i),a.2.2.1,a.2.2.2)∧pN (t' i) (tn i) (gl.length:Int):=⟨fun i=>(hr' i).choose,fun i=>(hr' i).choose_spec⟩
    obtain ⟨tn,en⟩:=hn
    simp only [fun i=>(en i).1]
    rw [eE (by omega)]
    obtain ⟨y1,y2,y3,y4⟩:=ha
    exact hk (a.1,a.2.1) tn ⟨⟨y1,y2,fun hA=>(x3 hA).trans (y3 hA),fun hA=>(y4 hA).trans (x4 hA)⟩,fun i=>aKq (aKm (x5 i) (en i).2) (by rw [show ((j+1:Nat):Int)=(j:Int)+1 from by omega,Int.mul_add,Int.mul_one])⟩
  ·simp only [eY,df (show ¬ (s.gJ.length:Int) < (s.gJ.length:Int) by omega),cond_false]
   obtain ⟨⟨x1,x2,x3,x4⟩,x5⟩:=hx
   refine TU.ret x ⟨x1,x2,fun hA=>(x3 hA).trans ?_,x4⟩ fun i=>⟨t' i,rfl,x5 i⟩
   rw [show N - s.gJ.length=(N - s.gJ.length - 1)+1 by omega,iQ,df (by omega),cond_false]
 have h2:∃ t2:ι→Int,∀ i,r i=(a.1,a.2,swp gl (t2 i))∧pN (t i) (t2 i) ((gl.length:Int)*(s.gJ.length:Int)):=⟨fun i=>(hr' i).choose,fun i=>(hr' i).choose_spec⟩
 obtain ⟨t2,e2⟩:=h2
 simp only [fun i=>(e2 i).1]
 simp only [hcon,Bool.not_true,cond_false,aKn,Option.bind_some,aQ]
 obtain ⟨n,hn⟩:=Int.eq_ofNat_of_zero_le (show 0≤(kN v.gS).2 - (s.gJ.length:Int) by omega)
 have cl:(kN v.gS).2 < 1000:=by unfold kN;cases (v.gS==0) <;> cases (v.gS==1) <;> cases (v.gS==2) <;> decide
 have ig:I64 ((kN v.gS).2 - (s.gJ.length:Int))=(n:Int):=by rw [hn,bF (by omega) (by omega)]
 refine TU.bind (P:=fun _:Unit=>True) (S:=fun i _ r=>∃ t',r=swp gl t'∧pN (t2 i) t' ((gl.length:Int)*(n:Int))) ?_ fun _ _ r hr'=>?_
 ·refine TU.loop0 (n:=n) (fun j (_:Unit) t'=>∀ i,pN (t2 i) (t' i) ((gl.length:Int)*(j:Int))) (F:=fun i k t' (_:Unit) j=>eU N (kN v.gS) (s.gJ.length:Int) pl k (swp gl t') j) (fun k t' _ j hj hx hk=>?_) (fun k t' _ hx=>?_) (by omega) (s:=()) (h:=t2) (fun i=>by rw [show ((0:Nat):Int)=0 from rfl,Int.mul_zero];exact aIt _)
  ·simp only [eU,aQ,ig,dt (show (j:Int) < (n:Int) by omega),cond_true]
   refine TU.bind (anyU N (by omega) hsw pl.gat (aC.mk 0 0 0) 2 pl.gi false t') fun an _ ra hra=>?_
   have hn:∃ tn:ι→Int,∀ i,ra i=(swp gl (tn i),an)∧pN (t' i) (tn i) (gl.length:Int):=⟨fun i=>(hra i).choose,fun i=>(hra i).choose_spec⟩
   obtain ⟨tn,en⟩:=hn
   simp only [fun i=>(en i).1]
   rw [eE (by omega)]
   exact hk () tn fun i=>aKq (aKm (hx i) (en i).2) (by rw [show ((j+1:Nat):Int)=(j:Int)+1 from by omega,Int.mul_add,Int.mul_one])
  ·simp only [eU,aQ,ig,df (show ¬ (n:Int) < (n:Int) by omega),cond_false]
   exact TU.ret () trivial fun i=>⟨t' i,rfl,hx i⟩
 ·have h3:∃ t3:ι→Int,∀ i,r i=swp gl (t3 i)∧pN (t2 i) (t3 i) ((gl.length:Int)*(n:Int)):=⟨fun i=>(hr' i).choose,fun i=>(hr' i).choose_spec⟩
  obtain ⟨t3,e3⟩:=h3
  simp only [fun i=>(e3 i).1]
  exact TU.ret a ha fun i=>⟨t3 i,rfl,aKq (aKm (e2 i).2 (e3 i).2) (by rw [← Int.mul_add];congr 1;omega)⟩
end
section
variable {ι:Type} {N:Nat} (hN:1000000000000 < N) {b:List (List aD)} {s:aG} {v:aI} {sky:aB} (hr:Rdy b s v sky)
include hN
theorem aEE {sd fi se:Int} (x:Int) (ray:ι→aH) (f l:ι→aB) (dep:Int) (ov:ι→Bool) (sm:ι→aF) (st:ι→aJ) {src:aA} (hs:mH N sd fi se src) (sw:ι→aM) :
  TC (fun i=>dS N b x (ray i) (f i) (l i) dep (ov i) (sm i) s v sky (st i) src (sw i)) (fun r=>r.2=drV N sd fi se dep x∧mH N sd fi se (aA.mk r.1 src.gA src.gC src.gB src.gD)):=by
 obtain ⟨a,e,h⟩:=aQn N (by omega) hs dep x
 refine ⟨(a.1,a.2),h,fun i=>?_⟩
 unfold dS
 rw [e];rfl
theorem aPN {c:List aB} (hc:∀ x∈c,vin x) (hl:c.length≤2) (ray:ι→aH) {f l:aB} (hf:vin f) (hlv:vin l) (dep:Int) (ov:Bool) (sm:ι→aF) (st:ι→aJ) (src:ι→aA) (sw:ι→aM) :
  TC (fun i=>iO N b c (ray i) f l dep ov (sm i) s v sky (st i) (src i) (sw i)) (fun r=>vin r∧(ov=false→aAd N c f l=some r)∧(ov=true→r=l)):=by
 unfold iO aAd
 cases ov with
 | true=>exact TC.ret _ ⟨hlv,(fun h=>by cases h),fun _=>rfl⟩
 | false=>
  refine TC.t (P:=fun z=>z=[f]++c) ⟨_,qD (l:=[f]) (r:=c) (by simp;omega),rfl⟩ fun z hz=>?_
  subst hz
  obtain ⟨r2,e2,h2⟩:=aIc (N:=N) (by omega) ([f]++c) (by intro x hx;simp at hx;rcases hx with rfl | hx;exact hf;exact hc x hx) (by simp;omega)
  refine TC.t (P:=fun r=>r=r2) ⟨_,e2,rfl⟩ fun r hr=>?_
  subst hr
  refine TC.t (P:=fun r'=>r'=aFb l r) ⟨_,aLn (by omega) hlv h2,rfl⟩ fun r3 h3=>TC.ret _ ⟨by rw [h3];exact aAl _ _,fun _=>?_,fun h=>by cases h⟩
  rw [show f :: c=[f]++c from rfl,e2,Option.bind_some,aLn (by omega) hlv h2,h3];rfl
include hr
theorem aPh {bv:aY} {gl:List aE} (hbv:wR gl.length bv) (htr:tS s.gG bv) (hgl:gl=s.gG) (hcon:v.gA4=false) {sd fi se:Int} {pl:aR} (hp:aFR pl) (ray:aH) {f l:aB} (hf:vin f) (hl:vin l) (dep:Int) (ov:Bool) (sm:aF) (st:ι→aJ) {src:aA} (hs:mH N sd fi se src) (t:ι→Int) :
  TU (fun i=>kJ N b pl ray f l dep ov sm s v sky (st i) src (wlk bv gl (t i))) (fun a:aB×aA=>vin a.1∧mH N sd fi se a.2∧((ov=false∧pl.gF.gI=0)→iQ N (fQ N s.gG) (drV N sd fi se dep) s.gJ pl f N l 0=some a.1)∧(¬ (ov=false∧pl.gF.gI=0)→a.1=l)) (fun i a r=>∃ t',r=(a.1,a.2,wlk bv gl t')∧noR (t i) t' ((0:Int)*(kN v.gS).2)):=by
 subst hgl
 unfold kJ
 have l5:=hr.lights
 simp only [aQ]
 refine TU.bind (P:=fun a:aB×aA=>vin a.1∧mH N sd fi se a.2∧((ov=false∧pl.gF.gI=0)→iQ N (fQ N s.gG) (drV N sd fi se dep) s.gJ pl f N l 0=some a.1)∧(¬ (ov=false∧pl.gF.gI=0)→a.1=l)) (S:=fun i a r=>∃ t',r=(a.1,a.2,wlk bv s.gG t')∧noR (t i) t' ((0:Int)*(s.gJ.length:Int))) ?_ fun a ha r hr'=>?_
 ·refine TU.loop0 (n:=s.gJ.length) (fun j (x:aB×aA) t'=>(vin x.1∧mH N sd fi se x.2∧((ov=false∧pl.gF.gI=0)→iQ N (fQ N s.gG) (drV N sd fi se dep) s.gJ pl f N l 0=iQ N (fQ N s.gG) (drV N sd fi se dep) s.gJ pl f (N - j) x.1 (j:Int))∧(¬ (ov=false∧pl.gF.gI=0)→x.1=l))∧∀ i,noR (t i) (t' i) ((0:Int)*(j:Int))) (F:=fun i k t' (x:aB×aA) j=>fP N (s.gJ.length:Int) s b ray f dep ov sm v sky (st i) pl k x.1 x.2 (wlk bv s.gG t') j) (fun k t' x j hj hx hk=>?_) (fun k t' x hx=>?_) (by omega) (s:=(l,src)) (h:=t) ⟨⟨hl,hs,fun _=>rfl,fun _=>rfl⟩,fun i=>by rw [show ((0:Nat):Int)=0 from rfl,Int.mul_zero];exact noR_0 _⟩
  ·have hlj:=hr.light _ (List.getElem_mem hj)
   obtain ⟨⟨x1,x2,x3,x4⟩,x5⟩:=hx
   simp only [fP,dt (show (j:Int) < (s.gJ.length:Int) by omega),cond_true,aQ]
   refine TU.bind (P:=fun a:aB×aA×aS×jB=>vin a.1∧mH N sd fi se a.2.1∧((ov=false∧pl.gF.gI=0)→iQ N (fQ N s.gG) (drV N sd fi se dep) s.gJ pl f (N - j) x.1 (j:Int)=iQ N (fQ N s.gG) (drV N sd fi se dep) s.gJ pl f (N - (j+1)) a.1 ((j+1:Nat):Int))∧(¬ (ov=false∧pl.gF.gI=0)→a.1=x.1)) (S:=fun i a r=>∃ tn,r=(a.1,a.2.1,(tn),a.2.2.1,a.2.2.2)∧noR (t' i) tn (0:Int)) ?_ fun a ha r hr'=>?_
   ·refine TU.e (a:=s.gJ[j]) (fun i=>by rw [eW,List.getElem?_eq_getElem hj]) ?_
    refine TU.c (aEE hN _ _ _ _ _ _ _ _ x2 _) fun r10 h10=>TU.c (aEE hN _ _ _ _ _ _ _ _ h10.2 _) fun r12 h12=>?_
    refine TU.te (aQ2 (by omega) hlj pl.gat hp.2.1 _) fun r13 e13 h13=>?_
    rw [h10.1,h12.1] at e13
    have sp:∀ l',(cond (cond r13.gC0 true ((fQ N s.gG).any pl.gat r13.gC6 2 pl.gi (!r13.gC7))) (some x.1) (aAd N [pl.gc,r13.gC1] f x.1))=some l'→iQ N (fQ N s.gG) (drV N sd fi se dep) s.gJ pl f (N - j) x.1 (j:Int)=iQ N (fQ N s.gG) (drV N sd fi se dep) s.gJ pl f (N - (j+1)) l' ((j+1:Nat):Int):=by
     intro l' hl'
     rw [show N - j=(N - (j+1))+1 by omega,iQ,dt (show (j:Int) < (s.gJ.length:Int) by omega),cond_true,eW,List.getElem?_eq_getElem hj,Option.bind_some,e13,Option.bind_some,hl',Option.bind_some,eE (by omega)]
    refine TU.cond (fun hc=>TU.ret (x.1,aA.mk r12.1 ((aA.mk r10.1 x.2.gA x.2.gC x.2.gB x.2.gD).gA) ((aA.mk r10.1 x.2.gA x.2.gC x.2.gB x.2.gD).gC) ((aA.mk r10.1 x.2.gA x.2.gC x.2.gB x.2.gD).gB) ((aA.mk r10.1 x.2.gA x.2.gC x.2.gB x.2.gD).gD),s.gJ[j],r13) ⟨x1,h12.2,fun hA=>sp _ (by have hd:r13.gC0=true:=(by cases hd:r13.gC0 with | true=>rfl | false=>rw [hd] at hc;cases hc);rw [hd];rfl),fun _=>rfl⟩ fun i=>⟨t' i,rfl,trivial⟩) (fun hdark=>?_)
    refine TU.bind (P:=fun q:Bool=>q=(!((fQ N s.gG).any pl.gat r13.gC6 2 pl.gi (!r13.gC7))&&(!r13.gC0&&(pl.gF.gI==0)))) (S:=fun i a r=>∃ tn,r=((tn),a)∧noR (t' i) tn (0:Int)) ?_ fun an ean ra hra=>?_
    ·refine TU.bind (anyFW (by omega) hbv htr hr.few pl.gat r13.gC6 2 pl.gi (!r13.gC7) t') fun an ean ra hra=>?_
     have hn:∃ tn:ι→Int,∀ i,ra i=(tn i,an)∧noR (t' i) (tn i) 0:=⟨fun i=>(hra i).choose,fun i=>⟨(hra i).choose_spec,trivial⟩⟩
     obtain ⟨tn,en⟩:=hn
     simp only [fun i=>(en i).1]
     subst ean
     refine TU.cond (fun h1=>TU.cond (fun h2=>TU.ret (pl.gF.gI==0) (by rw [h1,h2];rfl) fun i=>⟨tn i,rfl,(en i).2⟩) (fun h2=>TU.ret false (by rw [h1,h2];rfl) fun i=>⟨tn i,rfl,(en i).2⟩)) (fun h1=>TU.ret false (by rw [h1];rfl) fun i=>⟨tn i,rfl,(en i).2⟩)
    ·have hn:∃ tn:ι→Int,∀ i,ra i=((tn i),an)∧noR (t' i) (tn i) (0:Int):=⟨fun i=>(hra i).choose,fun i=>(hra i).choose_spec⟩
     obtain ⟨tn,en⟩:=hn
     simp only [fun i=>(en i).1]
     refine TU.cond (fun hc=>?_) (fun hc=>TU.ret (_,_,_,_) ⟨x1,h12.2,fun hA=>sp _ ?_,fun _=>rfl⟩ fun i=>⟨tn i,rfl,(en i).2⟩)
     ·have ha3:((fQ N s.gG).any pl.gat r13.gC6 2 pl.gi (!r13.gC7))=false∧r13.gC0=false∧pl.gF.gI=0:=by
       rw [ean] at hc
       simpa using hc
      refine TU.c (aPN hN (by intro y hy;simp at hy;rcases hy with rfl | rfl;exact hp.2.2.1;exact h13) (by simp) _ hf x1 _ _ _ _ _ _) fun r17 h17=>TU.ret (_,_,_,_) ⟨h17.1,h12.2,fun hA=>sp _ (by rw [ha3.1,ha3.2.1];exact h17.2.1 hA.1),fun hA=>h17.2.2 ?_⟩ fun i=>⟨tn i,rfl,(en i).2⟩
      cases hov:ov with
      | true=>rfl
      | false=>exact absurd ⟨hov,ha3.2.2⟩ hA
     ·rw [hc] at ean
      have k0:(pl.gF.gI==0)=true:=by simpa using hA.2
      rw [k0] at ean
      cases hd:r13.gC0 with
      | true=>rfl
      | false=>
       rw [hd] at ean
       have:((fQ N s.gG).any pl.gat r13.gC6 2 pl.gi (!r13.gC7))=true:=by simpa using ean
       rw [this];rfl
   ·have hn:∃ tn:ι→Int,∀ i,r i=(a.1,a.2.1,(tn i),a.2.2.1,a.2.2.2)∧noR (t' i) (tn i) (0:Int):=⟨fun i=>(hr' i).choose,fun i=>(hr' i).choose_spec⟩
    obtain ⟨tn,en⟩:=hn
    simp only [fun i=>(en i).1]
    rw [eE (by omega)]
    obtain ⟨y1,y2,y3,y4⟩:=ha
    exact hk (a.1,a.2.1) tn ⟨⟨y1,y2,fun hA=>(x3 hA).trans (y3 hA),fun hA=>(y4 hA).trans (x4 hA)⟩,fun i=>noR_e (noR_t (x5 i) (en i).2) (by rw [show ((j+1:Nat):Int)=(j:Int)+1 from by omega,Int.mul_add,Int.mul_one])⟩
  ·simp only [fP,df (show ¬ (s.gJ.length:Int) < (s.gJ.length:Int) by omega),cond_false]
   obtain ⟨⟨x1,x2,x3,x4⟩,x5⟩:=hx
   refine TU.ret x ⟨x1,x2,fun hA=>(x3 hA).trans ?_,x4⟩ fun i=>⟨t' i,rfl,x5 i⟩
   rw [show N - s.gJ.length=(N - s.gJ.length - 1)+1 by omega,iQ,df (by omega),cond_false]
 have h2:∃ t2:ι→Int,∀ i,r i=(a.1,a.2,wlk bv s.gG (t2 i))∧noR (t i) (t2 i) ((0:Int)*(s.gJ.length:Int)):=⟨fun i=>(hr' i).choose,fun i=>(hr' i).choose_spec⟩
 obtain ⟨t2,e2⟩:=h2
 simp only [fun i=>(e2 i).1]
 simp only [hcon,Bool.not_false,cond_true]
 exact TU.ret a ha fun i=>⟨t2 i,rfl,trivial⟩
end
section
variable {ι:Type} {N:Nat} (hN:4100 < N) {b:List (List aD)} {s:aG} {v:aI} {sky:aB} (hr:Rdy b s v sky)
include hN hr
theorem aRK {gl:List aE} (hsw:aDc s.gG.length gl) (heq:aGp s.gG gl) (hcon:v.gA4=true) (hfit:(s.gJ.length:Int)≤(kN v.gS).2) {sd fi se:Int} {ray:aH} (hray:aEZ ray) {f l:aB} (hf:vin f) (hl:vin l) (dep:Int) (ov:Bool) (sm:aF) (st:ι→aJ) {src:aA} (hsrc:mH N sd fi se src) (t:ι→Int) :
  TU (fun i=>kK N b ray f l dep ov sm s v sky (st i) src (swp gl (t i))) (fun a:aH×aB×aB×Bool×aF×aA=>(aEZ a.1∧vin a.2.1∧vin a.2.2.1∧mH N sd fi se a.2.2.2.2.2)∧(ov=true→a.2.2.1=l∧a.2.2.2.1=true∧a.2.2.2.2.1=sm)∧(ov=false→∃ q,aA0 N (fQ N s.gG) (drV N sd fi se) b s v.gN sky ray f l dep sm=some q∧a.2.2.1=q.2.2.1∧a.2.2.2.1=q.2.2.2.1∧a.2.2.2.2.1=q.2.2.2.2∧(q.2.2.2.1=false→a.1=q.1∧a.2.1=q.2.1))) (fun i a r=>∃ x t',r=(a.1,a.2.1,a.2.2.1,a.2.2.2.1,a.2.2.2.2.1,x,a.2.2.2.2.2,swp gl t')):=by
 unfold kK
 refine TU.bind (aRc hN hr hsw heq hcon hfit hray f l dep ov sm st src t) fun a ha r hr'=>?_
 have h1:∃ (x t1:ι→Int),∀ i,r i=(a.1,x i,swp gl (t1 i),a.2.1,a.2.2)∧pN (t i) (t1 i) (gl.length:Int)∧pN (st i).gB2 (x i) 4:=⟨fun i=>(hr' i).choose,fun i=>(hr' i).choose_spec.choose,fun i=>(hr' i).choose_spec.choose_spec⟩
 obtain ⟨x,t1,e1⟩:=h1
 simp only [fun i=>(e1 i).1]
 obtain ⟨⟨hp,hm⟩,hsp,hsm,hk0⟩:=ha
 obtain ⟨sm',pl,hit⟩:=a
 dsimp only at *
 refine TU.c (P:=fun p:aB×Bool=>vin p.1∧(ov=true→p.1=l∧p.2=true)∧(ov=false→(hit=false→aAd N [sky] f l=some p.1∧p.2=true)∧(hit=true→p.1=l∧p.2=false))) (TC.cond (fun hc=>TC.bind (aOM hN (by intro y hy;simp at hy;rcases hy with rfl;exact hr.sky) (by simp) _ hf hl _ _ _ _ _ _) fun r3 h3=>TC.bind (aM1 _ _ _ _ _ _ _ _ _ _) fun _ _=>TC.ret _ ⟨h3.1,fun h=>⟨h3.2.2 h,by rw [h];rfl⟩,fun h=>⟨fun _=>⟨h3.2.1 h,by rw [h];rfl⟩,(fun hh=>by rw [hh] at hc;cases hc)⟩⟩) (fun hc=>TC.ret _ ⟨hl,fun h=>⟨rfl,h⟩,fun h=>⟨(fun hh=>by rw [hh] at hc;cases hc),fun _=>⟨rfl,h⟩⟩⟩)) fun p2 h2=>?_
 refine TU.c (aM1 _ _ _ _ _ _ _ _ _ _) fun _ _=>?_
 simp only [aQ]
 refine TU.c (P:=fun p:aB×Bool=>vin p.1∧(ov=true→p.1=l∧p.2=true)∧(ov=false→(hit=false→p.1=p2.1∧p.2=true)∧(hit=true→(pl.gA8=true→p.1=l∧p.2=true)∧(pl.gA8=false→(pl.gF.gI=4→aAd N [pl.gc] f l=some p.1∧p.2=true)∧(pl.gF.gI≠4→p.1=l∧p.2=false))))) (TC.cond (fun hc=>TC.bind (aOM hN (by intro y hy;simp at hy;rcases hy with rfl;exact hp.2.2.1) (by simp) _ hf h2.1 _ _ _ _ _ _) fun r3 h3=>TC.bind (aM1 _ _ _ _ _ _ _ _ _ _) fun _ _=>TC.ret _ ⟨h3.1,fun h=>?_,fun h=>⟨fun hh=>?_,fun hh=>⟨fun g=>?_,fun g=>⟨fun _=>?_,fun g4=>?_⟩⟩⟩⟩) (fun hc=>TC.ret _ ⟨h2.1,fun h=>?_,fun h=>⟨fun hh=>?_,fun hh=>⟨fun g=>?_,fun g=>⟨fun g4=>?_,fun _=>?_⟩⟩⟩⟩)) fun p6 p6l=>?_
 ·obtain ⟨a1,a2⟩:=h2.2.1 h
  exact ⟨(h3.2.2 (by rw [a2];rfl)).trans a1,by rw [a2];rfl⟩
 ·have k4:pl.gF.gI=4:=by simpa using hc
  rw [hk0 hh] at k4;cases k4
 ·obtain ⟨a1,a2⟩:=(h2.2.2 h).2 hh
  exact ⟨(h3.2.2 (by rw [a2,g];rfl)).trans a1,by rw [a2,g];rfl⟩
 ·obtain ⟨a1,a2⟩:=(h2.2.2 h).2 hh
  have:=h3.2.1 (by rw [a2,g];rfl)
  rw [a1] at this
  exact ⟨this,by rw [a2,g];rfl⟩
 ·exact absurd (by simpa using hc) g4
 ·obtain ⟨a1,a2⟩:=h2.2.1 h
  exact ⟨a1,by rw [a2];rfl⟩
 ·obtain ⟨a1,a2⟩:=(h2.2.2 h).1 hh
  exact ⟨rfl,by rw [a2];rfl⟩
 ·obtain ⟨a1,a2⟩:=(h2.2.2 h).2 hh
  exact ⟨a1,by rw [a2,g];rfl⟩
 ·rw [g4] at hc;cases hc
 ·obtain ⟨a1,a2⟩:=(h2.2.2 h).2 hh
  exact ⟨a1,by rw [a2,g];rfl⟩
 refine TU.bind (P:=fun z:aB×aA=>vin z.1∧mH N sd fi se z.2∧((p6.2=false∧pl.gF.gI=0)→iQ N (fQ N s.gG) (drV N sd fi se dep) s.gJ pl f N p6.1 0=some z.1)∧(¬ (p6.2=false∧pl.gF.gI=0)→z.1=p6.1)) (S:=fun i z r=>∃ t2,r=(z.1,z.2,swp gl t2)∧pN (t1 i) t2 ((gl.length:Int)*(kN v.gS).2)) ?_ fun z hz rz hrz=>?_
 ·simp only [hcon,cond_true,Option.bind_some]
  refine TU.bind (aQS hN hr hsw heq hcon hfit hp (ι:=ι) ray hf p6l.1 dep p6.2 sm' _ hsrc t1) fun z hz rz hrz=>?_
  have h2:∃ t2:ι→Int,∀ i,rz i=(z.1,z.2,swp gl (t2 i))∧pN (t1 i) (t2 i) ((gl.length:Int)*(kN v.gS).2):=⟨fun i=>(hrz i).choose,fun i=>(hrz i).choose_spec⟩
  obtain ⟨t2,e2⟩:=h2
  simp only [fun i=>(e2 i).1]
  exact TU.ret (z.1,z.2) hz fun i=>⟨t2 i,rfl,(e2 i).2⟩
 have h2':∃ t2:ι→Int,∀ i,rz i=(z.1,z.2,swp gl (t2 i))∧pN (t1 i) (t2 i) ((gl.length:Int)*(kN v.gS).2):=⟨fun i=>(hrz i).choose,fun i=>(hrz i).choose_spec⟩
 obtain ⟨t2,e2⟩:=h2'
 simp only [fun i=>(e2 i).1]
 -- an end
 have stop:∀ m:Bool,m=true→(p6.2=true∨(dep==v.gN)=true)→(ov=true→z.1=l∧m=true∧sm'=sm)∧(ov=false→∃ q,aA0 N (fQ N s.gG) (drV N sd fi se) b s v.gN sky ray f l dep sm=some q∧z.1=q.2.2.1∧m=q.2.2.2.1∧sm'=q.2.2.2.2∧(q.2.2.2.1=false→ray=q.1∧f=q.2.1)):=by
  intro m hm1 hs
  refine ⟨fun h=>?_,fun h=>?_⟩
  ·obtain ⟨a1,a2⟩:=p6l.2.1 h
   exact ⟨(hz.2.2.2 (fun hA=>by rw [a2] at hA;cases hA.1)).trans a1,hm1,hsm h⟩
  ·rw [h] at hsp
   unfold aA0
   rw [hsp,Option.bind_some]
   have p6h:=p6l.2.2 h
   have p2h:=h2.2.2 h
   cases hh:hit with
   | false=>
    obtain ⟨a1,a2⟩:=p6h.1 hh
    obtain ⟨b1,b2⟩:=p2h.1 hh
    refine ⟨(ray,f,p2.1,true,sm'),by simp only [Bool.not_false,cond_true,b1,Option.bind_some],(hz.2.2.2 (fun hA=>by rw [a2] at hA;cases hA.1)).trans a1,hm1,rfl,fun h=>by cases h⟩
   | true=>
    obtain ⟨c1,c2⟩:=p6h.2 hh
    simp only [Bool.not_true,cond_false]
    cases hho:pl.gA8 with
    | true=>
     obtain ⟨a1,a2⟩:=c1 hho
     refine ⟨(ray,f,l,true,sm'),by rw [cond_true];cases (pl.gF.gI==4) <;> rfl,(hz.2.2.2 (fun hA=>by rw [a2] at hA;cases hA.1)).trans a1,hm1,rfl,fun h=>by cases h⟩
    | false=>
     rw [cond_false]
     obtain ⟨d1,d2⟩:=c2 hho
     by_cases k4:pl.gF.gI=4
     ·obtain ⟨a1,a2⟩:=d1 k4
      refine ⟨(ray,f,p6.1,true,sm'),by rw [show (pl.gF.gI==4)=true by simpa using k4,cond_true,a1,Option.bind_some],hz.2.2.2 (fun hA=>by rw [a2] at hA;cases hA.1),hm1,rfl,fun h=>by cases h⟩
     ·obtain ⟨a1,a2⟩:=d2 k4
      have hd:(dep==v.gN)=true:=by rcases hs with h | h;rw [a2] at h;cases h;exact h
      refine ⟨(ray,f,z.1,true,sm'),?_,rfl,hm1,rfl,fun h=>by cases h⟩
      rw [show (pl.gF.gI==4)=false by simpa using k4,cond_false]
      by_cases k0:pl.gF.gI=0
      ·have:=hz.2.2.1 ⟨a2,k0⟩
       rw [a1] at this
       rw [show (pl.gF.gI==0)=true by simpa using k0,cond_true,this,Option.bind_some,hd,cond_true]
      ·have:=hz.2.2.2 (fun hA=>k0 hA.2)
       rw [a1] at this
       rw [show (pl.gF.gI==0)=false by simpa using k0,cond_false,Option.bind_some,hd,cond_true,this]
 refine TU.te (P:=fun p=>p=true↔(p6.2=true∨(dep==v.gN)=true)) (T.cond (fun h=>T.ret ⟨fun _=>Or.inl h,fun _=>rfl⟩) (fun h=>T.ret ⟨fun h'=>Or.inr h',fun h'=>by rcases h' with h' | h';rw [h] at h';cases h';exact h'⟩)) fun p14 _ h14=>TU.cond (fun hc=>?_) (fun hc=>?_)
 ·exact TU.c (aM1 _ _ _ _ _ _ _ _ _ _) fun _ _=>TU.ret (ray,f,z.1,cond p6.2 true true,sm',z.2) ⟨⟨hray,hf,hz.1,hz.2.1⟩,stop _ (by cases p6.2 <;> rfl) (h14.1 hc)⟩ fun i=>⟨x i,t2 i,rfl⟩
 have n6:p6.2=false:=by cases h:p6.2 with
  | false=>rfl
  | true=>rw [h14.2 (Or.inl h)] at hc;cases hc
 have nd:(dep==v.gN)=false:=by cases h:(dep==v.gN) with
  | false=>rfl
  | true=>rw [h14.2 (Or.inr h)] at hc;cases hc
 refine TU.c (aEC hN _ _ _ _ _ _ _ _ hz.2.1 _) fun r16 h16=>TU.c (aEC hN _ _ _ _ _ _ _ _ h16.2 _) fun r17 h17=>?_
 refine TU.te (aJs (by omega) hp.2.2.2 hp.2.2.1 hp.2.1 ray.gd _) fun r18 e18 h18=>TU.te (aIc (by omega) _ (by intro y hy;simp at hy;rcases hy with rfl | rfl;exact hf;exact h18.2) (by simp)) fun r19 e19 h19=>?_
 rw [h16.1,h17.1] at e18
 refine TU.c (aM1 _ _ _ _ _ _ _ _ _ _) fun _ _=>?_
 refine TU.c (P:=fun p:aB×Bool×aA=>vin p.1∧mH N sd fi se p.2.2∧(cond (decide (dep≥2)) (Option.bind (eM N r19 (drV N sd fi se dep 7)) fun r23=>some (r23.1,cond r18.gB3 true (!r23.2))) (some (r19,r18.gB3)))=some (p.1,p.2.1)) ?_ fun p21 h21=>?_
 ·refine TC.cond (fun h2d=>TC.bind (aEC hN _ _ _ _ _ _ _ _ h17.2 _) fun r22 h22=>?_) (fun h2d=>TC.ret _ ⟨h19,h17.2,by rw [h2d,n6];rfl⟩)
  obtain ⟨r23,e23,h23⟩:=aG6 (N:=N) (by omega) h19 r22.2
  refine TC.t (P:=fun r=>r=r23) ⟨_,e23,rfl⟩ fun r hr=>?_
  subst hr
  rw [h22.1] at e23
  exact TC.bind (aM1 _ _ _ _ _ _ _ _ _ _) fun _ _=>TC.ret _ ⟨h23,h22.2,by rw [h2d,n6,cond_true,e23];rfl⟩
 ·refine TU.ret (aH.mk pl.gat r18.gD6 pl.gi,p21.1,z.1,p21.2.1,sm',p21.2.2) ⟨⟨⟨hp.1,h18.1⟩,h21.1,hz.1,h21.2.1⟩,fun h=>?_,fun h=>?_⟩ fun i=>⟨x i,t2 i,rfl⟩
  ·obtain ⟨a1,a2⟩:=p6l.2.1 h
   rw [n6] at a2;cases a2
  ·refine ⟨(aH.mk pl.gat r18.gD6 pl.gi,p21.1,z.1,p21.2.1,sm'),?_,rfl,rfl,rfl,fun _=>⟨rfl,rfl⟩⟩
   rw [h] at hsp
   unfold aA0
   rw [hsp,Option.bind_some]
   have p6h:=p6l.2.2 h
   cases hh:hit with
   | false=>have:=(p6h.1 hh).2;rw [n6] at this;cases this
   | true=>
    obtain ⟨c1,c2⟩:=p6h.2 hh
    simp only [Bool.not_true,cond_false]
    cases hho:pl.gA8 with
    | true=>have:=(c1 hho).2;rw [n6] at this;cases this
    | false=>
     rw [cond_false]
     obtain ⟨d1,d2⟩:=c2 hho
     by_cases k4:pl.gF.gI=4
     ·have:=(d1 k4).2;rw [n6] at this;cases this
     ·obtain ⟨a1,a2⟩:=d2 k4
      rw [show (pl.gF.gI==4)=false by simpa using k4,cond_false]
      have hl':(cond (pl.gF.gI==0) (iQ N (fQ N s.gG) (drV N sd fi se dep) s.gJ pl f N l 0) (some l))=some z.1:=by
       by_cases k0:pl.gF.gI=0
       ·have:=hz.2.2.1 ⟨a2,k0⟩
        rw [a1] at this
        rw [show (pl.gF.gI==0)=true by simpa using k0,cond_true,this]
       ·have:=hz.2.2.2 (fun hA=>k0 hA.2)
        rw [a1] at this
        rw [show (pl.gF.gI==0)=false by simpa using k0,cond_false,this]
      rw [hl',Option.bind_some,nd,cond_false,e18,Option.bind_some,e19,Option.bind_some,h21.2.2,Option.bind_some]
end
section
variable {ι:Type} {N:Nat} (hN:1000000000000 < N) {b:List (List aD)} {s:aG} {v:aI} {sky:aB} (hr:Rdy b s v sky)
include hN hr
theorem aRU {bv:aY} {gl:List aE} (hbv:wR gl.length bv) (htr:tS s.gG bv) (hgl:gl=s.gG) (hcon:v.gA4=false) {sd fi se:Int} {ray:aH} (hray:aEZ ray) {f l:aB} (hf:vin f) (hl:vin l) (dep:Int) (ov:Bool) (sm:aF) (st:ι→aJ) {src:aA} (hsrc:mH N sd fi se src) (t:ι→Int) :
  TU (fun i=>mL N b ray f l dep ov sm s v sky (st i) src (wlk bv gl (t i))) (fun a:aH×aB×aB×Bool×aF×aA=>(aEZ a.1∧vin a.2.1∧vin a.2.2.1∧mH N sd fi se a.2.2.2.2.2)∧(ov=true→a.2.2.1=l∧a.2.2.2.1=true∧a.2.2.2.2.1=sm)∧(ov=false→∃ q,aA0 N (fQ N s.gG) (drV N sd fi se) b s v.gN sky ray f l dep sm=some q∧a.2.2.1=q.2.2.1∧a.2.2.2.1=q.2.2.2.1∧a.2.2.2.2.1=q.2.2.2.2∧(q.2.2.2.1=false→a.1=q.1∧a.2.1=q.2.1))) (fun i a r=>∃ x t',r=(a.1,a.2.1,a.2.2.1,a.2.2.2.1,a.2.2.2.2.1,x,a.2.2.2.2.2,wlk bv gl t')):=by
 unfold mL
 refine TU.bind (aRu hN hr hbv htr hgl hcon hray f l dep ov sm st src t) fun a ha r hr'=>?_
 have h1:∃ (x t1:ι→Int),∀ i,r i=(a.1,x i,(t1 i),a.2.1,a.2.2)∧noR (t i) (t1 i) 0∧noR (st i).gB2 (x i) 4:=⟨fun i=>(hr' i).choose,fun i=>(hr' i).choose_spec.choose,fun i=>(hr' i).choose_spec.choose_spec⟩
 obtain ⟨x,t1,e1⟩:=h1
 simp only [fun i=>(e1 i).1]
 obtain ⟨⟨hp,hm⟩,hsp,hsm,hk0⟩:=ha
 obtain ⟨sm',pl,hit⟩:=a
 dsimp only at *
 refine TU.c (P:=fun p:aB×Bool=>vin p.1∧(ov=true→p.1=l∧p.2=true)∧(ov=false→(hit=false→aAd N [sky] f l=some p.1∧p.2=true)∧(hit=true→p.1=l∧p.2=false))) (TC.cond (fun hc=>TC.bind (aPN hN (by intro y hy;simp at hy;rcases hy with rfl;exact hr.sky) (by simp) _ hf hl _ _ _ _ _ _) fun r3 h3=>TC.bind (aNF _ _ _ _ _ _ _ _ _ _) fun _ _=>TC.ret _ ⟨h3.1,fun h=>⟨h3.2.2 h,by rw [h];rfl⟩,fun h=>⟨fun _=>⟨h3.2.1 h,by rw [h];rfl⟩,(fun hh=>by rw [hh] at hc;cases hc)⟩⟩) (fun hc=>TC.ret _ ⟨hl,fun h=>⟨rfl,h⟩,fun h=>⟨(fun hh=>by rw [hh] at hc;cases hc),fun _=>⟨rfl,h⟩⟩⟩)) fun p2 h2=>?_
 refine TU.c (aNF _ _ _ _ _ _ _ _ _ _) fun _ _=>?_
 simp only [aQ]
 refine TU.c (P:=fun p:aB×Bool=>vin p.1∧(ov=true→p.1=l∧p.2=true)∧(ov=false→(hit=false→p.1=p2.1∧p.2=true)∧(hit=true→(pl.gA8=true→p.1=l∧p.2=true)∧(pl.gA8=false→(pl.gF.gI=4→aAd N [pl.gc] f l=some p.1∧p.2=true)∧(pl.gF.gI≠4→p.1=l∧p.2=false))))) (TC.cond (fun hc=>TC.bind (aPN hN (by intro y hy;simp at hy;rcases hy with rfl;exact hp.2.2.1) (by simp) _ hf h2.1 _ _ _ _ _ _) fun r3 h3=>TC.bind (aNF _ _ _ _ _ _ _ _ _ _) fun _ _=>TC.ret _ ⟨h3.1,fun h=>?_,fun h=>⟨fun hh=>?_,fun hh=>⟨fun g=>?_,fun g=>⟨fun _=>?_,fun g4=>?_⟩⟩⟩⟩) (fun hc=>TC.ret _ ⟨h2.1,fun h=>?_,fun h=>⟨fun hh=>?_,fun hh=>⟨fun g=>?_,fun g=>⟨fun g4=>?_,fun _=>?_⟩⟩⟩⟩)) fun p6 p6l=>?_
 ·obtain ⟨a1,a2⟩:=h2.2.1 h
  exact ⟨(h3.2.2 (by rw [a2];rfl)).trans a1,by rw [a2];rfl⟩
 ·have k4:pl.gF.gI=4:=by simpa using hc
  rw [hk0 hh] at k4;cases k4
 ·obtain ⟨a1,a2⟩:=(h2.2.2 h).2 hh
  exact ⟨(h3.2.2 (by rw [a2,g];rfl)).trans a1,by rw [a2,g];rfl⟩
 ·obtain ⟨a1,a2⟩:=(h2.2.2 h).2 hh
  have:=h3.2.1 (by rw [a2,g];rfl)
  rw [a1] at this
  exact ⟨this,by rw [a2,g];rfl⟩
 ·exact absurd (by simpa using hc) g4
 ·obtain ⟨a1,a2⟩:=h2.2.1 h
  exact ⟨a1,by rw [a2];rfl⟩
 ·obtain ⟨a1,a2⟩:=(h2.2.2 h).1 hh
  exact ⟨rfl,by rw [a2];rfl⟩
 ·obtain ⟨a1,a2⟩:=(h2.2.2 h).2 hh
  exact ⟨a1,by rw [a2,g];rfl⟩
 ·rw [g4] at hc;cases hc
 ·obtain ⟨a1,a2⟩:=(h2.2.2 h).2 hh
  exact ⟨a1,by rw [a2,g];rfl⟩
 refine TU.bind (P:=fun z:aB×aA=>vin z.1∧mH N sd fi se z.2∧((p6.2=false∧pl.gF.gI=0)→iQ N (fQ N s.gG) (drV N sd fi se dep) s.gJ pl f N p6.1 0=some z.1)∧(¬ (p6.2=false∧pl.gF.gI=0)→z.1=p6.1)) (S:=fun i z r=>∃ t2,r=(z.1,z.2,wlk bv gl t2)∧noR (t1 i) t2 ((0:Int)*(kN v.gS).2)) ?_ fun z hz rz hrz=>?_
 ·refine TU.t (P:=fun p11=>p11=(!p6.2&&(pl.gF.gI==0))) (by rw [hcon];cases p6.2 <;> exact ⟨_,rfl,rfl⟩) fun p11 e11=>TU.cond (fun _=>?_) (fun h11=>TU.ret (p6.1,src) ⟨p6l.1,hsrc,(fun hA=>by rw [e11,hA.1,hA.2] at h11;cases h11),fun _=>rfl⟩ fun i=>⟨t1 i,rfl,trivial⟩)
  refine TU.bind (aPh hN hr hbv htr hgl hcon hp (ι:=ι) ray hf p6l.1 dep p6.2 sm' _ hsrc t1) fun z hz rz hrz=>?_
  have h2:∃ t2:ι→Int,∀ i,rz i=(z.1,z.2,wlk bv gl (t2 i))∧noR (t1 i) (t2 i) ((0:Int)*(kN v.gS).2):=⟨fun i=>(hrz i).choose,fun i=>(hrz i).choose_spec⟩
  obtain ⟨t2,e2⟩:=h2
  simp only [fun i=>(e2 i).1]
  exact TU.ret (z.1,z.2) hz fun i=>⟨t2 i,rfl,(e2 i).2⟩
 have h2':∃ t2:ι→Int,∀ i,rz i=(z.1,z.2,wlk bv gl (t2 i))∧noR (t1 i) (t2 i) ((0:Int)*(kN v.gS).2):=⟨fun i=>(hrz i).choose,fun i=>(hrz i).choose_spec⟩
 obtain ⟨t2,e2⟩:=h2'
 simp only [fun i=>(e2 i).1]
 -- an end
 have stop:∀ m:Bool,m=true→(p6.2=true∨(dep==v.gN)=true)→(ov=true→z.1=l∧m=true∧sm'=sm)∧(ov=false→∃ q,aA0 N (fQ N s.gG) (drV N sd fi se) b s v.gN sky ray f l dep sm=some q∧z.1=q.2.2.1∧m=q.2.2.2.1∧sm'=q.2.2.2.2∧(q.2.2.2.1=false→ray=q.1∧f=q.2.1)):=by
  intro m hm1 hs
  refine ⟨fun h=>?_,fun h=>?_⟩
  ·obtain ⟨a1,a2⟩:=p6l.2.1 h
   exact ⟨(hz.2.2.2 (fun hA=>by rw [a2] at hA;cases hA.1)).trans a1,hm1,hsm h⟩
  ·rw [h] at hsp
   unfold aA0
   rw [hsp,Option.bind_some]
   have p6h:=p6l.2.2 h
   have p2h:=h2.2.2 h
   cases hh:hit with
   | false=>
    obtain ⟨a1,a2⟩:=p6h.1 hh
    obtain ⟨b1,b2⟩:=p2h.1 hh
    refine ⟨(ray,f,p2.1,true,sm'),by simp only [Bool.not_false,cond_true,b1,Option.bind_some],(hz.2.2.2 (fun hA=>by rw [a2] at hA;cases hA.1)).trans a1,hm1,rfl,fun h=>by cases h⟩
   | true=>
    obtain ⟨c1,c2⟩:=p6h.2 hh
    simp only [Bool.not_true,cond_false]
    cases hho:pl.gA8 with
    | true=>
     obtain ⟨a1,a2⟩:=c1 hho
     refine ⟨(ray,f,l,true,sm'),by rw [cond_true];cases (pl.gF.gI==4) <;> rfl,(hz.2.2.2 (fun hA=>by rw [a2] at hA;cases hA.1)).trans a1,hm1,rfl,fun h=>by cases h⟩
    | false=>
     rw [cond_false]
     obtain ⟨d1,d2⟩:=c2 hho
     by_cases k4:pl.gF.gI=4
     ·obtain ⟨a1,a2⟩:=d1 k4
      refine ⟨(ray,f,p6.1,true,sm'),by rw [show (pl.gF.gI==4)=true by simpa using k4,cond_true,a1,Option.bind_some],hz.2.2.2 (fun hA=>by rw [a2] at hA;cases hA.1),hm1,rfl,fun h=>by cases h⟩
     ·obtain ⟨a1,a2⟩:=d2 k4
      have hd:(dep==v.gN)=true:=by rcases hs with h | h;rw [a2] at h;cases h;exact h
      refine ⟨(ray,f,z.1,true,sm'),?_,rfl,hm1,rfl,fun h=>by cases h⟩
      rw [show (pl.gF.gI==4)=false by simpa using k4,cond_false]
      by_cases k0:pl.gF.gI=0
      ·have:=hz.2.2.1 ⟨a2,k0⟩
       rw [a1] at this
       rw [show (pl.gF.gI==0)=true by simpa using k0,cond_true,this,Option.bind_some,hd,cond_true]
      ·have:=hz.2.2.2 (fun hA=>k0 hA.2)
       rw [a1] at this
       rw [show (pl.gF.gI==0)=false by simpa using k0,cond_false,Option.bind_some,hd,cond_true,this]
 refine TU.te (P:=fun p=>p=true↔(p6.2=true∨(dep==v.gN)=true)) (T.cond (fun h=>T.ret ⟨fun _=>Or.inl h,fun _=>rfl⟩) (fun h=>T.ret ⟨fun h'=>Or.inr h',fun h'=>by rcases h' with h' | h';rw [h] at h';cases h';exact h'⟩)) fun p14 _ h14=>TU.cond (fun hc=>?_) (fun hc=>?_)
 ·exact TU.c (aNF _ _ _ _ _ _ _ _ _ _) fun _ _=>TU.ret (ray,f,z.1,cond p6.2 true true,sm',z.2) ⟨⟨hray,hf,hz.1,hz.2.1⟩,stop _ (by cases p6.2 <;> rfl) (h14.1 hc)⟩ fun i=>⟨x i,t2 i,rfl⟩
 have n6:p6.2=false:=by cases h:p6.2 with
  | false=>rfl
  | true=>rw [h14.2 (Or.inl h)] at hc;cases hc
 have nd:(dep==v.gN)=false:=by cases h:(dep==v.gN) with
  | false=>rfl
  | true=>rw [h14.2 (Or.inr h)] at hc;cases hc
 refine TU.c (aEE hN _ _ _ _ _ _ _ _ hz.2.1 _) fun r16 h16=>TU.c (aEE hN _ _ _ _ _ _ _ _ h16.2 _) fun r17 h17=>?_
 refine TU.te (aJs (by omega) hp.2.2.2 hp.2.2.1 hp.2.1 ray.gd _) fun r18 e18 h18=>TU.te (aIc (by omega) _ (by intro y hy;simp at hy;rcases hy with rfl | rfl;exact hf;exact h18.2) (by simp)) fun r19 e19 h19=>?_
 rw [h16.1,h17.1] at e18
 refine TU.c (aNF _ _ _ _ _ _ _ _ _ _) fun _ _=>?_
 refine TU.c (P:=fun p:aB×Bool×aA=>vin p.1∧mH N sd fi se p.2.2∧(cond (decide (dep≥2)) (Option.bind (eM N r19 (drV N sd fi se dep 7)) fun r23=>some (r23.1,cond r18.gB3 true (!r23.2))) (some (r19,r18.gB3)))=some (p.1,p.2.1)) ?_ fun p21 h21=>?_
 ·refine TC.cond (fun h2d=>TC.bind (aEE hN _ _ _ _ _ _ _ _ h17.2 _) fun r22 h22=>?_) (fun h2d=>TC.ret _ ⟨h19,h17.2,by rw [h2d,n6];rfl⟩)
  obtain ⟨r23,e23,h23⟩:=aG6 (N:=N) (by omega) h19 r22.2
  refine TC.t (P:=fun r=>r=r23) ⟨_,e23,rfl⟩ fun r hr=>?_
  subst hr
  rw [h22.1] at e23
  exact TC.bind (aNF _ _ _ _ _ _ _ _ _ _) fun _ _=>TC.ret _ ⟨h23,h22.2,by rw [h2d,n6,cond_true,e23];rfl⟩
 ·refine TU.ret (aH.mk pl.gat r18.gD6 pl.gi,p21.1,z.1,p21.2.1,sm',p21.2.2) ⟨⟨⟨hp.1,h18.1⟩,h21.1,hz.1,h21.2.1⟩,fun h=>?_,fun h=>?_⟩ fun i=>⟨x i,t2 i,rfl⟩
  ·obtain ⟨a1,a2⟩:=p6l.2.1 h
   rw [n6] at a2;cases a2
  ·refine ⟨(aH.mk pl.gat r18.gD6 pl.gi,p21.1,z.1,p21.2.1,sm'),?_,rfl,rfl,rfl,fun _=>⟨rfl,rfl⟩⟩
   rw [h] at hsp
   unfold aA0
   rw [hsp,Option.bind_some]
   have p6h:=p6l.2.2 h
   cases hh:hit with
   | false=>have:=(p6h.1 hh).2;rw [n6] at this;cases this
   | true=>
    obtain ⟨c1,c2⟩:=p6h.2 hh
    simp only [Bool.not_true,cond_false]
    cases hho:pl.gA8 with
    | true=>have:=(c1 hho).2;rw [n6] at this;cases this
    | false=>
     rw [cond_false]
     obtain ⟨d1,d2⟩:=c2 hho
     by_cases k4:pl.gF.gI=4
     ·have:=(d1 k4).2;rw [n6] at this;cases this
     ·obtain ⟨a1,a2⟩:=d2 k4
      rw [show (pl.gF.gI==4)=false by simpa using k4,cond_false]
      have hl':(cond (pl.gF.gI==0) (iQ N (fQ N s.gG) (drV N sd fi se dep) s.gJ pl f N l 0) (some l))=some z.1:=by
       by_cases k0:pl.gF.gI=0
       ·have:=hz.2.2.1 ⟨a2,k0⟩
        rw [a1] at this
        rw [show (pl.gF.gI==0)=true by simpa using k0,cond_true,this]
       ·have:=hz.2.2.2 (fun hA=>k0 hA.2)
        rw [a1] at this
        rw [show (pl.gF.gI==0)=false by simpa using k0,cond_false,this]
      rw [hl',Option.bind_some,nd,cond_false,e18,Option.bind_some,e19,Option.bind_some,h21.2.2,Option.bind_some]
end
def aDj (N:Nat) (b:List (List aD)) (s:aG) (v:aI) (sky:aB) (x y z:Int):Option aF:=
 Option.bind (rX N v.gC5 v.gW v.gH x y (#v[drV N v.gO (I64 (I64 (y*v.gW)+x)) z 0 0,drV N v.gO (I64 (I64 (y*v.gW)+x)) z 0 1,drV N v.gO (I64 (I64 (y*v.gW)+x)) z 0 2,drV N v.gO (I64 (I64 (y*v.gW)+x)) z 0 3])) fun r15=>
 Option.bind (aC8 N (fQ N s.gG) (drV N v.gO (I64 (I64 (y*v.gW)+x)) z) b s v.gN sky N (aH.mk r15.1 r15.2.1 (-1)) (aB.mk 4294967296 4294967296 4294967296) (aB.mk 0 0 0) 0 false (aF.mk (aB.mk 0 0 0) 0 0 (aB.mk 0 0 0) (-1))) fun q=>
 some (aF.mk q.1 q.2.gD3 q.2.gN q.2.gD4 q.2.gB5)
def inV (v:aI) (x y z:Int):Prop:=(0≤x∧x < v.gW)∧(0≤y∧y < v.gH)∧0≤z∧z < v.gB8
theorem vec4 {v:Vector Int 4} {a b c d:Int} (h0:v[0]=a) (h1:v[1]=b) (h2:v[2]=c) (h3:v[3]=d):v=#v[a,b,c,d]:=by
 apply Vector.ext
 intro i hi
 have:i=0∨i=1∨i=2∨i=3:=by omega
 rcases this with rfl | rfl | rfl | rfl
 ·exact h0
 ·exact h1
 ·exact h2
 ·exact h3
theorem sH (N:Nat) (F:Fnd) (dr:Int→Int→Int) (b:List (List aD)) (s:aG) (depth:Int) (sky:aB) (k:Nat) (ray:aH) (f l:aB) (dep:Int) (sm:aF):aC8 N F dr b s depth sky (k+1) ray f l dep true sm=some (l,sm):=by
 rw [aC8]
 cases decide (dep≤depth) <;> rfl
section
variable {ι:Type} {N:Nat} (hN:4100 < N) {b:List (List aD)} {s:aG} {v:aI} {sky:aB} (hr:Rdy b s v sky)
include hN hr
theorem aRy {gl:List aE} (hsw:aDc s.gG.length gl) (heq:aGp s.gG gl) (hcon:v.gA4=true) (hfit:(s.gJ.length:Int)≤(kN v.gS).2) (x y z:Int) (st:ι→aJ) (t:ι→Int) :
  TU (fun i=>iH N b x y z s v sky (st i) (swp gl (t i))) (fun a:aF×Int=>(inV v x y z→a.2=0∧aDj N b s v sky x y z=some a.1)∧(¬ inV v x y z→a=(aF.mk (aB.mk 0 0 0) 0 0 (aB.mk 0 0 0) 0,2))) (fun i a r=>∃ st' t',r=(st',swp gl t',a.1,a.2)):=by
 unfold iH sZ
 simp only [aQ,Option.bind_some]
 refine TU.cond (fun hc=>TU.ret (aF.mk (aB.mk 0 0 0) 0 0 (aB.mk 0 0 0) 0,2) ⟨fun h=>?_,fun _=>rfl⟩ fun i=>⟨st i,t i,rfl⟩) (fun hc=>?_)
 ·exfalso
  obtain ⟨⟨h1,h2⟩,⟨h3,h4⟩,h5,h6⟩:=h
  rw [df (show ¬ x < 0 by omega),df (show ¬ x≥v.gW by omega),df (show ¬ y < 0 by omega),df (show ¬ y≥v.gH by omega),df (show ¬ z < 0 by omega),df (show ¬ z≥v.gB8 by omega)] at hc
  cases hc
 have inr:inV v x y z:=by
  have oo:∀ {a:Prop} [Decidable a] {b:Bool},cond b true (decide a)=false→b=false∧¬ a:=by
   intro a _ b h
   cases b with
   | true=>cases h
   | false=>exact ⟨rfl,of_decide_eq_false h⟩
  obtain ⟨hc,c6⟩:=oo hc
  obtain ⟨hc,c5⟩:=oo hc
  obtain ⟨hc,c4⟩:=oo hc
  obtain ⟨hc,c3⟩:=oo hc
  obtain ⟨hc,c2⟩:=oo hc
  have c1:=of_decide_eq_false hc
  exact ⟨⟨by omega,by omega⟩,⟨by omega,by omega⟩,by omega,by omega⟩
 generalize hpix:I64 (I64 (y*v.gW)+x)=pix
 refine TU.c (P:=fun p:aA×Vector Int 4=>mH N v.gO pix z p.1∧p.2=#v[drV N v.gO pix z 0 0,drV N v.gO pix z 0 1,drV N v.gO pix z 0 2,drV N v.gO pix z 0 3]) ?_ fun p8 hp8=>?_
 ·have main:∀ (k j:Nat) (src:aA) (q:Vector Int 4),4 - j < k→j≤4→mH N v.gO pix z src→(∀ i,(h:i < 4)→i < j→q[i]=drV N v.gO pix z 0 (i:Int))→TC (fun i=>fB N b s v sky (st i) (swp gl (t i)) k src q (j:Int)) (fun p:aA×Vector Int 4=>mH N v.gO pix z p.1∧p.2=#v[drV N v.gO pix z 0 0,drV N v.gO pix z 0 1,drV N v.gO pix z 0 2,drV N v.gO pix z 0 3]):=by
   intro k
   induction k with
   | zero=>intro j src q h;omega
   | succ k ih=>
    intro j src q hk hj hs hq
    simp only [fB]
    refine TC.cond (fun hc=>?_) (fun hc=>TC.ret _ ⟨hs,?_⟩)
    ·have hj4:j < 4:=by have:=of_decide_eq_true hc;omega
     refine TC.bind (aEC (by omega) _ _ _ _ _ _ _ _ hs _) fun r12 h12=>TC.t (T.inRO (by omega) (by omega)) fun _ _=>TC.t (T.vgI hj4) fun _ _=>?_
     rw [eE (by omega)]
     refine ih (j+1) _ _ (by omega) (by omega) h12.2 fun i hi hij=>?_
     rw [Int.toNat_natCast,Vector.getElem_setIfInBounds hi]
     by_cases c:j=i
     ·subst c;rw [if_pos rfl,h12.1]
     ·rw [if_neg c];exact hq i hi (by omega)
    ·have:j=4:=by have:=of_decide_eq_false hc;omega
     subst this
     exact vec4 (hq 0 (by decide) (by decide)) (hq 1 (by decide) (by decide)) (hq 2 (by decide) (by decide)) (hq 3 (by decide) (by decide))
  exact main N 0 _ _ (by omega) (by decide) ⟨rfl,rfl,rfl,rfl,fun h=>by cases h⟩ fun i _ h=>absurd h (by omega)
 refine TU.te (rayN (by omega) _ _ _ _ _ _) fun r15 e15 h15=>?_
 rw [hp8.2] at e15
 obtain ⟨_,_,⟨d0,d8⟩,_⟩:=hr.view
 obtain ⟨n,hn⟩:=Int.eq_ofNat_of_zero_le (show 0≤v.gN+1 by omega)
 refine TU.bind (P:=fun a:aA×aH×aB×aB×Bool×aF=>aC8 N (fQ N s.gG) (drV N v.gO pix z) b s v.gN sky N (aH.mk r15.1 r15.2.1 (-1)) (aB.mk 4294967296 4294967296 4294967296) (aB.mk 0 0 0) 0 false (aF.mk (aB.mk 0 0 0) 0 0 (aB.mk 0 0 0) (-1))=some (a.2.2.2.1,a.2.2.2.2.2)) (S:=fun i a r=>∃ (st':aJ) (t':Int),∃ dd:Int,r=(st',swp gl t',a.1,a.2.1,a.2.2.1,a.2.2.2.1,dd,a.2.2.2.2.1,a.2.2.2.2.2)) ?_ fun a ha r hr'=>?_
 ·refine TU.loop0 (n:=n) (fun j (x:aA×aH×aB×aB×Bool×aF) (h:ι→aJ×Int)=>(aEZ x.2.1∧vin x.2.2.1∧vin x.2.2.2.1∧mH N v.gO pix z x.1)∧aC8 N (fQ N s.gG) (drV N v.gO pix z) b s v.gN sky N (aH.mk r15.1 r15.2.1 (-1)) (aB.mk 4294967296 4294967296 4294967296) (aB.mk 0 0 0) 0 false (aF.mk (aB.mk 0 0 0) 0 0 (aB.mk 0 0 0) (-1))=aC8 N (fQ N s.gG) (drV N v.gO pix z) b s v.gN sky (N - j) x.2.1 x.2.2.1 x.2.2.2.1 (j:Int) x.2.2.2.2.1 x.2.2.2.2.2) (F:=fun i k (h:aJ×Int) (x:aA×aH×aB×aB×Bool×aF) j=>dZ N v b s sky k h.1 (swp gl h.2) x.1 x.2.1 x.2.2.1 x.2.2.2.1 j x.2.2.2.2.1 x.2.2.2.2.2) (fun k h x j hj hx hk=>?_) (fun k h x hx=>?_) (by omega) (s:=(p8.1,aH.mk r15.1 r15.2.1 (-1),aB.mk 4294967296 4294967296 4294967296,aB.mk 0 0 0,false,aF.mk (aB.mk 0 0 0) 0 0 (aB.mk 0 0 0) (-1))) (h:=fun i=>(st i,t i)) ⟨⟨h15,aQq,aHN,hp8.1⟩,rfl⟩
  ·simp only [dZ,aQ,dt (show (j:Int)≤v.gN by omega),cond_true]
   simp only [hcon]
   refine TU.t (P:=fun r=>r=true) (by cases x.2.2.2.2.1 <;> exact ⟨_,rfl,rfl⟩) fun p26 h26=>?_
   rw [h26]
   simp only [cond_true]
   obtain ⟨⟨x1,x2,x3,x4⟩,x5⟩:=hx
   refine TU.bind (aRK hN hr hsw heq hcon hfit x1 x2 x3 (j:Int) x.2.2.2.2.1 x.2.2.2.2.2 (fun i=>(h i).1) x4 (fun i=>(h i).2)) fun a ha r hr'=>?_
   have h1:∃ (y t1:ι→Int),∀ i,r i=(a.1,a.2.1,a.2.2.1,a.2.2.2.1,a.2.2.2.2.1,y i,a.2.2.2.2.2,swp gl (t1 i)):=⟨fun i=>(hr' i).choose,fun i=>(hr' i).choose_spec.choose,fun i=>(hr' i).choose_spec.choose_spec⟩
   obtain ⟨y,t1,e1⟩:=h1
   simp only [e1]
   rw [eE (by omega)]
   obtain ⟨⟨a1,a2,a3,a4⟩,a5,a6⟩:=ha
   refine hk (a.2.2.2.2.2,a.1,a.2.1,a.2.2.1,a.2.2.2.1,a.2.2.2.2.1) (fun i=>(aJ.mk (h i).1.gK (y i) (I64 ((h i).1.gL+1)),t1 i)) ⟨⟨a1,a2,a3,a4⟩,x5.trans ?_⟩
   dsimp only
   cases ho:x.2.2.2.2.1 with
   | true=>
    obtain ⟨b1,b2,b3⟩:=a5 ho
    rw [b1,b2,b3,show N - j=(N - j - 1)+1 by omega,sH,show N - (j+1)=(N - (j+1) - 1)+1 by omega,sH]
   | false=>
    obtain ⟨q,q1,q2,q3,q4,q5⟩:=a6 ho
    rw [show N - j=(N - (j+1))+1 by omega,aC8,dt (show (j:Int)≤v.gN by omega)]
    simp only [Bool.not_false,cond_true,q1,Option.bind_some]
    rw [eE (by omega),q2,q3,q4]
    cases hq:q.2.2.2.1 with
    | true=>rw [show N - (j+1)=(N - (j+1) - 1)+1 by omega,sH,sH]
    | false=>
     obtain ⟨c1,c2⟩:=q5 hq
     rw [c1,c2]
  ·simp only [dZ,aQ,df (show ¬ (n:Int)≤v.gN by omega),cond_false,Option.bind_some]
   refine TU.ret x ?_ fun i=>⟨_,_,_,rfl⟩
   rw [hx.2,show N - n=(N - n - 1)+1 by omega,aC8,df (show ¬ (n:Int)≤v.gN by omega)]
   rfl
 ·have h1:∃ (st':ι→aJ) (t':ι→Int) (dd:ι→Int),∀ i,r i=(st' i,swp gl (t' i),a.1,a.2.1,a.2.2.1,a.2.2.2.1,dd i,a.2.2.2.2.1,a.2.2.2.2.2):=⟨fun i=>(hr' i).choose,fun i=>(hr' i).choose_spec.choose,fun i=>(hr' i).choose_spec.choose_spec.choose,fun i=>(hr' i).choose_spec.choose_spec.choose_spec⟩
  obtain ⟨st',t',dd,e1⟩:=h1
  simp only [e1]
  refine TU.ret (aF.mk a.2.2.2.1 a.2.2.2.2.2.gD3 a.2.2.2.2.2.gN a.2.2.2.2.2.gD4 a.2.2.2.2.2.gB5,0) ⟨fun _=>⟨rfl,?_⟩,fun h=>absurd inr h⟩ fun i=>⟨st' i,t' i,rfl⟩
  unfold aDj
  rw [hpix,e15,Option.bind_some,ha,Option.bind_some]
end
section
variable {ι:Type} {N:Nat} (hN:1000000000000 < N) {b:List (List aD)} {s:aG} {v:aI} {sky:aB} (hr:Rdy b s v sky)
include hN hr
theorem aRP {bv:aY} {gl:List aE} (hbv:wR gl.length bv) (htr:tS s.gG bv) (hgl:gl=s.gG) (hcon:v.gA4=false) (x y z:Int) (st:ι→aJ) (t:ι→Int) :
  TU (fun i=>fN N b x y z s v sky (st i) (wlk bv gl (t i))) (fun a:aF×Int=>(inV v x y z→a.2=0∧aDj N b s v sky x y z=some a.1)∧(¬ inV v x y z→a=(aF.mk (aB.mk 0 0 0) 0 0 (aB.mk 0 0 0) 0,2))) (fun i a r=>∃ st' t',r=(st',wlk bv gl t',a.1,a.2)):=by
 unfold fN sZ
 simp only [aQ,Option.bind_some]
 refine TU.cond (fun hc=>TU.ret (aF.mk (aB.mk 0 0 0) 0 0 (aB.mk 0 0 0) 0,2) ⟨fun h=>?_,fun _=>rfl⟩ fun i=>⟨st i,t i,rfl⟩) (fun hc=>?_)
 ·exfalso
  obtain ⟨⟨h1,h2⟩,⟨h3,h4⟩,h5,h6⟩:=h
  rw [df (show ¬ x < 0 by omega),df (show ¬ x≥v.gW by omega),df (show ¬ y < 0 by omega),df (show ¬ y≥v.gH by omega),df (show ¬ z < 0 by omega),df (show ¬ z≥v.gB8 by omega)] at hc
  cases hc
 have inr:inV v x y z:=by
  have oo:∀ {a:Prop} [Decidable a] {b:Bool},cond b true (decide a)=false→b=false∧¬ a:=by
   intro a _ b h
   cases b with
   | true=>cases h
   | false=>exact ⟨rfl,of_decide_eq_false h⟩
  obtain ⟨hc,c6⟩:=oo hc
  obtain ⟨hc,c5⟩:=oo hc
  obtain ⟨hc,c4⟩:=oo hc
  obtain ⟨hc,c3⟩:=oo hc
  obtain ⟨hc,c2⟩:=oo hc
  have c1:=of_decide_eq_false hc
  exact ⟨⟨by omega,by omega⟩,⟨by omega,by omega⟩,by omega,by omega⟩
 generalize hpix:I64 (I64 (y*v.gW)+x)=pix
 refine TU.c (P:=fun p:aA×Vector Int 4=>mH N v.gO pix z p.1∧p.2=#v[drV N v.gO pix z 0 0,drV N v.gO pix z 0 1,drV N v.gO pix z 0 2,drV N v.gO pix z 0 3]) ?_ fun p8 hp8=>?_
 ·have main:∀ (k j:Nat) (src:aA) (q:Vector Int 4),4 - j < k→j≤4→mH N v.gO pix z src→(∀ i,(h:i < 4)→i < j→q[i]=drV N v.gO pix z 0 (i:Int))→TC (fun i=>hK N b s v sky (st i) (wlk bv gl (t i)) k src q (j:Int)) (fun p:aA×Vector Int 4=>mH N v.gO pix z p.1∧p.2=#v[drV N v.gO pix z 0 0,drV N v.gO pix z 0 1,drV N v.gO pix z 0 2,drV N v.gO pix z 0 3]):=by
   intro k
   induction k with
   | zero=>intro j src q h;omega
   | succ k ih=>
    intro j src q hk hj hs hq
    simp only [hK]
    refine TC.cond (fun hc=>?_) (fun hc=>TC.ret _ ⟨hs,?_⟩)
    ·have hj4:j < 4:=by have:=of_decide_eq_true hc;omega
     refine TC.bind (aEE (by omega) _ _ _ _ _ _ _ _ hs _) fun r12 h12=>TC.t (T.inRO (by omega) (by omega)) fun _ _=>TC.t (T.vgI hj4) fun _ _=>?_
     rw [eE (by omega)]
     refine ih (j+1) _ _ (by omega) (by omega) h12.2 fun i hi hij=>?_
     rw [Int.toNat_natCast,Vector.getElem_setIfInBounds hi]
     by_cases c:j=i
     ·subst c;rw [if_pos rfl,h12.1]
     ·rw [if_neg c];exact hq i hi (by omega)
    ·have:j=4:=by have:=of_decide_eq_false hc;omega
     subst this
     exact vec4 (hq 0 (by decide) (by decide)) (hq 1 (by decide) (by decide)) (hq 2 (by decide) (by decide)) (hq 3 (by decide) (by decide))
  exact main N 0 _ _ (by omega) (by decide) ⟨rfl,rfl,rfl,rfl,fun h=>by cases h⟩ fun i _ h=>absurd h (by omega)
 refine TU.te (rayN (by omega) _ _ _ _ _ _) fun r15 e15 h15=>?_
 rw [hp8.2] at e15
 obtain ⟨_,_,⟨d0,d8⟩,_⟩:=hr.view
 obtain ⟨n,hn⟩:=Int.eq_ofNat_of_zero_le (show 0≤v.gN+1 by omega)
 refine TU.bind (P:=fun a:aA×aH×aB×aB×Bool×aF=>aC8 N (fQ N s.gG) (drV N v.gO pix z) b s v.gN sky N (aH.mk r15.1 r15.2.1 (-1)) (aB.mk 4294967296 4294967296 4294967296) (aB.mk 0 0 0) 0 false (aF.mk (aB.mk 0 0 0) 0 0 (aB.mk 0 0 0) (-1))=some (a.2.2.2.1,a.2.2.2.2.2)) (S:=fun i a r=>∃ (st':aJ) (t':Int),∃ dd:Int,r=(st',wlk bv gl t',a.1,a.2.1,a.2.2.1,a.2.2.2.1,dd,a.2.2.2.2.1,a.2.2.2.2.2)) ?_ fun a ha r hr'=>?_
 ·refine TU.loop0 (n:=n) (fun j (x:aA×aH×aB×aB×Bool×aF) (h:ι→aJ×Int)=>(aEZ x.2.1∧vin x.2.2.1∧vin x.2.2.2.1∧mH N v.gO pix z x.1)∧aC8 N (fQ N s.gG) (drV N v.gO pix z) b s v.gN sky N (aH.mk r15.1 r15.2.1 (-1)) (aB.mk 4294967296 4294967296 4294967296) (aB.mk 0 0 0) 0 false (aF.mk (aB.mk 0 0 0) 0 0 (aB.mk 0 0 0) (-1))=aC8 N (fQ N s.gG) (drV N v.gO pix z) b s v.gN sky (N - j) x.2.1 x.2.2.1 x.2.2.2.1 (j:Int) x.2.2.2.2.1 x.2.2.2.2.2) (F:=fun i k (h:aJ×Int) (x:aA×aH×aB×aB×Bool×aF) j=>eP N v b s sky k h.1 (wlk bv gl h.2) x.1 x.2.1 x.2.2.1 x.2.2.2.1 j x.2.2.2.2.1 x.2.2.2.2.2) (fun k h x j hj hx hk=>?_) (fun k h x hx=>?_) (by omega) (s:=(p8.1,aH.mk r15.1 r15.2.1 (-1),aB.mk 4294967296 4294967296 4294967296,aB.mk 0 0 0,false,aF.mk (aB.mk 0 0 0) 0 0 (aB.mk 0 0 0) (-1))) (h:=fun i=>(st i,t i)) ⟨⟨h15,aQq,aHN,hp8.1⟩,rfl⟩
  ·simp only [eP,aQ,dt (show (j:Int)≤v.gN by omega),cond_true]
   refine TU.t (P:=fun q=>q=(!x.2.2.2.2.1)) (by rw [hcon];cases x.2.2.2.2.1 <;> exact ⟨_,rfl,rfl⟩) fun p26 h26=>TU.cond (fun _=>?_) (fun hc=>TU.ret x ?_ fun i=>⟨_,_,_,rfl⟩)
   case refine_2=>
    have ho:x.2.2.2.2.1=true:=by cases h:x.2.2.2.2.1 with
     | true=>rfl
     | false=>rw [h26,h] at hc;cases hc
    obtain ⟨_,x5⟩:=hx
    rw [x5,ho,show N - j=(N - j - 1)+1 by omega,sH]
   obtain ⟨⟨x1,x2,x3,x4⟩,x5⟩:=hx
   refine TU.bind (aRU hN hr hbv htr hgl hcon x1 x2 x3 (j:Int) x.2.2.2.2.1 x.2.2.2.2.2 (fun i=>(h i).1) x4 (fun i=>(h i).2)) fun a ha r hr'=>?_
   have h1:∃ (y t1:ι→Int),∀ i,r i=(a.1,a.2.1,a.2.2.1,a.2.2.2.1,a.2.2.2.2.1,y i,a.2.2.2.2.2,wlk bv gl (t1 i)):=⟨fun i=>(hr' i).choose,fun i=>(hr' i).choose_spec.choose,fun i=>(hr' i).choose_spec.choose_spec⟩
   obtain ⟨y,t1,e1⟩:=h1
   simp only [e1]
   rw [eE (by omega)]
   obtain ⟨⟨a1,a2,a3,a4⟩,a5,a6⟩:=ha
   refine hk (a.2.2.2.2.2,a.1,a.2.1,a.2.2.1,a.2.2.2.1,a.2.2.2.2.1) (fun i=>(aJ.mk (h i).1.gK (y i) (I64 ((h i).1.gL+1)),t1 i)) ⟨⟨a1,a2,a3,a4⟩,x5.trans ?_⟩
   dsimp only
   cases ho:x.2.2.2.2.1 with
   | true=>
    obtain ⟨b1,b2,b3⟩:=a5 ho
    rw [b1,b2,b3,show N - j=(N - j - 1)+1 by omega,sH,show N - (j+1)=(N - (j+1) - 1)+1 by omega,sH]
   | false=>
    obtain ⟨q,q1,q2,q3,q4,q5⟩:=a6 ho
    rw [show N - j=(N - (j+1))+1 by omega,aC8,dt (show (j:Int)≤v.gN by omega)]
    simp only [Bool.not_false,cond_true,q1,Option.bind_some]
    rw [eE (by omega),q2,q3,q4]
    cases hq:q.2.2.2.1 with
    | true=>rw [show N - (j+1)=(N - (j+1) - 1)+1 by omega,sH,sH]
    | false=>
     obtain ⟨c1,c2⟩:=q5 hq
     rw [c1,c2]
  ·simp only [eP,aQ,df (show ¬ (n:Int)≤v.gN by omega),cond_false,Option.bind_some]
   refine TU.ret x ?_ fun i=>⟨_,_,_,rfl⟩
   rw [hx.2,show N - n=(N - n - 1)+1 by omega,aC8,df (show ¬ (n:Int)≤v.gN by omega)]
   rfl
 ·have h1:∃ (st':ι→aJ) (t':ι→Int) (dd:ι→Int),∀ i,r i=(st' i,wlk bv gl (t' i),a.1,a.2.1,a.2.2.1,a.2.2.2.1,dd i,a.2.2.2.2.1,a.2.2.2.2.2):=⟨fun i=>(hr' i).choose,fun i=>(hr' i).choose_spec.choose,fun i=>(hr' i).choose_spec.choose_spec.choose,fun i=>(hr' i).choose_spec.choose_spec.choose_spec⟩
  obtain ⟨st',t',dd,e1⟩:=h1
  simp only [e1]
  refine TU.ret (aF.mk a.2.2.2.1 a.2.2.2.2.2.gD3 a.2.2.2.2.2.gN a.2.2.2.2.2.gD4 a.2.2.2.2.2.gB5,0) ⟨fun _=>⟨rfl,?_⟩,fun h=>absurd inr h⟩ fun i=>⟨st' i,t' i,rfl⟩
  unfold aDj
  rw [hpix,e15,Option.bind_some,ha,Option.bind_some]
end
theorem aNI (v:aF):aF.eq v v=true:=by unfold aF.eq aB.eq;simp
theorem aHh.uniq {N:Nat} {s:aG} {v:aI} {a b:Int} (h:aHh N s v a) (h':aHh N s v b):a=b:=by
 rcases h with ⟨h1,h2⟩ | ⟨h1,h2,h3⟩ | ⟨h1,h2,h3⟩ <;> rcases h' with ⟨g1,g2⟩ | ⟨g1,g2,g3⟩ | ⟨g1,g2,g3⟩
 ·exact dA h1 g1
 ·exact absurd (dA h1 g1) h2
 ·exact absurd (dA h1 g1) h2
 ·exact absurd (dA g1 h1) g2
 ·exact dA h2 g2
 ·exact absurd (dA h2 g2) h3
 ·exact absurd (dA g1 h1) g2
 ·exact absurd (dA g2 h2) g3
 ·exact dA h3 g3
theorem aMP (N:Nat) (hN:1000000000000 < N) (hw:kS N=some true) (s:aG) (v:aI) (at':Vector Int 3):iB N s v at'=some true:=by
 have main:T (iB N s v at') (fun r=>r=true):=by
  unfold iB
  have i0:idx at'.toList 0=some at'[0]:=idxV at' 0 (by decide)
  have i1:idx at'.toList 1=some at'[1]:=idxV at' 1 (by decide)
  have i2:idx at'.toList 2=some at'[2]:=idxV at' 2 (by decide)
  refine T.bind (fewT N (by omega) s) fun r1 h1=>?_
  generalize hv1:aI.mk v.gW v.gH v.gB8 v.gN v.gS v.gO v.gC5 false=v1
  generalize hv2:aI.mk v.gW v.gH v.gB8 v.gN v.gS v.gO v.gC5 true=v2
  have c1:v1.gA4=false:=by subst hv1;rfl
  have c2:v2.gA4=true:=by subst hv2;rfl
  have nv:∀ e,aHh N r1 v2 e→aHh N r1 v1 e:=by intro e h;subst hv1 hv2;exact h
  obtain ⟨q,eq,hq⟩:=newT N (by omega) r1 v1 h1
  obtain ⟨q',eq',hq'⟩:=newT N (by omega) r1 v2 h1
  refine T.eq eq ?_
  rcases q with e | r | r | r | r
  ·simp only [lP,eq',Option.bind_some,aQ]
   rcases q' with e' | r' | r' | r' | r'
   ·obtain rfl:=hq.2.uniq (nv _ hq'.2)
    simp only [show (e != 0)=true by simpa using hq.1,cond_true,Option.bind_some,beq_self_eq_true,hw]
    exact ⟨true,rfl,rfl⟩
   ·exact hq'.elim
   ·exact absurd (hq.2.uniq (nv _ hq'.2.1)) hq.1
   ·exact hq'.elim
   ·exact absurd (c2.symm.trans hq'.1.2.2.2.2.2.2.1) (by decide)
  ·exact hq.elim
  ·exact absurd (hq.1.2.2.2.2.2.2.1.symm.trans c1) (by decide)
  ·exact hq.elim
  ·simp only [lP,eq',Option.bind_some,aQ]
   rcases q' with e' | r' | r' | r' | r'
   ·exact absurd ((nv _ hq'.2).uniq hq.2.1) hq'.1
   ·exact hq'.elim
   ·obtain ⟨⟨z1,z2,z3,hr,⟨hb,hgl⟩,he,hcon,ht⟩,_,l1,l2⟩:=hq
    obtain ⟨⟨y1,y2,y3,hr',hsw,he',hcon',_,hfit,heq⟩,_,k1,k2⟩:=hq'
    obtain ⟨A,B,C,lv,sky,bv0,w,e⟩:=r
    obtain ⟨A',B',C',lv',sky',gl,e'⟩:=r'
    dsimp only at *
    subst he he' hgl z1 z2 z3 y1 y2 y3
    obtain rfl:=dA l1 k1
    obtain rfl:=dA l2 k2
    obtain ⟨a,⟨pa,pb⟩,ha⟩:=aRP (ι:=Unit) hN hr hb ht rfl hcon at'[0] at'[1] at'[2] (fun _=>aJ.mk 0 0 0) (fun _=>0)
    obtain ⟨c,⟨pc,pd⟩,hc⟩:=aRy (ι:=Unit) (N:=N) (by omega) hr' hsw heq hcon' hfit.2 at'[0] at'[1] at'[2] (fun _=>aJ.mk 0 0 0) (fun _=>0)
    obtain ⟨_,e1,s1,t1,rfl⟩:=ha ()
    obtain ⟨_,e2,s2,t2,rfl⟩:=hc ()
    simp only [i0,i1,i2,Option.bind_some,bne_self_eq_false,cond_false]
    refine T.eq e1 (T.eq e2 ?_)
    have same:a=c:=by
     by_cases g:inV v1 at'[0] at'[1] at'[2]
     ·have g':inV v2 at'[0] at'[1] at'[2]:=by subst hv1 hv2;exact g
      obtain ⟨a1,a2⟩:=pa g
      obtain ⟨c1,c2⟩:=pc g'
      have sp:aDj N lv r1 v1 sky at'[0] at'[1] at'[2]=aDj N lv r1 v2 sky at'[0] at'[1] at'[2]:=by subst hv1 hv2;rfl
      rw [sp] at a2
      exact Prod.ext (dA a2 c2) (a1.trans c1.symm)
     ·have g':¬ inV v2 at'[0] at'[1] at'[2]:=by intro h;exact g (by subst hv1 hv2;exact h)
      rw [pb g,pd g']
    rw [same]
    simp only [aNI,beq_self_eq_true,cond_true,hw,Option.bind_some]
    exact ⟨true,rfl,rfl⟩
   ·exact hq'.elim
   ·exact absurd (c2.symm.trans hq'.1.2.2.2.2.2.2.1) (by decide)
 obtain ⟨r,e,rfl⟩:=main
 exact e
end Go.UK
