/- A part of the proof: what the functions of the program compute. -/
import Derived.Test.YtljnaeghnleipaaGreatGT
open Int renaming tdiv→du,tmod→cu,toNat→af
open List renaming length_map→ct,map→ij,replicate→ap
open Option renaming bind→ae
open Vector renaming replicate→ah
namespace Go.UK
open Go Go.Proofs
set_option maxRecDepth 20000
set_option maxHeartbeats 40000000
set_option linter.all false
attribute [local irreducible] adv aJB aDt yT brPt aLN aFb rQ zQ aLA dZ pM fL aEq aIz aHw lPt owp awl aw FnM aJN opS Stab TOK Big
def sB(N:Nat)(a0 a1:(List Int)):Option (Bool):=
 aT (ByteArray.toList (aIQ a0)==ByteArray.toList (aIQ a1)) λx1=>
 some x1
theorem aBA{N a0 a1 r}(h:sB N a0 a1=some r):FnM Tryz.prog 8 [] [(eL 1 k8 a0),(eL 1 k8 a1)] (eB r) []:=by
 unfold sB at h;refine At.f eX hT hmo Tryz.func8 rfl h ?_;refine At.o 2 (aLI hT a0 (v:=(eL 1 k8 a0)) (e:=5) (by kernel_rfl) (by kernel_rfl) (by kernel_rfl)) ?_;refine At.o 1 (aLI hT a1 (v:=(eL 1 k8 a1)) (e:=5) (by kernel_rfl) (by kernel_rfl) (by kernel_rfl)) ?_;refine lx ?_;intro x1;apply rt;exact At.r 2
def qT(N:Nat)(a0 a1:(List Int)):Option (Bool):=
 ae (aT (decide (((a0.length:Int))>=((a1.length:Int)))) λx2=>
 cond x2 (
  ae (eD a0 0 ((a1.length:Int))) λs3=>
  ae (sB N s3 a1) λr4=>
  some r4) (
  some false)) λp1=>
 some p1
theorem aCa{N a0 a1 r}(h:qT N a0 a1=some r):FnM Tryz.prog 29 [] [(eL 1 k8 a0),(eL 1 k8 a1)] (eB r) []:=by
 unfold qT at h;refine At.f eX hT hmo Tryz.func29 rfl h ?_;refine At.J 1 0 [] 0 (λp1=>([(4,(eB p1))],[],[])) (λp1=>?_) λp1=>?_
 ·refine lx ?_;intro x2;refine At.s 10 6 ?_ ?_
  ·refine At.g [10] 3 ?_;refine At.b 0 (λ_ e=>iQ hT (k:=1) k8 e) λs3=>?_;refine At.g [10] 1 ?_;refine At.b 0 (λ_ e=>aM [] (aBA e)) λr4=>?_;refine At.g [10] 2 ?_;apply rt;exact At.jn 0
  ·refine At.g [10] 8 ?_;apply rt;exact At.jn 0
 ·apply rt;exact At.r 0
def aFp : Nat->Bool:=imL [2]
def iO(N:Nat)(a1:Int):Nat->(Vector Int 12)->Int->Option ((Vector Int 12))
 | 0,_,_=>none
 | k+1,s5,s6=>
  cond (decide (s6 < 4)) (
   ae (zX .i64 a1 (I64 (8*s6))) λx7=>
   ae (aW (I64 (8+s6)) 12) λ_=>
   ae (s5.toList[(I64 (8+s6)).toNat]?) λe9=>
   iO N a1 k (s5.setIfInBounds ((I64 (8+s6)).toNat) (U8 x7)) (I64 (s6+1))) (
   some s5)
def fZ(N:Nat)(a0:(Vector Int 8))(a1:Int):Option ((Vector Int 12)):=
 ae (aGc 12 0 12) λ_=>
 ae (eD a0.toList 0 8) λs2=>
 ae (cpV (ah 12 0) s2 0 12) λv3=>
 ae (iO N a1 N v3 0) λp4=>
 some p4
theorem tY{N a0 a1 r}(h:fZ N a0 a1=some r):FnM Tryz.prog 9 [] [(eA 8 1 k8 a0),(j64 a1)] (eA 12 1 k8 r) []:=by
 unfold fZ at h;refine At.f aFp hT hmo Tryz.func9 rfl h ?_;refine bi λs1 hs1=>?_;refine bi λs2 hs2=>?_;refine bi λv3 hv3=>?_;refine At.d 3 (dE1 0 (λ_=>aHq hT (k:=1) 1 [] 0 hs1 (by kernel_rfl) (by kernel_rfl) (by decide)) (dE1 1 (λ_=>nJ hT (N:=8) (k:=1) k8 a0 hs2) dE0)) (dF 2 (j64 (((min s2.length 12:Nat):Int))) [(1,.var (eA 12 1 k8 v3))] [] (bP (aGK hT k8 (id:=1) (path:=[]) (off:=0) (H':=[.var (eA 12 1 k8 (ah 12 0)),.var (eA 12 1 k8 v3)]) hv3 (by kernel_rfl) (by kernel_rfl) (by kernel_rfl))) dF0) ?_;refine At.L 1 [4,5] 2 (λp4=>([],[(1,.var (eA 12 1 k8 p4))],[])) (λp4 J k=>∃s5 s6,iO N a1 k s5 s6=some p4/\J [1,4,5] 2 [(10,(j64 s6))] [(1,.var (eA 12 1 k8 s5))] []) N (λ_ h=>⟨_,_,h,jr⟩) (λp4 k s hI=>?_) λp4=>?_
 ·obtain⟨s5,s6,h,hj⟩:=hI;cases k with
  | zero=>cases h
  | succ k=>
   refine At.jr hj ?_ h;refine At.c 1 ?_ ?_
   ·refine At.b 7 (λ_ e=>rE hT (k' := .i64) e (by kernel_rfl) (by kernel_rfl)) λx7=>?_;refine At.b 1 (λ_ e=>aJ hT (k:=1) 1 [] 0 e) λu8=>?_;refine At.b 0 (λ_ e=>bM hT k8 0 s5 e (U8 x7) (by kernel_rfl) (by kernel_rfl) (H':=[.var (eA 12 1 k8 (ah 12 0)),.var (eA 12 1 k8 (s5.setIfInBounds ((I64 (8+s6)).toNat) (U8 x7)))])) λe9=>?_;exact λh=>At.k 2 ⟨_,_,h,jr⟩
   ·apply rt;exact At.x 0
 ·apply rt;exact At.r 2
def kZ(N:Nat)(a0:(List Int)):Option (Int):=
 ae (idx a0 0) λe1=>
 ae (idx a0 1) λe2=>
 aT (bor .u32 (U32 e1) (shl .u32 (U32 e2) 8)) λx3=>
 ae (idx a0 2) λe4=>
 aT (bor .u32 x3 (shl .u32 (U32 e4) 16)) λx5=>
 ae (idx a0 3) λe6=>
 aT (bor .u32 x5 (shl .u32 (U32 e6) 24)) λx7=>
 some x7
theorem zN{N a0 r}(h:kZ N a0=some r):FnM Tryz.prog 154 [] [(eL 1 k8 a0)] (k32 r) []:=by
 unfold kZ at h;refine At.f eX hT hmo Tryz.func154 rfl h ?_;refine bi λe1 he1=>?_;refine bi λe2 he2=>?_;refine lx ?_;intro x3;refine bi λe4 he4=>?_;refine lx ?_;intro x5;refine bi λe6 he6=>?_;refine lx ?_;intro x7;refine At.d 1 (dE1 1 (λ_=>bB hT k8 he1) (dE1 5 (λ_=>bB hT k8 he2) (dE1 11 (λ_=>bB hT k8 he4) (dE1 17 (λ_=>bB hT k8 he6) dE0)))) dF0 ?_;apply rt;exact At.r 0
def aGC : Nat->Bool:=imL [3,5]
def eM(N:Nat)(a0:(Vector Int 32)):Nat->(Vector Int 16)->Int->Option ((Vector Int 16))
 | 0,_,_=>none
 | k+1,s2,s3=>
  cond (decide (s3 < 8)) (
   ae (eD a0.toList (I64 (4*s3)) 32) λs4=>
   ae (kZ N s4) λr5=>
   ae (aW (I64 (4+s3)) 16) λ_=>
   ae (s2.toList[(I64 (4+s3)).toNat]?) λe7=>
   eM N a0 k (s2.setIfInBounds ((I64 (4+s3)).toNat) r5) (I64 (s3+1))) (
   some s2)
def eJ(N:Nat)(a2:(Vector Int 12)):Nat->(Vector Int 16)->Int->Option ((Vector Int 16))
 | 0,_,_=>none
 | k+1,s9,s10=>
  cond (decide (s10 < 3)) (
   ae (eD a2.toList (I64 (4*s10)) 12) λs11=>
   ae (kZ N s11) λr12=>
   ae (aW (I64 (13+s10)) 16) λ_=>
   ae (s9.toList[(I64 (13+s10)).toNat]?) λe14=>
   eJ N a2 k (s9.setIfInBounds ((I64 (13+s10)).toNat) r12) (I64 (s10+1))) (
   some s9)
def pL(N:Nat)(a0:(Vector Int 32))(a1:Int)(a2:(Vector Int 12)):Option ((Vector Int 16)):=
 ae (eM N a0 N (#v[1634760805,857760878,2036477234,1797285236,0,0,0,0,0,0,0,0,a1,0,0,0]) 0) λp1=>
 ae (eJ N a2 N p1 0) λp8=>
 some p8
theorem aEu{N a0 a1 a2 r}(h:pL N a0 a1 a2=some r):FnM Tryz.prog 138 [] [(eA 32 1 k8 a0),(k32 a1),(eA 12 1 k8 a2)] (eA 16 1 k32 r) []:=by
 unfold pL at h;refine At.f aGC hT hmo Tryz.func138 rfl h ?_;refine At.L 8 [5,6,7] 2 (λp1=>([],[(1,.var (eA 16 1 k32 p1))],[])) (λp1 J k=>∃s2 s3,eM N a0 k s2 s3=some p1/\J [3,5,6,7] 2 [(12,(j64 s3))] [(1,.var (eA 16 1 k32 s2))] []) N (λ_ h=>⟨_,_,h,jr⟩) (λp1 k s hI=>?_) λp1=>?_
 ·obtain⟨s2,s3,h,hj⟩:=hI;cases k with
  | zero=>cases h
  | succ k=>
   refine At.jr hj ?_ h;refine At.c 1 ?_ ?_
   ·refine At.b 6 (λ_ e=>nJ hT (N:=32) (k:=1) k8 a0 e) λs4=>?_;refine At.b 0 (λ_ e=>aM [] (zN e)) λr5=>?_;refine At.b 0 (λ_ e=>aJ hT (k:=1) 1 [] 0 e) λu6=>?_;refine At.b 0 (λ_ e=>bM hT k32 0 s2 e r5 (by kernel_rfl) (by kernel_rfl) (H':=[.var (eA 16 1 k32 (ah 16 0)),.var (eA 16 1 k32 (s2.setIfInBounds ((I64 (4+s3)).toNat) r5))])) λe7=>?_;exact λh=>At.k 2 ⟨_,_,h,jr⟩
   ·apply rt;exact At.x 0
 ·refine At.L 1 [6,7] 2 (λp8=>([],[(1,.var (eA 16 1 k32 p8))],[])) (λp8 J k=>∃s9 s10,eJ N a2 k s9 s10=some p8/\J [5,6,7] 2 [(23,(j64 s10))] [(1,.var (eA 16 1 k32 s9))] []) N (λ_ h=>⟨_,_,h,jr⟩) (λp8 k s hI=>?_) λp8=>?_
  ·obtain⟨s9,s10,h,hj⟩:=hI;cases k with
   | zero=>cases h
   | succ k=>
    refine At.jr hj ?_ h;refine At.c 1 ?_ ?_
    ·refine At.b 6 (λ_ e=>nJ hT (N:=12) (k:=1) k8 a2 e) λs11=>?_;refine At.b 0 (λ_ e=>aM [] (zN e)) λr12=>?_;refine At.b 0 (λ_ e=>aJ hT (k:=1) 1 [] 0 e) λu13=>?_;refine At.b 0 (λ_ e=>bM hT k32 0 s9 e r12 (by kernel_rfl) (by kernel_rfl) (H':=[.var (eA 16 1 k32 (ah 16 0)),.var (eA 16 1 k32 (s9.setIfInBounds ((I64 (13+s10)).toNat) r12))])) λe14=>?_;exact λh=>At.k 2 ⟨_,_,h,jr⟩
    ·apply rt;exact At.x 0
  ·apply rt;exact At.r 2
def bQ(N:Nat)(a0 a1:Int):Option (Int):=
 ae (aEx .u32 a0 (dV .u64 (U64 a1) 31)) λx1=>
 aT (U64 (32 - (dV .u64 (U64 a1) 31))) λx2=>
 ae (zX .u32 a0 x2) λx3=>
 some (bor .u32 x1 x3)
theorem mV{N a0 a1 r}(h:bQ N a0 a1=some r):FnM Tryz.prog 155 [] [(k32 a0),(j64 a1)] (k32 r) []:=by
 unfold bQ at h;refine At.f eX hT hmo Tryz.func155 rfl h ?_;refine At.b 7 (λ_ e=>xC hT (k' := .u64) e (by kernel_rfl) (by kernel_rfl)) λx1=>?_;refine lx ?_;intro x2;refine At.b 3 (λ_ e=>rE hT (k' := .u64) e (by kernel_rfl) (by kernel_rfl)) λx3=>?_;apply rt;exact At.r 2
def aDy : Nat->Bool:=imL [1]
def nC(N:Nat)(a0:(Vector Int 4)):Option ((Vector Int 4)):=
 ae (idx a0.toList 0) λe1=>
 ae (idx a0.toList 1) λe2=>
 ae (idx a0.toList 2) λe3=>
 ae (idx a0.toList 3) λe4=>
 aT (uR .u32 e4 (U32 (e1+e2))) λx5=>
 ae (bQ N x5 16) λr6=>
 aT (uR .u32 e2 (U32 (e3+r6))) λx7=>
 ae (bQ N x7 12) λr8=>
 aT (U32 ((U32 (e1+e2))+r8)) λx9=>
 ae (bQ N (uR .u32 r6 x9) 8) λr10=>
 aT (U32 ((U32 (e3+r6))+r10)) λx11=>
 ae (bQ N (uR .u32 r8 x11) 7) λr12=>
 some (#v[x9,r12,x11,r10])
theorem aDE{N a0 r}(h:nC N a0=some r):FnM Tryz.prog 139 [] [(eA 4 1 k32 a0)] (eA 4 1 k32 r) []:=by
 unfold nC at h;refine At.f aDy hT hmo Tryz.func139 rfl h ?_;refine bi λe1 he1=>?_;refine bi λe2 he2=>?_;refine bi λe3 he3=>?_;refine bi λe4 he4=>?_;refine At.d 2 (dE1 0 (λ_=>bW hT (N:=4) (k:=1) k32 a0 he1) (dE1 2 (λ_=>bW hT (N:=4) (k:=1) k32 a0 he2) (dE1 4 (λ_=>bW hT (N:=4) (k:=1) k32 a0 he3) (dE1 6 (λ_=>bW hT (N:=4) (k:=1) k32 a0 he4) dE0)))) dF0 ?_;refine lx ?_;intro x5;refine At.b 7 (λ_ e=>aM [] (mV e)) λr6=>?_;refine lx ?_;intro x7;refine At.b 8 (λ_ e=>aM [] (mV e)) λr8=>?_;refine lx ?_;intro x9;refine At.b 8 (λ_ e=>aM [] (mV e)) λr10=>?_;refine lx ?_;intro x11;refine At.b 8 (λ_ e=>aM [] (mV e)) λr12=>?_;apply rt;exact At.r 7
def aFP : Nat->Bool:=imL [3,5]
def aY(N:Nat)  : Nat->(Vector Int 16)->Int->Option ((Vector Int 16))
 | 0,_,_=>none
 | k+1,s6,s7=>
  cond (decide (s7 < 8)) (
   ae (idx (#v[#v[0,4,8,12],#v[1,5,9,13],#v[2,6,10,14],#v[3,7,11,15],#v[0,5,10,15],#v[1,6,11,12],#v[2,7,8,13],#v[3,4,9,14]]).toList s7) λe8=>
   ae (aW 0 4) λ_=>
   ae (e8.toList[(af 0)]?) λe10=>
   ae (aW e10 16) λ_=>
   ae (s6.toList[e10.toNat]?) λe12=>
   ae (aW 1 4) λ_=>
   ae (e8.toList[(af 1)]?) λe14=>
   ae (aW e14 16) λ_=>
   ae (s6.toList[e14.toNat]?) λe16=>
   ae (aW 2 4) λ_=>
   ae (e8.toList[(af 2)]?) λe18=>
   ae (aW e18 16) λ_=>
   ae (s6.toList[e18.toNat]?) λe20=>
   ae (aW 3 4) λ_=>
   ae (e8.toList[(af 3)]?) λe22=>
   ae (aW e22 16) λ_=>
   ae (s6.toList[e22.toNat]?) λe24=>
   ae (nC N (#v[e12,e16,e20,e24])) λr25=>
   ae (aW 0 4) λ_=>
   ae (e8.toList[(af 0)]?) λe27=>
   ae (aW 1 4) λ_=>
   ae (e8.toList[(af 1)]?) λe29=>
   ae (aW 2 4) λ_=>
   ae (e8.toList[(af 2)]?) λe31=>
   ae (aW 3 4) λ_=>
   ae (e8.toList[(af 3)]?) λe33=>
   ae (aW 0 4) λ_=>
   ae (r25.toList[(af 0)]?) λe35=>
   ae (aW 1 4) λ_=>
   ae (r25.toList[(af 1)]?) λe37=>
   ae (aW 2 4) λ_=>
   ae (r25.toList[(af 2)]?) λe39=>
   ae (aW 3 4) λ_=>
   ae (r25.toList[(af 3)]?) λe41=>
   ae (aW e27 16) λ_=>
   ae (s6.toList[e27.toNat]?) λe43=>
   ae (aW e29 16) λ_=>
   ae ((s6.setIfInBounds e27.toNat e35).toList[e29.toNat]?) λe45=>
   ae (aW e31 16) λ_=>
   ae (((s6.setIfInBounds e27.toNat e35).setIfInBounds e29.toNat e37).toList[e31.toNat]?) λe47=>
   ae (aW e33 16) λ_=>
   ae ((((s6.setIfInBounds e27.toNat e35).setIfInBounds e29.toNat e37).setIfInBounds e31.toNat e39).toList[e33.toNat]?) λe49=>
   aY N k ((((s6.setIfInBounds e27.toNat e35).setIfInBounds e29.toNat e37).setIfInBounds e31.toNat e39).setIfInBounds e33.toNat e41) (I64 (s7+1))) (
   some s6)
def iP(N:Nat)  : Nat->(Vector Int 16)->Int->Option ((Vector Int 16))
 | 0,_,_=>none
 | k+1,s3,s4=>
  cond (decide (s4 < 10)) (
   ae (aY N N s3 0) λp5=>
   iP N k p5 (I64 (s4+1))) (
   some s3)
def fG(N:Nat)(p2 r1:(Vector Int 16)):Nat->(Vector Int 64)->Int->Option ((Vector Int 64))
 | 0,_,_=>none
 | k+1,s51,s52=>
  cond (decide (s52 < 16)) (
   ae (idx p2.toList s52) λe53=>
   ae (aW s52 16) λ_=>
   ae (r1.toList[s52.toNat]?) λe55=>
   aT (I64 ((I64 (4*s52))+1)) λx56=>
   aT (I64 ((I64 (4*s52))+2)) λx57=>
   aT (I64 ((I64 (4*s52))+3)) λx58=>
   aT (shr .u32 (U32 (e53+e55)) 8) λx59=>
   aT (shr .u32 (U32 (e53+e55)) 16) λx60=>
   aT (shr .u32 (U32 (e53+e55)) 24) λx61=>
   ae (aW (I64 (4*s52)) 64) λ_=>
   ae (s51.toList[(I64 (4*s52)).toNat]?) λe63=>
   ae (aW x56 64) λ_=>
   ae ((s51.setIfInBounds ((I64 (4*s52)).toNat) (U8 (U32 (e53+e55)))).toList[x56.toNat]?) λe65=>
   ae (aW x57 64) λ_=>
   ae (((s51.setIfInBounds ((I64 (4*s52)).toNat) (U8 (U32 (e53+e55)))).setIfInBounds x56.toNat (U8 x59)).toList[x57.toNat]?) λe67=>
   ae (aW x58 64) λ_=>
   ae ((((s51.setIfInBounds ((I64 (4*s52)).toNat) (U8 (U32 (e53+e55)))).setIfInBounds x56.toNat (U8 x59)).setIfInBounds x57.toNat (U8 x60)).toList[x58.toNat]?) λe69=>
   fG N p2 r1 k ((((s51.setIfInBounds ((I64 (4*s52)).toNat) (U8 (U32 (e53+e55)))).setIfInBounds x56.toNat (U8 x59)).setIfInBounds x57.toNat (U8 x60)).setIfInBounds x58.toNat (U8 x61)) (I64 (s52+1))) (
   some s51)
def kV(N:Nat)(a0:(Vector Int 32))(a1:Int)(a2:(Vector Int 12)):Option ((Vector Int 64)):=
 ae (pL N a0 a1 a2) λr1=>
 ae (iP N N r1 0) λp2=>
 ae (fG N p2 r1 N (ah 64 0) 0) λp50=>
 some p50
theorem aAc{N a0 a1 a2 r}(h:kV N a0 a1 a2=some r):FnM Tryz.prog 116 [] [(eA 32 1 k8 a0),(k32 a1),(eA 12 1 k8 a2)] (eA 64 1 k8 r) []:=by
 unfold kV at h;refine At.f aFP hT hmo Tryz.func116 rfl h ?_;refine At.b 6 (λ_ e=>aM [] (aEu e)) λr1=>?_;refine At.L 17 [6,7,8] 4 (λp2=>([],[(2,.var (eA 16 1 k32 p2))],[])) (λp2 J k=>∃s3 s4,iP N k s3 s4=some p2/\J [6,7,8,9] 4 [(30,(j64 s4))] [(2,.var (eA 16 1 k32 s3))] []) N (λ_ h=>⟨_,_,h,jr⟩) (λp2 k s hI=>?_) λp2=>?_
 ·obtain⟨s3,s4,h,hj⟩:=hI;cases k with
  | zero=>cases h
  | succ k=>
   refine At.jr hj ?_ h;refine At.c 1 ?_ ?_
   ·refine At.L 2 [6,7,8,9,30] 4 (λp5=>([],[(2,.var (eA 16 1 k32 p5))],[])) (λp5 J k=>∃s6 s7,aY N k s6 s7=some p5/\J [6,7,8,9,30,32] 4 [(33,(j64 s7))] [(2,.var (eA 16 1 k32 s6))] []) N (λ_ h=>⟨_,_,h,jr⟩) (λp5 k s hI=>?_) λp5=>?_
    ·obtain⟨s6,s7,h,hj⟩:=hI;cases k with
     | zero=>cases h
     | succ k=>
      refine At.jr hj ?_ h;refine At.c 1 ?_ ?_
      ·refine At.b 0 (λ_ e=>aHf hT (eA 4 1 j64) (#v[#v[0,4,8,12],#v[1,5,9,13],#v[2,6,10,14],#v[3,7,11,15],#v[0,5,10,15],#v[1,6,11,12],#v[2,7,8,13],#v[3,4,9,14]]) e (by kernel_rfl) (by kernel_rfl)) λe8=>?_;refine bi λu9 hu9=>?_;refine bi λe10 he10=>?_;refine bi λu11 hu11=>?_;refine bi λe12 he12=>?_;refine bi λu13 hu13=>?_;refine bi λe14 he14=>?_;refine bi λu15 hu15=>?_;refine bi λe16 he16=>?_;refine bi λu17 hu17=>?_;refine bi λe18 he18=>?_;refine bi λu19 hu19=>?_;refine bi λe20 he20=>?_;refine bi λu21 hu21=>?_;refine bi λe22 he22=>?_;refine bi λu23 hu23=>?_;refine bi λe24 he24=>?_;refine bi λr25 hr25=>?_;refine At.d 2 (dE1 0 (λ_=>aJ hT (k:=1) 4 [] 0 hu9) (dEL hT 1 (j64 e10) j64 0 he10 (dE1 2 (λ_=>aJ hT (k:=1) 2 [] 0 hu11) (dEL hT 3 (k32 e12) k32 0 he12 (dE1 4 (λ_=>aJ hT (k:=1) 4 [] 0 hu13) (dEL hT 5 (j64 e14) j64 0 he14 (dE1 6 (λ_=>aJ hT (k:=1) 2 [] 0 hu15) (dEL hT 7 (k32 e16) k32 0 he16 (dE1 8 (λ_=>aJ hT (k:=1) 4 [] 0 hu17) (dEL hT 9 (j64 e18) j64 0 he18 (dE1 10 (λ_=>aJ hT (k:=1) 2 [] 0 hu19) (dEL hT 11 (k32 e20) k32 0 he20 (dE1 12 (λ_=>aJ hT (k:=1) 4 [] 0 hu21) (dEL hT 13 (j64 e22) j64 0 he22 (dE1 14 (λ_=>aJ hT (k:=1) 2 [] 0 hu23) (dEL hT 15 (k32 e24) k32 0 he24 (dE2 17 (eA 4 1 k32 r25) (λ_=>dM (aDE hr25)) dE0))))))))))))))))) dF0 ?_;refine bi λu26 hu26=>?_;refine bi λe27 he27=>?_;refine bi λu28 hu28=>?_;refine bi λe29 he29=>?_;refine bi λu30 hu30=>?_;refine bi λe31 he31=>?_;refine bi λu32 hu32=>?_;refine bi λe33 he33=>?_;refine bi λu34 hu34=>?_;refine bi λe35 he35=>?_;refine bi λu36 hu36=>?_;refine bi λe37 he37=>?_;refine bi λu38 hu38=>?_;refine bi λe39 he39=>?_;refine bi λu40 hu40=>?_;refine bi λe41 he41=>?_;refine bi λu42 hu42=>?_;refine bi λe43 he43=>?_;refine bi λu44 hu44=>?_;refine bi λe45 he45=>?_;refine bi λu46 hu46=>?_;refine bi λe47 he47=>?_;refine bi λu48 hu48=>?_;refine bi λe49 he49=>?_;refine At.d 0 (dE1 0 (λ_=>aJ hT (k:=1) 4 [] 0 hu26) (dEL hT 1 (j64 e27) j64 0 he27 (dE1 2 (λ_=>aJ hT (k:=1) 4 [] 0 hu28) (dEL hT 3 (j64 e29) j64 0 he29 (dE1 4 (λ_=>aJ hT (k:=1) 4 [] 0 hu30) (dEL hT 5 (j64 e31) j64 0 he31 (dE1 6 (λ_=>aJ hT (k:=1) 4 [] 0 hu32) (dEL hT 7 (j64 e33) j64 0 he33 (dE1 8 (λ_=>aJ hT (k:=1) 5 [] 0 hu34) (dEL hT 9 (k32 e35) k32 0 he35 (dE1 10 (λ_=>aJ hT (k:=1) 5 [] 0 hu36) (dEL hT 11 (k32 e37) k32 0 he37 (dE1 12 (λ_=>aJ hT (k:=1) 5 [] 0 hu38) (dEL hT 13 (k32 e39) k32 0 he39 (dE1 14 (λ_=>aJ hT (k:=1) 5 [] 0 hu40) (dEL hT 15 (k32 e41) k32 0 he41 (dE1 16 (λ_=>aJ hT (k:=1) 2 [] 0 hu42) (dE1 18 (λ_=>aJ hT (k:=1) 2 [] 0 hu44) (dE1 20 (λ_=>aJ hT (k:=1) 2 [] 0 hu46) (dE1 22 (λ_=>aJ hT (k:=1) 2 [] 0 hu48) dE0)))))))))))))))))))) (dF 17 (.v (.bool false)) [(2,.var (eA 16 1 k32 (s6.setIfInBounds e27.toNat e35)))] [] (bP (bM hT k32 0 s6 he43 e35 (by kernel_rfl) (by kernel_rfl) (H':=[.var (eA 64 1 k8 (ah 64 0)),.var (eA 16 1 k32 r1),.var (eA 16 1 k32 (s6.setIfInBounds e27.toNat e35)),.var aIl,.var (eA 4 1 j64 e8),.var (eA 4 1 k32 r25)]))) (dF 19 (.v (.bool false)) [(2,.var (eA 16 1 k32 ((s6.setIfInBounds e27.toNat e35).setIfInBounds e29.toNat e37)))] [] (bP (bM hT k32 0 (s6.setIfInBounds e27.toNat e35) he45 e37 (by kernel_rfl) (by kernel_rfl) (H':=[.var (eA 64 1 k8 (ah 64 0)),.var (eA 16 1 k32 r1),.var (eA 16 1 k32 ((s6.setIfInBounds e27.toNat e35).setIfInBounds e29.toNat e37)),.var aIl,.var (eA 4 1 j64 e8),.var (eA 4 1 k32 r25)]))) (dF 21 (.v (.bool false)) [(2,.var (eA 16 1 k32 (((s6.setIfInBounds e27.toNat e35).setIfInBounds e29.toNat e37).setIfInBounds e31.toNat e39)))] [] (bP (bM hT k32 0 ((s6.setIfInBounds e27.toNat e35).setIfInBounds e29.toNat e37) he47 e39 (by kernel_rfl) (by kernel_rfl) (H':=[.var (eA 64 1 k8 (ah 64 0)),.var (eA 16 1 k32 r1),.var (eA 16 1 k32 (((s6.setIfInBounds e27.toNat e35).setIfInBounds e29.toNat e37).setIfInBounds e31.toNat e39)),.var aIl,.var (eA 4 1 j64 e8),.var (eA 4 1 k32 r25)]))) (dF 23 (.v (.bool false)) [(2,.var (eA 16 1 k32 ((((s6.setIfInBounds e27.toNat e35).setIfInBounds e29.toNat e37).setIfInBounds e31.toNat e39).setIfInBounds e33.toNat e41)))] [] (bP (bM hT k32 0 (((s6.setIfInBounds e27.toNat e35).setIfInBounds e29.toNat e37).setIfInBounds e31.toNat e39) he49 e41 (by kernel_rfl) (by kernel_rfl) (H':=[.var (eA 64 1 k8 (ah 64 0)),.var (eA 16 1 k32 r1),.var (eA 16 1 k32 ((((s6.setIfInBounds e27.toNat e35).setIfInBounds e29.toNat e37).setIfInBounds e31.toNat e39).setIfInBounds e33.toNat e41)),.var aIl,.var (eA 4 1 j64 e8),.var (eA 4 1 k32 r25)]))) dF0)))) ?_;exact λh=>At.k 2 ⟨_,_,h,jr⟩
      ·apply rt;exact At.x 0
    ·exact λh=>At.k 2 ⟨_,_,h,jr⟩
   ·apply rt;exact At.x 0
 ·refine At.L 3 [6,13] 5 (λp50=>([],[(4,.var (eA 64 1 k8 p50))],[])) (λp50 J k=>∃s51 s52,fG N p2 r1 k s51 s52=some p50/\J [6,7,13,76] 5 [(77,(j64 s52))] [(4,.var (eA 64 1 k8 s51))] []) N (λ_ h=>⟨_,_,h,jr⟩) (λp50 k s hI=>?_) λp50=>?_
  ·obtain⟨s51,s52,h,hj⟩:=hI;cases k with
   | zero=>cases h
   | succ k=>
    refine At.jr hj ?_ h;refine At.c 1 ?_ ?_
    ·refine At.b 1 (λ_ e=>aHf hT k32 p2 e (by kernel_rfl) (by kernel_rfl)) λe53=>?_;refine At.b 4 (λ_ e=>aJ hT (k:=1) 1 [] 0 e) λu54=>?_;refine At.b 0 (λ_ e=>bH hT k32 0 e) λe55=>?_;refine lx ?_;intro x56;refine lx ?_;intro x57;refine lx ?_;intro x58;refine lx ?_;intro x59;refine lx ?_;intro x60;refine lx ?_;intro x61;refine At.b 24 (λ_ e=>aJ hT (k:=1) 4 [] 0 e) λu62=>?_;refine At.b 0 (λ_ e=>bM hT k8 0 s51 e (U8 (U32 (e53+e55))) (by kernel_rfl) (by kernel_rfl) (H':=[.var (eA 64 1 k8 (ah 64 0)),.var (eA 16 1 k32 r1),.var (eA 16 1 k32 p2),.var aIl,.var (eA 64 1 k8 (s51.setIfInBounds ((I64 (4*s52)).toNat) (U8 (U32 (e53+e55)))))])) λe63=>?_;refine At.b 0 (λ_ e=>aJ hT (k:=1) 4 [] 0 e) λu64=>?_;refine At.b 0 (λ_ e=>bM hT k8 0 (s51.setIfInBounds ((I64 (4*s52)).toNat) (U8 (U32 (e53+e55)))) e (U8 x59) (by kernel_rfl) (by kernel_rfl) (H':=[.var (eA 64 1 k8 (ah 64 0)),.var (eA 16 1 k32 r1),.var (eA 16 1 k32 p2),.var aIl,.var (eA 64 1 k8 ((s51.setIfInBounds ((I64 (4*s52)).toNat) (U8 (U32 (e53+e55)))).setIfInBounds x56.toNat (U8 x59)))])) λe65=>?_;refine At.b 0 (λ_ e=>aJ hT (k:=1) 4 [] 0 e) λu66=>?_;refine At.b 0 (λ_ e=>bM hT k8 0 ((s51.setIfInBounds ((I64 (4*s52)).toNat) (U8 (U32 (e53+e55)))).setIfInBounds x56.toNat (U8 x59)) e (U8 x60) (by kernel_rfl) (by kernel_rfl) (H':=[.var (eA 64 1 k8 (ah 64 0)),.var (eA 16 1 k32 r1),.var (eA 16 1 k32 p2),.var aIl,.var (eA 64 1 k8 (((s51.setIfInBounds ((I64 (4*s52)).toNat) (U8 (U32 (e53+e55)))).setIfInBounds x56.toNat (U8 x59)).setIfInBounds x57.toNat (U8 x60)))])) λe67=>?_;refine At.b 0 (λ_ e=>aJ hT (k:=1) 4 [] 0 e) λu68=>?_;refine At.b 0 (λ_ e=>bM hT k8 0 (((s51.setIfInBounds ((I64 (4*s52)).toNat) (U8 (U32 (e53+e55)))).setIfInBounds x56.toNat (U8 x59)).setIfInBounds x57.toNat (U8 x60)) e (U8 x61) (by kernel_rfl) (by kernel_rfl) (H':=[.var (eA 64 1 k8 (ah 64 0)),.var (eA 16 1 k32 r1),.var (eA 16 1 k32 p2),.var aIl,.var (eA 64 1 k8 ((((s51.setIfInBounds ((I64 (4*s52)).toNat) (U8 (U32 (e53+e55)))).setIfInBounds x56.toNat (U8 x59)).setIfInBounds x57.toNat (U8 x60)).setIfInBounds x58.toNat (U8 x61)))])) λe69=>?_;exact λh=>At.k 2 ⟨_,_,h,jr⟩
    ·apply rt;exact At.x 0
  ·apply rt;exact At.r 2
def aJ3 : Nat->Bool:=imL [2,3]
def uI(N:Nat)(a0:(Vector Int 32))(a1:(Vector Int 12)):Option ((Vector Int 32)):=
 ae (kV N a0 0 a1) λr1=>
 ae (eD r1.toList 0 32) λs3=>
 ae (aEn 32 s3) λv4=>
 some v4
theorem aIo{N a0 a1 r}(h:uI N a0 a1=some r):FnM Tryz.prog 87 [] [(eA 32 1 k8 a0),(eA 12 1 k8 a1)] (eA 32 1 k8 r) []:=by
 unfold uI at h;refine At.f aJ3 hT hmo Tryz.func87 rfl h ?_;refine At.b 5 (λ_ e=>aM [] (aAc e)) λr1=>?_;refine At.gz 2 1 ((eA 64 1 k8 r1)) ?_;refine At.b 0 (λ_ e=>nJ hT (N:=64) (k:=1) k8 r1 e) λs3=>?_;refine At.b 0 (λv4 e=>aDS hT k8 s3 v4 e rfl (by kernel_rfl) (by kernel_rfl)) λv4=>?_;apply rt;exact At.r 2
def qX(N:Nat)(a0:(List Int)):Option ((List Int)):=
 aT (cu ((a0.length:Int)) 16) λx1=>
 aT (cu (I64 (16 - x1)) 16) λx2=>
 ae (mkO 1 x2) λ_=>
 ae (aJR (ap x2.toNat (0:Int)) x2.toNat) λ_=>
 some (ap x2.toNat (0:Int))
theorem aBm{N a0 r}(h:qX N a0=some r):FnM Tryz.prog 85 [] [(eL 1 k8 a0)] (eL 1 k8 r) []:=by
 unfold qX at h;refine At.f eX hT hmo Tryz.func85 rfl h ?_;refine lx ?_;intro x1;refine lx ?_;intro x2;refine At.b 6 (λ_ e=>aRM hT k8 ((0:Int)) (k:=1) (kd := .int .u8) e (by kernel_rfl) (by kernel_rfl) rfl) λu3=>?_;refine bi λu4 hu4=>?_;refine At.fz 1 0 1 x2.toNat _ (ij k8 (ap x2.toNat (0:Int))) (ct _) (lenM k8 hu4) ?_;apply rt;exact At.r 0
def kX(N:Nat)  : Nat->(Vector Int 16)->Int->Option ((Vector Int 16))
 | 0,_,_=>none
 | k+1,s2,s3=>
  cond (decide (s3 < 4)) (
   ae (aT (I64 ((I64 (4*s3))+3)) λx5=>
   ae (aW x5 16) λ_=>
   ae (s2.toList[x5.toNat]?) λe7=>
   ae (aW x5 16) λ_=>
   ae (s2.toList[x5.toNat]?) λe9=>
   cond (decide (s3 > 0)) (
    ae (aW (I64 (4*s3)) 16) λ_=>
    ae ((s2.setIfInBounds x5.toNat (dV .u8 e7 15)).toList[(I64 (4*s3)).toNat]?) λe11=>
    ae (aW (I64 (4*s3)) 16) λ_=>
    ae ((s2.setIfInBounds x5.toNat (dV .u8 e7 15)).toList[(I64 (4*s3)).toNat]?) λe13=>
    some ((s2.setIfInBounds x5.toNat (dV .u8 e7 15)).setIfInBounds ((I64 (4*s3)).toNat) (dV .u8 e11 252))) (
    some (s2.setIfInBounds x5.toNat (dV .u8 e7 15)))) λp4=>
   kX N k p4 (I64 (s3+1))) (
   some s2)
def qU(N:Nat)(a0:(Vector Int 16)):Option ((Vector Int 16)):=
 ae (kX N N a0 0) λp1=>
 some p1
theorem aGq{N a0 r}(h:qU N a0=some r):FnM Tryz.prog 140 [] [(eA 16 1 k8 a0)] (eA 16 1 k8 r) []:=by
 unfold qU at h;refine At.f eX hT hmo Tryz.func140 rfl h ?_;refine At.L 3 [1,2] 2 (λp1=>([],[(0,.var (eA 16 1 k8 p1))],[])) (λp1 J k=>∃s2 s3,kX N k s2 s3=some p1/\J [1,2] 2 [(4,(j64 s3))] [(0,.var (eA 16 1 k8 s2))] []) N (λ_ h=>⟨_,_,h,jr⟩) (λp1 k s hI=>?_) λp1=>?_
 ·obtain⟨s2,s3,h,hj⟩:=hI;cases k with
  | zero=>cases h
  | succ k=>
   refine At.jr hj ?_ h;refine At.c 1 ?_ ?_
   ·refine At.J 0 2 [1,2,4] 2 (λp4=>([],[(0,.var (eA 16 1 k8 p4))],[])) (λp4=>?_) λp4=>?_
    ·refine lx ?_;intro x5;refine At.b 5 (λ_ e=>aJ hT (k:=1) 0 [] 0 e) λu6=>?_;refine At.b 0 (λ_ e=>bH hT k8 0 e) λe7=>?_;refine At.b 1 (λ_ e=>aJ hT (k:=1) 0 [] 0 e) λu8=>?_;refine At.b 0 (λ_ e=>bM hT k8 0 s2 e (dV .u8 e7 15) (by kernel_rfl) (by kernel_rfl) (H':=[.var (eA 16 1 k8 (s2.setIfInBounds x5.toNat (dV .u8 e7 15))),.var (eA 16 1 k8 (ah 16 0))])) λe9=>?_;refine At.c 2 ?_ ?_
     ·refine At.b 2 (λ_ e=>aJ hT (k:=1) 0 [] 0 e) λu10=>?_;refine At.b 0 (λ_ e=>bH hT k8 0 e) λe11=>?_;refine At.b 1 (λ_ e=>aJ hT (k:=1) 0 [] 0 e) λu12=>?_;refine At.b 0 (λ_ e=>bM hT k8 0 (s2.setIfInBounds x5.toNat (dV .u8 e7 15)) e (dV .u8 e11 252) (by kernel_rfl) (by kernel_rfl) (H':=[.var (eA 16 1 k8 ((s2.setIfInBounds x5.toNat (dV .u8 e7 15)).setIfInBounds ((I64 (4*s3)).toNat) (dV .u8 e11 252))),.var (eA 16 1 k8 (ah 16 0))])) λe13=>?_;apply rt;exact At.jn 0
     ·apply rt;exact At.jn 0
    ·exact λh=>At.k 2 ⟨_,_,h,jr⟩
   ·apply rt;exact At.x 0
 ·apply rt;exact At.r 2
def jS(N:Nat)(a0:(List Int)):Nat->Int->Int->Option (Int)
 | 0,_,_=>none
 | k+1,s2,s3=>
  cond (decide (s3 < 8)) (
   ae (idx a0 s3) λe4=>
   ae (aEx .u64 (U64 e4) (I64 (8*s3))) λx5=>
   jS N a0 k (bor .u64 s2 x5) (I64 (s3+1))) (
   some s2)
def cZ(N:Nat)(a0:(List Int)):Option (Int):=
 ae (jS N a0 N 0 0) λp1=>
 some p1
theorem nO{N a0 r}(h:cZ N a0=some r):FnM Tryz.prog 141 [] [(eL 1 k8 a0)] (k64 r) []:=by
 unfold cZ at h;refine At.f eX hT hmo Tryz.func141 rfl h ?_;refine At.L 3 [] 0 (λp1=>([(3,(k64 p1))],[],[])) (λp1 J k=>∃s2 s3,jS N a0 k s2 s3=some p1/\J [0] 0 [(3,(k64 s2)),(5,(j64 s3))] [] []) N (λ_ h=>⟨_,_,h,jr⟩) (λp1 k s hI=>?_) λp1=>?_
 ·obtain⟨s2,s3,h,hj⟩:=hI;cases k with
  | zero=>cases h
  | succ k=>
   refine At.jr hj ?_ h;refine At.c 1 ?_ ?_
   ·refine At.b 5 (λ_ e=>bB hT k8 e) λe4=>?_;refine At.b 4 (λ_ e=>xC hT (k' := .i64) e (by kernel_rfl) (by kernel_rfl)) λx5=>?_;exact λh=>At.k 4 ⟨_,_,h,jr⟩
   ·apply rt;exact At.x 0
 ·apply rt;exact At.r 2
def aJz : Nat->Bool:=imL [1]
def uG(N:Nat)(a0:(Vector Int 32)):Option (Int×Int×Int×Int):=
 ae (eD a0.toList 0 16) λs1=>
 ae (aEn 16 s1) λv2=>
 ae (qU N v2) λr3=>
 ae (eD r3.toList 0 16) λs4=>
 ae (cZ N s4) λr5=>
 ae (eD r3.toList 8 16) λs6=>
 ae (cZ N s6) λr7=>
 ae (eD a0.toList 16 32) λs8=>
 ae (cZ N s8) λr9=>
 ae (eD a0.toList 24 32) λs10=>
 ae (cZ N s10) λr11=>
 some ((r5,r7,r9,r11))
theorem aI9{N a0 r}(h:uG N a0=some r):FnM Tryz.prog 117 [] [(eA 32 1 k8 a0)] (.ref 1 [] 0) [.dead,.var (.st 10 [(.st 3 [(.arr 3 1 [(k64 0),(k64 0),(k64 0)])]),(eB true),(k64 r.1),(k64 r.2.1),(k64 r.2.2.1),(k64 r.2.2.2),(.v (.slice none 0 0)),(j64 0)])]:=by
 unfold uG at h;refine At.f aJz hT hmo Tryz.func117 rfl h ?_;refine At.b 2 (λ_ e=>nJ hT (N:=32) (k:=1) k8 a0 e) λs1=>?_;refine At.b 0 (λv2 e=>aDS hT k8 s1 v2 e rfl (by kernel_rfl) (by kernel_rfl)) λv2=>?_;refine At.b 1 (λ_ e=>aM [] (aGq e)) λr3=>?_;refine At.gz 2 0 ((eA 16 1 k8 r3)) ?_;refine bi λs4 hs4=>?_;refine bi λr5 hr5=>?_;refine bi λs6 hs6=>?_;refine bi λr7 hr7=>?_;refine bi λs8 hs8=>?_;refine bi λr9 hr9=>?_;refine bi λs10 hs10=>?_;refine bi λr11 hr11=>?_;refine At.d 0 (dE1 0 (λ_=>nJ hT (N:=16) (k:=1) k8 r3 hs4) (dE2 1 (k64 r5) (λ_=>dM (nO hr5)) (dE1 2 (λ_=>nJ hT (N:=16) (k:=1) k8 r3 hs6) (dE2 3 (k64 r7) (λ_=>dM (nO hr7)) (dE1 4 (λ_=>nJ hT (N:=32) (k:=1) k8 a0 hs8) (dE2 5 (k64 r9) (λ_=>dM (nO hr9)) (dE1 6 (λ_=>nJ hT (N:=32) (k:=1) k8 a0 hs10) (dE2 7 (k64 r11) (λ_=>dM (nO hr11)) dE0)))))))) dF0 ?_;apply rt;exact At.r 0
def lL(N:Nat)  : Nat->(List (Vector Int 17))->(List Int)->Option ((List (Vector Int 17)))
 | 0,_,_=>none
 | k+1,s4,s5=>
  aT (decide (((s5.length:Int)) > 0)) λx6=>
  cond x6 (
   ae (aGc 17 0 16) λ_=>
   ae (cpV (ah 17 0) s5 0 16) λv8=>
   aT (((min s5.length 16:Nat):Int)) λx9=>
   ae (aW x9 17) λ_=>
   ae (v8.toList[x9.toNat]?) λe11=>
   ae (nR 17 s4 (([v8.setIfInBounds x9.toNat 1]:List (Vector Int 17)))) λz12=>
   ae (eD s5 x9 ((s5.length:Int))) λs13=>
   lL N k z12 s13) (
   some s4)
def kU(N:Nat)(a0:(List Int)):Option ((List (Vector Int 17))):=
 aT (mU ((a0.length:Int)) 65536) λx1=>
 ae (eD a0 0 x1) λs2=>
 ae (lL N N [] s2) λp3=>
 some p3
theorem aA5{N a0 r}(h:kU N a0=some r):FnM Tryz.prog 143 [] [(eL 1 k8 a0)] (eL 17 (eA 17 1 k8) r) []:=by
 unfold kU at h;refine At.f eX hT hmo Tryz.func143 rfl h ?_;refine lx ?_;intro x1;refine At.b 5 (λ_ e=>iQ hT (k:=1) k8 e) λs2=>?_;refine At.ownn 2 3 17 ?_;refine At.L 0 [] 1 (λp3=>([(3,(eO 0 17 (eA 17 1 k8) p3))],[(0,.tail (p3.length*17))],[])) (λp3 J k=>∃s4 s5,lL N k s4 s5=some p3/\J [] 1 [(0,(eL 1 k8 s5)),(3,(eO 0 17 (eA 17 1 k8) s4))] [(0,.tail (s4.length*17))] []) N (λ_ h=>⟨_,_,h,jr⟩) (λp3 k s hI=>?_) λp3=>?_
 ·obtain⟨s4,s5,h,hj⟩:=hI;cases k with
  | zero=>cases h
  | succ k=>
   refine At.jr hj ?_ h;refine lx ?_;intro x6;refine At.c 3 ?_ ?_
   ·refine At.b 1 (λ_ e=>aHq hT (k:=1) 1 [] 0 e (by kernel_rfl) (by kernel_rfl) (by decide)) λs7=>?_;refine At.b 1 (λv8 e=>aGK hT k8 (id:=1) (path:=[]) (off:=0) (H':=[.tail (s4.length*17),.var (eA 17 1 k8 v8)]) e (by kernel_rfl) (by kernel_rfl) (by kernel_rfl)) λv8=>?_;refine lx ?_;intro x9;refine At.b 2 (λ_ e=>aJ hT (k:=1) 1 [] 0 e) λu10=>?_;refine At.b 0 (λ_ e=>bM hT k8 0 v8 e 1 (by kernel_rfl) (by kernel_rfl) (H':=[.tail (s4.length*17),.var (eA 17 1 k8 (v8.setIfInBounds x9.toNat 1))])) λe11=>?_;refine At.o 2 (bU hT (x:=(.sl 17 1 [(eA 17 1 k8 (v8.setIfInBounds x9.toNat 1))]))) ?_;refine At.b 0 (λ_ e=>dE hT (eA 17 1 k8) (id:=0) (k:=17) e) λz12=>?_;refine At.b 3 (λ_ e=>iQ hT (k:=1) k8 e) λs13=>?_;exact λh=>At.k 1 ⟨_,_,h,jr⟩
   ·apply rt;exact At.x 0
 ·apply rt;exact At.r 2
theorem fD{x y c:Int}{r:Int×Int}(h:dG x y c=some r):aJN Tryz.prog 156 [.int .u64 x,.int .u64 y,.int .u64 c] (.tuple #[.int .u64 r.1,.int .u64 r.2]):=
 aL9 Tryz.func156 (by kernel_rfl) (by kernel_rfl) (by kernel_rfl) (by kernel_rfl) h
def cB(N:Nat)(a0 a1:Int):Option (Int×Int):=
 aT (dV .u64 a0 4294967295) λx1=>
 aT (dV .u64 a1 4294967295) λx2=>
 aT (U64 ((shr .u64 a0 32)*x2)) λx3=>
 aT (shr .u64 (U64 (x1*x2)) 32) λx4=>
 aT (dV .u64 (U64 (x3+x4)) 4294967295) λx5=>
 aT (shr .u64 (U64 (x3+x4)) 32) λx6=>
 aT (U64 (x1*(shr .u64 a1 32))) λx7=>
 aT (U64 ((shr .u64 a0 32)*(shr .u64 a1 32))) λx8=>
 aT (shr .u64 (U64 (x5+x7)) 32) λx9=>
 aT (U64 ((U64 (x8+x6))+x9)) λx10=>
 some ((x10,U64 (a0*a1)))
theorem jA{N a0 a1 r}(h:cB N a0 a1=some r):FnM Tryz.prog 157 [] [(k64 a0),(k64 a1)] (.tup [(k64 r.1),(k64 r.2)]) []:=by
 unfold cB at h;refine At.f eX hT hmo Tryz.func157 rfl h ?_;refine lx ?_;intro x1;refine lx ?_;intro x2;refine lx ?_;intro x3;refine lx ?_;intro x4;refine lx ?_;intro x5;refine lx ?_;intro x6;refine lx ?_;intro x7;refine lx ?_;intro x8;refine lx ?_;intro x9;refine lx ?_;intro x10;apply rt;exact At.r 50
def fJ(N:Nat)(a0 a1:Int)(a2:aP):Option ((Vector Int 3)):=
 ae (aW 0 3) λ_=>
 ae (a2.gT.gh.toList[(af 0)]?) λe2=>
 ae (dG e2 a0 0) λr3=>
 ae (aW 0 3) λ_=>
 ae (a2.gT.gh.toList[(af 0)]?) λe5=>
 ae (aW 1 3) λ_=>
 ae ((a2.gT.gh.setIfInBounds ((af 0)) r3.1).toList[(af 1)]?) λe7=>
 ae (dG e7 a1 r3.2) λr8=>
 ae (aW 1 3) λ_=>
 ae ((a2.gT.gh.setIfInBounds ((af 0)) r3.1).toList[(af 1)]?) λe10=>
 ae (aW 2 3) λ_=>
 ae (((a2.gT.gh.setIfInBounds ((af 0)) r3.1).setIfInBounds ((af 1)) r8.1).toList[(af 2)]?) λe12=>
 ae (aW 2 3) λ_=>
 ae (((a2.gT.gh.setIfInBounds ((af 0)) r3.1).setIfInBounds ((af 1)) r8.1).toList[(af 2)]?) λe14=>
 some (((a2.gT.gh.setIfInBounds ((af 0)) r3.1).setIfInBounds ((af 1)) r8.1).setIfInBounds ((af 2)) (U64 (e12+r8.2)))
theorem vG{N a0 a1 a2 r}(h:fJ N a0 a1 a2=some r):FnM Tryz.prog 158 [.var (aP.enc a2)] [(.ref 0 [0] 0),(k64 a0),(k64 a1)] (.tup []) [.var (.st 10 [(.st 3 [(eA 3 1 k64 r)]),(eB a2.gA),(k64 a2.gr0),(k64 a2.gr1),(k64 a2.gs0),(k64 a2.gs1),(eL 1 k8 a2.gN),(j64 a2.gO)])]:=by
 unfold fJ at h;refine At.f eX hT hmo Tryz.func158 rfl h ?_;refine bi λu1 hu1=>?_;refine bi λe2 he2=>?_;refine bi λr3 hr3=>?_;refine bi λu4 hu4=>?_;refine bi λe5 he5=>?_;refine At.d 1 (dE1 4 (λ_=>aJ hT (k:=1) 0 [0,0] 0 hu1) (dEL hT 5 (k64 e2) k64 2 he2 (dE1 7 (λ_=>fE (fD hr3) (λ_=>fF)) (dE1 13 (λ_=>aJ hT (k:=1) 0 [0,0] 0 hu4) dE0)))) (dF 14 (.v (.bool false)) [(0,.var (.st 10 [(.st 3 [(eA 3 1 k64 (a2.gT.gh.setIfInBounds ((af 0)) r3.1))]),(eB a2.gA),(k64 a2.gr0),(k64 a2.gr1),(k64 a2.gs0),(k64 a2.gs1),(eL 1 k8 a2.gN),(j64 a2.gO)]))] [] (bP (bM hT k64 2 a2.gT.gh he5 r3.1 (by kernel_rfl) (by kernel_rfl) (H':=[.var (.st 10 [(.st 3 [(eA 3 1 k64 (a2.gT.gh.setIfInBounds ((af 0)) r3.1))]),(eB a2.gA),(k64 a2.gr0),(k64 a2.gr1),(k64 a2.gs0),(k64 a2.gs1),(eL 1 k8 a2.gN),(j64 a2.gO)])]))) dF0) ?_;refine bi λu6 hu6=>?_;refine bi λe7 he7=>?_;refine bi λr8 hr8=>?_;refine bi λu9 hu9=>?_;refine bi λe10 he10=>?_;refine At.d 0 (dE1 4 (λ_=>aJ hT (k:=1) 0 [0,0] 0 hu6) (dEL hT 5 (k64 e7) k64 2 he7 (dE1 8 (λ_=>fE (fD hr8) (λ_=>fF)) (dE1 14 (λ_=>aJ hT (k:=1) 0 [0,0] 0 hu9) dE0)))) (dF 15 (.v (.bool false)) [(0,.var (.st 10 [(.st 3 [(eA 3 1 k64 ((a2.gT.gh.setIfInBounds ((af 0)) r3.1).setIfInBounds ((af 1)) r8.1))]),(eB a2.gA),(k64 a2.gr0),(k64 a2.gr1),(k64 a2.gs0),(k64 a2.gs1),(eL 1 k8 a2.gN),(j64 a2.gO)]))] [] (bP (bM hT k64 2 (a2.gT.gh.setIfInBounds ((af 0)) r3.1) he10 r8.1 (by kernel_rfl) (by kernel_rfl) (H':=[.var (.st 10 [(.st 3 [(eA 3 1 k64 ((a2.gT.gh.setIfInBounds ((af 0)) r3.1).setIfInBounds ((af 1)) r8.1))]),(eB a2.gA),(k64 a2.gr0),(k64 a2.gr1),(k64 a2.gs0),(k64 a2.gs1),(eL 1 k8 a2.gN),(j64 a2.gO)])]))) dF0) ?_;refine bi λu11 hu11=>?_;refine bi λe12 he12=>?_;refine bi λu13 hu13=>?_;refine bi λe14 he14=>?_;refine At.d 0 (dE1 3 (λ_=>aJ hT (k:=1) 0 [0,0] 0 hu11) (dEL hT 4 (k64 e12) k64 2 he12 (dE1 9 (λ_=>aJ hT (k:=1) 0 [0,0] 0 hu13) dE0))) (dF 10 (.v (.bool false)) [(0,.var (.st 10 [(.st 3 [(eA 3 1 k64 (((a2.gT.gh.setIfInBounds ((af 0)) r3.1).setIfInBounds ((af 1)) r8.1).setIfInBounds ((af 2)) (U64 (e12+r8.2))))]),(eB a2.gA),(k64 a2.gr0),(k64 a2.gr1),(k64 a2.gs0),(k64 a2.gs1),(eL 1 k8 a2.gN),(j64 a2.gO)]))] [] (bP (bM hT k64 2 ((a2.gT.gh.setIfInBounds ((af 0)) r3.1).setIfInBounds ((af 1)) r8.1) he14 (U64 (e12+r8.2)) (by kernel_rfl) (by kernel_rfl) (H':=[.var (.st 10 [(.st 3 [(eA 3 1 k64 (((a2.gT.gh.setIfInBounds ((af 0)) r3.1).setIfInBounds ((af 1)) r8.1).setIfInBounds ((af 2)) (U64 (e12+r8.2))))]),(eB a2.gA),(k64 a2.gr0),(k64 a2.gr1),(k64 a2.gs0),(k64 a2.gs1),(eL 1 k8 a2.gN),(j64 a2.gO)])]))) dF0) ?_;apply rt;exact At.z 0
def aAL : Nat->Bool:=imL [5]
def fW(N:Nat)(a0:(Vector Int 17))(a1 a2:Int)(a3:aP):Option ((Vector Int 3)×Bool×Int×Int×Int×Int×(List Int)×Int):=
 ae (aW 0 3) λ_=>
 ae (a3.gT.gh.toList[(af 0)]?) λe2=>
 ae (eD a0.toList 0 8) λs3=>
 ae (cZ N s3) λr4=>
 ae (dG e2 r4 0) λr5=>
 ae (aW 0 3) λ_=>
 ae (a3.gT.gh.toList[(af 0)]?) λe7=>
 ae (aW 1 3) λ_=>
 ae ((a3.gT.gh.setIfInBounds ((af 0)) r5.1).toList[(af 1)]?) λe9=>
 ae (eD a0.toList 8 16) λs10=>
 ae (cZ N s10) λr11=>
 ae (dG e9 r11 r5.2) λr12=>
 ae (aW 1 3) λ_=>
 ae ((a3.gT.gh.setIfInBounds ((af 0)) r5.1).toList[(af 1)]?) λe14=>
 ae (aW 2 3) λ_=>
 ae (((a3.gT.gh.setIfInBounds ((af 0)) r5.1).setIfInBounds ((af 1)) r12.1).toList[(af 2)]?) λe16=>
 ae (idx a0.toList 16) λe17=>
 aT (U64 ((U64 e17)+r12.2)) λx18=>
 ae (aW 2 3) λ_=>
 ae (((a3.gT.gh.setIfInBounds ((af 0)) r5.1).setIfInBounds ((af 1)) r12.1).toList[(af 2)]?) λe20=>
 ae (aW 0 3) λ_=>
 ae ((((a3.gT.gh.setIfInBounds ((af 0)) r5.1).setIfInBounds ((af 1)) r12.1).setIfInBounds ((af 2)) (U64 (e16+x18))).toList[(af 0)]?) λe22=>
 ae (cB N e22 a1) λr23=>
 ae (aW 1 3) λ_=>
 ae ((((a3.gT.gh.setIfInBounds ((af 0)) r5.1).setIfInBounds ((af 1)) r12.1).setIfInBounds ((af 2)) (U64 (e16+x18))).toList[(af 1)]?) λe25=>
 ae (cB N e25 a1) λr26=>
 ae (aW 0 3) λ_=>
 ae ((((a3.gT.gh.setIfInBounds ((af 0)) r5.1).setIfInBounds ((af 1)) r12.1).setIfInBounds ((af 2)) (U64 (e16+x18))).toList[(af 0)]?) λe28=>
 ae (cB N e28 a2) λr29=>
 ae (aW 1 3) λ_=>
 ae ((((a3.gT.gh.setIfInBounds ((af 0)) r5.1).setIfInBounds ((af 1)) r12.1).setIfInBounds ((af 2)) (U64 (e16+x18))).toList[(af 1)]?) λe31=>
 ae (cB N e31 a2) λr32=>
 ae (aW 2 3) λ_=>
 ae ((((a3.gT.gh.setIfInBounds ((af 0)) r5.1).setIfInBounds ((af 1)) r12.1).setIfInBounds ((af 2)) (U64 (e16+x18))).toList[(af 2)]?) λe34=>
 ae (aW 2 3) λ_=>
 ae ((((a3.gT.gh.setIfInBounds ((af 0)) r5.1).setIfInBounds ((af 1)) r12.1).setIfInBounds ((af 2)) (U64 (e16+x18))).toList[(af 2)]?) λe36=>
 ae (dG r26.2 r29.2 0) λr37=>
 ae (dG r26.1 r29.1 r37.2) λr38=>
 ae (dG 0 0 r38.2) λr39=>
 ae (dG r38.1 r32.2 0) λr40=>
 ae (dG r39.1 r32.1 r40.2) λr41=>
 ae (dG r40.1 (U64 (e34*a1)) 0) λr42=>
 ae (dG r41.1 (U64 (e36*a2)) r42.2) λr43=>
 ae (dG r37.1 r23.1 0) λr44=>
 ae (dG r42.1 0 r44.2) λr45=>
 ae (dG r43.1 0 r45.2) λr46=>
 ae (fJ N (aFx .u64 r45.1 3) r46.1 (aP.mk (aN.mk (#v[r23.2,r44.1,dV .u64 r45.1 3])) a3.gA a3.gr0 a3.gr1 a3.gs0 a3.gs1 a3.gN a3.gO)) λr47=>
 aT (bor .u64 (shr .u64 r45.1 2) (shl .u64 r46.1 62)) λx48=>
 ae (fJ N x48 (shr .u64 r46.1 2) (aP.mk (aN.mk r47) ((aP.mk (aN.mk (#v[r23.2,r44.1,dV .u64 r45.1 3])) a3.gA a3.gr0 a3.gr1 a3.gs0 a3.gs1 a3.gN a3.gO).gA) ((aP.mk (aN.mk (#v[r23.2,r44.1,dV .u64 r45.1 3])) a3.gA a3.gr0 a3.gr1 a3.gs0 a3.gs1 a3.gN a3.gO).gr0) ((aP.mk (aN.mk (#v[r23.2,r44.1,dV .u64 r45.1 3])) a3.gA a3.gr0 a3.gr1 a3.gs0 a3.gs1 a3.gN a3.gO).gr1) ((aP.mk (aN.mk (#v[r23.2,r44.1,dV .u64 r45.1 3])) a3.gA a3.gr0 a3.gr1 a3.gs0 a3.gs1 a3.gN a3.gO).gs0) ((aP.mk (aN.mk (#v[r23.2,r44.1,dV .u64 r45.1 3])) a3.gA a3.gr0 a3.gr1 a3.gs0 a3.gs1 a3.gN a3.gO).gs1) ((aP.mk (aN.mk (#v[r23.2,r44.1,dV .u64 r45.1 3])) a3.gA a3.gr0 a3.gr1 a3.gs0 a3.gs1 a3.gN a3.gO).gN) ((aP.mk (aN.mk (#v[r23.2,r44.1,dV .u64 r45.1 3])) a3.gA a3.gr0 a3.gr1 a3.gs0 a3.gs1 a3.gN a3.gO).gO))) λr49=>
 some ((r49,(aP.mk (aN.mk r47) ((aP.mk (aN.mk (#v[r23.2,r44.1,dV .u64 r45.1 3])) a3.gA a3.gr0 a3.gr1 a3.gs0 a3.gs1 a3.gN a3.gO).gA) ((aP.mk (aN.mk (#v[r23.2,r44.1,dV .u64 r45.1 3])) a3.gA a3.gr0 a3.gr1 a3.gs0 a3.gs1 a3.gN a3.gO).gr0) ((aP.mk (aN.mk (#v[r23.2,r44.1,dV .u64 r45.1 3])) a3.gA a3.gr0 a3.gr1 a3.gs0 a3.gs1 a3.gN a3.gO).gr1) ((aP.mk (aN.mk (#v[r23.2,r44.1,dV .u64 r45.1 3])) a3.gA a3.gr0 a3.gr1 a3.gs0 a3.gs1 a3.gN a3.gO).gs0) ((aP.mk (aN.mk (#v[r23.2,r44.1,dV .u64 r45.1 3])) a3.gA a3.gr0 a3.gr1 a3.gs0 a3.gs1 a3.gN a3.gO).gs1) ((aP.mk (aN.mk (#v[r23.2,r44.1,dV .u64 r45.1 3])) a3.gA a3.gr0 a3.gr1 a3.gs0 a3.gs1 a3.gN a3.gO).gN) ((aP.mk (aN.mk (#v[r23.2,r44.1,dV .u64 r45.1 3])) a3.gA a3.gr0 a3.gr1 a3.gs0 a3.gs1 a3.gN a3.gO).gO)).gA,(aP.mk (aN.mk r47) ((aP.mk (aN.mk (#v[r23.2,r44.1,dV .u64 r45.1 3])) a3.gA a3.gr0 a3.gr1 a3.gs0 a3.gs1 a3.gN a3.gO).gA) ((aP.mk (aN.mk (#v[r23.2,r44.1,dV .u64 r45.1 3])) a3.gA a3.gr0 a3.gr1 a3.gs0 a3.gs1 a3.gN a3.gO).gr0) ((aP.mk (aN.mk (#v[r23.2,r44.1,dV .u64 r45.1 3])) a3.gA a3.gr0 a3.gr1 a3.gs0 a3.gs1 a3.gN a3.gO).gr1) ((aP.mk (aN.mk (#v[r23.2,r44.1,dV .u64 r45.1 3])) a3.gA a3.gr0 a3.gr1 a3.gs0 a3.gs1 a3.gN a3.gO).gs0) ((aP.mk (aN.mk (#v[r23.2,r44.1,dV .u64 r45.1 3])) a3.gA a3.gr0 a3.gr1 a3.gs0 a3.gs1 a3.gN a3.gO).gs1) ((aP.mk (aN.mk (#v[r23.2,r44.1,dV .u64 r45.1 3])) a3.gA a3.gr0 a3.gr1 a3.gs0 a3.gs1 a3.gN a3.gO).gN) ((aP.mk (aN.mk (#v[r23.2,r44.1,dV .u64 r45.1 3])) a3.gA a3.gr0 a3.gr1 a3.gs0 a3.gs1 a3.gN a3.gO).gO)).gr0,(aP.mk (aN.mk r47) ((aP.mk (aN.mk (#v[r23.2,r44.1,dV .u64 r45.1 3])) a3.gA a3.gr0 a3.gr1 a3.gs0 a3.gs1 a3.gN a3.gO).gA) ((aP.mk (aN.mk (#v[r23.2,r44.1,dV .u64 r45.1 3])) a3.gA a3.gr0 a3.gr1 a3.gs0 a3.gs1 a3.gN a3.gO).gr0) ((aP.mk (aN.mk (#v[r23.2,r44.1,dV .u64 r45.1 3])) a3.gA a3.gr0 a3.gr1 a3.gs0 a3.gs1 a3.gN a3.gO).gr1) ((aP.mk (aN.mk (#v[r23.2,r44.1,dV .u64 r45.1 3])) a3.gA a3.gr0 a3.gr1 a3.gs0 a3.gs1 a3.gN a3.gO).gs0) ((aP.mk (aN.mk (#v[r23.2,r44.1,dV .u64 r45.1 3])) a3.gA a3.gr0 a3.gr1 a3.gs0 a3.gs1 a3.gN a3.gO).gs1) ((aP.mk (aN.mk (#v[r23.2,r44.1,dV .u64 r45.1 3])) a3.gA a3.gr0 a3.gr1 a3.gs0 a3.gs1 a3.gN a3.gO).gN) ((aP.mk (aN.mk (#v[r23.2,r44.1,dV .u64 r45.1 3])) a3.gA a3.gr0 a3.gr1 a3.gs0 a3.gs1 a3.gN a3.gO).gO)).gr1,(aP.mk (aN.mk r47) ((aP.mk (aN.mk (#v[r23.2,r44.1,dV .u64 r45.1 3])) a3.gA a3.gr0 a3.gr1 a3.gs0 a3.gs1 a3.gN a3.gO).gA) ((aP.mk (aN.mk (#v[r23.2,r44.1,dV .u64 r45.1 3])) a3.gA a3.gr0 a3.gr1 a3.gs0 a3.gs1 a3.gN a3.gO).gr0) ((aP.mk (aN.mk (#v[r23.2,r44.1,dV .u64 r45.1 3])) a3.gA a3.gr0 a3.gr1 a3.gs0 a3.gs1 a3.gN a3.gO).gr1) ((aP.mk (aN.mk (#v[r23.2,r44.1,dV .u64 r45.1 3])) a3.gA a3.gr0 a3.gr1 a3.gs0 a3.gs1 a3.gN a3.gO).gs0) ((aP.mk (aN.mk (#v[r23.2,r44.1,dV .u64 r45.1 3])) a3.gA a3.gr0 a3.gr1 a3.gs0 a3.gs1 a3.gN a3.gO).gs1) ((aP.mk (aN.mk (#v[r23.2,r44.1,dV .u64 r45.1 3])) a3.gA a3.gr0 a3.gr1 a3.gs0 a3.gs1 a3.gN a3.gO).gN) ((aP.mk (aN.mk (#v[r23.2,r44.1,dV .u64 r45.1 3])) a3.gA a3.gr0 a3.gr1 a3.gs0 a3.gs1 a3.gN a3.gO).gO)).gs0,(aP.mk (aN.mk r47) ((aP.mk (aN.mk (#v[r23.2,r44.1,dV .u64 r45.1 3])) a3.gA a3.gr0 a3.gr1 a3.gs0 a3.gs1 a3.gN a3.gO).gA) ((aP.mk (aN.mk (#v[r23.2,r44.1,dV .u64 r45.1 3])) a3.gA a3.gr0 a3.gr1 a3.gs0 a3.gs1 a3.gN a3.gO).gr0) ((aP.mk (aN.mk (#v[r23.2,r44.1,dV .u64 r45.1 3])) a3.gA a3.gr0 a3.gr1 a3.gs0 a3.gs1 a3.gN a3.gO).gr1) ((aP.mk (aN.mk (#v[r23.2,r44.1,dV .u64 r45.1 3])) a3.gA a3.gr0 a3.gr1 a3.gs0 a3.gs1 a3.gN a3.gO).gs0) ((aP.mk (aN.mk (#v[r23.2,r44.1,dV .u64 r45.1 3])) a3.gA a3.gr0 a3.gr1 a3.gs0 a3.gs1 a3.gN a3.gO).gs1) ((aP.mk (aN.mk (#v[r23.2,r44.1,dV .u64 r45.1 3])) a3.gA a3.gr0 a3.gr1 a3.gs0 a3.gs1 a3.gN a3.gO).gN) ((aP.mk (aN.mk (#v[r23.2,r44.1,dV .u64 r45.1 3])) a3.gA a3.gr0 a3.gr1 a3.gs0 a3.gs1 a3.gN a3.gO).gO)).gs1,(aP.mk (aN.mk r47) ((aP.mk (aN.mk (#v[r23.2,r44.1,dV .u64 r45.1 3])) a3.gA a3.gr0 a3.gr1 a3.gs0 a3.gs1 a3.gN a3.gO).gA) ((aP.mk (aN.mk (#v[r23.2,r44.1,dV .u64 r45.1 3])) a3.gA a3.gr0 a3.gr1 a3.gs0 a3.gs1 a3.gN a3.gO).gr0) ((aP.mk (aN.mk (#v[r23.2,r44.1,dV .u64 r45.1 3])) a3.gA a3.gr0 a3.gr1 a3.gs0 a3.gs1 a3.gN a3.gO).gr1) ((aP.mk (aN.mk (#v[r23.2,r44.1,dV .u64 r45.1 3])) a3.gA a3.gr0 a3.gr1 a3.gs0 a3.gs1 a3.gN a3.gO).gs0) ((aP.mk (aN.mk (#v[r23.2,r44.1,dV .u64 r45.1 3])) a3.gA a3.gr0 a3.gr1 a3.gs0 a3.gs1 a3.gN a3.gO).gs1) ((aP.mk (aN.mk (#v[r23.2,r44.1,dV .u64 r45.1 3])) a3.gA a3.gr0 a3.gr1 a3.gs0 a3.gs1 a3.gN a3.gO).gN) ((aP.mk (aN.mk (#v[r23.2,r44.1,dV .u64 r45.1 3])) a3.gA a3.gr0 a3.gr1 a3.gs0 a3.gs1 a3.gN a3.gO).gO)).gN,(aP.mk (aN.mk r47) ((aP.mk (aN.mk (#v[r23.2,r44.1,dV .u64 r45.1 3])) a3.gA a3.gr0 a3.gr1 a3.gs0 a3.gs1 a3.gN a3.gO).gA) ((aP.mk (aN.mk (#v[r23.2,r44.1,dV .u64 r45.1 3])) a3.gA a3.gr0 a3.gr1 a3.gs0 a3.gs1 a3.gN a3.gO).gr0) ((aP.mk (aN.mk (#v[r23.2,r44.1,dV .u64 r45.1 3])) a3.gA a3.gr0 a3.gr1 a3.gs0 a3.gs1 a3.gN a3.gO).gr1) ((aP.mk (aN.mk (#v[r23.2,r44.1,dV .u64 r45.1 3])) a3.gA a3.gr0 a3.gr1 a3.gs0 a3.gs1 a3.gN a3.gO).gs0) ((aP.mk (aN.mk (#v[r23.2,r44.1,dV .u64 r45.1 3])) a3.gA a3.gr0 a3.gr1 a3.gs0 a3.gs1 a3.gN a3.gO).gs1) ((aP.mk (aN.mk (#v[r23.2,r44.1,dV .u64 r45.1 3])) a3.gA a3.gr0 a3.gr1 a3.gs0 a3.gs1 a3.gN a3.gO).gN) ((aP.mk (aN.mk (#v[r23.2,r44.1,dV .u64 r45.1 3])) a3.gA a3.gr0 a3.gr1 a3.gs0 a3.gs1 a3.gN a3.gO).gO)).gO))
theorem zL{N a0 a1 a2 a3 r}(h:fW N a0 a1 a2 a3=some r):FnM Tryz.prog 142 [.var (aP.enc a3)] [(.ref 0 [0] 0),(eA 17 1 k8 a0),(k64 a1),(k64 a2)] (.tup []) [.var (.st 10 [(.st 3 [(eA 3 1 k64 r.1)]),(eB r.2.1),(k64 r.2.2.1),(k64 r.2.2.2.1),(k64 r.2.2.2.2.1),(k64 r.2.2.2.2.2.1),(eL 1 k8 r.2.2.2.2.2.2.1),(j64 r.2.2.2.2.2.2.2)])]:=by
 unfold fW at h;refine At.f aAL hT hmo Tryz.func142 rfl h ?_;refine bi λu1 hu1=>?_;refine bi λe2 he2=>?_;refine bi λs3 hs3=>?_;refine bi λr4 hr4=>?_;refine bi λr5 hr5=>?_;refine bi λu6 hu6=>?_;refine bi λe7 he7=>?_;refine At.d 8 (dE1 0 (λ_=>aJ hT (k:=1) 1 [] 0 hu1) (dEL hT 1 (k64 e2) k64 0 he2 (dE1 2 (λ_=>nJ hT (N:=17) (k:=1) k8 a0 hs3) (dE2 3 (k64 r4) (λ_=>dM (nO hr4)) (dE1 4 (λ_=>fE (fD hr5) (λ_=>fF)) (dE1 8 (λ_=>aJ hT (k:=1) 1 [] 0 hu6) dE0)))))) (dF 9 (.v (.bool false)) [(1,.var (eA 3 1 k64 (a3.gT.gh.setIfInBounds ((af 0)) r5.1)))] [] (bP (bM hT k64 0 a3.gT.gh he7 r5.1 (by kernel_rfl) (by kernel_rfl) (H':=[.var (aP.enc a3),.var (eA 3 1 k64 (a3.gT.gh.setIfInBounds ((af 0)) r5.1))]))) dF0) ?_;refine bi λu8 hu8=>?_;refine bi λe9 he9=>?_;refine bi λs10 hs10=>?_;refine bi λr11 hr11=>?_;refine bi λr12 hr12=>?_;refine bi λu13 hu13=>?_;refine bi λe14 he14=>?_;refine At.d 0 (dE1 0 (λ_=>aJ hT (k:=1) 1 [] 0 hu8) (dEL hT 1 (k64 e9) k64 0 he9 (dE1 2 (λ_=>nJ hT (N:=17) (k:=1) k8 a0 hs10) (dE2 3 (k64 r11) (λ_=>dM (nO hr11)) (dE1 5 (λ_=>fE (fD hr12) (λ_=>fF)) (dE1 9 (λ_=>aJ hT (k:=1) 1 [] 0 hu13) dE0)))))) (dF 10 (.v (.bool false)) [(1,.var (eA 3 1 k64 ((a3.gT.gh.setIfInBounds ((af 0)) r5.1).setIfInBounds ((af 1)) r12.1)))] [] (bP (bM hT k64 0 (a3.gT.gh.setIfInBounds ((af 0)) r5.1) he14 r12.1 (by kernel_rfl) (by kernel_rfl) (H':=[.var (aP.enc a3),.var (eA 3 1 k64 ((a3.gT.gh.setIfInBounds ((af 0)) r5.1).setIfInBounds ((af 1)) r12.1))]))) dF0) ?_;refine At.b 0 (λ_ e=>aJ hT (k:=1) 1 [] 0 e) λu15=>?_;refine At.b 0 (λ_ e=>bH hT k64 0 e) λe16=>?_;refine At.b 0 (λ_ e=>bW hT (N:=17) (k:=1) k8 a0 e) λe17=>?_;refine lx ?_;intro x18;refine At.b 5 (λ_ e=>aJ hT (k:=1) 1 [] 0 e) λu19=>?_;refine At.b 0 (λ_ e=>bM hT k64 0 ((a3.gT.gh.setIfInBounds ((af 0)) r5.1).setIfInBounds ((af 1)) r12.1) e (U64 (e16+x18)) (by kernel_rfl) (by kernel_rfl) (H':=[.var (aP.enc a3),.var (eA 3 1 k64 (((a3.gT.gh.setIfInBounds ((af 0)) r5.1).setIfInBounds ((af 1)) r12.1).setIfInBounds ((af 2)) (U64 (e16+x18))))])) λe20=>?_;refine At.b 0 (λ_ e=>aJ hT (k:=1) 1 [] 0 e) λu21=>?_;refine At.b 0 (λ_ e=>bH hT k64 0 e) λe22=>?_;refine At.b 1 (λ_ e=>aM [] (jA e)) λr23=>?_;refine At.b 5 (λ_ e=>aJ hT (k:=1) 1 [] 0 e) λu24=>?_;refine At.b 0 (λ_ e=>bH hT k64 0 e) λe25=>?_;refine At.b 1 (λ_ e=>aM [] (jA e)) λr26=>?_;refine At.b 5 (λ_ e=>aJ hT (k:=1) 1 [] 0 e) λu27=>?_;refine At.b 0 (λ_ e=>bH hT k64 0 e) λe28=>?_;refine At.b 1 (λ_ e=>aM [] (jA e)) λr29=>?_;refine At.b 5 (λ_ e=>aJ hT (k:=1) 1 [] 0 e) λu30=>?_;refine At.b 0 (λ_ e=>bH hT k64 0 e) λe31=>?_;refine At.b 1 (λ_ e=>aM [] (jA e)) λr32=>?_;refine bi λu33 hu33=>?_;refine bi λe34 he34=>?_;refine bi λu35 hu35=>?_;refine bi λe36 he36=>?_;refine At.d 5 (dE1 0 (λ_=>aJ hT (k:=1) 1 [] 0 hu33) (dEL hT 1 (k64 e34) k64 0 he34 (dE1 4 (λ_=>aJ hT (k:=1) 1 [] 0 hu35) (dEL hT 5 (k64 e36) k64 0 he36 dE0)))) dF0 ?_;refine At.b 2 (λ_ e=>fE (fD e) (λ_=>fF)) λr37=>?_;refine At.b 8 (λ_ e=>fE (fD e) (λ_=>fF)) λr38=>?_;refine At.b 6 (λ_ e=>fE (fD e) (λ_=>fF)) λr39=>?_;refine At.b 7 (λ_ e=>fE (fD e) (λ_=>fF)) λr40=>?_;refine At.b 8 (λ_ e=>fE (fD e) (λ_=>fF)) λr41=>?_;refine At.b 6 (λ_ e=>fE (fD e) (λ_=>fF)) λr42=>?_;refine At.b 8 (λ_ e=>fE (fD e) (λ_=>fF)) λr43=>?_;refine At.b 8 (λ_ e=>fE (fD e) (λ_=>fF)) λr44=>?_;refine At.b 7 (λ_ e=>fE (fD e) (λ_=>fF)) λr45=>?_;refine At.b 7 (λ_ e=>fE (fD e) (λ_=>fF)) λr46=>?_;refine At.b 18 (λ_ e=>aM [0] (vG e)) λr47=>?_;refine lx ?_;intro x48;refine At.b 8 (λ_ e=>aM [0] (vG e)) λr49=>?_;apply rt;exact At.z 0
def fI(N:Nat)(a1:(List (List Int))):Nat->(List Int)->Int->Int->Option ((List Int)×Int)
 | 0,_,_,_=>none
 | k+1,s2,s3,s4=>
  aT (decide (s4 < ((a1.length:Int)))) λx5=>
  cond x5 (
   ae (idx a1 s4) λe6=>
   aT (mU ((e6.length:Int)) (I64 (65536 - s3))) λx7=>
   ae (eD e6 0 x7) λs8=>
   aT (I64 (s3+((s8.length:Int)))) λx9=>
   ae (nR 1 s2 s8) λz10=>
   fI N a1 k z10 ((I64 (s3+((s8.length:Int))))) (I64 (s4+1))) (
   some ((s2,s3)))
def fK(N:Nat)  : Nat->(Vector Int 3)->Bool->Int->Int->Int->Int->(List Int)->Int->Option ((Vector Int 3)×Bool×Int×Int×Int×Int×(List Int)×Int)
 | 0,_,_,_,_,_,_,_,_=>none
 | k+1,s12,s13,s14,s15,s16,s17,s18,s19=>
  aT (decide (((s18.length:Int))>=16)) λx20=>
  cond x20 (
   ae (eD s18 0 16) λs21=>
   ae (kU N s21) λr22=>
   ae (idx r22 0) λe23=>
   ae (fW N e23 s14 s15 (aP.mk (aN.mk s12) s13 s14 s15 s16 s17 s18 s19)) λr24=>
   ae (eD r24.2.2.2.2.2.2.1 16 ((r24.2.2.2.2.2.2.1.length:Int))) λs25=>
   fK N k r24.1 r24.2.1 r24.2.2.1 r24.2.2.2.1 r24.2.2.2.2.1 r24.2.2.2.2.2.1 s25 r24.2.2.2.2.2.2.2) (
   some ((s12,s13,s14,s15,s16,s17,s18,s19)))
def qN(N:Nat)(b1:(List Int))(a1:(List (List Int)))(a2:aN)(a3:Bool)(a4 a5 a6 a7 a8:Int):Option ((List Int)×(Vector Int 3)×Bool×Int×Int×Int×Int×(List Int)×Int):=
 cond (!a3) (
  some ((b1,a2.gh,a3,a4,a5,a6,a7,b1,a8))) (
  ae (fI N a1 N b1 a8 0) λp1=>
  ae (fK N N a2.gh a3 a4 a5 a6 a7 p1.1 p1.2) λp11=>
  some ((p1.1,p11.1,p11.2.1,p11.2.2.1,p11.2.2.2.1,p11.2.2.2.2.1,p11.2.2.2.2.2.1,p11.2.2.2.2.2.2.1,p11.2.2.2.2.2.2.2)))
theorem aCJ{N b1 a1 a2 a3 a4 a5 a6 a7 a8 r}(h:qN N b1 a1 a2 a3 a4 a5 a6 a7 a8=some r):FnM Tryz.prog 118 [.var (.st 10 [(aN.enc a2),(eB a3),(k64 a4),(k64 a5),(k64 a6),(k64 a7),(eO 1 1 k8 b1),(j64 a8)]),.tail (b1.length*1)] [(.ref 0 [] 0),(eL 1 (eL 1 k8) a1)] (.tup []) [.var (.st 10 [(.st 3 [(eA 3 1 k64 r.2.1)]),(eB r.2.2.1),(k64 r.2.2.2.1),(k64 r.2.2.2.2.1),(k64 r.2.2.2.2.2.1),(k64 r.2.2.2.2.2.2.1),(eL 1 k8 r.2.2.2.2.2.2.2.1),(j64 r.2.2.2.2.2.2.2.2)]),.tail (r.1.length*1)]:=by
 unfold qN at h;refine At.f eX hT hmo Tryz.func118 rfl h ?_;refine At.o 1 (aIT hT (t:=165) (x:=(.ref 0 [] 0)) (b:=true) (by kernel_rfl) rfl rfl (by kernel_rfl)) ?_;refine At.g [8] 7 ?_;refine At.c 0 ?_ ?_
 ·apply rt;exact At.r 0
 ·refine At.L 3 [0] 2 (λp1=>([],[(0,.var (.st 10 [(aN.enc a2),(eB a3),(k64 a4),(k64 a5),(k64 a6),(k64 a7),(eO 1 1 k8 p1.1),(j64 p1.2)])),(1,.tail (p1.1.length*1))],[])) (λp1 J k=>∃s2 s3 s4,fI N a1 k s2 s3 s4=some p1/\J [0,15,16] 2 [(17,(j64 s4))] [(0,.var (.st 10 [(aN.enc a2),(eB a3),(k64 a4),(k64 a5),(k64 a6),(k64 a7),(eO 1 1 k8 s2),(j64 s3)])),(1,.tail (s2.length*1))] []) N (λ_ h=>⟨_,_,_,h,jr⟩) (λp1 k s hI=>?_) λp1=>?_
  ·obtain⟨s2,s3,s4,h,hj⟩:=hI;cases k with
   | zero=>cases h
   | succ k=>
    refine At.jr hj ?_ h;refine lx ?_;intro x5;refine At.c 1 ?_ ?_
    ·refine At.b 0 (λ_ e=>bB hT (eL 1 k8) e) λe6=>?_;refine lx ?_;intro x7;refine At.b 11 (λ_ e=>iQ hT (k:=1) k8 e) λs8=>?_;refine lx ?_;intro x9;refine At.b 17 (λ_ e=>dE hT k8 (id:=1) (k:=1) e) λz10=>?_;exact λh=>At.k 5 ⟨_,_,_,h,jr⟩
    ·apply rt;exact At.x 0
  ·refine At.L 0 [] 2 (λp11=>([],[(0,.var (.st 10 [(.st 3 [(eA 3 1 k64 p11.1)]),(eB p11.2.1),(k64 p11.2.2.1),(k64 p11.2.2.2.1),(k64 p11.2.2.2.2.1),(k64 p11.2.2.2.2.2.1),(eL 1 k8 p11.2.2.2.2.2.2.1),(j64 p11.2.2.2.2.2.2.2)]))],[])) (λp11 J k=>∃s12 s13 s14 s15 s16 s17 s18 s19,fK N k s12 s13 s14 s15 s16 s17 s18 s19=some p11/\J [0] 2 [] [(0,.var (.st 10 [(.st 3 [(eA 3 1 k64 s12)]),(eB s13),(k64 s14),(k64 s15),(k64 s16),(k64 s17),(eL 1 k8 s18),(j64 s19)]))] []) N (λ_ h=>⟨_,_,_,_,_,_,_,_,h,jr⟩) (λp11 k s hI=>?_) λp11=>?_
   ·obtain⟨s12,s13,s14,s15,s16,s17,s18,s19,h,hj⟩:=hI;cases k with
    | zero=>cases h
    | succ k=>
     refine At.jr hj ?_ h;refine lx ?_;intro x20;refine At.c 6 ?_ ?_
     ·refine bi λs21 hs21=>?_;refine bi λr22 hr22=>?_;refine bi λe23 he23=>?_;refine bi λr24 hr24=>?_;refine At.d 0 (dE1 7 (λ_=>iQ hT (k:=1) k8 hs21) (dE2 8 (eL 17 (eA 17 1 k8) r22) (λ_=>dM (aA5 hr22)) (dE1 9 (λ_=>bB hT (eA 17 1 k8) he23) dE0))) (dF 19 (.tup []) [(0,.var (.st 10 [(.st 3 [(eA 3 1 k64 r24.1)]),(eB r24.2.1),(k64 r24.2.2.1),(k64 r24.2.2.2.1),(k64 r24.2.2.2.2.1),(k64 r24.2.2.2.2.2.1),(eL 1 k8 r24.2.2.2.2.2.2.1),(j64 r24.2.2.2.2.2.2.2)]))] [] (bP (aM [0] (zL hr24))) dF0) ?_;refine At.b 5 (λ_ e=>iQ hT (k:=1) k8 e) λs25=>?_;exact λh=>At.k 3 ⟨_,_,_,_,_,_,_,_,h,jr⟩
     ·apply rt;exact At.x 0
   ·apply rt;exact At.z 0
def cA(N:Nat)(a0 a1:Int)(a2:aN):Option ((Vector Int 3)):=
 ae (aW 0 3) λ_=>
 ae (a2.gh.toList[(af 0)]?) λe2=>
 ae (dG e2 a0 0) λr3=>
 ae (aW 0 3) λ_=>
 ae (a2.gh.toList[(af 0)]?) λe5=>
 ae (aW 1 3) λ_=>
 ae ((a2.gh.setIfInBounds ((af 0)) r3.1).toList[(af 1)]?) λe7=>
 ae (dG e7 a1 r3.2) λr8=>
 ae (aW 1 3) λ_=>
 ae ((a2.gh.setIfInBounds ((af 0)) r3.1).toList[(af 1)]?) λe10=>
 ae (aW 2 3) λ_=>
 ae (((a2.gh.setIfInBounds ((af 0)) r3.1).setIfInBounds ((af 1)) r8.1).toList[(af 2)]?) λe12=>
 ae (aW 2 3) λ_=>
 ae (((a2.gh.setIfInBounds ((af 0)) r3.1).setIfInBounds ((af 1)) r8.1).toList[(af 2)]?) λe14=>
 some (((a2.gh.setIfInBounds ((af 0)) r3.1).setIfInBounds ((af 1)) r8.1).setIfInBounds ((af 2)) (U64 (e12+r8.2)))
theorem uN{N a0 a1 a2 r}(h:cA N a0 a1 a2=some r):FnM Tryz.prog 158 [.var (aN.enc a2)] [(.ref 0 [] 0),(k64 a0),(k64 a1)] (.tup []) [.var (.st 3 [(eA 3 1 k64 r)])]:=by
 unfold cA at h;refine At.f eX hT hmo Tryz.func158 rfl h ?_;refine bi λu1 hu1=>?_;refine bi λe2 he2=>?_;refine bi λr3 hr3=>?_;refine bi λu4 hu4=>?_;refine bi λe5 he5=>?_;refine At.d 1 (dE1 4 (λ_=>aJ hT (k:=1) 0 [0] 0 hu1) (dEL hT 5 (k64 e2) k64 1 he2 (dE1 7 (λ_=>fE (fD hr3) (λ_=>fF)) (dE1 13 (λ_=>aJ hT (k:=1) 0 [0] 0 hu4) dE0)))) (dF 14 (.v (.bool false)) [(0,.var (.st 3 [(eA 3 1 k64 (a2.gh.setIfInBounds ((af 0)) r3.1))]))] [] (bP (bM hT k64 1 a2.gh he5 r3.1 (by kernel_rfl) (by kernel_rfl) (H':=[.var (.st 3 [(eA 3 1 k64 (a2.gh.setIfInBounds ((af 0)) r3.1))])]))) dF0) ?_;refine bi λu6 hu6=>?_;refine bi λe7 he7=>?_;refine bi λr8 hr8=>?_;refine bi λu9 hu9=>?_;refine bi λe10 he10=>?_;refine At.d 0 (dE1 4 (λ_=>aJ hT (k:=1) 0 [0] 0 hu6) (dEL hT 5 (k64 e7) k64 1 he7 (dE1 8 (λ_=>fE (fD hr8) (λ_=>fF)) (dE1 14 (λ_=>aJ hT (k:=1) 0 [0] 0 hu9) dE0)))) (dF 15 (.v (.bool false)) [(0,.var (.st 3 [(eA 3 1 k64 ((a2.gh.setIfInBounds ((af 0)) r3.1).setIfInBounds ((af 1)) r8.1))]))] [] (bP (bM hT k64 1 (a2.gh.setIfInBounds ((af 0)) r3.1) he10 r8.1 (by kernel_rfl) (by kernel_rfl) (H':=[.var (.st 3 [(eA 3 1 k64 ((a2.gh.setIfInBounds ((af 0)) r3.1).setIfInBounds ((af 1)) r8.1))])]))) dF0) ?_;refine bi λu11 hu11=>?_;refine bi λe12 he12=>?_;refine bi λu13 hu13=>?_;refine bi λe14 he14=>?_;refine At.d 0 (dE1 3 (λ_=>aJ hT (k:=1) 0 [0] 0 hu11) (dEL hT 4 (k64 e12) k64 1 he12 (dE1 9 (λ_=>aJ hT (k:=1) 0 [0] 0 hu13) dE0))) (dF 10 (.v (.bool false)) [(0,.var (.st 3 [(eA 3 1 k64 (((a2.gh.setIfInBounds ((af 0)) r3.1).setIfInBounds ((af 1)) r8.1).setIfInBounds ((af 2)) (U64 (e12+r8.2))))]))] [] (bP (bM hT k64 1 ((a2.gh.setIfInBounds ((af 0)) r3.1).setIfInBounds ((af 1)) r8.1) he14 (U64 (e12+r8.2)) (by kernel_rfl) (by kernel_rfl) (H':=[.var (.st 3 [(eA 3 1 k64 (((a2.gh.setIfInBounds ((af 0)) r3.1).setIfInBounds ((af 1)) r8.1).setIfInBounds ((af 2)) (U64 (e12+r8.2))))])]))) dF0) ?_;apply rt;exact At.z 0
def yU : Nat->Bool:=imL [5]
def cQ(N:Nat)(a0:(Vector Int 17))(a1 a2:Int)(a3:aN):Option ((Vector Int 3)):=
 ae (aW 0 3) λ_=>
 ae (a3.gh.toList[(af 0)]?) λe2=>
 ae (eD a0.toList 0 8) λs3=>
 ae (cZ N s3) λr4=>
 ae (dG e2 r4 0) λr5=>
 ae (aW 0 3) λ_=>
 ae (a3.gh.toList[(af 0)]?) λe7=>
 ae (aW 1 3) λ_=>
 ae ((a3.gh.setIfInBounds ((af 0)) r5.1).toList[(af 1)]?) λe9=>
 ae (eD a0.toList 8 16) λs10=>
 ae (cZ N s10) λr11=>
 ae (dG e9 r11 r5.2) λr12=>
 ae (aW 1 3) λ_=>
 ae ((a3.gh.setIfInBounds ((af 0)) r5.1).toList[(af 1)]?) λe14=>
 ae (aW 2 3) λ_=>
 ae (((a3.gh.setIfInBounds ((af 0)) r5.1).setIfInBounds ((af 1)) r12.1).toList[(af 2)]?) λe16=>
 ae (idx a0.toList 16) λe17=>
 aT (U64 ((U64 e17)+r12.2)) λx18=>
 ae (aW 2 3) λ_=>
 ae (((a3.gh.setIfInBounds ((af 0)) r5.1).setIfInBounds ((af 1)) r12.1).toList[(af 2)]?) λe20=>
 ae (aW 0 3) λ_=>
 ae ((((a3.gh.setIfInBounds ((af 0)) r5.1).setIfInBounds ((af 1)) r12.1).setIfInBounds ((af 2)) (U64 (e16+x18))).toList[(af 0)]?) λe22=>
 ae (cB N e22 a1) λr23=>
 ae (aW 1 3) λ_=>
 ae ((((a3.gh.setIfInBounds ((af 0)) r5.1).setIfInBounds ((af 1)) r12.1).setIfInBounds ((af 2)) (U64 (e16+x18))).toList[(af 1)]?) λe25=>
 ae (cB N e25 a1) λr26=>
 ae (aW 0 3) λ_=>
 ae ((((a3.gh.setIfInBounds ((af 0)) r5.1).setIfInBounds ((af 1)) r12.1).setIfInBounds ((af 2)) (U64 (e16+x18))).toList[(af 0)]?) λe28=>
 ae (cB N e28 a2) λr29=>
 ae (aW 1 3) λ_=>
 ae ((((a3.gh.setIfInBounds ((af 0)) r5.1).setIfInBounds ((af 1)) r12.1).setIfInBounds ((af 2)) (U64 (e16+x18))).toList[(af 1)]?) λe31=>
 ae (cB N e31 a2) λr32=>
 ae (aW 2 3) λ_=>
 ae ((((a3.gh.setIfInBounds ((af 0)) r5.1).setIfInBounds ((af 1)) r12.1).setIfInBounds ((af 2)) (U64 (e16+x18))).toList[(af 2)]?) λe34=>
 ae (aW 2 3) λ_=>
 ae ((((a3.gh.setIfInBounds ((af 0)) r5.1).setIfInBounds ((af 1)) r12.1).setIfInBounds ((af 2)) (U64 (e16+x18))).toList[(af 2)]?) λe36=>
 ae (dG r26.2 r29.2 0) λr37=>
 ae (dG r26.1 r29.1 r37.2) λr38=>
 ae (dG 0 0 r38.2) λr39=>
 ae (dG r38.1 r32.2 0) λr40=>
 ae (dG r39.1 r32.1 r40.2) λr41=>
 ae (dG r40.1 (U64 (e34*a1)) 0) λr42=>
 ae (dG r41.1 (U64 (e36*a2)) r42.2) λr43=>
 ae (dG r37.1 r23.1 0) λr44=>
 ae (dG r42.1 0 r44.2) λr45=>
 ae (dG r43.1 0 r45.2) λr46=>
 ae (cA N (aFx .u64 r45.1 3) r46.1 (aN.mk (#v[r23.2,r44.1,dV .u64 r45.1 3]))) λr47=>
 aT (bor .u64 (shr .u64 r45.1 2) (shl .u64 r46.1 62)) λx48=>
 ae (cA N x48 (shr .u64 r46.1 2) (aN.mk r47)) λr49=>
 some r49
theorem yD{N a0 a1 a2 a3 r}(h:cQ N a0 a1 a2 a3=some r):FnM Tryz.prog 142 [.var (aN.enc a3)] [(.ref 0 [] 0),(eA 17 1 k8 a0),(k64 a1),(k64 a2)] (.tup []) [.var (.st 3 [(eA 3 1 k64 r)])]:=by
 unfold cQ at h;refine At.f yU hT hmo Tryz.func142 rfl h ?_;refine bi λu1 hu1=>?_;refine bi λe2 he2=>?_;refine bi λs3 hs3=>?_;refine bi λr4 hr4=>?_;refine bi λr5 hr5=>?_;refine bi λu6 hu6=>?_;refine bi λe7 he7=>?_;refine At.d 8 (dE1 0 (λ_=>aJ hT (k:=1) 1 [] 0 hu1) (dEL hT 1 (k64 e2) k64 0 he2 (dE1 2 (λ_=>nJ hT (N:=17) (k:=1) k8 a0 hs3) (dE2 3 (k64 r4) (λ_=>dM (nO hr4)) (dE1 4 (λ_=>fE (fD hr5) (λ_=>fF)) (dE1 8 (λ_=>aJ hT (k:=1) 1 [] 0 hu6) dE0)))))) (dF 9 (.v (.bool false)) [(1,.var (eA 3 1 k64 (a3.gh.setIfInBounds ((af 0)) r5.1)))] [] (bP (bM hT k64 0 a3.gh he7 r5.1 (by kernel_rfl) (by kernel_rfl) (H':=[.var (aN.enc a3),.var (eA 3 1 k64 (a3.gh.setIfInBounds ((af 0)) r5.1))]))) dF0) ?_;refine bi λu8 hu8=>?_;refine bi λe9 he9=>?_;refine bi λs10 hs10=>?_;refine bi λr11 hr11=>?_;refine bi λr12 hr12=>?_;refine bi λu13 hu13=>?_;refine bi λe14 he14=>?_;refine At.d 0 (dE1 0 (λ_=>aJ hT (k:=1) 1 [] 0 hu8) (dEL hT 1 (k64 e9) k64 0 he9 (dE1 2 (λ_=>nJ hT (N:=17) (k:=1) k8 a0 hs10) (dE2 3 (k64 r11) (λ_=>dM (nO hr11)) (dE1 5 (λ_=>fE (fD hr12) (λ_=>fF)) (dE1 9 (λ_=>aJ hT (k:=1) 1 [] 0 hu13) dE0)))))) (dF 10 (.v (.bool false)) [(1,.var (eA 3 1 k64 ((a3.gh.setIfInBounds ((af 0)) r5.1).setIfInBounds ((af 1)) r12.1)))] [] (bP (bM hT k64 0 (a3.gh.setIfInBounds ((af 0)) r5.1) he14 r12.1 (by kernel_rfl) (by kernel_rfl) (H':=[.var (aN.enc a3),.var (eA 3 1 k64 ((a3.gh.setIfInBounds ((af 0)) r5.1).setIfInBounds ((af 1)) r12.1))]))) dF0) ?_;refine At.b 0 (λ_ e=>aJ hT (k:=1) 1 [] 0 e) λu15=>?_;refine At.b 0 (λ_ e=>bH hT k64 0 e) λe16=>?_;refine At.b 0 (λ_ e=>bW hT (N:=17) (k:=1) k8 a0 e) λe17=>?_;refine lx ?_;intro x18;refine At.b 5 (λ_ e=>aJ hT (k:=1) 1 [] 0 e) λu19=>?_;refine At.b 0 (λ_ e=>bM hT k64 0 ((a3.gh.setIfInBounds ((af 0)) r5.1).setIfInBounds ((af 1)) r12.1) e (U64 (e16+x18)) (by kernel_rfl) (by kernel_rfl) (H':=[.var (aN.enc a3),.var (eA 3 1 k64 (((a3.gh.setIfInBounds ((af 0)) r5.1).setIfInBounds ((af 1)) r12.1).setIfInBounds ((af 2)) (U64 (e16+x18))))])) λe20=>?_;refine At.b 0 (λ_ e=>aJ hT (k:=1) 1 [] 0 e) λu21=>?_;refine At.b 0 (λ_ e=>bH hT k64 0 e) λe22=>?_;refine At.b 1 (λ_ e=>aM [] (jA e)) λr23=>?_;refine At.b 5 (λ_ e=>aJ hT (k:=1) 1 [] 0 e) λu24=>?_;refine At.b 0 (λ_ e=>bH hT k64 0 e) λe25=>?_;refine At.b 1 (λ_ e=>aM [] (jA e)) λr26=>?_;refine At.b 5 (λ_ e=>aJ hT (k:=1) 1 [] 0 e) λu27=>?_;refine At.b 0 (λ_ e=>bH hT k64 0 e) λe28=>?_;refine At.b 1 (λ_ e=>aM [] (jA e)) λr29=>?_;refine At.b 5 (λ_ e=>aJ hT (k:=1) 1 [] 0 e) λu30=>?_;refine At.b 0 (λ_ e=>bH hT k64 0 e) λe31=>?_;refine At.b 1 (λ_ e=>aM [] (jA e)) λr32=>?_;refine bi λu33 hu33=>?_;refine bi λe34 he34=>?_;refine bi λu35 hu35=>?_;refine bi λe36 he36=>?_;refine At.d 5 (dE1 0 (λ_=>aJ hT (k:=1) 1 [] 0 hu33) (dEL hT 1 (k64 e34) k64 0 he34 (dE1 4 (λ_=>aJ hT (k:=1) 1 [] 0 hu35) (dEL hT 5 (k64 e36) k64 0 he36 dE0)))) dF0 ?_;refine At.b 2 (λ_ e=>fE (fD e) (λ_=>fF)) λr37=>?_;refine At.b 8 (λ_ e=>fE (fD e) (λ_=>fF)) λr38=>?_;refine At.b 6 (λ_ e=>fE (fD e) (λ_=>fF)) λr39=>?_;refine At.b 7 (λ_ e=>fE (fD e) (λ_=>fF)) λr40=>?_;refine At.b 8 (λ_ e=>fE (fD e) (λ_=>fF)) λr41=>?_;refine At.b 6 (λ_ e=>fE (fD e) (λ_=>fF)) λr42=>?_;refine At.b 8 (λ_ e=>fE (fD e) (λ_=>fF)) λr43=>?_;refine At.b 8 (λ_ e=>fE (fD e) (λ_=>fF)) λr44=>?_;refine At.b 7 (λ_ e=>fE (fD e) (λ_=>fF)) λr45=>?_;refine At.b 7 (λ_ e=>fE (fD e) (λ_=>fF)) λr46=>?_;refine At.b 18 (λ_ e=>aM [0] (uN e)) λr47=>?_;refine lx ?_;intro x48;refine At.b 8 (λ_ e=>aM [0] (uN e)) λr49=>?_;apply rt;exact At.z 0
def aFf : Nat->Bool:=imL [3]
def eH(N:Nat)  : Nat->(Vector Int 3)->Int->Option ((Vector Int 3))
 | 0,_,_=>none
 | k+1,s2,s3=>
  cond (decide (s3 < 2)) (
   ae (ae (aW 0 3) λ_=>
   ae (s2.toList[(af 0)]?) λe6=>
   ae (dG e6 5 0) λr7=>
   ae (aW 1 3) λ_=>
   ae (s2.toList[(af 1)]?) λe9=>
   ae (dG e9 0 r7.2) λr10=>
   ae (aW 2 3) λ_=>
   ae (s2.toList[(af 2)]?) λe12=>
   aT (decide ((U64 (e12+r10.2))>=4)) λx13=>
   cond x13 (
    aT (U64 ((U64 (e12+r10.2)) - 4)) λx14=>
    some (#v[r7.1,r10.1,(U64 ((U64 (e12+r10.2)) - 4))])) (
    some s2)) λp4=>
   eH N k p4 (I64 (s3+1))) (
   some s2)
def fC(N:Nat)(r17 r20:Int×Int):Nat->(Vector Int 16)->Int->Option ((Vector Int 16))
 | 0,_,_=>none
 | k+1,s22,s23=>
  cond (decide (s23 < 8)) (
   ae (zX .u64 r17.1 (I64 (8*s23))) λx24=>
   ae (zX .u64 r20.1 (I64 (8*s23))) λx25=>
   ae (aW s23 16) λ_=>
   ae (s22.toList[s23.toNat]?) λe27=>
   ae (aW (I64 (8+s23)) 16) λ_=>
   ae ((s22.setIfInBounds s23.toNat (U8 x24)).toList[(I64 (8+s23)).toNat]?) λe29=>
   fC N r17 r20 k ((s22.setIfInBounds s23.toNat (U8 x24)).setIfInBounds ((I64 (8+s23)).toNat) (U8 x25)) (I64 (s23+1))) (
   some s22)
def pR(N:Nat)(a0:aN)(a1 a2:Int):Option ((Vector Int 16)):=
 ae (eH N N a0.gh 0) λp1=>
 ae (aW 0 3) λ_=>
 ae (p1.toList[(af 0)]?) λe16=>
 ae (dG e16 a1 0) λr17=>
 ae (aW 1 3) λ_=>
 ae (p1.toList[(af 1)]?) λe19=>
 ae (dG e19 a2 r17.2) λr20=>
 ae (fC N r17 r20 N (ah 16 0) 0) λp21=>
 some p21
theorem aEz{N a0 a1 a2 r}(h:pR N a0 a1 a2=some r):FnM Tryz.prog 144 [] [(aN.enc a0),(k64 a1),(k64 a2)] (eA 16 1 k8 r) []:=by
 unfold pR at h;refine At.f aFf hT hmo Tryz.func144 rfl h ?_;refine At.L 7 [1,2,6,7] 2 (λp1=>([],[(1,.var (eA 3 1 k64 p1))],[])) (λp1 J k=>∃s2 s3,eH N k s2 s3=some p1/\J [1,2,6,7] 2 [(20,(j64 s3))] [(1,.var (eA 3 1 k64 s2))] []) N (λ_ h=>⟨_,_,h,jr⟩) (λp1 k s hI=>?_) λp1=>?_
 ·obtain⟨s2,s3,h,hj⟩:=hI;cases k with
  | zero=>cases h
  | succ k=>
   refine At.jr hj ?_ h;refine At.c 1 ?_ ?_
   ·refine At.J 0 2 [1,2,6,7,20] 2 (λp4=>([],[(1,.var (eA 3 1 k64 p4))],[])) (λp4=>?_) λp4=>?_
    ·refine At.b 0 (λ_ e=>aJ hT (k:=1) 1 [] 0 e) λu5=>?_;refine At.b 0 (λ_ e=>bH hT k64 0 e) λe6=>?_;refine At.b 0 (λ_ e=>fE (fD e) (λ_=>fF)) λr7=>?_;refine At.b 5 (λ_ e=>aJ hT (k:=1) 1 [] 0 e) λu8=>?_;refine At.b 0 (λ_ e=>bH hT k64 0 e) λe9=>?_;refine At.b 1 (λ_ e=>fE (fD e) (λ_=>fF)) λr10=>?_;refine At.b 5 (λ_ e=>aJ hT (k:=1) 1 [] 0 e) λu11=>?_;refine At.b 0 (λ_ e=>bH hT k64 0 e) λe12=>?_;refine lx ?_;intro x13;refine At.c 5 ?_ ?_
     ·refine lx ?_;intro x14;apply rt;exact At.jn 6
     ·apply rt;exact At.jn 0
    ·exact λh=>At.k 2 ⟨_,_,h,jr⟩
   ·apply rt;exact At.x 0
 ·refine At.b 0 (λ_ e=>aJ hT (k:=1) 1 [] 0 e) λu15=>?_;refine At.b 0 (λ_ e=>bH hT k64 0 e) λe16=>?_;refine At.b 1 (λ_ e=>fE (fD e) (λ_=>fF)) λr17=>?_;refine At.b 5 (λ_ e=>aJ hT (k:=1) 1 [] 0 e) λu18=>?_;refine At.b 0 (λ_ e=>bH hT k64 0 e) λe19=>?_;refine At.b 2 (λ_ e=>fE (fD e) (λ_=>fF)) λr20=>?_;refine At.L 7 [6,16] 3 (λp21=>([],[(2,.var (eA 16 1 k8 p21))],[])) (λp21 J k=>∃s22 s23,fC N r17 r20 k s22 s23=some p21/\J [6,12,14,16] 3 [(62,(j64 s23))] [(2,.var (eA 16 1 k8 s22))] []) N (λ_ h=>⟨_,_,h,jr⟩) (λp21 k s hI=>?_) λp21=>?_
  ·obtain⟨s22,s23,h,hj⟩:=hI;cases k with
   | zero=>cases h
   | succ k=>
    refine At.jr hj ?_ h;refine At.c 1 ?_ ?_
    ·refine bi λx24 hx24=>?_;refine bi λx25 hx25=>?_;refine bi λu26 hu26=>?_;refine bi λe27 he27=>?_;refine bi λu28 hu28=>?_;refine bi λe29 he29=>?_;refine At.d 2 (dE1 6 (λ_=>rE hT (k' := .i64) hx24 (by kernel_rfl) (by kernel_rfl)) (dE1 11 (λ_=>rE hT (k' := .i64) hx25 (by kernel_rfl) (by kernel_rfl)) (dE1 13 (λ_=>aJ hT (k:=1) 2 [] 0 hu26) (dE1 15 (λ_=>aJ hT (k:=1) 2 [] 0 hu28) dE0)))) (dF 14 (.v (.bool false)) [(2,.var (eA 16 1 k8 (s22.setIfInBounds s23.toNat (U8 x24))))] [] (bP (bM hT k8 0 s22 he27 (U8 x24) (by kernel_rfl) (by kernel_rfl) (H':=[.var (eA 16 1 k8 (ah 16 0)),.var (eA 3 1 k64 p1),.var (eA 16 1 k8 (s22.setIfInBounds s23.toNat (U8 x24)))]))) (dF 16 (.v (.bool false)) [(2,.var (eA 16 1 k8 ((s22.setIfInBounds s23.toNat (U8 x24)).setIfInBounds ((I64 (8+s23)).toNat) (U8 x25))))] [] (bP (bM hT k8 0 (s22.setIfInBounds s23.toNat (U8 x24)) he29 (U8 x25) (by kernel_rfl) (by kernel_rfl) (H':=[.var (eA 16 1 k8 (ah 16 0)),.var (eA 3 1 k64 p1),.var (eA 16 1 k8 ((s22.setIfInBounds s23.toNat (U8 x24)).setIfInBounds ((I64 (8+s23)).toNat) (U8 x25)))]))) dF0)) ?_;exact λh=>At.k 2 ⟨_,_,h,jr⟩
    ·apply rt;exact At.x 0
  ·apply rt;exact At.r 2
def kB(N:Nat)(r1:(List (Vector Int 17)))(a0:aP):Nat->(Vector Int 3)->Int->Option ((Vector Int 3))
 | 0,_,_=>none
 | k+1,s3,s4=>
  aT (decide (s4 < ((r1.length:Int)))) λx5=>
  cond x5 (
   ae (idx r1 s4) λe6=>
   ae (cQ N e6 a0.gr0 a0.gr1 (aN.mk s3)) λr7=>
   kB N r1 a0 k r7 (I64 (s4+1))) (
   some s3)
def pD(N:Nat)(a0:aP):Option ((Vector Int 16)):=
 cond (!a0.gA) (
  some (ah 16 0)) (
  ae (kU N a0.gN) λr1=>
  ae (kB N r1 a0 N a0.gT.gh 0) λp2=>
  ae (pR N (aN.mk p2) a0.gs0 a0.gs1) λr8=>
  some r8)
theorem aDR{N a0 r}(h:pD N a0=some r):FnM Tryz.prog 119 [.var (aP.enc a0)] [(.ref 0 [] 0)] (eA 16 1 k8 r) [.var (aP.enc a0)]:=by
 unfold pD at h;refine At.f eX hT hmo Tryz.func119 rfl h ?_;refine At.o 2 (aIT hT (t:=165) (x:=(.ref 0 [] 0)) (b:=true) (by kernel_rfl) rfl rfl (by kernel_rfl)) ?_;refine At.g [8] 7 ?_;refine At.c 0 ?_ ?_
 ·apply rt;exact At.r 2
 ·refine At.b 10 (λ_ e=>aM [] (aA5 e)) λr1=>?_;refine At.L 2 [0,2,3] 3 (λp2=>([],[(2,.var (.st 3 [(eA 3 1 k64 p2)]))],[])) (λp2 J k=>∃s3 s4,kB N r1 a0 k s3 s4=some p2/\J [0,2,3,24,25] 3 [(26,(j64 s4))] [(2,.var (.st 3 [(eA 3 1 k64 s3)]))] []) N (λ_ h=>⟨_,_,h,jr⟩) (λp2 k s hI=>?_) λp2=>?_
  ·obtain⟨s3,s4,h,hj⟩:=hI;cases k with
   | zero=>cases h
   | succ k=>
    refine At.jr hj ?_ h;refine lx ?_;intro x5;refine At.c 1 ?_ ?_
    ·refine At.b 0 (λ_ e=>bB hT (eA 17 1 k8) e) λe6=>?_;refine bi λr7 hr7=>?_;refine At.d 3 dE0 (dF 9 (.tup []) [(2,.var (.st 3 [(eA 3 1 k64 r7)]))] [] (bP (aM [2] (yD hr7))) dF0) ?_;exact λh=>At.k 2 ⟨_,_,h,jr⟩
    ·apply rt;exact At.x 0
  ·refine bi λr8 hr8=>?_;refine At.d 0 (dE2 9 (eA 16 1 k8 r8) (λ_=>dM (aEz hr8)) dE0) dF0 ?_;apply rt;exact At.r 0
def aKO : Nat->Bool:=imL [2]
def sX(N:Nat)(a0:(Vector Int 32))(a1:(List (List Int))):Option ((Vector Int 16)):=
 ae (uG N a0) λr1=>
 ae (qN N [] a1 (aN.mk (#v[0,0,0])) true r1.1 r1.2.1 r1.2.2.1 r1.2.2.2 0) λr2=>
 ae (pD N (aP.mk (aN.mk r2.2.1) r2.2.2.1 r2.2.2.2.1 r2.2.2.2.2.1 r2.2.2.2.2.2.1 r2.2.2.2.2.2.2.1 r2.2.2.2.2.2.2.2.1 r2.2.2.2.2.2.2.2.2)) λr3=>
 some r3
theorem aJj{N a0 a1 r}(h:sX N a0 a1=some r):FnM Tryz.prog 86 [] [(eA 32 1 k8 a0),(eL 1 (eL 1 k8) a1)] (eA 16 1 k8 r) []:=by
 unfold sX at h;refine At.f aKO hT hmo Tryz.func86 rfl h ?_;refine At.b 3 (λ_ e=>aM [] (aI9 e)) λr1=>?_;refine At.ownb 3 2 1 [6] ?_;refine At.b 0 (λ_ e=>aM [2,3] (aCJ e)) λr2=>?_;refine At.b 1 (λ_ e=>aM [2] (aDR e)) λr3=>?_;apply rt;exact At.r 1
def aKY : Nat->Bool:=imL [4,5]
def lW(N:Nat)(a2 a3:(List Int)):Nat->(Vector Int 16)->Int->Option ((Vector Int 16))
 | 0,_,_=>none
 | k+1,s2,s3=>
  cond (decide (s3 < 8)) (
   ae (zX .i64 ((a2.length:Int)) (I64 (8*s3))) λx4=>
   ae (zX .i64 ((a3.length:Int)) (I64 (8*s3))) λx5=>
   ae (aW s3 16) λ_=>
   ae (s2.toList[s3.toNat]?) λe7=>
   ae (aW (I64 (8+s3)) 16) λ_=>
   ae ((s2.setIfInBounds s3.toNat (U8 x4)).toList[(I64 (8+s3)).toNat]?) λe9=>
   lW N a2 a3 k ((s2.setIfInBounds s3.toNat (U8 x4)).setIfInBounds ((I64 (8+s3)).toNat) (U8 x5)) (I64 (s3+1))) (
   some s2)
def rA(N:Nat)(a0:(Vector Int 32))(a1:(Vector Int 12))(a2 a3:(List Int)):Option ((Vector Int 16)):=
 ae (lW N a2 a3 N (ah 16 0) 0) λp1=>
 ae (uI N a0 a1) λr10=>
 ae (qX N a2) λr11=>
 ae (qX N a3) λr12=>
 ae (eD p1.toList 0 16) λs13=>
 ae (sX N r10 ([a2,r11,a3,r12,s13])) λr14=>
 some r14
theorem aEf{N a0 a1 a2 a3 r}(h:rA N a0 a1 a2 a3=some r):FnM Tryz.prog 49 [] [(eA 32 1 k8 a0),(eA 12 1 k8 a1),(eL 1 k8 a2),(eL 1 k8 a3)] (eA 16 1 k8 r) []:=by
 unfold rA at h;refine At.f aKY hT hmo Tryz.func49 rfl h ?_;refine At.L 6 [2,3,4,5,8,9,10] 2 (λp1=>([],[(1,.var (eA 16 1 k8 p1))],[])) (λp1 J k=>∃s2 s3,lW N a2 a3 k s2 s3=some p1/\J [2,3,4,5,8,9,10] 2 [(12,(j64 s3))] [(1,.var (eA 16 1 k8 s2))] []) N (λ_ h=>⟨_,_,h,jr⟩) (λp1 k s hI=>?_) λp1=>?_
 ·obtain⟨s2,s3,h,hj⟩:=hI;cases k with
  | zero=>cases h
  | succ k=>
   refine At.jr hj ?_ h;refine At.c 1 ?_ ?_
   ·refine bi λx4 hx4=>?_;refine bi λx5 hx5=>?_;refine bi λu6 hu6=>?_;refine bi λe7 he7=>?_;refine bi λu8 hu8=>?_;refine bi λe9 he9=>?_;refine At.d 2 (dE1 7 (λ_=>rE hT (k' := .i64) hx4 (by kernel_rfl) (by kernel_rfl)) (dE1 13 (λ_=>rE hT (k' := .i64) hx5 (by kernel_rfl) (by kernel_rfl)) (dE1 15 (λ_=>aJ hT (k:=1) 1 [] 0 hu6) (dE1 17 (λ_=>aJ hT (k:=1) 1 [] 0 hu8) dE0)))) (dF 16 (.v (.bool false)) [(1,.var (eA 16 1 k8 (s2.setIfInBounds s3.toNat (U8 x4))))] [] (bP (bM hT k8 0 s2 he7 (U8 x4) (by kernel_rfl) (by kernel_rfl) (H':=[.var (eA 16 1 k8 (ah 16 0)),.var (eA 16 1 k8 (s2.setIfInBounds s3.toNat (U8 x4)))]))) (dF 18 (.v (.bool false)) [(1,.var (eA 16 1 k8 ((s2.setIfInBounds s3.toNat (U8 x4)).setIfInBounds ((I64 (8+s3)).toNat) (U8 x5))))] [] (bP (bM hT k8 0 (s2.setIfInBounds s3.toNat (U8 x4)) he9 (U8 x5) (by kernel_rfl) (by kernel_rfl) (H':=[.var (eA 16 1 k8 (ah 16 0)),.var (eA 16 1 k8 ((s2.setIfInBounds s3.toNat (U8 x4)).setIfInBounds ((I64 (8+s3)).toNat) (U8 x5)))]))) dF0)) ?_;exact λh=>At.k 2 ⟨_,_,h,jr⟩
   ·apply rt;exact At.x 0
 ·refine At.gz 0 1 ((eA 16 1 k8 p1)) ?_;refine bi λr10 hr10=>?_;refine bi λr11 hr11=>?_;refine bi λr12 hr12=>?_;refine bi λs13 hs13=>?_;refine bi λr14 hr14=>?_;refine At.d 0 (dE2 2 (eA 32 1 k8 r10) (λ_=>dM (aIo hr10)) (dE2 6 (eL 1 k8 r11) (λ_=>dM (aBm hr11)) (dE2 10 (eL 1 k8 r12) (λ_=>dM (aBm hr12)) (dE1 11 (λ_=>nJ hT (N:=16) (k:=1) k8 p1 hs13) (dE1 12 (λ_=>bU hT (x:=(.sl 1 5 [(eL 1 k8 a2),(eL 1 k8 r11),(eL 1 k8 a3),(eL 1 k8 r12),(eL 1 k8 s13)]))) (dE2 13 (eA 16 1 k8 r14) (λ_=>dM (aJj hr14)) dE0)))))) dF0 ?_;apply rt;exact At.r 0
def aIh : Nat->Bool:=imL [2,3]
def sS(N:Nat)(a0 a1:(Vector Int 16)):Nat->Int->Int->Option (Int)
 | 0,_,_=>none
 | k+1,s2,s3=>
  cond (decide (s3 < 16)) (
   ae (idx a0.toList s3) λe4=>
   ae (idx a1.toList s3) λe5=>
   aT (bor .u8 s2 (uR .u8 e4 e5)) λx6=>
   sS N a0 a1 k x6 (I64 (s3+1))) (
   some s2)
def wH(N:Nat)(a0 a1:(Vector Int 16)):Option (Bool):=
 ae (sS N a0 a1 N 0 0) λp1=>
 some (p1==0)
theorem aIO{N a0 a1 r}(h:wH N a0 a1=some r):FnM Tryz.prog 57 [] [(eA 16 1 k8 a0),(eA 16 1 k8 a1)] (eB r) []:=by
 unfold wH at h;refine At.f aIh hT hmo Tryz.func57 rfl h ?_;refine At.L 5 [] 0 (λp1=>([(5,(k8 p1))],[],[])) (λp1 J k=>∃s2 s3,sS N a0 a1 k s2 s3=some p1/\J [2,3] 0 [(5,(k8 s2)),(7,(j64 s3))] [] []) N (λ_ h=>⟨_,_,h,jr⟩) (λp1 k s hI=>?_) λp1=>?_
 ·obtain⟨s2,s3,h,hj⟩:=hI;cases k with
  | zero=>cases h
  | succ k=>
   refine At.jr hj ?_ h;refine At.c 1 ?_ ?_
   ·refine bi λe4 he4=>?_;refine bi λe5 he5=>?_;refine lx ?_;intro x6;refine At.d 2 (dE1 2 (λ_=>bW hT (N:=16) (k:=1) k8 a0 he4) (dE1 5 (λ_=>bW hT (N:=16) (k:=1) k8 a1 he5) dE0)) dF0 ?_;exact λh=>At.k 2 ⟨_,_,h,jr⟩
   ·apply rt;exact At.x 0
 ·apply rt;exact At.r 3
def aEk : Nat->Bool:=imL [4,6]
def lF(N:Nat)(a3:Int)(a0:(Vector Int 32))(a2:(Vector Int 12)):Nat->(List Int)->Int->Option ((List Int))
 | 0,_,_=>none
 | k+1,s2,s3=>
  aT (decide (((s2.length:Int)) < (mU a3 65536))) λx4=>
  cond x4 (
   ae (kV N a0 s3 a2) λr5=>
   aT (I64 ((mU a3 65536) - ((s2.length:Int)))) λx6=>
   ae (eD r5.toList 0 (mU 64 x6)) λs8=>
   ae (nR 1 s2 s8) λz9=>
   lF N a3 a0 a2 k z9 (U32 (s3+1))) (
   some s2)
def kY(N:Nat)(a0:(Vector Int 32))(a1:Int)(a2:(Vector Int 12))(a3:Int):Option ((List Int)):=
 ae (lF N a3 a0 a2 N [] a1) λp1=>
 some p1
theorem aD7{N a0 a1 a2 a3 r}(h:kY N a0 a1 a2 a3=some r):FnM Tryz.prog 84 [] [(eA 32 1 k8 a0),(k32 a1),(eA 12 1 k8 a2),(j64 a3)] (eL 1 k8 r) []:=by
 unfold kY at h;refine At.f aEk hT hmo Tryz.func84 rfl h ?_;refine At.ownn 7 9 1 ?_;refine At.L 0 [] 1 (λp1=>([(9,(eO 0 1 k8 p1))],[(0,.tail (p1.length*1))],[])) (λp1 J k=>∃s2 s3,lF N a3 a0 a2 k s2 s3=some p1/\J [3,4,6] 1 [(1,(k32 s3)),(9,(eO 0 1 k8 s2))] [(0,.tail (s2.length*1))] []) N (λ_ h=>⟨_,_,h,jr⟩) (λp1 k s hI=>?_) λp1=>?_
 ·obtain⟨s2,s3,h,hj⟩:=hI;cases k with
  | zero=>cases h
  | succ k=>
   refine At.jr hj ?_ h;refine lx ?_;intro x4;refine At.c 4 ?_ ?_
   ·refine At.b 3 (λ_ e=>aM [] (aAc e)) λr5=>?_;refine lx ?_;intro x6;refine At.gz 8 1 ((eA 64 1 k8 r5)) ?_;refine At.b 0 (λ_ e=>nJ hT (N:=64) (k:=1) k8 r5 e) λs8=>?_;refine At.b 0 (λ_ e=>dE hT k8 (id:=0) (k:=1) e) λz9=>?_;exact λh=>At.k 4 ⟨_,_,h,jr⟩
   ·apply rt;exact At.x 0
 ·apply rt;exact At.r 2
def aIY : Nat->Bool:=imL [4,6]
def mT(N:Nat)(a3:(List (List Int))):Nat->(List Int)->Int->Option ((List Int))
 | 0,_,_=>none
 | k+1,s2,s3=>
  aT (decide (s3 < ((a3.length:Int)))) λx4=>
  cond x4 (
   ae (idx a3 s3) λe5=>
   aT (I64 (65536 - ((s2.length:Int)))) λx6=>
   aT (mU ((e5.length:Int)) x6) λx7=>
   ae (eD e5 0 x7) λs8=>
   ae (nR 1 s2 s8) λz9=>
   mT N a3 k z9 (I64 (s3+1))) (
   some s2)
def qE(N:Nat)(r10:(List Int)):Nat->(List Int)->Int->Option ((List Int))
 | 0,_,_=>none
 | k+1,s12,s13=>
  aT (decide (s13 < ((r10.length:Int)))) λx14=>
  cond x14 (
   ae (idx r10 s13) λe15=>
   ae (aW s13 s12.length) λ_=>
   ae (s12[s13.toNat]?) λe17=>
   ae (aW s13 s12.length) λ_=>
   ae (aMd s12 s13.toNat (uR .u8 e17 e15)) λz19=>
   qE N r10 k z19 (I64 (s13+1))) (
   some s12)
def tF(N:Nat)(a0:(Vector Int 32))(a1:Int)(a2:(Vector Int 12))(a3:(List (List Int))):Option ((List Int)):=
 ae (mT N a3 N [] 0) λp1=>
 ae (kY N a0 a1 a2 ((p1.length:Int))) λr10=>
 ae (qE N r10 N p1 0) λp11=>
 some p11
theorem aBp{N a0 a1 a2 a3 r}(h:tF N a0 a1 a2 a3=some r):FnM Tryz.prog 48 [] [(eA 32 1 k8 a0),(k32 a1),(eA 12 1 k8 a2),(eL 1 (eL 1 k8) a3)] (eL 1 k8 r) []:=by
 unfold tF at h;refine At.f aIY hT hmo Tryz.func48 rfl h ?_;refine At.gron 7 9 1 ?_;refine At.L 0 [1,4,6] 1 (λp1=>([(9,(.gro 0 1 p1.length .all))],[(0,.gro 1 (ij k8 p1))],[])) (λp1 J k=>∃s2 s3,mT N a3 k s2 s3=some p1/\J [1,4,6,14,15] 1 [(9,(.gro 0 1 s2.length .all)),(16,(j64 s3))] [(0,.gro 1 (ij k8 s2))] []) N (λ_ h=>⟨_,_,h,jr⟩) (λp1 k s hI=>?_) λp1=>?_
 ·obtain⟨s2,s3,h,hj⟩:=hI;cases k with
  | zero=>cases h
  | succ k=>
   refine At.jr hj ?_ h;refine lx ?_;intro x4;refine At.c 1 ?_ ?_
   ·refine At.b 0 (λ_ e=>bB hT (eL 1 k8) e) λe5=>?_;refine lx ?_;intro x6;refine lx ?_;intro x7;refine At.b 10 (λ_ e=>iQ hT (k:=1) k8 e) λs8=>?_;refine At.b 0 (λz9 e=>aMk hT k8 (id:=0) (k:=1) e (by kernel_rfl) (by kernel_rfl) (H':=[.gro 1 (ij k8 z9)]) (by kernel_rfl)) λz9=>?_;exact λh=>At.k 3 ⟨_,_,h,jr⟩
   ·apply rt;exact At.x 0
 ·refine At.b 5 (λ_ e=>aM [] (aD7 e)) λr10=>?_;refine At.L 2 [] 1 (λp11=>([(9,(.gro 0 1 p11.length .all))],[(0,.gro 1 (ij k8 p11))],[])) (λp11 J k=>∃s12 s13,qE N r10 k s12 s13=some p11/\J [36,37] 1 [(9,(.gro 0 1 s12.length .all)),(38,(j64 s13))] [(0,.gro 1 (ij k8 s12))] []) N (λ_ h=>⟨_,_,h,jr⟩) (λp11 k s hI=>?_) λp11=>?_
  ·obtain⟨s12,s13,h,hj⟩:=hI;cases k with
   | zero=>cases h
   | succ k=>
    refine At.jr hj ?_ h;refine lx ?_;intro x14;refine At.c 1 ?_ ?_
    ·refine At.b 1 (λ_ e=>bB hT k8 e) λe15=>?_;refine At.b 5 (λ_ e=>aK3 hT (id:=0) (k:=1) e (by kernel_rfl) (by kernel_rfl)) λu16=>?_;refine At.b 0 (λ_ e=>aP2 hT k8 [] e rfl (by kernel_rfl) (by kernel_rfl)) λe17=>?_;refine At.b 2 (λ_ e=>aK3 hT (id:=0) (k:=1) e (by kernel_rfl) (by kernel_rfl)) λu18=>?_;refine bi λz19 hz19=>?_;refine At.o 0 (aOR hT k8 (k:=1) (uR .u8 e17 e15) hz19 rfl (by kernel_rfl) (λ_=>by kernel_rfl) (by kernel_rfl) (H':=[.gro 1 (ij k8 z19)]) (by kernel_rfl)) ?_;refine At.gl 0 [9,49] [] 0 s12.length z19.length ((aOp hz19).2.2) ?_;exact λh=>At.k 2 ⟨_,_,h,jr⟩
    ·apply rt;exact At.x 0
  ·refine At.fz 2 0 1 p11.length _ (ij k8 p11) (ct _) (ct _) ?_;apply rt;exact At.r 0
def aIs : Nat->Bool:=imL [4,5]
def iZ(N:Nat)(a0:(Vector Int 32))(a1:(Vector Int 12))(a2 a3:(List Int)):Option ((List Int)×Int):=
 aT (I64 (((a3.length:Int)) - 16)) λx1=>
 cond (decide (x1 < 0)) (
  some (([],4))) (
  aT (decide (((a2.length:Int)) > 16384)) λx2=>
  aT (cond x2 true (decide (x1 > 16384))) λx3=>
  cond x3 (
   some (([],3))) (
   ae (eD a3 0 x1) λs4=>
   ae (rA N a0 a1 a2 s4) λr5=>
   ae (eD a3 x1 ((a3.length:Int))) λs6=>
   ae (aEn 16 s6) λv7=>
   ae (wH N r5 v7) λr8=>
   cond (!r8) (
    some (([],6))) (
    ae (tF N a0 1 a1 ([s4])) λr9=>
    some ((r9,0)))))
theorem aCo{N a0 a1 a2 a3 r}(h:iZ N a0 a1 a2 a3=some r):FnM Tryz.prog 30 [] [(eA 32 1 k8 a0),(eA 12 1 k8 a1),(eL 1 k8 a2),(eL 1 k8 a3)] (.tup [(eL 1 k8 r.1),(j64 r.2)]) []:=by
 unfold iZ at h;refine At.f aIs hT hmo Tryz.func30 rfl h ?_;refine lx ?_;intro x1;refine At.c 11 ?_ ?_
 ·apply rt;exact At.r 2
 ·refine lx ?_;intro x2;refine lx ?_;intro x3;refine At.c 8 ?_ ?_
  ·apply rt;exact At.r 2
  ·refine At.b 2 (λ_ e=>iQ hT (k:=1) k8 e) λs4=>?_;refine bi λr5 hr5=>?_;refine bi λs6 hs6=>?_;refine bi λv7 hv7=>?_;refine bi λr8 hr8=>?_;refine At.d 1 (dE2 4 (eA 16 1 k8 r5) (λ_=>dM (aEf hr5)) (dE1 7 (λ_=>iQ hT (k:=1) k8 hs6) (dE1 8 (λ_=>aDS hT k8 s6 v7 hv7 rfl (by kernel_rfl) (by kernel_rfl)) (dE2 10 (eB r8) (λ_=>dM (aIO hr8)) dE0)))) dF0 ?_;refine At.c 0 ?_ ?_
   ·apply rt;exact At.r 2
   ·refine At.o 3 (bU hT (x:=(.sl 1 1 [(eL 1 k8 s4)]))) ?_;refine At.b 0 (λ_ e=>aM [] (aBp e)) λr9=>?_;apply rt;exact At.r 2
def hZ(N:Nat)(a0:(List Int)):Option ((List Int)):=
 ae (nR 1 (([]:List Int)) a0) λz1=>
 some z1
theorem tK{N a0 r}(h:hZ N a0=some r):FnM Tryz.prog 51 [] [(eL 1 k8 a0)] (eO 0 1 k8 r) [.tail (r.length*1)]:=by
 unfold hZ at h;refine At.f eX hT hmo Tryz.func51 rfl h ?_;refine At.q hT 2 (d:=4) (t:=47) (e:=5) (z:=1) (x:=(eL 1 k8 a0)) (es:=ij k8 a0) rfl ?_ (λhe=>?_)
 ·refine At.o 1 (uX hT k8 (k:=1) ([]:List Int) (by kernel_rfl) (by kernel_rfl)) ?_;refine At.b 1 (λ_ e=>dE hT k8 (id:=0) (k:=1) e) λz1=>?_;apply rt;exact At.r 1
 ·have h0:a0=[]:=List.map_eq_nil_iff.1 he;subst h0;change some []=_->_;refine At.ownn 2 2 1 ?_;apply rt;exact At.r 0
def qV(N:Nat)(a0:(List Int)):Option ((List Int)):=
 ae (hZ N a0) λr1=>
 some r1
theorem vC{N a0 r}(h:qV N a0=some r):FnM Tryz.prog 36 [] [(eL 1 k8 a0)] (.ref 1 [] 0) [.tail (r.length*1),.var (.st 3 [(eO 0 1 k8 r),(j64 0),(eB true)])]:=by
 unfold qV at h;refine At.f eX hT hmo Tryz.func36 rfl h ?_;refine At.b 2 (λ_ e=>aM [] (tK e)) λr1=>?_;apply rt;exact At.r 3
def kK(N:Nat)(a0:aA):Option (Bool):=
 some (!a0.gA)
theorem rS{N a0 r}(h:kK N a0=some r):FnM Tryz.prog 66 [.var (aA.enc a0)] [(.ref 0 [] 0)] (eB r) [.var (aA.enc a0)]:=by
 unfold kK at h;refine At.f eX hT hmo Tryz.func66 rfl h ?_;refine At.o 2 (aIT hT (t:=86) (x:=(.ref 0 [] 0)) (b:=true) (by kernel_rfl) rfl rfl (by kernel_rfl)) ?_;refine At.g [5] 8 ?_;apply rt;exact At.r 0
def bD(N:Nat)(a0:Int)(a1:aA):Option ((List Int)×Int×(List Int)):=
 ae (kK N a1) λr1=>
 aT (cond r1 true (a1.ge != 0)) λx2=>
 cond x2 (
  some ((a1.gb,a1.ge,[]))) (
  cond (decide (a0 < 0)) (
   some ((a1.gb,2,[]))) (
   aT (decide (a0 > ((a1.gb.length:Int)))) λx3=>
   cond x3 (
    some ((a1.gb,4,[]))) (
    ae (aGZ a1.gb 0 a0 a0) λs4=>
    ae (eD a1.gb a0 ((a1.gb.length:Int))) λs5=>
    some ((s5,a1.ge,s4)))))
theorem lG{N a0 a1 r}(h:bD N a0 a1=some r):FnM Tryz.prog 60 [.var (aA.enc a1)] [(.ref 0 [] 0),(j64 a0)] (eL 1 k8 r.2.2) [.var (.st 3 [(eL 1 k8 r.1),(j64 r.2.1),(eB a1.gA)])]:=by
 unfold bD at h;refine At.f eX hT hmo Tryz.func60 rfl h ?_;refine At.b 2 (λ_ e=>aM [0] (rS e)) λr1=>?_;refine lx ?_;intro x2;refine At.c 8 ?_ ?_
 ·apply rt;exact At.r 1
 ·refine At.c 3 ?_ ?_
  ·apply rt;exact At.r 5
  ·refine lx ?_;intro x3;refine At.c 8 ?_ ?_
   ·apply rt;exact At.r 5
   ·refine At.b 6 (λ_ e=>aJJ hT (k:=1) k8 e (by kernel_rfl) (by kernel_rfl)) λs4=>?_;refine At.b 7 (λ_ e=>iQ hT (k:=1) k8 e) λs5=>?_;apply rt;exact At.r 5
def dK(N:Nat)(r3:(List Int)×Int×(List Int)):Nat->Int->Int->Option (Int)
 | 0,_,_=>none
 | k+1,s5,s6=>
  aT (decide (s6 < ((r3.2.2.length:Int)))) λx7=>
  cond x7 (
   ae (idx r3.2.2 s6) λe8=>
   ae (aEx .u64 (U64 e8) (I64 (8*s6))) λx9=>
   dK N r3 k (bor .u64 s5 x9) (I64 (s6+1))) (
   some s5)
def bI(N:Nat)(a0:Int)(a1:aA):Option ((List Int)×Int×Int):=
 ae (aT (cond (decide (a0 < 1)) true (decide (a0 > 8))) λx2=>
 cond x2 (some (-1)) (some a0)) λp1=>
 ae (bD N p1 a1) λr3=>
 ae (dK N r3 N 0 0) λp4=>
 some ((r3.1,r3.2.1,p4))
theorem cF{N a0 a1 r}(h:bI N a0 a1=some r):FnM Tryz.prog 58 [.var (aA.enc a1)] [(.ref 0 [] 0),(j64 a0)] (k64 r.2.2) [.var (.st 3 [(eL 1 k8 r.1),(j64 r.2.1),(eB a1.gA)])]:=by
 unfold bI at h;refine At.f eX hT hmo Tryz.func58 rfl h ?_;refine At.J 1 1 [0] 1 (λp1=>([(1,(j64 p1))],[],[])) (λp1=>?_) λp1=>?_
 ·refine lx ?_;intro x2;refine At.c 6 ?_ ?_
  ·apply rt;exact At.jn 1
  ·apply rt;exact At.jn 0
 ·refine At.b 3 (λ_ e=>aM [0] (lG e)) λr3=>?_;refine At.L 2 [] 1 (λp4=>([(5,(k64 p4))],[],[])) (λp4 J k=>∃s5 s6,dK N r3 k s5 s6=some p4/\J [16,17] 1 [(5,(k64 s5)),(18,(j64 s6))] [] []) N (λ_ h=>⟨_,_,h,jr⟩) (λp4 k s hI=>?_) λp4=>?_
  ·obtain⟨s5,s6,h,hj⟩:=hI;cases k with
   | zero=>cases h
   | succ k=>
    refine At.jr hj ?_ h;refine lx ?_;intro x7;refine At.c 1 ?_ ?_
    ·refine At.b 1 (λ_ e=>bB hT k8 e) λe8=>?_;refine At.b 8 (λ_ e=>xC hT (k' := .i64) e (by kernel_rfl) (by kernel_rfl)) λx9=>?_;exact λh=>At.k 4 ⟨_,_,h,jr⟩
    ·apply rt;exact At.x 0
  ·apply rt;exact At.r 2
def eP(N:Nat)(a0:Int)(a1:aA):Option ((List Int)×Int×Int):=
 ae (bI N a0 a1) λr1=>
 some ((r1.1,r1.2.1,I64 r1.2.2))
theorem lA{N a0 a1 r}(h:eP N a0 a1=some r):FnM Tryz.prog 59 [.var (aA.enc a1)] [(.st 1 [(.ref 0 [] 0)]),(j64 a0)] (j64 r.2.2) [.var (.st 3 [(eL 1 k8 r.1),(j64 r.2.1),(eB a1.gA)])]:=by
 unfold eP at h;refine At.f eX hT hmo Tryz.func59 rfl h ?_;refine At.b 5 (λ_ e=>aM [0] (cF e)) λr1=>?_;apply rt;exact At.r 2
def lK(N:Nat)(a0:aA):Option (Int):=
 ae (kK N a0) λr1=>
 cond r1 (some 1) (some a0.ge)
theorem sE{N a0 r}(h:lK N a0=some r):FnM Tryz.prog 65 [.var (aA.enc a0)] [(.ref 0 [] 0)] (j64 r) [.var (aA.enc a0)]:=by
 unfold lK at h;refine At.f eX hT hmo Tryz.func65 rfl h ?_;refine At.b 2 (λ_ e=>aM [0] (rS e)) λr1=>?_;refine At.c 0 ?_ ?_
 ·apply rt;exact At.r 1
 ·apply rt;exact At.r 5
def cT(N:Nat)(a0:aA):Option (Int):=
 ae (lK N a0) λr1=>
 cond (r1 != 0) (
  some r1) (
  aT (decide (((a0.gb.length:Int)) > 0)) λx2=>
  cond x2 (some 5) (some 0))
theorem mY{N a0 r}(h:cT N a0=some r):FnM Tryz.prog 61 [.var (aA.enc a0)] [(.ref 0 [] 0)] (j64 r) [.var (aA.enc a0)]:=by
 unfold cT at h;refine At.f eX hT hmo Tryz.func61 rfl h ?_;refine At.b 2 (λ_ e=>aM [0] (sE e)) λr1=>?_;refine At.c 3 ?_ ?_
 ·apply rt;exact At.r 2
 ·refine lx ?_;intro x2;refine At.c 6 ?_ ?_
  ·apply rt;exact At.r 1
  ·apply rt;exact At.r 1
def rO(N:Nat)(a0:Int):Option (Int):=
 aT (cond (decide (a0 < 0)) true (decide (a0>=5))) λx1=>
 cond x1 (
  some 0) (
  ae (aW a0 5) λ_=>
  ae ((#v[0,2048,1024,64,64]).toList[a0.toNat]?) λe3=>
  some e3)
theorem aAW{N a0 r}(h:rO N a0=some r):FnM Tryz.prog 80 [] [(j64 a0)] (j64 r) []:=by
 unfold rO at h;refine At.f eX hT hmo Tryz.func80 rfl h ?_;refine lx ?_;intro x1;refine At.c 10 ?_ ?_
 ·apply rt;exact At.r 1
 ·refine At.b 1 (λ_ e=>aJ hT (k:=1) 0 [] 0 e) λu2=>?_;refine At.b 0 (λ_ e=>bH hT j64 0 e) λe3=>?_;apply rt;exact At.r 1
def nY(N:Nat)(a0:Int):Option (Int):=
 cond (decide (a0 < 1)) (
  some 0) (
  aT (I64 (du (I64 (a0 - 1)) 256)) λx1=>
  some (I64 (x1+1)))
theorem xP{N a0 r}(h:nY N a0=some r):FnM Tryz.prog 19 [] [(j64 a0)] (j64 r) []:=by
 unfold nY at h;refine At.f eX hT hmo Tryz.func19 rfl h ?_;refine At.c 3 ?_ ?_
 ·apply rt;exact At.r 1
 ·refine lx ?_;intro x1;apply rt;exact At.r 5
def aDu : Nat->Bool:=imL [1]
def kD(N:Nat)(a0:aE):Nat->Int->Option (Sum (Unit) (Int))
 | 0,_=>none
 | k+1,s3=>
  cond (decide (s3 < 8)) (
   ae (idx a0.gA1.toList s3) λe4=>
   cond (decide (e4 > 15)) (some (Sum.inr 5)) (kD N a0 k (I64 (s3+1)))) (
   some (Sum.inl (())))
def pC(N:Nat)(a0:aE):Option (Int):=
 ae (rO N a0.gC) λr1=>
 cond (r1==0) (
  some 12) (
  ae (kD N a0 N 0) λo=>nQ o (λp2=>
   aT (decide (a0.gA2 > a0.gTo)) λx5=>
   aT (cond x5 true (decide (a0.gR < 1))) λx6=>
   cond x6 (
    some 5) (
    cond (decide (a0.gR > r1)) (
     some 9) (
     ae (nY N a0.gR) λr7=>
     cond (a0.gA0 != r7) (some 5) (some 0)))) (λr=>some r))
theorem yK{N a0 r}(h:pC N a0=some r):FnM Tryz.prog 46 [] [(aE.enc a0)] (j64 r) []:=by
 unfold pC at h;refine At.f aDu hT hmo Tryz.func46 rfl h ?_;refine At.b 4 (λ_ e=>aM [] (aAW e)) λr1=>?_;refine At.c 3 ?_ ?_
 ·apply rt;exact At.r 1
 ·refine At.LS 3 [1,3] 0 (λp2=>([],[],[])) (λop2 J k=>∃s3,kD N a0 k s3=some op2/\J [1,3,12] 0 [(13,(j64 s3))] [] []) N (λ_ h=>⟨_,h,jr⟩) (λop2 g2 k s hI=>?_) λp2=>?_
  ·obtain⟨s3,h,hj⟩:=hI;cases k with
   | zero=>cases h
   | succ k=>
    refine At.jr hj ?_ h;refine At.c 1 ?_ ?_
    ·refine At.b 0 (λ_ e=>aHf hT k8 a0.gA1 e (by kernel_rfl) (by kernel_rfl)) λe4=>?_;refine At.c 3 ?_ ?_
     ·intro e;apply uQ g2 e;exact At.r 1
     ·exact λh=>At.k 2 ⟨_,h,jr⟩
    ·apply rt;exact At.xs 0
  ·refine lx ?_;intro x5;refine lx ?_;intro x6;refine At.c 11 ?_ ?_
   ·apply rt;exact At.r 1
   ·refine At.c 5 ?_ ?_
    ·apply rt;exact At.r 1
    ·refine bi λr7 hr7=>?_;refine At.d 0 (dE2 4 (j64 r7) (λ_=>dM (xP hr7)) dE0) dF0 ?_;refine At.c 0 ?_ ?_
     ·apply rt;exact At.r 1
     ·apply rt;exact At.r 1
def nT(N:Nat)(a0:(List Int)):Option (aE×Int):=
 ae (qV N a0) λr1=>
 ae (bI N 8 (aA.mk r1 0 true)) λr2=>
 ae (eP N 1 (aA.mk r2.1 r2.2.1 ((aA.mk r1 0 true).gA))) λr3=>
 ae (bI N 4 (aA.mk r3.1 r3.2.1 ((aA.mk r2.1 r2.2.1 ((aA.mk r1 0 true).gA)).gA))) λr4=>
 ae (aGc 8 0 8) λ_=>
 ae (bD N 8 (aA.mk r4.1 r4.2.1 ((aA.mk r3.1 r3.2.1 ((aA.mk r2.1 r2.2.1 ((aA.mk r1 0 true).gA)).gA)).gA))) λr6=>
 ae (cpV (ah 8 0) r6.2.2 0 8) λv7=>
 ae (bI N 4 (aA.mk r6.1 r6.2.1 ((aA.mk r4.1 r4.2.1 ((aA.mk r3.1 r3.2.1 ((aA.mk r2.1 r2.2.1 ((aA.mk r1 0 true).gA)).gA)).gA)).gA))) λr8=>
 ae (bI N 4 (aA.mk r8.1 r8.2.1 ((aA.mk r6.1 r6.2.1 ((aA.mk r4.1 r4.2.1 ((aA.mk r3.1 r3.2.1 ((aA.mk r2.1 r2.2.1 ((aA.mk r1 0 true).gA)).gA)).gA)).gA)).gA))) λr9=>
 ae (eP N 4 (aA.mk r9.1 r9.2.1 ((aA.mk r8.1 r8.2.1 ((aA.mk r6.1 r6.2.1 ((aA.mk r4.1 r4.2.1 ((aA.mk r3.1 r3.2.1 ((aA.mk r2.1 r2.2.1 ((aA.mk r1 0 true).gA)).gA)).gA)).gA)).gA)).gA))) λr10=>
 ae (eP N 2 (aA.mk r10.1 r10.2.1 ((aA.mk r9.1 r9.2.1 ((aA.mk r8.1 r8.2.1 ((aA.mk r6.1 r6.2.1 ((aA.mk r4.1 r4.2.1 ((aA.mk r3.1 r3.2.1 ((aA.mk r2.1 r2.2.1 ((aA.mk r1 0 true).gA)).gA)).gA)).gA)).gA)).gA)).gA))) λr11=>
 ae (cT N (aA.mk r11.1 r11.2.1 ((aA.mk r10.1 r10.2.1 ((aA.mk r9.1 r9.2.1 ((aA.mk r8.1 r8.2.1 ((aA.mk r6.1 r6.2.1 ((aA.mk r4.1 r4.2.1 ((aA.mk r3.1 r3.2.1 ((aA.mk r2.1 r2.2.1 ((aA.mk r1 0 true).gA)).gA)).gA)).gA)).gA)).gA)).gA)).gA))) λr12=>
 cond (r12 != 0) (
  some ((aE.mk 0 0 0 (ah 8 0) 0 0 0 0,r12))) (
  ae (pC N (aE.mk r2.2.2 r3.2.2 (U32 r4.2.2) v7 (U32 r8.2.2) (U32 r9.2.2) r10.2.2 r11.2.2)) λr13=>
  cond (r13 != 0) (
   some ((aE.mk 0 0 0 (ah 8 0) 0 0 0 0,r13))) (
   some ((aE.mk r2.2.2 r3.2.2 (U32 r4.2.2) v7 (U32 r8.2.2) (U32 r9.2.2) r10.2.2 r11.2.2,0))))
theorem aCM{N a0 r}(h:nT N a0=some r):FnM Tryz.prog 31 [] [(eL 1 k8 a0)] (.tup [(aE.enc r.1),(j64 r.2)]) []:=by
 unfold nT at h;refine At.f eX hT hmo Tryz.func31 rfl h ?_;refine At.b 3 (λ_ e=>aM [] (vC e)) λr1=>?_;refine bi λr2 hr2=>?_;refine bi λr3 hr3=>?_;refine bi λr4 hr4=>?_;refine At.d2 3 [false] dC0 (dS1 2 ⟨(k64 r2.2.2),2,.var (.st 3 [(eL 1 k8 r2.1),(j64 r2.2.1),(eB ((aA.mk r1 0 true).gA))]),.var (.st 3 [(eO 1 1 k8 r1),(j64 0),(eB true)])⟩ [[.var zG,.tail (r1.length*1),.var (.st 3 [(eO 1 1 k8 r1),(j64 0),(eB true)]),.var (.st 1 [(.ref 2 [] 0)]),.dead],[.var zG,.tail (r1.length*1),.var (.st 3 [(eO 1 1 k8 r1),(j64 0),(eB true)]),.var (.st 1 [(.ref 2 [] 0)]),.var zG]] ⟨bP (aM [2] (cF hr2)),bP (aM [2] (cF hr2)),trivial⟩ (dS1 4 ⟨(j64 r3.2.2),2,.var (.st 3 [(eL 1 k8 r3.1),(j64 r3.2.1),(eB ((aA.mk r2.1 r2.2.1 ((aA.mk r1 0 true).gA)).gA))]),.var (.st 3 [(eL 1 k8 r2.1),(j64 r2.2.1),(eB ((aA.mk r1 0 true).gA))])⟩ [[.var zG,.tail (r1.length*1),.var (.st 3 [(eL 1 k8 r2.1),(j64 r2.2.1),(eB ((aA.mk r1 0 true).gA))]),.var (.st 1 [(.ref 2 [] 0)]),.dead],[.var zG,.tail (r1.length*1),.var (.st 3 [(eL 1 k8 r2.1),(j64 r2.2.1),(eB ((aA.mk r1 0 true).gA))]),.var (.st 1 [(.ref 2 [] 0)]),.var zG]] ⟨bP (aM [2] (lA hr3)),bP (aM [2] (lA hr3)),trivial⟩ (dS1 7 ⟨(k64 r4.2.2),2,.var (.st 3 [(eL 1 k8 r4.1),(j64 r4.2.1),(eB ((aA.mk r3.1 r3.2.1 ((aA.mk r2.1 r2.2.1 ((aA.mk r1 0 true).gA)).gA)).gA))]),.var (.st 3 [(eL 1 k8 r3.1),(j64 r3.2.1),(eB ((aA.mk r2.1 r2.2.1 ((aA.mk r1 0 true).gA)).gA))])⟩ [[.var zG,.tail (r1.length*1),.var (.st 3 [(eL 1 k8 r3.1),(j64 r3.2.1),(eB ((aA.mk r2.1 r2.2.1 ((aA.mk r1 0 true).gA)).gA))]),.var (.st 1 [(.ref 2 [] 0)]),.dead],[.var zG,.tail (r1.length*1),.var (.st 3 [(eL 1 k8 r3.1),(j64 r3.2.1),(eB ((aA.mk r2.1 r2.2.1 ((aA.mk r1 0 true).gA)).gA))]),.var (.st 1 [(.ref 2 [] 0)]),.var zG]] ⟨bP (aM [2] (cF hr4)),bP (aM [2] (cF hr4)),trivial⟩ (dS1 10 ⟨(.ref 4 [] 0),4,.var zG,.dead⟩ [[.var zG,.tail (r1.length*1),.var (.st 3 [(eO 1 1 k8 r1),(j64 0),(eB true)]),.var (.st 1 [(.ref 2 [] 0)]),.dead],[.var zG,.tail (r1.length*1),.var (.st 3 [(eL 1 k8 r4.1),(j64 r4.2.1),(eB ((aA.mk r3.1 r3.2.1 ((aA.mk r2.1 r2.2.1 ((aA.mk r1 0 true).gA)).gA)).gA))]),.var (.st 1 [(.ref 2 [] 0)]),.dead],[.var zG,.tail (r1.length*1),.var (.st 3 [(eL 1 k8 r3.1),(j64 r3.2.1),(eB ((aA.mk r2.1 r2.2.1 ((aA.mk r1 0 true).gA)).gA))]),.var (.st 1 [(.ref 2 [] 0)]),.dead],[.var zG,.tail (r1.length*1),.var (.st 3 [(eL 1 k8 r4.1),(j64 r4.2.1),(eB ((aA.mk r3.1 r3.2.1 ((aA.mk r2.1 r2.2.1 ((aA.mk r1 0 true).gA)).gA)).gA))]),.var (.st 1 [(.ref 2 [] 0)]),.dead],[.var zG,.tail (r1.length*1),.var (.st 3 [(eL 1 k8 r2.1),(j64 r2.2.1),(eB ((aA.mk r1 0 true).gA))]),.var (.st 1 [(.ref 2 [] 0)]),.dead],[.var zG,.tail (r1.length*1),.var (.st 3 [(eL 1 k8 r4.1),(j64 r4.2.1),(eB ((aA.mk r3.1 r3.2.1 ((aA.mk r2.1 r2.2.1 ((aA.mk r1 0 true).gA)).gA)).gA))]),.var (.st 1 [(.ref 2 [] 0)]),.dead],[.var zG,.tail (r1.length*1),.var (.st 3 [(eL 1 k8 r3.1),(j64 r3.2.1),(eB ((aA.mk r2.1 r2.2.1 ((aA.mk r1 0 true).gA)).gA))]),.var (.st 1 [(.ref 2 [] 0)]),.dead],[.var zG,.tail (r1.length*1),.var (.st 3 [(eL 1 k8 r4.1),(j64 r4.2.1),(eB ((aA.mk r3.1 r3.2.1 ((aA.mk r2.1 r2.2.1 ((aA.mk r1 0 true).gA)).gA)).gA))]),.var (.st 1 [(.ref 2 [] 0)]),.dead]] ⟨sR hT 4 (by kernel_rfl) (by kernel_rfl) (by kernel_rfl),sR hT 4 (by kernel_rfl) (by kernel_rfl) (by kernel_rfl),sR hT 4 (by kernel_rfl) (by kernel_rfl) (by kernel_rfl),sR hT 4 (by kernel_rfl) (by kernel_rfl) (by kernel_rfl),sR hT 4 (by kernel_rfl) (by kernel_rfl) (by kernel_rfl),sR hT 4 (by kernel_rfl) (by kernel_rfl) (by kernel_rfl),sR hT 4 (by kernel_rfl) (by kernel_rfl) (by kernel_rfl),sR hT 4 (by kernel_rfl) (by kernel_rfl) (by kernel_rfl),trivial⟩ dS0)))) ?_;refine bi λs5 hs5=>?_;refine bi λr6 hr6=>?_;refine bi λv7 hv7=>?_;refine At.d 0 (dE1 1 (λ_=>aHq hT (k:=1) 4 [3] 3 hs5 (by kernel_rfl) (by kernel_rfl) (by decide)) dE0) (dF 4 (eL 1 k8 r6.2.2) [(2,.var (.st 3 [(eL 1 k8 r6.1),(j64 r6.2.1),(eB ((aA.mk r4.1 r4.2.1 ((aA.mk r3.1 r3.2.1 ((aA.mk r2.1 r2.2.1 ((aA.mk r1 0 true).gA)).gA)).gA)).gA))]))] [] (bP (aM [2] (lG hr6))) (dF 5 (j64 (((min r6.2.2.length 8:Nat):Int))) [(4,.var (.st 15 [(k64 r2.2.2),(j64 r3.2.2),(k32 (U32 r4.2.2)),(eA 8 1 k8 v7),(k32 0),(k32 0),(j64 0),(j64 0)]))] [] (bP (aGK hT k8 (id:=4) (path:=[3]) (off:=3) (H':=[.var zG,.tail (r1.length*1),.var (.st 3 [(eL 1 k8 r6.1),(j64 r6.2.1),(eB ((aA.mk r4.1 r4.2.1 ((aA.mk r3.1 r3.2.1 ((aA.mk r2.1 r2.2.1 ((aA.mk r1 0 true).gA)).gA)).gA)).gA))]),.var (.st 1 [(.ref 2 [] 0)]),.var (.st 15 [(k64 r2.2.2),(j64 r3.2.2),(k32 (U32 r4.2.2)),(eA 8 1 k8 v7),(k32 0),(k32 0),(j64 0),(j64 0)])]) hv7 (by kernel_rfl) (by kernel_rfl) (by kernel_rfl))) dF0)) ?_;refine bi λr8 hr8=>?_;refine bi λr9 hr9=>?_;refine bi λr10 hr10=>?_;refine bi λr11 hr11=>?_;refine At.d 0 dE0 (dF 2 (k64 r8.2.2) [(2,.var (.st 3 [(eL 1 k8 r8.1),(j64 r8.2.1),(eB ((aA.mk r6.1 r6.2.1 ((aA.mk r4.1 r4.2.1 ((aA.mk r3.1 r3.2.1 ((aA.mk r2.1 r2.2.1 ((aA.mk r1 0 true).gA)).gA)).gA)).gA)).gA))]))] [] (bP (aM [2] (cF hr8))) (dF 6 (k64 r9.2.2) [(2,.var (.st 3 [(eL 1 k8 r9.1),(j64 r9.2.1),(eB ((aA.mk r8.1 r8.2.1 ((aA.mk r6.1 r6.2.1 ((aA.mk r4.1 r4.2.1 ((aA.mk r3.1 r3.2.1 ((aA.mk r2.1 r2.2.1 ((aA.mk r1 0 true).gA)).gA)).gA)).gA)).gA)).gA))]))] [] (bP (aM [2] (cF hr9))) (dF 9 (j64 r10.2.2) [(2,.var (.st 3 [(eL 1 k8 r10.1),(j64 r10.2.1),(eB ((aA.mk r9.1 r9.2.1 ((aA.mk r8.1 r8.2.1 ((aA.mk r6.1 r6.2.1 ((aA.mk r4.1 r4.2.1 ((aA.mk r3.1 r3.2.1 ((aA.mk r2.1 r2.2.1 ((aA.mk r1 0 true).gA)).gA)).gA)).gA)).gA)).gA)).gA))]))] [] (bP (aM [2] (lA hr10))) (dF 11 (j64 r11.2.2) [(2,.var (.st 3 [(eL 1 k8 r11.1),(j64 r11.2.1),(eB ((aA.mk r10.1 r10.2.1 ((aA.mk r9.1 r9.2.1 ((aA.mk r8.1 r8.2.1 ((aA.mk r6.1 r6.2.1 ((aA.mk r4.1 r4.2.1 ((aA.mk r3.1 r3.2.1 ((aA.mk r2.1 r2.2.1 ((aA.mk r1 0 true).gA)).gA)).gA)).gA)).gA)).gA)).gA)).gA))]))] [] (bP (aM [2] (lA hr11))) dF0)))) ?_;refine At.b 2 (λ_ e=>aM [2] (mY e)) λr12=>?_;refine At.c 3 ?_ ?_
 ·apply rt;exact At.r 4
 ·refine At.b 1 (λ_ e=>aM [] (yK e)) λr13=>?_;refine At.c 3 ?_ ?_
  ·apply rt;exact At.r 4
  ·apply rt;exact At.r 3
def aG7 : Nat->Bool:=imL [2]
def oV(N:Nat)(a0:(Vector Int 32))(a1:(List Int)):Option (aE×Int):=
 aT (decide (((a1.length:Int)) < 63)) λx1=>
 cond x1 (
  some ((aE.mk 0 0 0 (ah 8 0) 0 0 0 0,4))) (
  ae (qT N a1 (([85,77,66,49]:List Int))) λr2=>
  cond (!r2) (
   some ((aE.mk 0 0 0 (ah 8 0) 0 0 0 0,5))) (
   ae (eD a1 4 12) λs3=>
   ae (aEn 8 s3) λv4=>
   ae (fZ N v4 0) λr5=>
   ae (eD a1 0 47) λs6=>
   ae (eD a1 47 63) λs7=>
   ae (iZ N a0 r5 s6 s7) λr8=>
   cond (r8.2 != 0) (
    some ((aE.mk 0 0 0 (ah 8 0) 0 0 0 0,r8.2))) (
    ae (eD a1 12 47) λs9=>
    ae (nT N s9) λr10=>
    some ((r10.1,r10.2)))))
theorem aA8{N a0 a1 r}(h:oV N a0 a1=some r):FnM Tryz.prog 12 [] [(eA 32 1 k8 a0),(eL 1 k8 a1)] (.tup [(aE.enc r.1),(j64 r.2)]) []:=by
 unfold oV at h;refine At.f aG7 hT hmo Tryz.func12 rfl h ?_;refine lx ?_;intro x1;refine At.c 7 ?_ ?_
 ·apply rt;exact At.r 3
 ·refine At.l2 hT 1 (d1:=16) (d2:=17) (t:=47) (e:=5) k8 (z:=1) ([85,77,66,49]:List Int) rfl rfl rfl ?_;refine At.b 0 (λ_ e=>aM [] (aCa e)) λr2=>?_;refine At.c 2 ?_ ?_
  ·apply rt;exact At.r 3
  ·refine At.b 1 (λ_ e=>iQ hT (k:=1) k8 e) λs3=>?_;refine At.b 0 (λv4 e=>aDS hT k8 s3 v4 e rfl (by kernel_rfl) (by kernel_rfl)) λv4=>?_;refine bi λr5 hr5=>?_;refine bi λs6 hs6=>?_;refine bi λs7 hs7=>?_;refine bi λr8 hr8=>?_;refine At.d 3 (dE2 2 (eA 12 1 k8 r5) (λ_=>dM (tY hr5)) (dE1 4 (λ_=>iQ hT (k:=1) k8 hs6) (dE1 6 (λ_=>iQ hT (k:=1) k8 hs7) (dE2 7 (.tup [(eL 1 k8 r8.1),(j64 r8.2)]) (λ_=>dM (aCo hr8)) dE0)))) dF0 ?_;refine At.c 2 ?_ ?_
   ·apply rt;exact At.r 4
   ·refine At.b 1 (λ_ e=>iQ hT (k:=1) k8 e) λs9=>?_;refine At.b 0 (λ_ e=>aM [] (aCM e)) λr10=>?_;apply rt;exact At.r 4
def iX(N:Nat)(a0:(List Int)):Nat->(Vector Int 8)->Int->Option ((Vector Int 8))
 | 0,_,_=>none
 | k+1,s2,s3=>
  cond (decide (s3 < 8)) (
   ae (idx a0 (I64 (4+s3))) λe4=>
   ae (aW s3 8) λ_=>
   ae (s2.toList[s3.toNat]?) λe6=>
   iX N a0 k (s2.setIfInBounds s3.toNat e4) (I64 (s3+1))) (
   some s2)
def mA(N:Nat)(a0:(List Int)):Option ((Vector Int 8)):=
 ae (iX N a0 N (ah 8 0) 0) λp1=>
 some p1
theorem xN{N a0 r}(h:mA N a0=some r):FnM Tryz.prog 33 [] [(eL 1 k8 a0)] (eA 8 1 k8 r) []:=by
 unfold mA at h;refine At.f eX hT hmo Tryz.func33 rfl h ?_;refine At.L 3 [2,3] 2 (λp1=>([],[(1,.var (eA 8 1 k8 p1))],[])) (λp1 J k=>∃s2 s3,iX N a0 k s2 s3=some p1/\J [0,2,3] 2 [(4,(j64 s3))] [(1,.var (eA 8 1 k8 s2))] []) N (λ_ h=>⟨_,_,h,jr⟩) (λp1 k s hI=>?_) λp1=>?_
 ·obtain⟨s2,s3,h,hj⟩:=hI;cases k with
  | zero=>cases h
  | succ k=>
   refine At.jr hj ?_ h;refine At.c 2 ?_ ?_
   ·refine At.b 4 (λ_ e=>bB hT k8 e) λe4=>?_;refine At.b 1 (λ_ e=>aJ hT (k:=1) 1 [] 0 e) λu5=>?_;refine At.b 0 (λ_ e=>bM hT k8 0 s2 e e4 (by kernel_rfl) (by kernel_rfl) (H':=[.var (eA 8 1 k8 (ah 8 0)),.var (eA 8 1 k8 (s2.setIfInBounds s3.toNat e4))])) λe6=>?_;exact λh=>At.k 3 ⟨_,_,h,jr⟩
   ·apply rt;exact At.x 0
 ·apply rt;exact At.r 2
def aB8 : Nat->Bool:=imL [2]
def kJ(N:Nat)(a0:(Vector Int 8)):Nat->(Vector Int 12)->Int->Option ((Vector Int 12))
 | 0,_,_=>none
 | k+1,s2,s3=>
  cond (decide (s3 < 8)) (
   ae (idx a0.toList s3) λe4=>
   ae (aW s3 12) λ_=>
   ae (s2.toList[s3.toNat]?) λe6=>
   kJ N a0 k (s2.setIfInBounds s3.toNat e4) (I64 (s3+1))) (
   some s2)
def kM(N:Nat)(a1:Int):Nat->(Vector Int 12)->Int->Option ((Vector Int 12))
 | 0,_,_=>none
 | k+1,s8,s9=>
  cond (decide (s9 < 4)) (
   ae (zX .u32 (U32 a1) (I64 (8*s9))) λx10=>
   ae (aW (I64 (8+s9)) 12) λ_=>
   ae (s8.toList[(I64 (8+s9)).toNat]?) λe12=>
   kM N a1 k (s8.setIfInBounds ((I64 (8+s9)).toNat) (U8 x10)) (I64 (s9+1))) (
   some s8)
def lC(N:Nat)(a0:(Vector Int 8))(a1:Int):Option ((Vector Int 12)):=
 ae (kJ N a0 N (ah 12 0) 0) λp1=>
 ae (kM N a1 N p1 0) λp7=>
 some p7
theorem wR{N a0 a1 r}(h:lC N a0 a1=some r):FnM Tryz.prog 10 [] [(eA 8 1 k8 a0),(j64 a1)] (eA 12 1 k8 r) []:=by
 unfold lC at h;refine At.f aB8 hT hmo Tryz.func10 rfl h ?_;refine At.L 4 [1,4,5] 2 (λp1=>([],[(1,.var (eA 12 1 k8 p1))],[])) (λp1 J k=>∃s2 s3,kJ N a0 k s2 s3=some p1/\J [1,2,4,5] 2 [(6,(j64 s3))] [(1,.var (eA 12 1 k8 s2))] []) N (λ_ h=>⟨_,_,h,jr⟩) (λp1 k s hI=>?_) λp1=>?_
 ·obtain⟨s2,s3,h,hj⟩:=hI;cases k with
  | zero=>cases h
  | succ k=>
   refine At.jr hj ?_ h;refine At.c 2 ?_ ?_
   ·refine At.b 2 (λ_ e=>bW hT (N:=8) (k:=1) k8 a0 e) λe4=>?_;refine At.b 1 (λ_ e=>aJ hT (k:=1) 1 [] 0 e) λu5=>?_;refine At.b 0 (λ_ e=>bM hT k8 0 s2 e e4 (by kernel_rfl) (by kernel_rfl) (H':=[.var (eA 12 1 k8 (ah 12 0)),.var (eA 12 1 k8 (s2.setIfInBounds s3.toNat e4))])) λe6=>?_;exact λh=>At.k 3 ⟨_,_,h,jr⟩
   ·apply rt;exact At.x 0
 ·refine At.L 4 [4,5] 2 (λp7=>([],[(1,.var (eA 12 1 k8 p7))],[])) (λp7 J k=>∃s8 s9,kM N a1 k s8 s9=some p7/\J [4,5,7] 2 [(8,(j64 s9))] [(1,.var (eA 12 1 k8 s8))] []) N (λ_ h=>⟨_,_,h,jr⟩) (λp7 k s hI=>?_) λp7=>?_
  ·obtain⟨s8,s9,h,hj⟩:=hI;cases k with
   | zero=>cases h
   | succ k=>
    refine At.jr hj ?_ h;refine At.c 2 ?_ ?_
    ·refine At.b 5 (λ_ e=>rE hT (k' := .i64) e (by kernel_rfl) (by kernel_rfl)) λx10=>?_;refine At.b 1 (λ_ e=>aJ hT (k:=1) 1 [] 0 e) λu11=>?_;refine At.b 0 (λ_ e=>bM hT k8 0 s8 e (U8 x10) (by kernel_rfl) (by kernel_rfl) (H':=[.var (eA 12 1 k8 (ah 12 0)),.var (eA 12 1 k8 (s8.setIfInBounds ((I64 (8+s9)).toNat) (U8 x10)))])) λe12=>?_;exact λh=>At.k 3 ⟨_,_,h,jr⟩
    ·apply rt;exact At.x 0
  ·apply rt;exact At.r 2
def mE(N:Nat)  : Nat->(List Int)->Option ((List Int))
 | 0,_=>none
 | k+1,s3=>
  aT (cu ((s3.length:Int)) 16) λx4=>
  cond (decide (x4 > 0)) (
   ae (nR 1 s3 (([0]:List Int))) λz5=>
   mE N k z5) (
   some s3)
def mS(N:Nat)(a0:(List Int)):Option ((List Int)):=
 ae (nR 1 (([]:List Int)) a0) λz1=>
 ae (mE N N z1) λp2=>
 some p2
theorem wD{N a0 r}(h:mS N a0=some r):FnM Tryz.prog 99 [] [(eL 1 k8 a0)] (eO 0 1 k8 r) [.tail (r.length*1)]:=by
 unfold mS at h;refine At.f eX hT hmo Tryz.func99 rfl h ?_;refine At.o 1 (uX hT k8 (k:=1) ([]:List Int) (by kernel_rfl) (by kernel_rfl)) ?_;refine At.b 1 (λ_ e=>dE hT k8 (id:=0) (k:=1) e) λz1=>?_;refine At.L 1 [] 1 (λp2=>([(3,(eO 0 1 k8 p2))],[(0,.tail (p2.length*1))],[])) (λp2 J k=>∃s3,mE N k s3=some p2/\J [] 1 [(3,(eO 0 1 k8 s3))] [(0,.tail (s3.length*1))] []) N (λ_ h=>⟨_,h,jr⟩) (λp2 k s hI=>?_) λp2=>?_
 ·obtain⟨s3,h,hj⟩:=hI;cases k with
  | zero=>cases h
  | succ k=>
   refine At.jr hj ?_ h;refine lx ?_;intro x4;refine At.c 4 ?_ ?_
   ·refine At.o 1 (bU hT (x:=(.sl 1 1 [(k8 0)]))) ?_;refine At.b 0 (λ_ e=>dE hT k8 (id:=0) (k:=1) e) λz5=>?_;exact λh=>At.k 1 ⟨_,h,jr⟩
   ·apply rt;exact At.x 0
 ·apply rt;exact At.r 2
def fP(N:Nat)  : Nat->(List Int)->Int->Int->Option ((List Int))
 | 0,_,_,_=>none
 | k+1,s2,s3,s4=>
  cond (decide (s4 < 8)) (
   ae (nR 1 s2 (([U8 (cu s3 256)]:List Int))) λz5=>
   fP N k z5 (I64 (du s3 256)) (I64 (s4+1))) (
   some s2)
def mO(N:Nat)(a0:Int):Option ((List Int)):=
 ae (fP N N [] a0 0) λp1=>
 some p1
theorem wB{N a0 r}(h:mO N a0=some r):FnM Tryz.prog 100 [] [(j64 a0)] (eL 1 k8 r) []:=by
 unfold mO at h;refine At.f eX hT hmo Tryz.func100 rfl h ?_;refine At.ownn 3 3 1 ?_;refine At.L 0 [] 1 (λp1=>([(3,(eO 0 1 k8 p1))],[(0,.tail (p1.length*1))],[])) (λp1 J k=>∃s2 s3 s4,fP N k s2 s3 s4=some p1/\J [] 1 [(0,(j64 s3)),(3,(eO 0 1 k8 s2)),(4,(j64 s4))] [(0,.tail (s2.length*1))] []) N (λ_ h=>⟨_,_,_,h,jr⟩) (λp1 k s hI=>?_) λp1=>?_
 ·obtain⟨s2,s3,s4,h,hj⟩:=hI;cases k with
  | zero=>cases h
  | succ k=>
   refine At.jr hj ?_ h;refine At.c 2 ?_ ?_
   ·refine At.o 4 (bU hT (x:=(.sl 1 1 [(k8 (U8 (cu s3 256)))]))) ?_;refine At.b 0 (λ_ e=>dE hT k8 (id:=0) (k:=1) e) λz5=>?_;exact λh=>At.k 7 ⟨_,_,_,h,jr⟩
   ·apply rt;exact At.x 0
 ·apply rt;exact At.r 2
def eE(N:Nat)(a0:(List Int)):Nat->Int->Int->Option (Int)
 | 0,_,_=>none
 | k+1,s2,s3=>
  cond (decide (s3>=0)) (
   ae (idx a0 s3) λe4=>
   aT (U32 ((U32 (s2*256))+(U32 e4))) λx5=>
   eE N a0 k x5 (I64 (s3 - 1))) (
   some s2)
def iH(N:Nat)(a0:(List Int)):Option (Int):=
 ae (eE N a0 N 0 3) λp1=>
 some p1
theorem sV{N a0 r}(h:iH N a0=some r):FnM Tryz.prog 159 [] [(eL 1 k8 a0)] (k32 r) []:=by
 unfold iH at h;refine At.f eX hT hmo Tryz.func159 rfl h ?_;refine At.L 3 [] 0 (λp1=>([(3,(k32 p1))],[],[])) (λp1 J k=>∃s2 s3,eE N a0 k s2 s3=some p1/\J [0] 0 [(3,(k32 s2)),(4,(j64 s3))] [] []) N (λ_ h=>⟨_,_,h,jr⟩) (λp1 k s hI=>?_) λp1=>?_
 ·obtain⟨s2,s3,h,hj⟩:=hI;cases k with
  | zero=>cases h
  | succ k=>
   refine At.jr hj ?_ h;refine At.c 2 ?_ ?_
   ·refine At.b 4 (λ_ e=>bB hT k8 e) λe4=>?_;refine lx ?_;intro x5;exact λh=>At.k 7 ⟨_,_,h,jr⟩
   ·apply rt;exact At.x 0
 ·apply rt;exact At.r 2
def aB7 : Nat->Bool:=imL [3,5]
def qD(N:Nat)  : Nat->(Vector Int 16)->Int->Option ((Vector Int 16))
 | 0,_,_=>none
 | k+1,s2,s3=>
  cond (decide (s3 < 4)) (
   ae (idx aLt.data.toList (I64 (4*s3))) λc4=>
   aT (I64 ((I64 (4*s3))+1)) λx5=>
   ae (idx aLt.data.toList x5) λc6=>
   aT (I64 ((I64 (4*s3))+2)) λx7=>
   ae (idx aLt.data.toList x7) λc8=>
   aT (I64 ((I64 (4*s3))+3)) λx9=>
   ae (idx aLt.data.toList x9) λc10=>
   ae (iH N ([(UInt8.toNat c4:Int),(UInt8.toNat c6:Int),(UInt8.toNat c8:Int),(UInt8.toNat c10:Int)])) λr11=>
   ae (aW s3 16) λ_=>
   ae (s2.toList[s3.toNat]?) λe13=>
   qD N k (s2.setIfInBounds s3.toNat r11) (I64 (s3+1))) (
   some s2)
def eR(N:Nat)(a0:(Vector Int 32)):Nat->(Vector Int 16)->Int->Option ((Vector Int 16))
 | 0,_,_=>none
 | k+1,s15,s16=>
  cond (decide (s16 < 8)) (
   aT (I64 ((I64 (4*s16))+4)) λx17=>
   ae (eD a0.toList (I64 (4*s16)) x17) λs18=>
   ae (iH N s18) λr19=>
   ae (aW (I64 (4+s16)) 16) λ_=>
   ae (s15.toList[(I64 (4+s16)).toNat]?) λe21=>
   eR N a0 k (s15.setIfInBounds ((I64 (4+s16)).toNat) r19) (I64 (s16+1))) (
   some s15)
def eU(N:Nat)(a2:(Vector Int 12)):Nat->(Vector Int 16)->Int->Option ((Vector Int 16))
 | 0,_,_=>none
 | k+1,s25,s26=>
  cond (decide (s26 < 3)) (
   aT (I64 ((I64 (4*s26))+4)) λx27=>
   ae (eD a2.toList (I64 (4*s26)) x27) λs28=>
   ae (iH N s28) λr29=>
   ae (aW (I64 (13+s26)) 16) λ_=>
   ae (s25.toList[(I64 (13+s26)).toNat]?) λe31=>
   eU N a2 k (s25.setIfInBounds ((I64 (13+s26)).toNat) r29) (I64 (s26+1))) (
   some s25)
def nE(N:Nat)(a0:(Vector Int 32))(a1:Int)(a2:(Vector Int 12)):Option ((Vector Int 16)):=
 ae (qD N N (ah 16 0) 0) λp1=>
 ae (eR N a0 N p1 0) λp14=>
 ae (aW 12 16) λ_=>
 ae (p14.toList[(af 12)]?) λe23=>
 ae (eU N a2 N (p14.setIfInBounds ((af 12)) a1) 0) λp24=>
 some p24
theorem wP{N a0 a1 a2 r}(h:nE N a0 a1 a2=some r):FnM Tryz.prog 146 [] [(eA 32 1 k8 a0),(k32 a1),(eA 12 1 k8 a2)] (eA 16 1 k32 r) []:=by
 unfold nE at h;refine At.f aB7 hT hmo Tryz.func146 rfl h ?_;refine At.L 6 [1,3,5,6,7] 2 (λp1=>([],[(1,.var (eA 16 1 k32 p1))],[])) (λp1 J k=>∃s2 s3,qD N k s2 s3=some p1/\J [1,3,5,6,7,8] 2 [(9,(j64 s3))] [(1,.var (eA 16 1 k32 s2))] []) N (λ_ h=>⟨_,_,h,jr⟩) (λp1 k s hI=>?_) λp1=>?_
 ·obtain⟨s2,s3,h,hj⟩:=hI;cases k with
  | zero=>cases h
  | succ k=>
   refine At.jr hj ?_ h;refine At.c 2 ?_ ?_
   ·refine bi λc4 hc4=>?_;refine lx ?_;intro x5;refine bi λc6 hc6=>?_;refine lx ?_;intro x7;refine bi λc8 hc8=>?_;refine lx ?_;intro x9;refine bi λc10 hc10=>?_;refine bi λr11 hr11=>?_;refine bi λu12 hu12=>?_;refine bi λe13 he13=>?_;refine At.d 0 (dE1 4 (λ_=>aFA hT hc4 (by kernel_rfl) (by kernel_rfl)) (dE1 9 (λ_=>aFA hT hc6 (by kernel_rfl) (by kernel_rfl)) (dE1 14 (λ_=>aFA hT hc8 (by kernel_rfl) (by kernel_rfl)) (dE1 19 (λ_=>aFA hT hc10 (by kernel_rfl) (by kernel_rfl)) (dE1 20 (λ_=>bU hT (x:=(.sl 1 4 [(k8 ((UInt8.toNat c4:Int))),(k8 ((UInt8.toNat c6:Int))),(k8 ((UInt8.toNat c8:Int))),(k8 ((UInt8.toNat c10:Int)))]))) (dE2 21 (k32 r11) (λ_=>dM (sV hr11)) (dE1 22 (λ_=>aJ hT (k:=1) 1 [] 0 hu12) dE0))))))) (dF 23 (.v (.bool false)) [(1,.var (eA 16 1 k32 (s2.setIfInBounds s3.toNat r11)))] [] (bP (bM hT k32 0 s2 he13 r11 (by kernel_rfl) (by kernel_rfl) (H':=[.var (eA 16 1 k32 (ah 16 0)),.var (eA 16 1 k32 (s2.setIfInBounds s3.toNat r11))]))) dF0) ?_;exact λh=>At.k 3 ⟨_,_,h,jr⟩
   ·apply rt;exact At.x 0
 ·refine At.L 1 [1,5,6,7] 2 (λp14=>([],[(1,.var (eA 16 1 k32 p14))],[])) (λp14 J k=>∃s15 s16,eR N a0 k s15 s16=some p14/\J [1,3,5,6,7] 2 [(10,(j64 s16))] [(1,.var (eA 16 1 k32 s15))] []) N (λ_ h=>⟨_,_,h,jr⟩) (λp14 k s hI=>?_) λp14=>?_
  ·obtain⟨s15,s16,h,hj⟩:=hI;cases k with
   | zero=>cases h
   | succ k=>
    refine At.jr hj ?_ h;refine At.c 2 ?_ ?_
    ·refine lx ?_;intro x17;refine At.b 7 (λ_ e=>nJ hT (N:=32) (k:=1) k8 a0 e) λs18=>?_;refine At.b 0 (λ_ e=>aM [] (sV e)) λr19=>?_;refine At.b 0 (λ_ e=>aJ hT (k:=1) 1 [] 0 e) λu20=>?_;refine At.b 0 (λ_ e=>bM hT k32 0 s15 e r19 (by kernel_rfl) (by kernel_rfl) (H':=[.var (eA 16 1 k32 (ah 16 0)),.var (eA 16 1 k32 (s15.setIfInBounds ((I64 (4+s16)).toNat) r19))])) λe21=>?_;exact λh=>At.k 3 ⟨_,_,h,jr⟩
    ·apply rt;exact At.x 0
  ·refine At.b 1 (λ_ e=>aJ hT (k:=1) 1 [] 0 e) λu22=>?_;refine At.b 0 (λ_ e=>bM hT k32 0 p14 e a1 (by kernel_rfl) (by kernel_rfl) (H':=[.var (eA 16 1 k32 (ah 16 0)),.var (eA 16 1 k32 (p14.setIfInBounds ((af 12)) a1))])) λe23=>?_;refine At.L 1 [6,7] 2 (λp24=>([],[(1,.var (eA 16 1 k32 p24))],[])) (λp24 J k=>∃s25 s26,eU N a2 k s25 s26=some p24/\J [5,6,7] 2 [(11,(j64 s26))] [(1,.var (eA 16 1 k32 s25))] []) N (λ_ h=>⟨_,_,h,jr⟩) (λp24 k s hI=>?_) λp24=>?_
   ·obtain⟨s25,s26,h,hj⟩:=hI;cases k with
    | zero=>cases h
    | succ k=>
     refine At.jr hj ?_ h;refine At.c 2 ?_ ?_
     ·refine lx ?_;intro x27;refine At.b 7 (λ_ e=>nJ hT (N:=12) (k:=1) k8 a2 e) λs28=>?_;refine At.b 0 (λ_ e=>aM [] (sV e)) λr29=>?_;refine At.b 0 (λ_ e=>aJ hT (k:=1) 1 [] 0 e) λu30=>?_;refine At.b 0 (λ_ e=>bM hT k32 0 s25 e r29 (by kernel_rfl) (by kernel_rfl) (H':=[.var (eA 16 1 k32 (ah 16 0)),.var (eA 16 1 k32 (s25.setIfInBounds ((I64 (13+s26)).toNat) r29))])) λe31=>?_;exact λh=>At.k 3 ⟨_,_,h,jr⟩
     ·apply rt;exact At.x 0
   ·apply rt;exact At.r 2
def dN(N:Nat)(a0 a1:Int):Option (Int):=
 ae (aEx .u32 a0 a1) λx1=>
 ae (zX .u32 a0 (I64 (32 - a1))) λx2=>
 some (bor .u32 x1 x2)
theorem rT{N a0 a1 r}(h:dN N a0 a1=some r):FnM Tryz.prog 162 [] [(k32 a0),(j64 a1)] (k32 r) []:=by
 unfold dN at h;refine At.f eX hT hmo Tryz.func162 rfl h ?_;refine bi λx1 hx1=>?_;refine bi λx2 hx2=>?_;refine At.d 1 (dE1 2 (λ_=>xC hT (k' := .i64) hx1 (by kernel_rfl) (by kernel_rfl)) (dE1 6 (λ_=>rE hT (k' := .i64) hx2 (by kernel_rfl) (by kernel_rfl)) dE0)) dF0 ?_;apply rt;exact At.r 0
def nP(N:Nat)(a0:(Vector Int 4)):Option ((Vector Int 4)):=
 ae (aW 0 4) λ_=>
 ae (a0.toList[(af 0)]?) λe2=>
 ae (aW 1 4) λ_=>
 ae (a0.toList[(af 1)]?) λe4=>
 ae (aW 0 4) λ_=>
 ae (a0.toList[(af 0)]?) λe6=>
 ae (aW 3 4) λ_=>
 ae ((a0.setIfInBounds ((af 0)) (U32 (e2+e4))).toList[(af 3)]?) λe8=>
 ae (aW 0 4) λ_=>
 ae ((a0.setIfInBounds ((af 0)) (U32 (e2+e4))).toList[(af 0)]?) λe10=>
 ae (dN N (uR .u32 e8 e10) 16) λr11=>
 ae (aW 3 4) λ_=>
 ae ((a0.setIfInBounds ((af 0)) (U32 (e2+e4))).toList[(af 3)]?) λe13=>
 ae (aW 2 4) λ_=>
 ae (((a0.setIfInBounds ((af 0)) (U32 (e2+e4))).setIfInBounds ((af 3)) r11).toList[(af 2)]?) λe15=>
 ae (aW 3 4) λ_=>
 ae (((a0.setIfInBounds ((af 0)) (U32 (e2+e4))).setIfInBounds ((af 3)) r11).toList[(af 3)]?) λe17=>
 ae (aW 2 4) λ_=>
 ae (((a0.setIfInBounds ((af 0)) (U32 (e2+e4))).setIfInBounds ((af 3)) r11).toList[(af 2)]?) λe19=>
 ae (aW 1 4) λ_=>
 ae ((((a0.setIfInBounds ((af 0)) (U32 (e2+e4))).setIfInBounds ((af 3)) r11).setIfInBounds ((af 2)) (U32 (e15+e17))).toList[(af 1)]?) λe21=>
 ae (aW 2 4) λ_=>
 ae ((((a0.setIfInBounds ((af 0)) (U32 (e2+e4))).setIfInBounds ((af 3)) r11).setIfInBounds ((af 2)) (U32 (e15+e17))).toList[(af 2)]?) λe23=>
 ae (dN N (uR .u32 e21 e23) 12) λr24=>
 ae (aW 1 4) λ_=>
 ae ((((a0.setIfInBounds ((af 0)) (U32 (e2+e4))).setIfInBounds ((af 3)) r11).setIfInBounds ((af 2)) (U32 (e15+e17))).toList[(af 1)]?) λe26=>
 ae (aW 0 4) λ_=>
 ae (((((a0.setIfInBounds ((af 0)) (U32 (e2+e4))).setIfInBounds ((af 3)) r11).setIfInBounds ((af 2)) (U32 (e15+e17))).setIfInBounds ((af 1)) r24).toList[(af 0)]?) λe28=>
 ae (aW 1 4) λ_=>
 ae (((((a0.setIfInBounds ((af 0)) (U32 (e2+e4))).setIfInBounds ((af 3)) r11).setIfInBounds ((af 2)) (U32 (e15+e17))).setIfInBounds ((af 1)) r24).toList[(af 1)]?) λe30=>
 ae (aW 0 4) λ_=>
 ae (((((a0.setIfInBounds ((af 0)) (U32 (e2+e4))).setIfInBounds ((af 3)) r11).setIfInBounds ((af 2)) (U32 (e15+e17))).setIfInBounds ((af 1)) r24).toList[(af 0)]?) λe32=>
 ae (aW 3 4) λ_=>
 ae ((((((a0.setIfInBounds ((af 0)) (U32 (e2+e4))).setIfInBounds ((af 3)) r11).setIfInBounds ((af 2)) (U32 (e15+e17))).setIfInBounds ((af 1)) r24).setIfInBounds ((af 0)) (U32 (e28+e30))).toList[(af 3)]?) λe34=>
 ae (aW 0 4) λ_=>
 ae ((((((a0.setIfInBounds ((af 0)) (U32 (e2+e4))).setIfInBounds ((af 3)) r11).setIfInBounds ((af 2)) (U32 (e15+e17))).setIfInBounds ((af 1)) r24).setIfInBounds ((af 0)) (U32 (e28+e30))).toList[(af 0)]?) λe36=>
 ae (dN N (uR .u32 e34 e36) 8) λr37=>
 ae (aW 3 4) λ_=>
 ae ((((((a0.setIfInBounds ((af 0)) (U32 (e2+e4))).setIfInBounds ((af 3)) r11).setIfInBounds ((af 2)) (U32 (e15+e17))).setIfInBounds ((af 1)) r24).setIfInBounds ((af 0)) (U32 (e28+e30))).toList[(af 3)]?) λe39=>
 ae (aW 2 4) λ_=>
 ae (((((((a0.setIfInBounds ((af 0)) (U32 (e2+e4))).setIfInBounds ((af 3)) r11).setIfInBounds ((af 2)) (U32 (e15+e17))).setIfInBounds ((af 1)) r24).setIfInBounds ((af 0)) (U32 (e28+e30))).setIfInBounds ((af 3)) r37).toList[(af 2)]?) λe41=>
 ae (aW 3 4) λ_=>
 ae (((((((a0.setIfInBounds ((af 0)) (U32 (e2+e4))).setIfInBounds ((af 3)) r11).setIfInBounds ((af 2)) (U32 (e15+e17))).setIfInBounds ((af 1)) r24).setIfInBounds ((af 0)) (U32 (e28+e30))).setIfInBounds ((af 3)) r37).toList[(af 3)]?) λe43=>
 ae (aW 2 4) λ_=>
 ae (((((((a0.setIfInBounds ((af 0)) (U32 (e2+e4))).setIfInBounds ((af 3)) r11).setIfInBounds ((af 2)) (U32 (e15+e17))).setIfInBounds ((af 1)) r24).setIfInBounds ((af 0)) (U32 (e28+e30))).setIfInBounds ((af 3)) r37).toList[(af 2)]?) λe45=>
 ae (aW 1 4) λ_=>
 ae ((((((((a0.setIfInBounds ((af 0)) (U32 (e2+e4))).setIfInBounds ((af 3)) r11).setIfInBounds ((af 2)) (U32 (e15+e17))).setIfInBounds ((af 1)) r24).setIfInBounds ((af 0)) (U32 (e28+e30))).setIfInBounds ((af 3)) r37).setIfInBounds ((af 2)) (U32 (e41+e43))).toList[(af 1)]?) λe47=>
 ae (aW 2 4) λ_=>
 ae ((((((((a0.setIfInBounds ((af 0)) (U32 (e2+e4))).setIfInBounds ((af 3)) r11).setIfInBounds ((af 2)) (U32 (e15+e17))).setIfInBounds ((af 1)) r24).setIfInBounds ((af 0)) (U32 (e28+e30))).setIfInBounds ((af 3)) r37).setIfInBounds ((af 2)) (U32 (e41+e43))).toList[(af 2)]?) λe49=>
 ae (dN N (uR .u32 e47 e49) 7) λr50=>
 ae (aW 1 4) λ_=>
 ae ((((((((a0.setIfInBounds ((af 0)) (U32 (e2+e4))).setIfInBounds ((af 3)) r11).setIfInBounds ((af 2)) (U32 (e15+e17))).setIfInBounds ((af 1)) r24).setIfInBounds ((af 0)) (U32 (e28+e30))).setIfInBounds ((af 3)) r37).setIfInBounds ((af 2)) (U32 (e41+e43))).toList[(af 1)]?) λe52=>
 some ((((((((a0.setIfInBounds ((af 0)) (U32 (e2+e4))).setIfInBounds ((af 3)) r11).setIfInBounds ((af 2)) (U32 (e15+e17))).setIfInBounds ((af 1)) r24).setIfInBounds ((af 0)) (U32 (e28+e30))).setIfInBounds ((af 3)) r37).setIfInBounds ((af 2)) (U32 (e41+e43))).setIfInBounds ((af 1)) r50)
theorem aAf{N a0 r}(h:nP N a0=some r):FnM Tryz.prog 160 [] [(eA 4 1 k32 a0)] (eA 4 1 k32 r) []:=by
 unfold nP at h;refine At.f eX hT hmo Tryz.func160 rfl h ?_;refine At.b 2 (λ_ e=>aJ hT (k:=1) 0 [] 0 e) λu1=>?_;refine At.b 0 (λ_ e=>bH hT k32 0 e) λe2=>?_;refine At.b 0 (λ_ e=>aJ hT (k:=1) 0 [] 0 e) λu3=>?_;refine At.b 0 (λ_ e=>bH hT k32 0 e) λe4=>?_;refine At.b 1 (λ_ e=>aJ hT (k:=1) 0 [] 0 e) λu5=>?_;refine At.b 0 (λ_ e=>bM hT k32 0 a0 e (U32 (e2+e4)) (by kernel_rfl) (by kernel_rfl) (H':=[.var (eA 4 1 k32 (a0.setIfInBounds ((af 0)) (U32 (e2+e4)))),.var (.arr 4 1 [(k32 0),(k32 0),(k32 0),(k32 0)])])) λe6=>?_;refine At.b 0 (λ_ e=>aJ hT (k:=1) 0 [] 0 e) λu7=>?_;refine At.b 0 (λ_ e=>bH hT k32 0 e) λe8=>?_;refine At.b 0 (λ_ e=>aJ hT (k:=1) 0 [] 0 e) λu9=>?_;refine At.b 0 (λ_ e=>bH hT k32 0 e) λe10=>?_;refine At.b 1 (λ_ e=>aM [] (rT e)) λr11=>?_;refine At.b 0 (λ_ e=>aJ hT (k:=1) 0 [] 0 e) λu12=>?_;refine At.b 0 (λ_ e=>bM hT k32 0 (a0.setIfInBounds ((af 0)) (U32 (e2+e4))) e r11 (by kernel_rfl) (by kernel_rfl) (H':=[.var (eA 4 1 k32 ((a0.setIfInBounds ((af 0)) (U32 (e2+e4))).setIfInBounds ((af 3)) r11)),.var (.arr 4 1 [(k32 0),(k32 0),(k32 0),(k32 0)])])) λe13=>?_;refine At.b 0 (λ_ e=>aJ hT (k:=1) 0 [] 0 e) λu14=>?_;refine At.b 0 (λ_ e=>bH hT k32 0 e) λe15=>?_;refine At.b 0 (λ_ e=>aJ hT (k:=1) 0 [] 0 e) λu16=>?_;refine At.b 0 (λ_ e=>bH hT k32 0 e) λe17=>?_;refine At.b 1 (λ_ e=>aJ hT (k:=1) 0 [] 0 e) λu18=>?_;refine At.b 0 (λ_ e=>bM hT k32 0 ((a0.setIfInBounds ((af 0)) (U32 (e2+e4))).setIfInBounds ((af 3)) r11) e (U32 (e15+e17)) (by kernel_rfl) (by kernel_rfl) (H':=[.var (eA 4 1 k32 (((a0.setIfInBounds ((af 0)) (U32 (e2+e4))).setIfInBounds ((af 3)) r11).setIfInBounds ((af 2)) (U32 (e15+e17)))),.var (.arr 4 1 [(k32 0),(k32 0),(k32 0),(k32 0)])])) λe19=>?_;refine At.b 0 (λ_ e=>aJ hT (k:=1) 0 [] 0 e) λu20=>?_;refine At.b 0 (λ_ e=>bH hT k32 0 e) λe21=>?_;refine At.b 0 (λ_ e=>aJ hT (k:=1) 0 [] 0 e) λu22=>?_;refine At.b 0 (λ_ e=>bH hT k32 0 e) λe23=>?_;refine At.b 1 (λ_ e=>aM [] (rT e)) λr24=>?_;refine At.b 0 (λ_ e=>aJ hT (k:=1) 0 [] 0 e) λu25=>?_;refine At.b 0 (λ_ e=>bM hT k32 0 (((a0.setIfInBounds ((af 0)) (U32 (e2+e4))).setIfInBounds ((af 3)) r11).setIfInBounds ((af 2)) (U32 (e15+e17))) e r24 (by kernel_rfl) (by kernel_rfl) (H':=[.var (eA 4 1 k32 ((((a0.setIfInBounds ((af 0)) (U32 (e2+e4))).setIfInBounds ((af 3)) r11).setIfInBounds ((af 2)) (U32 (e15+e17))).setIfInBounds ((af 1)) r24)),.var (.arr 4 1 [(k32 0),(k32 0),(k32 0),(k32 0)])])) λe26=>?_;refine At.b 0 (λ_ e=>aJ hT (k:=1) 0 [] 0 e) λu27=>?_;refine At.b 0 (λ_ e=>bH hT k32 0 e) λe28=>?_;refine At.b 0 (λ_ e=>aJ hT (k:=1) 0 [] 0 e) λu29=>?_;refine At.b 0 (λ_ e=>bH hT k32 0 e) λe30=>?_;refine At.b 1 (λ_ e=>aJ hT (k:=1) 0 [] 0 e) λu31=>?_;refine At.b 0 (λ_ e=>bM hT k32 0 ((((a0.setIfInBounds ((af 0)) (U32 (e2+e4))).setIfInBounds ((af 3)) r11).setIfInBounds ((af 2)) (U32 (e15+e17))).setIfInBounds ((af 1)) r24) e (U32 (e28+e30)) (by kernel_rfl) (by kernel_rfl) (H':=[.var (eA 4 1 k32 (((((a0.setIfInBounds ((af 0)) (U32 (e2+e4))).setIfInBounds ((af 3)) r11).setIfInBounds ((af 2)) (U32 (e15+e17))).setIfInBounds ((af 1)) r24).setIfInBounds ((af 0)) (U32 (e28+e30)))),.var (.arr 4 1 [(k32 0),(k32 0),(k32 0),(k32 0)])])) λe32=>?_;refine At.b 0 (λ_ e=>aJ hT (k:=1) 0 [] 0 e) λu33=>?_;refine At.b 0 (λ_ e=>bH hT k32 0 e) λe34=>?_;refine At.b 0 (λ_ e=>aJ hT (k:=1) 0 [] 0 e) λu35=>?_;refine At.b 0 (λ_ e=>bH hT k32 0 e) λe36=>?_;refine At.b 1 (λ_ e=>aM [] (rT e)) λr37=>?_;refine At.b 0 (λ_ e=>aJ hT (k:=1) 0 [] 0 e) λu38=>?_;refine At.b 0 (λ_ e=>bM hT k32 0 (((((a0.setIfInBounds ((af 0)) (U32 (e2+e4))).setIfInBounds ((af 3)) r11).setIfInBounds ((af 2)) (U32 (e15+e17))).setIfInBounds ((af 1)) r24).setIfInBounds ((af 0)) (U32 (e28+e30))) e r37 (by kernel_rfl) (by kernel_rfl) (H':=[.var (eA 4 1 k32 ((((((a0.setIfInBounds ((af 0)) (U32 (e2+e4))).setIfInBounds ((af 3)) r11).setIfInBounds ((af 2)) (U32 (e15+e17))).setIfInBounds ((af 1)) r24).setIfInBounds ((af 0)) (U32 (e28+e30))).setIfInBounds ((af 3)) r37)),.var (.arr 4 1 [(k32 0),(k32 0),(k32 0),(k32 0)])])) λe39=>?_;refine At.b 0 (λ_ e=>aJ hT (k:=1) 0 [] 0 e) λu40=>?_;refine At.b 0 (λ_ e=>bH hT k32 0 e) λe41=>?_;refine At.b 0 (λ_ e=>aJ hT (k:=1) 0 [] 0 e) λu42=>?_;refine At.b 0 (λ_ e=>bH hT k32 0 e) λe43=>?_;refine At.b 1 (λ_ e=>aJ hT (k:=1) 0 [] 0 e) λu44=>?_;refine At.b 0 (λ_ e=>bM hT k32 0 ((((((a0.setIfInBounds ((af 0)) (U32 (e2+e4))).setIfInBounds ((af 3)) r11).setIfInBounds ((af 2)) (U32 (e15+e17))).setIfInBounds ((af 1)) r24).setIfInBounds ((af 0)) (U32 (e28+e30))).setIfInBounds ((af 3)) r37) e (U32 (e41+e43)) (by kernel_rfl) (by kernel_rfl) (H':=[.var (eA 4 1 k32 (((((((a0.setIfInBounds ((af 0)) (U32 (e2+e4))).setIfInBounds ((af 3)) r11).setIfInBounds ((af 2)) (U32 (e15+e17))).setIfInBounds ((af 1)) r24).setIfInBounds ((af 0)) (U32 (e28+e30))).setIfInBounds ((af 3)) r37).setIfInBounds ((af 2)) (U32 (e41+e43)))),.var (.arr 4 1 [(k32 0),(k32 0),(k32 0),(k32 0)])])) λe45=>?_;refine At.b 0 (λ_ e=>aJ hT (k:=1) 0 [] 0 e) λu46=>?_;refine At.b 0 (λ_ e=>bH hT k32 0 e) λe47=>?_;refine At.b 0 (λ_ e=>aJ hT (k:=1) 0 [] 0 e) λu48=>?_;refine At.b 0 (λ_ e=>bH hT k32 0 e) λe49=>?_;refine At.b 1 (λ_ e=>aM [] (rT e)) λr50=>?_;refine At.b 0 (λ_ e=>aJ hT (k:=1) 0 [] 0 e) λu51=>?_;refine At.b 0 (λ_ e=>bM hT k32 0 (((((((a0.setIfInBounds ((af 0)) (U32 (e2+e4))).setIfInBounds ((af 3)) r11).setIfInBounds ((af 2)) (U32 (e15+e17))).setIfInBounds ((af 1)) r24).setIfInBounds ((af 0)) (U32 (e28+e30))).setIfInBounds ((af 3)) r37).setIfInBounds ((af 2)) (U32 (e41+e43))) e r50 (by kernel_rfl) (by kernel_rfl) (H':=[.var (eA 4 1 k32 ((((((((a0.setIfInBounds ((af 0)) (U32 (e2+e4))).setIfInBounds ((af 3)) r11).setIfInBounds ((af 2)) (U32 (e15+e17))).setIfInBounds ((af 1)) r24).setIfInBounds ((af 0)) (U32 (e28+e30))).setIfInBounds ((af 3)) r37).setIfInBounds ((af 2)) (U32 (e41+e43))).setIfInBounds ((af 1)) r50)),.var (.arr 4 1 [(k32 0),(k32 0),(k32 0),(k32 0)])])) λe52=>?_;apply rt;exact At.r 2
def bE(N:Nat)(a0:(Vector Int 16))(a1 a2 a3 a4:Int):Option ((Vector Int 16)):=
 ae (aW a1 16) λ_=>
 ae (a0.toList[a1.toNat]?) λe2=>
 ae (aW a2 16) λ_=>
 ae (a0.toList[a2.toNat]?) λe4=>
 ae (aW a3 16) λ_=>
 ae (a0.toList[a3.toNat]?) λe6=>
 ae (aW a4 16) λ_=>
 ae (a0.toList[a4.toNat]?) λe8=>
 ae (nP N (#v[e2,e4,e6,e8])) λr9=>
 ae (aW 0 4) λ_=>
 ae (r9.toList[(af 0)]?) λe11=>
 ae (aW 1 4) λ_=>
 ae (r9.toList[(af 1)]?) λe13=>
 ae (aW 2 4) λ_=>
 ae (r9.toList[(af 2)]?) λe15=>
 ae (aW 3 4) λ_=>
 ae (r9.toList[(af 3)]?) λe17=>
 ae (aW a1 16) λ_=>
 ae (a0.toList[a1.toNat]?) λe19=>
 ae (aW a2 16) λ_=>
 ae ((a0.setIfInBounds a1.toNat e11).toList[a2.toNat]?) λe21=>
 ae (aW a3 16) λ_=>
 ae (((a0.setIfInBounds a1.toNat e11).setIfInBounds a2.toNat e13).toList[a3.toNat]?) λe23=>
 ae (aW a4 16) λ_=>
 ae ((((a0.setIfInBounds a1.toNat e11).setIfInBounds a2.toNat e13).setIfInBounds a3.toNat e15).toList[a4.toNat]?) λe25=>
 some ((((a0.setIfInBounds a1.toNat e11).setIfInBounds a2.toNat e13).setIfInBounds a3.toNat e15).setIfInBounds a4.toNat e17)
theorem vF{N a0 a1 a2 a3 a4 r}(h:bE N a0 a1 a2 a3 a4=some r):FnM Tryz.prog 147 [] [(eA 16 1 k32 a0),(j64 a1),(j64 a2),(j64 a3),(j64 a4)] (eA 16 1 k32 r) []:=by
 unfold bE at h;refine At.f eX hT hmo Tryz.func147 rfl h ?_;refine bi λu1 hu1=>?_;refine bi λe2 he2=>?_;refine bi λu3 hu3=>?_;refine bi λe4 he4=>?_;refine bi λu5 hu5=>?_;refine bi λe6 he6=>?_;refine bi λu7 hu7=>?_;refine bi λe8 he8=>?_;refine bi λr9 hr9=>?_;refine At.d 2 (dE1 1 (λ_=>aJ hT (k:=1) 0 [] 0 hu1) (dEL hT 2 (k32 e2) k32 0 he2 (dE1 4 (λ_=>aJ hT (k:=1) 0 [] 0 hu3) (dEL hT 5 (k32 e4) k32 0 he4 (dE1 7 (λ_=>aJ hT (k:=1) 0 [] 0 hu5) (dEL hT 8 (k32 e6) k32 0 he6 (dE1 10 (λ_=>aJ hT (k:=1) 0 [] 0 hu7) (dEL hT 11 (k32 e8) k32 0 he8 (dE2 13 (eA 4 1 k32 r9) (λ_=>dM (aAf hr9)) dE0))))))))) dF0 ?_;refine bi λu10 hu10=>?_;refine bi λe11 he11=>?_;refine bi λu12 hu12=>?_;refine bi λe13 he13=>?_;refine bi λu14 hu14=>?_;refine bi λe15 he15=>?_;refine bi λu16 hu16=>?_;refine bi λe17 he17=>?_;refine bi λu18 hu18=>?_;refine bi λe19 he19=>?_;refine bi λu20 hu20=>?_;refine bi λe21 he21=>?_;refine bi λu22 hu22=>?_;refine bi λe23 he23=>?_;refine bi λu24 hu24=>?_;refine bi λe25 he25=>?_;refine At.d 0 (dE1 4 (λ_=>aJ hT (k:=1) 2 [] 0 hu10) (dEL hT 5 (k32 e11) k32 0 he11 (dE1 6 (λ_=>aJ hT (k:=1) 2 [] 0 hu12) (dEL hT 7 (k32 e13) k32 0 he13 (dE1 8 (λ_=>aJ hT (k:=1) 2 [] 0 hu14) (dEL hT 9 (k32 e15) k32 0 he15 (dE1 10 (λ_=>aJ hT (k:=1) 2 [] 0 hu16) (dEL hT 11 (k32 e17) k32 0 he17 (dE1 12 (λ_=>aJ hT (k:=1) 0 [] 0 hu18) (dE1 14 (λ_=>aJ hT (k:=1) 0 [] 0 hu20) (dE1 16 (λ_=>aJ hT (k:=1) 0 [] 0 hu22) (dE1 18 (λ_=>aJ hT (k:=1) 0 [] 0 hu24) dE0)))))))))))) (dF 13 (.v (.bool false)) [(0,.var (eA 16 1 k32 (a0.setIfInBounds a1.toNat e11)))] [] (bP (bM hT k32 0 a0 he19 e11 (by kernel_rfl) (by kernel_rfl) (H':=[.var (eA 16 1 k32 (a0.setIfInBounds a1.toNat e11)),.var (eA 16 1 k32 (ah 16 0)),.var (eA 4 1 k32 r9)]))) (dF 15 (.v (.bool false)) [(0,.var (eA 16 1 k32 ((a0.setIfInBounds a1.toNat e11).setIfInBounds a2.toNat e13)))] [] (bP (bM hT k32 0 (a0.setIfInBounds a1.toNat e11) he21 e13 (by kernel_rfl) (by kernel_rfl) (H':=[.var (eA 16 1 k32 ((a0.setIfInBounds a1.toNat e11).setIfInBounds a2.toNat e13)),.var (eA 16 1 k32 (ah 16 0)),.var (eA 4 1 k32 r9)]))) (dF 17 (.v (.bool false)) [(0,.var (eA 16 1 k32 (((a0.setIfInBounds a1.toNat e11).setIfInBounds a2.toNat e13).setIfInBounds a3.toNat e15)))] [] (bP (bM hT k32 0 ((a0.setIfInBounds a1.toNat e11).setIfInBounds a2.toNat e13) he23 e15 (by kernel_rfl) (by kernel_rfl) (H':=[.var (eA 16 1 k32 (((a0.setIfInBounds a1.toNat e11).setIfInBounds a2.toNat e13).setIfInBounds a3.toNat e15)),.var (eA 16 1 k32 (ah 16 0)),.var (eA 4 1 k32 r9)]))) (dF 19 (.v (.bool false)) [(0,.var (eA 16 1 k32 ((((a0.setIfInBounds a1.toNat e11).setIfInBounds a2.toNat e13).setIfInBounds a3.toNat e15).setIfInBounds a4.toNat e17)))] [] (bP (bM hT k32 0 (((a0.setIfInBounds a1.toNat e11).setIfInBounds a2.toNat e13).setIfInBounds a3.toNat e15) he25 e17 (by kernel_rfl) (by kernel_rfl) (H':=[.var (eA 16 1 k32 ((((a0.setIfInBounds a1.toNat e11).setIfInBounds a2.toNat e13).setIfInBounds a3.toNat e15).setIfInBounds a4.toNat e17)),.var (eA 16 1 k32 (ah 16 0)),.var (eA 4 1 k32 r9)]))) dF0)))) ?_;apply rt;exact At.r 2
def aCA : Nat->Bool:=imL [3,5]
def bJ(N:Nat)  : Nat->(Vector Int 16)->Int->Option ((Vector Int 16))
 | 0,_,_=>none
 | k+1,s6,s7=>
  cond (decide (s7 < 4)) (
   ae (bE N s6 s7 (I64 (4+s7)) (I64 (8+s7)) (I64 (12+s7))) λr8=>
   bJ N k r8 (I64 (s7+1))) (
   some s6)
def bK(N:Nat)  : Nat->(Vector Int 16)->Int->Option ((Vector Int 16))
 | 0,_,_=>none
 | k+1,s10,s11=>
  cond (decide (s11 < 4)) (
   aT (cu (I64 (s11+1)) 4) λx12=>
   aT (cu (I64 (s11+2)) 4) λx13=>
   aT (cu (I64 (s11+3)) 4) λx14=>
   ae (bE N s10 s11 (I64 (4+x12)) (I64 (8+x13)) (I64 (12+x14))) λr15=>
   bK N k r15 (I64 (s11+1))) (
   some s10)
def mZ(N:Nat)  : Nat->(Vector Int 16)->Int->Option ((Vector Int 16))
 | 0,_,_=>none
 | k+1,s3,s4=>
  cond (decide (s4 < 10)) (
   ae (bJ N N s3 0) λp5=>
   ae (bK N N p5 0) λp9=>
   mZ N k p9 (I64 (s4+1))) (
   some s3)
def iM(N:Nat)(p2 r16:(Vector Int 16)):Nat->(Vector Int 64)->Int->Option ((Vector Int 64))
 | 0,_,_=>none
 | k+1,s18,s19=>
  cond (decide (s19 < 64)) (
   ae (aW (I64 (du s19 4)) 16) λ_=>
   ae (p2.toList[(I64 (du s19 4)).toNat]?) λe21=>
   ae (aW (I64 (du s19 4)) 16) λ_=>
   ae (r16.toList[(I64 (du s19 4)).toNat]?) λe23=>
   aT (I64 (8*(cu s19 4))) λx24=>
   ae (zX .u32 (U32 (e21+e23)) x24) λx25=>
   ae (aW s19 64) λ_=>
   ae (s18.toList[s19.toNat]?) λe27=>
   iM N p2 r16 k (s18.setIfInBounds s19.toNat (U8 x25)) (I64 (s19+1))) (
   some s18)
def nG(N:Nat)(a0:(Vector Int 32))(a1:Int)(a2:(Vector Int 12)):Option ((Vector Int 64)):=
 ae (nE N a0 a1 a2) λr1=>
 ae (mZ N N r1 0) λp2=>
 ae (nE N a0 a1 a2) λr16=>
 ae (iM N p2 r16 N (ah 64 0) 0) λp17=>
 some p17
theorem wQ{N a0 a1 a2 r}(h:nG N a0 a1 a2=some r):FnM Tryz.prog 128 [] [(eA 32 1 k8 a0),(k32 a1),(eA 12 1 k8 a2)] (eA 64 1 k8 r) []:=by
 unfold nG at h;refine At.f aCA hT hmo Tryz.func128 rfl h ?_;refine At.b 6 (λ_ e=>aM [] (wP e)) λr1=>?_;refine At.L 3 [1,3,5,6,7] 2 (λp2=>([],[(1,.var (eA 16 1 k32 p2))],[])) (λp2 J k=>∃s3 s4,mZ N k s3 s4=some p2/\J [1,3,5,6,7] 2 [(8,(j64 s4))] [(1,.var (eA 16 1 k32 s3))] []) N (λ_ h=>⟨_,_,h,jr⟩) (λp2 k s hI=>?_) λp2=>?_
 ·obtain⟨s3,s4,h,hj⟩:=hI;cases k with
  | zero=>cases h
  | succ k=>
   refine At.jr hj ?_ h;refine At.c 2 ?_ ?_
   ·refine At.L 1 [1,3,5,6,7,8] 2 (λp5=>([],[(1,.var (eA 16 1 k32 p5))],[])) (λp5 J k=>∃s6 s7,bJ N k s6 s7=some p5/\J [1,3,5,6,7,8] 2 [(9,(j64 s7))] [(1,.var (eA 16 1 k32 s6))] []) N (λ_ h=>⟨_,_,h,jr⟩) (λp5 k s hI=>?_) λp5=>?_
    ·obtain⟨s6,s7,h,hj⟩:=hI;cases k with
     | zero=>cases h
     | succ k=>
      refine At.jr hj ?_ h;refine At.c 2 ?_ ?_
      ·refine At.b 8 (λ_ e=>aM [] (vF e)) λr8=>?_;exact λh=>At.k 4 ⟨_,_,h,jr⟩
      ·apply rt;exact At.x 0
    ·refine At.L 1 [1,3,5,6,7,8] 2 (λp9=>([],[(1,.var (eA 16 1 k32 p9))],[])) (λp9 J k=>∃s10 s11,bK N k s10 s11=some p9/\J [1,3,5,6,7,8] 2 [(10,(j64 s11))] [(1,.var (eA 16 1 k32 s10))] []) N (λ_ h=>⟨_,_,h,jr⟩) (λp9 k s hI=>?_) λp9=>?_
     ·obtain⟨s10,s11,h,hj⟩:=hI;cases k with
      | zero=>cases h
      | succ k=>
       refine At.jr hj ?_ h;refine At.c 2 ?_ ?_
       ·refine lx ?_;intro x12;refine lx ?_;intro x13;refine lx ?_;intro x14;refine At.b 14 (λ_ e=>aM [] (vF e)) λr15=>?_;exact λh=>At.k 4 ⟨_,_,h,jr⟩
       ·apply rt;exact At.x 0
     ·exact λh=>At.k 3 ⟨_,_,h,jr⟩
   ·apply rt;exact At.x 0
 ·refine At.b 3 (λ_ e=>aM [] (wP e)) λr16=>?_;refine At.L 4 [6,12] 4 (λp17=>([],[(3,.var (eA 64 1 k8 p17))],[])) (λp17 J k=>∃s18 s19,iM N p2 r16 k s18 s19=some p17/\J [6,7,11,12] 4 [(13,(j64 s19))] [(3,.var (eA 64 1 k8 s18))] []) N (λ_ h=>⟨_,_,h,jr⟩) (λp17 k s hI=>?_) λp17=>?_
  ·obtain⟨s18,s19,h,hj⟩:=hI;cases k with
   | zero=>cases h
   | succ k=>
    refine At.jr hj ?_ h;refine At.c 2 ?_ ?_
    ·refine bi λu20 hu20=>?_;refine bi λe21 he21=>?_;refine bi λu22 hu22=>?_;refine bi λe23 he23=>?_;refine lx ?_;intro x24;refine bi λx25 hx25=>?_;refine bi λu26 hu26=>?_;refine bi λe27 he27=>?_;refine At.d 0 (dE1 3 (λ_=>aJ hT (k:=1) 1 [] 0 hu20) (dEL hT 4 (k32 e21) k32 0 he21 (dE1 7 (λ_=>aJ hT (k:=1) 2 [] 0 hu22) (dEL hT 8 (k32 e23) k32 0 he23 (dE1 13 (λ_=>rE hT (k' := .i64) hx25 (by kernel_rfl) (by kernel_rfl)) (dE1 15 (λ_=>aJ hT (k:=1) 3 [] 0 hu26) dE0)))))) (dF 16 (.v (.bool false)) [(3,.var (eA 64 1 k8 (s18.setIfInBounds s19.toNat (U8 x25))))] [] (bP (bM hT k8 0 s18 he27 (U8 x25) (by kernel_rfl) (by kernel_rfl) (H':=[.var (eA 64 1 k8 (ah 64 0)),.var (eA 16 1 k32 p2),.var (eA 16 1 k32 r16),.var (eA 64 1 k8 (s18.setIfInBounds s19.toNat (U8 x25)))]))) dF0) ?_;exact λh=>At.k 3 ⟨_,_,h,jr⟩
    ·apply rt;exact At.x 0
  ·apply rt;exact At.r 2
def aDo : Nat->Bool:=imL [2,3]
def kE(N:Nat)(r1:(Vector Int 64)):Nat->(Vector Int 32)->Int->Option ((Vector Int 32))
 | 0,_,_=>none
 | k+1,s3,s4=>
  cond (decide (s4 < 32)) (
   ae (aW s4 64) λ_=>
   ae (r1.toList[s4.toNat]?) λe6=>
   ae (aW s4 32) λ_=>
   ae (s3.toList[s4.toNat]?) λe8=>
   kE N r1 k (s3.setIfInBounds s4.toNat e6) (I64 (s4+1))) (
   some s3)
def rI(N:Nat)(a0:(Vector Int 32))(a1:(Vector Int 12)):Option ((Vector Int 32)):=
 ae (nG N a0 0 a1) λr1=>
 ae (kE N r1 N (ah 32 0) 0) λp2=>
 some p2
theorem aDU{N a0 a1 r}(h:rI N a0 a1=some r):FnM Tryz.prog 102 [] [(eA 32 1 k8 a0),(eA 12 1 k8 a1)] (eA 32 1 k8 r) []:=by
 unfold rI at h;refine At.f aDo hT hmo Tryz.func102 rfl h ?_;refine At.b 5 (λ_ e=>aM [] (wQ e)) λr1=>?_;refine At.L 4 [4,6] 3 (λp2=>([],[(2,.var (eA 32 1 k8 p2))],[])) (λp2 J k=>∃s3 s4,kE N r1 k s3 s4=some p2/\J [4,5,6] 3 [(7,(j64 s4))] [(2,.var (eA 32 1 k8 s3))] []) N (λ_ h=>⟨_,_,h,jr⟩) (λp2 k s hI=>?_) λp2=>?_
 ·obtain⟨s3,s4,h,hj⟩:=hI;cases k with
  | zero=>cases h
  | succ k=>
   refine At.jr hj ?_ h;refine At.c 2 ?_ ?_
   ·refine At.b 2 (λ_ e=>aJ hT (k:=1) 1 [] 0 e) λu5=>?_;refine At.b 0 (λ_ e=>bH hT k8 0 e) λe6=>?_;refine At.b 0 (λ_ e=>aJ hT (k:=1) 2 [] 0 e) λu7=>?_;refine At.b 0 (λ_ e=>bM hT k8 0 s3 e e6 (by kernel_rfl) (by kernel_rfl) (H':=[.var (eA 32 1 k8 (ah 32 0)),.var (eA 64 1 k8 r1),.var (eA 32 1 k8 (s3.setIfInBounds s4.toNat e6))])) λe8=>?_;exact λh=>At.k 3 ⟨_,_,h,jr⟩
   ·apply rt;exact At.x 0
 ·apply rt;exact At.r 2
def kH(N:Nat)  : Nat->(Vector Int 16)->Int->Option ((Vector Int 16))
 | 0,_,_=>none
 | k+1,s2,s3=>
  cond (decide (s3 < 16)) (
   ae (ae (cond ((cu s3 4)==3) (
    ae (aW s3 16) λ_=>
    ae (s2.toList[s3.toNat]?) λe7=>
    ae (aW s3 16) λ_=>
    ae (s2.toList[s3.toNat]?) λe9=>
    some (s2.setIfInBounds s3.toNat (cu e7 16))) (
    some s2)) λp5=>
   aT (cond ((cu s3 4)==0) (decide (s3 > 0)) false) λx10=>
   cond x10 (
    ae (aW s3 16) λ_=>
    ae (p5.toList[s3.toNat]?) λe12=>
    aT (U8 ((U8 (du e12 4))*4)) λx13=>
    ae (aW s3 16) λ_=>
    ae (p5.toList[s3.toNat]?) λe15=>
    some (p5.setIfInBounds s3.toNat x13)) (
    some p5)) λp4=>
   kH N k p4 (I64 (s3+1))) (
   some s2)
def jB(N:Nat)(a0:(Vector Int 16)):Option ((Vector Int 16)):=
 ae (kH N N a0 0) λp1=>
 some p1
theorem aBf{N a0 r}(h:jB N a0=some r):FnM Tryz.prog 122 [] [(eA 16 1 k8 a0)] (eA 16 1 k8 r) []:=by
 unfold jB at h;refine At.f eX hT hmo Tryz.func122 rfl h ?_;refine At.L 3 [1,2] 2 (λp1=>([],[(0,.var (eA 16 1 k8 p1))],[])) (λp1 J k=>∃s2 s3,kH N k s2 s3=some p1/\J [1,2] 2 [(3,(j64 s3))] [(0,.var (eA 16 1 k8 s2))] []) N (λ_ h=>⟨_,_,h,jr⟩) (λp1 k s hI=>?_) λp1=>?_
 ·obtain⟨s2,s3,h,hj⟩:=hI;cases k with
  | zero=>cases h
  | succ k=>
   refine At.jr hj ?_ h;refine At.c 2 ?_ ?_
   ·refine At.J 0 3 [1,2,3] 2 (λp4=>([],[(0,.var (eA 16 1 k8 p4))],[])) (λp4=>?_) λp4=>?_
    ·refine At.J 0 1 [1,2,3] 2 (λp5=>([],[(0,.var (eA 16 1 k8 p5))],[])) (λp5=>?_) λp5=>?_
     ·refine At.c 3 ?_ ?_
      ·refine At.b 2 (λ_ e=>aJ hT (k:=1) 0 [] 0 e) λu6=>?_;refine At.b 0 (λ_ e=>bH hT k8 0 e) λe7=>?_;refine At.b 1 (λ_ e=>aJ hT (k:=1) 0 [] 0 e) λu8=>?_;refine At.b 0 (λ_ e=>bM hT k8 0 s2 e (cu e7 16) (by kernel_rfl) (by kernel_rfl) (H':=[.var (eA 16 1 k8 (s2.setIfInBounds s3.toNat (cu e7 16))),.var (eA 16 1 k8 (ah 16 0))])) λe9=>?_;apply rt;exact At.jn 0
      ·apply rt;exact At.jn 0
     ·refine lx ?_;intro x10;refine At.c 7 ?_ ?_
      ·refine At.b 2 (λ_ e=>aJ hT (k:=1) 0 [] 0 e) λu11=>?_;refine At.b 0 (λ_ e=>bH hT k8 0 e) λe12=>?_;refine lx ?_;intro x13;refine At.b 2 (λ_ e=>aJ hT (k:=1) 0 [] 0 e) λu14=>?_;refine At.b 0 (λ_ e=>bM hT k8 0 p5 e x13 (by kernel_rfl) (by kernel_rfl) (H':=[.var (eA 16 1 k8 (p5.setIfInBounds s3.toNat x13)),.var (eA 16 1 k8 (ah 16 0))])) λe15=>?_;apply rt;exact At.jn 0
      ·apply rt;exact At.jn 0
    ·exact λh=>At.k 3 ⟨_,_,h,jr⟩
   ·apply rt;exact At.x 0
 ·apply rt;exact At.r 2
def aBc : Nat->Bool:=imL [1]
def jQ(N:Nat)(a0:(Vector Int 17)):Nat->(Vector Int 5)->Int->Option ((Vector Int 5))
 | 0,_,_=>none
 | k+1,s2,s3=>
  cond (decide (s3 < 136)) (
   ae (ae (idx a0.toList (I64 (du s3 8))) λe5=>
   ae (zX .u8 e5 (cu s3 8)) λx6=>
   aT (cond ((dV .u8 x6 1)==1) (decide (s3 < 130)) false) λx7=>
   cond x7 (
    ae (aW (I64 (du s3 26)) 5) λ_=>
    ae (s2.toList[(I64 (du s3 26)).toNat]?) λe9=>
    ae (aEx .i64 1 (cu s3 26)) λx10=>
    ae (aW (I64 (du s3 26)) 5) λ_=>
    ae (s2.toList[(I64 (du s3 26)).toNat]?) λe12=>
    some (s2.setIfInBounds ((I64 (du s3 26)).toNat) (I64 (e9+x10)))) (
    some s2)) λp4=>
   jQ N a0 k p4 (I64 (s3+1))) (
   some s2)
def jZ(N:Nat)(a0:(Vector Int 17)):Option ((Vector Int 5)):=
 ae (jQ N a0 N (ah 5 0) 0) λp1=>
 some p1
theorem wA{N a0 r}(h:jZ N a0=some r):FnM Tryz.prog 123 [] [(eA 17 1 k8 a0)] (eA 5 1 j64 r) []:=by
 unfold jZ at h;refine At.f aBc hT hmo Tryz.func123 rfl h ?_;refine At.L 4 [2,3] 2 (λp1=>([],[(1,.var (eA 5 1 j64 p1))],[])) (λp1 J k=>∃s2 s3,jQ N a0 k s2 s3=some p1/\J [1,2,3] 2 [(4,(j64 s3))] [(1,.var (eA 5 1 j64 s2))] []) N (λ_ h=>⟨_,_,h,jr⟩) (λp1 k s hI=>?_) λp1=>?_
 ·obtain⟨s2,s3,h,hj⟩:=hI;cases k with
  | zero=>cases h
  | succ k=>
   refine At.jr hj ?_ h;refine At.c 2 ?_ ?_
   ·refine At.J 0 2 [1,2,3,4] 2 (λp4=>([],[(1,.var (eA 5 1 j64 p4))],[])) (λp4=>?_) λp4=>?_
    ·refine At.b 2 (λ_ e=>bW hT (N:=17) (k:=1) k8 a0 e) λe5=>?_;refine At.b 3 (λ_ e=>rE hT (k' := .i64) e (by kernel_rfl) (by kernel_rfl)) λx6=>?_;refine lx ?_;intro x7;refine At.c 6 ?_ ?_
     ·refine bi λu8 hu8=>?_;refine bi λe9 he9=>?_;refine bi λx10 hx10=>?_;refine bi λu11 hu11=>?_;refine bi λe12 he12=>?_;refine At.d 0 (dE1 4 (λ_=>aJ hT (k:=1) 1 [] 0 hu8) (dEL hT 5 (j64 e9) j64 0 he9 (dE1 8 (λ_=>xC hT (k' := .i64) hx10 (by kernel_rfl) (by kernel_rfl)) (dE1 10 (λ_=>aJ hT (k:=1) 1 [] 0 hu11) dE0)))) (dF 11 (.v (.bool false)) [(1,.var (eA 5 1 j64 (s2.setIfInBounds ((I64 (du s3 26)).toNat) (I64 (e9+x10)))))] [] (bP (bM hT j64 0 s2 he12 (I64 (e9+x10)) (by kernel_rfl) (by kernel_rfl) (H':=[.var (eA 5 1 j64 (ah 5 0)),.var (eA 5 1 j64 (s2.setIfInBounds ((I64 (du s3 26)).toNat) (I64 (e9+x10))))]))) dF0) ?_;apply rt;exact At.jn 0
     ·apply rt;exact At.jn 0
    ·exact λh=>At.k 3 ⟨_,_,h,jr⟩
   ·apply rt;exact At.x 0
 ·apply rt;exact At.r 2
def tC(N:Nat)(a0:(List Int)):Option ((List Int)):=
 aT (decide (((a0.length:Int)) > 65536)) λx1=>
 cond x1 (
  ae (eD a0 0 65536) λs2=>
  some s2) (
  some a0)
theorem aC4{N a0 r}(h:tC N a0=some r):FnM Tryz.prog 145 [] [(eL 1 k8 a0)] (eL 1 k8 r) []:=by
 unfold tC at h;refine At.f eX hT hmo Tryz.func145 rfl h ?_;refine lx ?_;intro x1;refine At.c 4 ?_ ?_
 ·refine At.b 1 (λ_ e=>iQ hT (k:=1) k8 e) λs2=>?_;apply rt;exact At.r 1
 ·apply rt;exact At.r 2
def fS(N:Nat)(s4:Int)(r1:(List Int)):Nat->(Vector Int 17)->Int->Option ((Vector Int 17)×Int)
 | 0,_,_=>none
 | k+1,s7,s8=>
  aT (decide ((I64 (s4+s8)) < ((r1.length:Int)))) λx9=>
  aT (cond (decide (s8 < 16)) x9 false) λx10=>
  cond x10 (
   ae (idx r1 (I64 (s4+s8))) λe11=>
   ae (aW s8 17) λ_=>
   ae (s7.toList[s8.toNat]?) λe13=>
   fS N s4 r1 k (s7.setIfInBounds s8.toNat e11) (I64 (s8+1))) (
   some ((s7,s8)))
def jT(N:Nat)(r1:(List Int)):Nat->(List (Vector Int 17))->Int->Option ((List (Vector Int 17)))
 | 0,_,_=>none
 | k+1,s3,s4=>
  aT (decide (s4 < ((r1.length:Int)))) λx5=>
  cond x5 (
   ae (fS N s4 r1 N (ah 17 0) 0) λp6=>
   ae (aW p6.2 17) λ_=>
   ae (p6.1.toList[p6.2.toNat]?) λe15=>
   ae (nR 17 s3 (([p6.1.setIfInBounds p6.2.toNat 1]:List (Vector Int 17)))) λz16=>
   jT N r1 k z16 (I64 (s4+16))) (
   some s3)
def oK(N:Nat)(a0:(List Int)):Option ((List (Vector Int 17))):=
 ae (tC N a0) λr1=>
 ae (jT N r1 N [] 0) λp2=>
 some p2
theorem aA1{N a0 r}(h:oK N a0=some r):FnM Tryz.prog 124 [] [(eL 1 k8 a0)] (eL 17 (eA 17 1 k8) r) []:=by
 unfold oK at h;refine At.f eX hT hmo Tryz.func124 rfl h ?_;refine At.b 2 (λ_ e=>aM [] (aC4 e)) λr1=>?_;refine At.ownn 3 3 17 ?_;refine At.L 0 [] 1 (λp2=>([(3,(eO 0 17 (eA 17 1 k8) p2))],[(0,.tail (p2.length*17))],[])) (λp2 J k=>∃s3 s4,jT N r1 k s3 s4=some p2/\J [0] 1 [(3,(eO 0 17 (eA 17 1 k8) s3)),(4,(j64 s4))] [(0,.tail (s3.length*17))] []) N (λ_ h=>⟨_,_,h,jr⟩) (λp2 k s hI=>?_) λp2=>?_
 ·obtain⟨s3,s4,h,hj⟩:=hI;cases k with
  | zero=>cases h
  | succ k=>
   refine At.jr hj ?_ h;refine lx ?_;intro x5;refine At.c 4 ?_ ?_
   ·refine At.L 2 [0,3,4,5] 2 (λp6=>([(6,(j64 p6.2))],[(1,.var (eA 17 1 k8 p6.1))],[])) (λp6 J k=>∃s7 s8,fS N s4 r1 k s7 s8=some p6/\J [0,3,4,5] 2 [(6,(j64 s8))] [(1,.var (eA 17 1 k8 s7))] []) N (λ_ h=>⟨_,_,h,jr⟩) (λp6 k s hI=>?_) λp6=>?_
    ·obtain⟨s7,s8,h,hj⟩:=hI;cases k with
     | zero=>cases h
     | succ k=>
      refine At.jr hj ?_ h;refine lx ?_;intro x9;refine lx ?_;intro x10;refine At.c 10 ?_ ?_
      ·refine At.b 5 (λ_ e=>bB hT k8 e) λe11=>?_;refine At.b 1 (λ_ e=>aJ hT (k:=1) 1 [] 0 e) λu12=>?_;refine At.b 0 (λ_ e=>bM hT k8 0 s7 e e11 (by kernel_rfl) (by kernel_rfl) (H':=[.tail (s3.length*17),.var (eA 17 1 k8 (s7.setIfInBounds s8.toNat e11))])) λe13=>?_;exact λh=>At.k 3 ⟨_,_,h,jr⟩
      ·apply rt;exact At.x 0
    ·refine At.b 1 (λ_ e=>aJ hT (k:=1) 1 [] 0 e) λu14=>?_;refine At.b 0 (λ_ e=>bM hT k8 0 p6.1 e 1 (by kernel_rfl) (by kernel_rfl) (H':=[.tail (s3.length*17),.var (eA 17 1 k8 (p6.1.setIfInBounds p6.2.toNat 1))])) λe15=>?_;refine At.o 2 (bU hT (x:=(.sl 17 1 [(eA 17 1 k8 (p6.1.setIfInBounds p6.2.toNat 1))]))) ?_;refine At.b 0 (λ_ e=>dE hT (eA 17 1 k8) (id:=0) (k:=17) e) λz16=>?_;exact λh=>At.k 4 ⟨_,_,h,jr⟩
   ·apply rt;exact At.x 0
 ·apply rt;exact At.r 2
def cD(N:Nat)  : Nat->(Vector Int 5)->Int->Option ((Vector Int 5))
 | 0,_,_=>none
 | k+1,s5,s6=>
  cond (decide (s6 < 5)) (
   ae (ae (aW s6 5) λ_=>
   ae (s5.toList[s6.toNat]?) λe9=>
   ae (aW s6 5) λ_=>
   ae (s5.toList[s6.toNat]?) λe11=>
   aT (shl .i64 (shr .i64 e9 26) 26) λx12=>
   ae (aW s6 5) λ_=>
   ae (s5.toList[s6.toNat]?) λe14=>
   cond (decide (s6 < 4)) (
    ae (aW (I64 (s6+1)) 5) λ_=>
    ae ((s5.setIfInBounds s6.toNat (I64 (e11 - x12))).toList[(I64 (s6+1)).toNat]?) λe16=>
    aT (I64 (e16+(shr .i64 e9 26))) λx17=>
    ae (aW (I64 (s6+1)) 5) λ_=>
    ae ((s5.setIfInBounds s6.toNat (I64 (e11 - x12))).toList[(I64 (s6+1)).toNat]?) λe19=>
    some ((s5.setIfInBounds s6.toNat (I64 (e11 - x12))).setIfInBounds ((I64 (s6+1)).toNat) x17)) (
    ae (aW 0 5) λ_=>
    ae ((s5.setIfInBounds s6.toNat (I64 (e11 - x12))).toList[(af 0)]?) λe21=>
    aT (I64 (5*(shr .i64 e9 26))) λx22=>
    ae (aW 0 5) λ_=>
    ae ((s5.setIfInBounds s6.toNat (I64 (e11 - x12))).toList[(af 0)]?) λe24=>
    some ((s5.setIfInBounds s6.toNat (I64 (e11 - x12))).setIfInBounds ((af 0)) (I64 (e21+x22))))) λp7=>
   cD N k p7 (I64 (s6+1))) (
   some s5)
def eZ(N:Nat)  : Nat->(Vector Int 5)->Int->Option ((Vector Int 5))
 | 0,_,_=>none
 | k+1,s2,s3=>
  cond (decide (s3 < 3)) (
   ae (cD N N s2 0) λp4=>
   eZ N k p4 (I64 (s3+1))) (
   some s2)
def lQ(N:Nat)(a0:(Vector Int 5)):Option ((Vector Int 5)):=
 ae (eZ N N a0 0) λp1=>
 some p1
theorem vE{N a0 r}(h:lQ N a0=some r):FnM Tryz.prog 126 [] [(eA 5 1 j64 a0)] (eA 5 1 j64 r) []:=by
 unfold lQ at h;refine At.f eX hT hmo Tryz.func126 rfl h ?_;refine At.L 3 [1,2] 2 (λp1=>([],[(0,.var (eA 5 1 j64 p1))],[])) (λp1 J k=>∃s2 s3,eZ N k s2 s3=some p1/\J [1,2] 2 [(3,(j64 s3))] [(0,.var (eA 5 1 j64 s2))] []) N (λ_ h=>⟨_,_,h,jr⟩) (λp1 k s hI=>?_) λp1=>?_
 ·obtain⟨s2,s3,h,hj⟩:=hI;cases k with
  | zero=>cases h
  | succ k=>
   refine At.jr hj ?_ h;refine At.c 2 ?_ ?_
   ·refine At.L 1 [1,2,3] 2 (λp4=>([],[(0,.var (eA 5 1 j64 p4))],[])) (λp4 J k=>∃s5 s6,cD N k s5 s6=some p4/\J [1,2,3] 2 [(4,(j64 s6))] [(0,.var (eA 5 1 j64 s5))] []) N (λ_ h=>⟨_,_,h,jr⟩) (λp4 k s hI=>?_) λp4=>?_
    ·obtain⟨s5,s6,h,hj⟩:=hI;cases k with
     | zero=>cases h
     | succ k=>
      refine At.jr hj ?_ h;refine At.c 2 ?_ ?_
      ·refine At.J 0 2 [1,2,3,4] 2 (λp7=>([],[(0,.var (eA 5 1 j64 p7))],[])) (λp7=>?_) λp7=>?_
       ·refine At.b 1 (λ_ e=>aJ hT (k:=1) 0 [] 0 e) λu8=>?_;refine At.b 0 (λ_ e=>bH hT j64 0 e) λe9=>?_;refine At.b 4 (λ_ e=>aJ hT (k:=1) 0 [] 0 e) λu10=>?_;refine At.b 0 (λ_ e=>bH hT j64 0 e) λe11=>?_;refine lx ?_;intro x12;refine At.b 3 (λ_ e=>aJ hT (k:=1) 0 [] 0 e) λu13=>?_;refine At.b 0 (λ_ e=>bM hT j64 0 s5 e (I64 (e11 - x12)) (by kernel_rfl) (by kernel_rfl) (H':=[.var (eA 5 1 j64 (s5.setIfInBounds s6.toNat (I64 (e11 - x12)))),.var (eA 5 1 j64 (ah 5 0))])) λe14=>?_;refine At.c 2 ?_ ?_
        ·refine At.b 4 (λ_ e=>aJ hT (k:=1) 0 [] 0 e) λu15=>?_;refine At.b 0 (λ_ e=>bH hT j64 0 e) λe16=>?_;refine lx ?_;intro x17;refine At.b 2 (λ_ e=>aJ hT (k:=1) 0 [] 0 e) λu18=>?_;refine At.b 0 (λ_ e=>bM hT j64 0 (s5.setIfInBounds s6.toNat (I64 (e11 - x12))) e x17 (by kernel_rfl) (by kernel_rfl) (H':=[.var (eA 5 1 j64 ((s5.setIfInBounds s6.toNat (I64 (e11 - x12))).setIfInBounds ((I64 (s6+1)).toNat) x17)),.var (eA 5 1 j64 (ah 5 0))])) λe19=>?_;apply rt;exact At.jn 0
        ·refine At.b 0 (λ_ e=>aJ hT (k:=1) 0 [] 0 e) λu20=>?_;refine At.b 0 (λ_ e=>bH hT j64 0 e) λe21=>?_;refine lx ?_;intro x22;refine At.b 3 (λ_ e=>aJ hT (k:=1) 0 [] 0 e) λu23=>?_;refine At.b 0 (λ_ e=>bM hT j64 0 (s5.setIfInBounds s6.toNat (I64 (e11 - x12))) e (I64 (e21+x22)) (by kernel_rfl) (by kernel_rfl) (H':=[.var (eA 5 1 j64 ((s5.setIfInBounds s6.toNat (I64 (e11 - x12))).setIfInBounds ((af 0)) (I64 (e21+x22)))),.var (eA 5 1 j64 (ah 5 0))])) λe24=>?_;apply rt;exact At.jn 0
       ·exact λh=>At.k 3 ⟨_,_,h,jr⟩
      ·apply rt;exact At.x 0
    ·exact λh=>At.k 3 ⟨_,_,h,jr⟩
   ·apply rt;exact At.x 0
 ·apply rt;exact At.r 2
def aB3 : Nat->Bool:=imL [2,3]
def aO(N:Nat)(a0:(Vector Int 5))(s3:Int)(a1:(Vector Int 5)):Nat->(Vector Int 5)->Int->Option ((Vector Int 5))
 | 0,_,_=>none
 | k+1,s5,s6=>
  cond (decide (s6 < 5)) (
   ae (idx a0.toList s3) λe7=>
   ae (idx a1.toList s6) λe8=>
   ae (aT (decide ((I64 (s3+s6))>=5)) λx10=>
   cond x10 (
    aT (I64 (5*(I64 (e7*e8)))) λx11=>
    some x11) (
    some (I64 (e7*e8)))) λp9=>
   aT (cu (I64 (s3+s6)) 5) λx12=>
   aT (cu (I64 (s3+s6)) 5) λx13=>
   ae (aW x13 5) λ_=>
   ae (s5.toList[x13.toNat]?) λe15=>
   ae (aW x12 5) λ_=>
   ae (s5.toList[x12.toNat]?) λe17=>
   aO N a0 s3 a1 k (s5.setIfInBounds x12.toNat (I64 (e15+p9))) (I64 (s6+1))) (
   some s5)
def cY(N:Nat)(a0 a1:(Vector Int 5)):Nat->(Vector Int 5)->Int->Option ((Vector Int 5))
 | 0,_,_=>none
 | k+1,s2,s3=>
  cond (decide (s3 < 5)) (
   ae (aO N a0 s3 a1 N s2 0) λp4=>
   cY N a0 a1 k p4 (I64 (s3+1))) (
   some s2)
def pQ(N:Nat)(a0 a1:(Vector Int 5)):Option ((Vector Int 5)):=
 ae (cY N a0 a1 N (ah 5 0) 0) λp1=>
 ae (lQ N p1) λr18=>
 some r18
theorem aBW{N a0 a1 r}(h:pQ N a0 a1=some r):FnM Tryz.prog 125 [] [(eA 5 1 j64 a0),(eA 5 1 j64 a1)] (eA 5 1 j64 r) []:=by
 unfold pQ at h;refine At.f aB3 hT hmo Tryz.func125 rfl h ?_;refine At.L 5 [4,5] 2 (λp1=>([],[(1,.var (eA 5 1 j64 p1))],[])) (λp1 J k=>∃s2 s3,cY N a0 a1 k s2 s3=some p1/\J [2,3,4,5] 2 [(6,(j64 s3))] [(1,.var (eA 5 1 j64 s2))] []) N (λ_ h=>⟨_,_,h,jr⟩) (λp1 k s hI=>?_) λp1=>?_
 ·obtain⟨s2,s3,h,hj⟩:=hI;cases k with
  | zero=>cases h
  | succ k=>
   refine At.jr hj ?_ h;refine At.c 2 ?_ ?_
   ·refine At.L 1 [2,3,4,5,6] 2 (λp4=>([],[(1,.var (eA 5 1 j64 p4))],[])) (λp4 J k=>∃s5 s6,aO N a0 s3 a1 k s5 s6=some p4/\J [2,3,4,5,6] 2 [(7,(j64 s6))] [(1,.var (eA 5 1 j64 s5))] []) N (λ_ h=>⟨_,_,h,jr⟩) (λp4 k s hI=>?_) λp4=>?_
    ·obtain⟨s5,s6,h,hj⟩:=hI;cases k with
     | zero=>cases h
     | succ k=>
      refine At.jr hj ?_ h;refine At.c 2 ?_ ?_
      ·refine bi λe7 he7=>?_;refine bi λe8 he8=>?_;refine At.d 0 (dE1 1 (λ_=>bW hT (N:=5) (k:=1) j64 a0 he7) (dE1 4 (λ_=>bW hT (N:=5) (k:=1) j64 a1 he8) dE0)) dF0 ?_;refine At.J 0 1 [2,3,4,5,6,7] 2 (λp9=>([(8,(j64 p9))],[],[])) (λp9=>?_) λp9=>?_
       ·refine lx ?_;intro x10;refine At.c 4 ?_ ?_
        ·refine lx ?_;intro x11;apply rt;exact At.jn 3
        ·apply rt;exact At.jn 0
       ·refine lx ?_;intro x12;refine lx ?_;intro x13;refine At.b 8 (λ_ e=>aJ hT (k:=1) 1 [] 0 e) λu14=>?_;refine At.b 0 (λ_ e=>bH hT j64 0 e) λe15=>?_;refine At.b 2 (λ_ e=>aJ hT (k:=1) 1 [] 0 e) λu16=>?_;refine At.b 0 (λ_ e=>bM hT j64 0 s5 e (I64 (e15+p9)) (by kernel_rfl) (by kernel_rfl) (H':=[.var (eA 5 1 j64 (ah 5 0)),.var (eA 5 1 j64 (s5.setIfInBounds x12.toNat (I64 (e15+p9))))])) λe17=>?_;exact λh=>At.k 3 ⟨_,_,h,jr⟩
      ·apply rt;exact At.x 0
    ·exact λh=>At.k 3 ⟨_,_,h,jr⟩
   ·apply rt;exact At.x 0
 ·refine At.b 1 (λ_ e=>aM [] (vE e)) λr18=>?_;apply rt;exact At.r 1
def dS(N:Nat)  : Nat->(Vector Int 5)->Int->Option ((Vector Int 5))
 | 0,_,_=>none
 | k+1,s10,s11=>
  cond (decide (s11 < 4)) (
   ae (aW s11 5) λ_=>
   ae (s10.toList[s11.toNat]?) λe13=>
   ae (aW s11 5) λ_=>
   ae (s10.toList[s11.toNat]?) λe15=>
   aT (shl .i64 (shr .i64 e13 26) 26) λx16=>
   ae (aW s11 5) λ_=>
   ae (s10.toList[s11.toNat]?) λe18=>
   ae (aW (I64 (s11+1)) 5) λ_=>
   ae ((s10.setIfInBounds s11.toNat (I64 (e15 - x16))).toList[(I64 (s11+1)).toNat]?) λe20=>
   aT (I64 (e20+(shr .i64 e13 26))) λx21=>
   ae (aW (I64 (s11+1)) 5) λ_=>
   ae ((s10.setIfInBounds s11.toNat (I64 (e15 - x16))).toList[(I64 (s11+1)).toNat]?) λe23=>
   dS N k ((s10.setIfInBounds s11.toNat (I64 (e15 - x16))).setIfInBounds ((I64 (s11+1)).toNat) x21) (I64 (s11+1))) (
   some s10)
def dQ(N:Nat)  : Nat->(Vector Int 5)->Int->Option ((Vector Int 5))
 | 0,_,_=>none
 | k+1,s2,s3=>
  cond (decide (s3 < 2)) (
   ae (ae (aW 0 5) λ_=>
   ae (s2.toList[(af 0)]?) λe6=>
   ae (aW 0 5) λ_=>
   ae (s2.toList[(af 0)]?) λe8=>
   ae (dS N N (s2.setIfInBounds ((af 0)) (I64 (e6+5))) 0) λp9=>
   ae (aW 4 5) λ_=>
   ae (p9.toList[(af 4)]?) λe25=>
   aT (decide (e25>=67108864)) λx26=>
   cond x26 (
    ae (aW 4 5) λ_=>
    ae (p9.toList[(af 4)]?) λe28=>
    ae (aW 4 5) λ_=>
    ae (p9.toList[(af 4)]?) λe30=>
    some ((p9.setIfInBounds ((af 4)) (I64 (e28 - 67108864)),p9.setIfInBounds ((af 4)) (I64 (e28 - 67108864))))) (
    some ((s2,p9)))) λp4=>
   dQ N k p4.1 (I64 (s3+1))) (
   some s2)
def qA(N:Nat)(a0:(Vector Int 5)):Option ((Vector Int 5)):=
 ae (dQ N N a0 0) λp1=>
 some p1
theorem aBX{N a0 r}(h:qA N a0=some r):FnM Tryz.prog 127 [] [(eA 5 1 j64 a0)] (eA 5 1 j64 r) []:=by
 unfold qA at h;refine At.f eX hT hmo Tryz.func127 rfl h ?_;refine At.L 3 [1,2] 2 (λp1=>([],[(0,.var (eA 5 1 j64 p1))],[])) (λp1 J k=>∃s2 s3,dQ N k s2 s3=some p1/\J [1,2] 2 [(3,(j64 s3))] [(0,.var (eA 5 1 j64 s2))] []) N (λ_ h=>⟨_,_,h,jr⟩) (λp1 k s hI=>?_) λp1=>?_
 ·obtain⟨s2,s3,h,hj⟩:=hI;cases k with
  | zero=>cases h
  | succ k=>
   refine At.jr hj ?_ h;refine At.c 2 ?_ ?_
   ·refine At.J 0 2 [1,2,3] 2 (λp4=>([],[(0,.var (eA 5 1 j64 p4.1))],[.var (eA 5 1 j64 p4.2)])) (λp4=>?_) λp4=>?_
    ·refine At.b 3 (λ_ e=>aJ hT (k:=1) 2 [] 0 e) λu5=>?_;refine At.b 0 (λ_ e=>bH hT j64 0 e) λe6=>?_;refine At.b 1 (λ_ e=>aJ hT (k:=1) 2 [] 0 e) λu7=>?_;refine At.b 0 (λ_ e=>bM hT j64 0 s2 e (I64 (e6+5)) (by kernel_rfl) (by kernel_rfl) (H':=[.var (eA 5 1 j64 s2),.var (eA 5 1 j64 (ah 5 0)),.var (eA 5 1 j64 (s2.setIfInBounds ((af 0)) (I64 (e6+5))))])) λe8=>?_;refine At.L 1 [1,2,3,4] 3 (λp9=>([],[(2,.var (eA 5 1 j64 p9))],[])) (λp9 J k=>∃s10 s11,dS N k s10 s11=some p9/\J [1,2,3,4] 3 [(5,(j64 s11))] [(2,.var (eA 5 1 j64 s10))] []) N (λ_ h=>⟨_,_,h,jr⟩) (λp9 k s hI=>?_) λp9=>?_
     ·obtain⟨s10,s11,h,hj⟩:=hI;cases k with
      | zero=>cases h
      | succ k=>
       refine At.jr hj ?_ h;refine At.c 2 ?_ ?_
       ·refine At.b 1 (λ_ e=>aJ hT (k:=1) 2 [] 0 e) λu12=>?_;refine At.b 0 (λ_ e=>bH hT j64 0 e) λe13=>?_;refine At.b 4 (λ_ e=>aJ hT (k:=1) 2 [] 0 e) λu14=>?_;refine At.b 0 (λ_ e=>bH hT j64 0 e) λe15=>?_;refine lx ?_;intro x16;refine At.b 3 (λ_ e=>aJ hT (k:=1) 2 [] 0 e) λu17=>?_;refine At.b 0 (λ_ e=>bM hT j64 0 s10 e (I64 (e15 - x16)) (by kernel_rfl) (by kernel_rfl) (H':=[.var (eA 5 1 j64 s2),.var (eA 5 1 j64 (ah 5 0)),.var (eA 5 1 j64 (s10.setIfInBounds s11.toNat (I64 (e15 - x16))))])) λe18=>?_;refine At.b 4 (λ_ e=>aJ hT (k:=1) 2 [] 0 e) λu19=>?_;refine At.b 0 (λ_ e=>bH hT j64 0 e) λe20=>?_;refine lx ?_;intro x21;refine At.b 2 (λ_ e=>aJ hT (k:=1) 2 [] 0 e) λu22=>?_;refine At.b 0 (λ_ e=>bM hT j64 0 (s10.setIfInBounds s11.toNat (I64 (e15 - x16))) e x21 (by kernel_rfl) (by kernel_rfl) (H':=[.var (eA 5 1 j64 s2),.var (eA 5 1 j64 (ah 5 0)),.var (eA 5 1 j64 ((s10.setIfInBounds s11.toNat (I64 (e15 - x16))).setIfInBounds ((I64 (s11+1)).toNat) x21))])) λe23=>?_;exact λh=>At.k 3 ⟨_,_,h,jr⟩
       ·apply rt;exact At.x 0
     ·refine At.b 0 (λ_ e=>aJ hT (k:=1) 2 [] 0 e) λu24=>?_;refine At.b 0 (λ_ e=>bH hT j64 0 e) λe25=>?_;refine lx ?_;intro x26;refine At.c 1 ?_ ?_
      ·refine At.b 0 (λ_ e=>aJ hT (k:=1) 2 [] 0 e) λu27=>?_;refine At.b 0 (λ_ e=>bH hT j64 0 e) λe28=>?_;refine At.b 1 (λ_ e=>aJ hT (k:=1) 2 [] 0 e) λu29=>?_;refine At.b 0 (λ_ e=>bM hT j64 0 p9 e (I64 (e28 - 67108864)) (by kernel_rfl) (by kernel_rfl) (H':=[.var (eA 5 1 j64 s2),.var (eA 5 1 j64 (ah 5 0)),.var (eA 5 1 j64 (p9.setIfInBounds ((af 4)) (I64 (e28 - 67108864))))])) λe30=>?_;apply rt;exact At.jn 2
      ·apply rt;exact At.jn 0
    ·exact λh=>At.k 3 ⟨_,_,h,jr⟩
   ·apply rt;exact At.x 0
 ·apply rt;exact At.r 2
def aDd : Nat->Bool:=imL [2]
def jY(N:Nat)(a0:(Vector Int 32)):Nat->(Vector Int 16)->Int->Option ((Vector Int 16))
 | 0,_,_=>none
 | k+1,s2,s3=>
  cond (decide (s3 < 16)) (
   ae (idx a0.toList s3) λe4=>
   ae (aW s3 16) λ_=>
   ae (s2.toList[s3.toNat]?) λe6=>
   jY N a0 k (s2.setIfInBounds s3.toNat e4) (I64 (s3+1))) (
   some s2)
def kC(N:Nat)(r7:(Vector Int 16)):Nat->(Vector Int 17)->Int->Option ((Vector Int 17))
 | 0,_,_=>none
 | k+1,s9,s10=>
  cond (decide (s10 < 16)) (
   ae (aW s10 16) λ_=>
   ae (r7.toList[s10.toNat]?) λe12=>
   ae (aW s10 17) λ_=>
   ae (s9.toList[s10.toNat]?) λe14=>
   kC N r7 k (s9.setIfInBounds s10.toNat e12) (I64 (s10+1))) (
   some s9)
def dW(N:Nat)(s18:(Vector Int 5)):Nat->(Vector Int 5)->Int->Option ((Vector Int 5))
 | 0,_,_=>none
 | k+1,s24,s25=>
  cond (decide (s25 < 5)) (
   ae (aW s25 5) λ_=>
   ae (s24.toList[s25.toNat]?) λe27=>
   ae (aW s25 5) λ_=>
   ae (s18.toList[s25.toNat]?) λe29=>
   ae (aW s25 5) λ_=>
   ae (s24.toList[s25.toNat]?) λe31=>
   dW N s18 k (s24.setIfInBounds s25.toNat (I64 (e27+e29))) (I64 (s25+1))) (
   some s24)
def mP(N:Nat)(r16:(List (Vector Int 17)))(r15:(Vector Int 5)):Nat->(Vector Int 5)->Int->Option ((Vector Int 5))
 | 0,_,_=>none
 | k+1,s18,s19=>
  aT (decide (s19 < ((r16.length:Int)))) λx20=>
  cond x20 (
   ae (idx r16 s19) λe21=>
   ae (jZ N e21) λr22=>
   ae (dW N s18 N r22 0) λp23=>
   ae (lQ N p23) λr32=>
   ae (pQ N r32 r15) λr33=>
   mP N r16 r15 k r33 (I64 (s19+1))) (
   some s18)
def iI(N:Nat)(s38:Int)(r34:(Vector Int 5)):Nat->Int->Int->Option (Int)
 | 0,_,_=>none
 | k+1,s41,s42=>
  cond (decide (s42 < 8)) (
   aT (I64 ((I64 (8*s38))+s42)) λx43=>
   ae (aW (I64 (du x43 26)) 5) λ_=>
   ae (r34.toList[(I64 (du x43 26)).toNat]?) λe45=>
   ae (zX .i64 e45 (cu x43 26)) λx46=>
   ae (aEx .i64 (dV .i64 x46 1) s42) λx47=>
   iI N s38 r34 k (I64 (s41+x47)) (I64 (s42+1))) (
   some s41)
def jX(N:Nat)(a0:(Vector Int 32))(r34:(Vector Int 5)):Nat->(Vector Int 16)->Int->Int->Option ((Vector Int 16))
 | 0,_,_,_=>none
 | k+1,s36,s37,s38=>
  cond (decide (s38 < 16)) (
   ae (idx a0.toList (I64 (16+s38))) λe39=>
   ae (iI N s38 r34 N (I64 ((I64 e39)+s37)) 0) λp40=>
   ae (aW s38 16) λ_=>
   ae (s36.toList[s38.toNat]?) λe49=>
   jX N a0 r34 k (s36.setIfInBounds s38.toNat (U8 p40)) (shr .i64 p40 8) (I64 (s38+1))) (
   some s36)
def rL(N:Nat)(a0:(Vector Int 32))(a1:(List Int)):Option ((Vector Int 16)):=
 ae (jY N a0 N (ah 16 0) 0) λp1=>
 ae (jB N p1) λr7=>
 ae (kC N r7 N (ah 17 0) 0) λp8=>
 ae (jZ N p8) λr15=>
 ae (oK N a1) λr16=>
 ae (mP N r16 r15 N (ah 5 0) 0) λp17=>
 ae (qA N p17) λr34=>
 ae (jX N a0 r34 N (ah 16 0) 0 0) λp35=>
 some p35
theorem aCq{N a0 a1 r}(h:rL N a0 a1=some r):FnM Tryz.prog 101 [] [(eA 32 1 k8 a0),(eL 1 k8 a1)] (eA 16 1 k8 r) []:=by
 unfold rL at h;refine At.f aDd hT hmo Tryz.func101 rfl h ?_;refine At.L 4 [1,2,4,5] 2 (λp1=>([],[(1,.var (eA 16 1 k8 p1))],[])) (λp1 J k=>∃s2 s3,jY N a0 k s2 s3=some p1/\J [1,2,4,5] 2 [(6,(j64 s3))] [(1,.var (eA 16 1 k8 s2))] []) N (λ_ h=>⟨_,_,h,jr⟩) (λp1 k s hI=>?_) λp1=>?_
 ·obtain⟨s2,s3,h,hj⟩:=hI;cases k with
  | zero=>cases h
  | succ k=>
   refine At.jr hj ?_ h;refine At.c 2 ?_ ?_
   ·refine At.b 2 (λ_ e=>bW hT (N:=32) (k:=1) k8 a0 e) λe4=>?_;refine At.b 1 (λ_ e=>aJ hT (k:=1) 1 [] 0 e) λu5=>?_;refine At.b 0 (λ_ e=>bM hT k8 0 s2 e e4 (by kernel_rfl) (by kernel_rfl) (H':=[.var (eA 16 1 k8 (ah 16 0)),.var (eA 16 1 k8 (s2.setIfInBounds s3.toNat e4))])) λe6=>?_;exact λh=>At.k 3 ⟨_,_,h,jr⟩
   ·apply rt;exact At.x 0
 ·refine At.b 1 (λ_ e=>aM [] (aBf e)) λr7=>?_;refine At.L 3 [1,2,4,7] 3 (λp8=>([],[(2,.var (eA 17 1 k8 p8))],[])) (λp8 J k=>∃s9 s10,kC N r7 k s9 s10=some p8/\J [1,2,4,5,7] 3 [(8,(j64 s10))] [(2,.var (eA 17 1 k8 s9))] []) N (λ_ h=>⟨_,_,h,jr⟩) (λp8 k s hI=>?_) λp8=>?_
  ·obtain⟨s9,s10,h,hj⟩:=hI;cases k with
   | zero=>cases h
   | succ k=>
    refine At.jr hj ?_ h;refine At.c 2 ?_ ?_
    ·refine At.b 2 (λ_ e=>aJ hT (k:=1) 1 [] 0 e) λu11=>?_;refine At.b 0 (λ_ e=>bH hT k8 0 e) λe12=>?_;refine At.b 0 (λ_ e=>aJ hT (k:=1) 2 [] 0 e) λu13=>?_;refine At.b 0 (λ_ e=>bM hT k8 0 s9 e e12 (by kernel_rfl) (by kernel_rfl) (H':=[.var (eA 16 1 k8 (ah 16 0)),.var (eA 16 1 k8 r7),.var (eA 17 1 k8 (s9.setIfInBounds s10.toNat e12))])) λe14=>?_;exact λh=>At.k 3 ⟨_,_,h,jr⟩
    ·apply rt;exact At.x 0
  ·refine At.b 1 (λ_ e=>aM [] (wA e)) λr15=>?_;refine At.b 4 (λ_ e=>aM [] (aA1 e)) λr16=>?_;refine At.L 2 [2,4,10] 5 (λp17=>([],[(4,.var (eA 5 1 j64 p17))],[])) (λp17 J k=>∃s18 s19,mP N r16 r15 k s18 s19=some p17/\J [2,4,9,10,11] 5 [(12,(j64 s19))] [(4,.var (eA 5 1 j64 s18))] []) N (λ_ h=>⟨_,_,h,jr⟩) (λp17 k s hI=>?_) λp17=>?_
   ·obtain⟨s18,s19,h,hj⟩:=hI;cases k with
    | zero=>cases h
    | succ k=>
     refine At.jr hj ?_ h;refine lx ?_;intro x20;refine At.c 4 ?_ ?_
     ·refine At.b 2 (λ_ e=>bB hT (eA 17 1 k8) e) λe21=>?_;refine At.b 1 (λ_ e=>aM [] (wA e)) λr22=>?_;refine At.L 3 [2,4,9,10,11,12,13] 6 (λp23=>([],[(5,.var (eA 5 1 j64 p23))],[])) (λp23 J k=>∃s24 s25,dW N s18 k s24 s25=some p23/\J [2,4,9,10,11,12,13] 6 [(14,(j64 s25))] [(5,.var (eA 5 1 j64 s24))] []) N (λ_ h=>⟨_,_,h,jr⟩) (λp23 k s hI=>?_) λp23=>?_
      ·obtain⟨s24,s25,h,hj⟩:=hI;cases k with
       | zero=>cases h
       | succ k=>
        refine At.jr hj ?_ h;refine At.c 2 ?_ ?_
        ·refine bi λu26 hu26=>?_;refine bi λe27 he27=>?_;refine bi λu28 hu28=>?_;refine bi λe29 he29=>?_;refine bi λu30 hu30=>?_;refine bi λe31 he31=>?_;refine At.d 0 (dE1 2 (λ_=>aJ hT (k:=1) 5 [] 0 hu26) (dEL hT 3 (j64 e27) j64 0 he27 (dE1 5 (λ_=>aJ hT (k:=1) 4 [] 0 hu28) (dEL hT 6 (j64 e29) j64 0 he29 (dE1 8 (λ_=>aJ hT (k:=1) 5 [] 0 hu30) dE0))))) (dF 9 (.v (.bool false)) [(5,.var (eA 5 1 j64 (s24.setIfInBounds s25.toNat (I64 (e27+e29)))))] [] (bP (bM hT j64 0 s24 he31 (I64 (e27+e29)) (by kernel_rfl) (by kernel_rfl) (H':=[.var (eA 16 1 k8 (ah 16 0)),.var (eA 16 1 k8 r7),.var (eA 17 1 k8 p8),.var (eA 5 1 j64 r15),.var (eA 5 1 j64 s18),.var (eA 5 1 j64 (s24.setIfInBounds s25.toNat (I64 (e27+e29))))]))) dF0) ?_;exact λh=>At.k 3 ⟨_,_,h,jr⟩
        ·apply rt;exact At.x 0
      ·refine bi λr32 hr32=>?_;refine bi λr33 hr33=>?_;refine At.d 0 (dE2 1 (eA 5 1 j64 r32) (λ_=>dM (vE hr32)) (dE2 3 (eA 5 1 j64 r33) (λ_=>dM (aBW hr33)) dE0)) dF0 ?_;exact λh=>At.k 3 ⟨_,_,h,jr⟩
     ·apply rt;exact At.x 0
   ·refine At.b 1 (λ_ e=>aM [] (aBX e)) λr34=>?_;refine At.L 4 [4,15] 6 (λp35=>([],[(5,.var (eA 16 1 k8 p35))],[])) (λp35 J k=>∃s36 s37 s38,jX N a0 r34 k s36 s37 s38=some p35/\J [2,4,10,15] 6 [(16,(j64 s37)),(17,(j64 s38))] [(5,.var (eA 16 1 k8 s36))] []) N (λ_ h=>⟨_,_,_,h,jr⟩) (λp35 k s hI=>?_) λp35=>?_
    ·obtain⟨s36,s37,s38,h,hj⟩:=hI;cases k with
     | zero=>cases h
     | succ k=>
      refine At.jr hj ?_ h;refine At.c 2 ?_ ?_
      ·refine At.b 2 (λ_ e=>bW hT (N:=32) (k:=1) k8 a0 e) λe39=>?_;refine At.L 6 [2,4,10,15,17] 6 (λp40=>([(18,(j64 p40))],[],[])) (λp40 J k=>∃s41 s42,iI N s38 r34 k s41 s42=some p40/\J [2,4,10,15,17] 6 [(18,(j64 s41)),(19,(j64 s42))] [] []) N (λ_ h=>⟨_,_,h,jr⟩) (λp40 k s hI=>?_) λp40=>?_
       ·obtain⟨s41,s42,h,hj⟩:=hI;cases k with
        | zero=>cases h
        | succ k=>
         refine At.jr hj ?_ h;refine At.c 2 ?_ ?_
         ·refine lx ?_;intro x43;refine At.b 8 (λ_ e=>aJ hT (k:=1) 4 [] 0 e) λu44=>?_;refine At.b 0 (λ_ e=>bH hT j64 0 e) λe45=>?_;refine At.b 2 (λ_ e=>rE hT (k' := .i64) e (by kernel_rfl) (by kernel_rfl)) λx46=>?_;refine At.b 2 (λ_ e=>xC hT (k' := .i64) e (by kernel_rfl) (by kernel_rfl)) λx47=>?_;exact λh=>At.k 5 ⟨_,_,h,jr⟩
         ·apply rt;exact At.x 0
       ·refine At.b 3 (λ_ e=>aJ hT (k:=1) 5 [] 0 e) λu48=>?_;refine At.b 0 (λ_ e=>bM hT k8 0 s36 e (U8 p40) (by kernel_rfl) (by kernel_rfl) (H':=[.var (eA 16 1 k8 (ah 16 0)),.var (eA 16 1 k8 r7),.var (eA 17 1 k8 p8),.var (eA 5 1 j64 r15),.var (eA 5 1 j64 r34),.var (eA 16 1 k8 (s36.setIfInBounds s38.toNat (U8 p40)))])) λe49=>?_;exact λh=>At.k 6 ⟨_,_,_,h,jr⟩
      ·apply rt;exact At.x 0
    ·apply rt;exact At.r 2
def aDz : Nat->Bool:=imL [4,5]
def pA(N:Nat)(a0:(Vector Int 32))(a1:(Vector Int 12))(a2 a3:(List Int)):Option ((Vector Int 16)):=
 ae (mS N a2) λr1=>
 ae (mS N a3) λr2=>
 ae (nR 1 r1 r2) λz3=>
 ae (mO N ((a2.length:Int))) λr4=>
 ae (nR 1 z3 r4) λz5=>
 ae (rI N a0 a1) λr6=>
 ae (mO N ((a3.length:Int))) λr7=>
 ae (nR 1 z5 r7) λz8=>
 ae (rL N r6 z8) λr9=>
 some r9
theorem aCj{N a0 a1 a2 a3 r}(h:pA N a0 a1 a2 a3=some r):FnM Tryz.prog 62 [] [(eA 32 1 k8 a0),(eA 12 1 k8 a1),(eL 1 k8 a2),(eL 1 k8 a3)] (eA 16 1 k8 r) []:=by
 unfold pA at h;refine At.f aDz hT hmo Tryz.func62 rfl h ?_;refine At.b 4 (λ_ e=>aM [] (wD e)) λr1=>?_;refine At.b 1 (λ_ e=>aM [] (wD e)) λr2=>?_;refine At.b 0 (λ_ e=>dE hT k8 (id:=1) (k:=1) e) λz3=>?_;refine At.b 4 (λ_ e=>aM [] (wB e)) λr4=>?_;refine At.b 0 (λ_ e=>dE hT k8 (id:=1) (k:=1) e) λz5=>?_;refine At.b 3 (λ_ e=>aM [] (aDU e)) λr6=>?_;refine At.b 3 (λ_ e=>aM [] (wB e)) λr7=>?_;refine At.b 0 (λ_ e=>dE hT k8 (id:=1) (k:=1) e) λz8=>?_;refine At.b 0 (λ_ e=>aM [] (aCq e)) λr9=>?_;apply rt;exact At.r 1
def aBb : Nat->Bool:=imL [4,6]
def eK(N:Nat)(s5 p1:Int)(r6:(Vector Int 64)):Nat->(List Int)->Int->Option ((List Int))
 | 0,_,_=>none
 | k+1,s8,s9=>
  aT (decide ((I64 (s5+s9)) < p1)) λx10=>
  aT (cond (decide (s9 < 64)) x10 false) λx11=>
  cond x11 (
   ae (aW s9 64) λ_=>
   ae (r6.toList[s9.toNat]?) λe13=>
   ae (nR 1 s8 (([e13]:List Int))) λz14=>
   eK N s5 p1 r6 k z14 (I64 (s9+1))) (
   some s8)
def mJ(N:Nat)(p1:Int)(a0:(Vector Int 32))(a2:(Vector Int 12)):Nat->(List Int)->Int->Int->Option ((List Int))
 | 0,_,_,_=>none
 | k+1,s3,s4,s5=>
  cond (decide (s5 < p1)) (
   ae (nG N a0 s4 a2) λr6=>
   ae (eK N s5 p1 r6 N s3 0) λp7=>
   mJ N p1 a0 a2 k p7 (U32 (s4+1)) (I64 (s5+64))) (
   some s3)
def oM(N:Nat)(a0:(Vector Int 32))(a1:Int)(a2:(Vector Int 12))(a3:Int):Option ((List Int)):=
 ae (cond (decide (a3 > 65536)) (some 65536) (some a3)) λp1=>
 ae (mJ N p1 a0 a2 N [] a1 0) λp2=>
 some p2
theorem aAr{N a0 a1 a2 a3 r}(h:oM N a0 a1 a2 a3=some r):FnM Tryz.prog 103 [] [(eA 32 1 k8 a0),(k32 a1),(eA 12 1 k8 a2),(j64 a3)] (eL 1 k8 r) []:=by
 unfold oM at h;refine At.f aBb hT hmo Tryz.func103 rfl h ?_;refine At.J 3 1 [1,4,6] 0 (λp1=>([(3,(j64 p1))],[],[])) (λp1=>?_) λp1=>?_
 ·refine At.c 2 ?_ ?_
  ·apply rt;exact At.jn 1
  ·apply rt;exact At.jn 0
 ·refine At.ownn 2 9 1 ?_;refine At.L 0 [] 1 (λp2=>([(9,(eO 0 1 k8 p2))],[(0,.tail (p2.length*1))],[])) (λp2 J k=>∃s3 s4 s5,mJ N p1 a0 a2 k s3 s4 s5=some p2/\J [3,4,6] 1 [(1,(k32 s4)),(9,(eO 0 1 k8 s3)),(10,(j64 s5))] [(0,.tail (s3.length*1))] []) N (λ_ h=>⟨_,_,_,h,jr⟩) (λp2 k s hI=>?_) λp2=>?_
  ·obtain⟨s3,s4,s5,h,hj⟩:=hI;cases k with
   | zero=>cases h
   | succ k=>
    refine At.jr hj ?_ h;refine At.c 3 ?_ ?_
    ·refine At.b 3 (λ_ e=>aM [] (wQ e)) λr6=>?_;refine At.L 3 [1,3,4,6,10] 2 (λp7=>([(9,(eO 0 1 k8 p7))],[(0,.tail (p7.length*1))],[])) (λp7 J k=>∃s8 s9,eK N s5 p1 r6 k s8 s9=some p7/\J [1,3,4,6,10,11] 2 [(9,(eO 0 1 k8 s8)),(12,(j64 s9))] [(0,.tail (s8.length*1))] []) N (λ_ h=>⟨_,_,h,jr⟩) (λp7 k s hI=>?_) λp7=>?_
     ·obtain⟨s8,s9,h,hj⟩:=hI;cases k with
      | zero=>cases h
      | succ k=>
       refine At.jr hj ?_ h;refine lx ?_;intro x10;refine lx ?_;intro x11;refine At.c 9 ?_ ?_
       ·refine At.b 2 (λ_ e=>aJ hT (k:=1) 1 [] 0 e) λu12=>?_;refine At.b 0 (λ_ e=>bH hT k8 0 e) λe13=>?_;refine At.o 0 (bU hT (x:=(.sl 1 1 [(k8 e13)]))) ?_;refine At.b 0 (λ_ e=>dE hT k8 (id:=0) (k:=1) e) λz14=>?_;exact λh=>At.k 4 ⟨_,_,h,jr⟩
       ·apply rt;exact At.x 0
     ·exact λh=>At.k 6 ⟨_,_,_,h,jr⟩
    ·apply rt;exact At.x 0
  ·apply rt;exact At.r 2
def aD4 : Nat->Bool:=imL [4,6]
def iE(N:Nat)(p1 r4:(List Int)):Nat->(List Int)->Int->Option ((List Int))
 | 0,_,_=>none
 | k+1,s6,s7=>
  aT (decide (s7 < ((p1.length:Int)))) λx8=>
  cond x8 (
   ae (idx p1 s7) λe9=>
   ae (idx r4 s7) λe10=>
   ae (nR 1 s6 (([uR .u8 e9 e10]:List Int))) λz11=>
   iE N p1 r4 k z11 (I64 (s7+1))) (
   some s6)
def oZ(N:Nat)(a0:(Vector Int 32))(a1:Int)(a2:(Vector Int 12))(a3:(List Int)):Option ((List Int)):=
 ae (aT (decide (((a3.length:Int)) > 65536)) λx2=>
 cond x2 (
  ae (eD a3 0 65536) λs3=>
  some s3) (
  some a3)) λp1=>
 ae (oM N a0 a1 a2 ((p1.length:Int))) λr4=>
 ae (iE N p1 r4 N [] 0) λp5=>
 some p5
theorem aCh{N a0 a1 a2 a3 r}(h:oZ N a0 a1 a2 a3=some r):FnM Tryz.prog 63 [] [(eA 32 1 k8 a0),(k32 a1),(eA 12 1 k8 a2),(eL 1 k8 a3)] (eL 1 k8 r) []:=by
 unfold oZ at h;refine At.f aD4 hT hmo Tryz.func63 rfl h ?_;refine At.J 3 1 [1,4,6] 0 (λp1=>([(3,(eL 1 k8 p1))],[],[])) (λp1=>?_) λp1=>?_
 ·refine lx ?_;intro x2;refine At.c 3 ?_ ?_
  ·refine At.b 1 (λ_ e=>iQ hT (k:=1) k8 e) λs3=>?_;apply rt;exact At.jn 1
  ·apply rt;exact At.jn 0
 ·refine At.b 5 (λ_ e=>aM [] (aAr e)) λr4=>?_;refine At.ownn 3 10 1 ?_;refine At.L 0 [] 1 (λp5=>([(10,(eO 0 1 k8 p5))],[(0,.tail (p5.length*1))],[])) (λp5 J k=>∃s6 s7,iE N p1 r4 k s6 s7=some p5/\J [3,9] 1 [(10,(eO 0 1 k8 s6)),(11,(j64 s7))] [(0,.tail (s6.length*1))] []) N (λ_ h=>⟨_,_,h,jr⟩) (λp5 k s hI=>?_) λp5=>?_
  ·obtain⟨s6,s7,h,hj⟩:=hI;cases k with
   | zero=>cases h
   | succ k=>
    refine At.jr hj ?_ h;refine lx ?_;intro x8;refine At.c 4 ?_ ?_
    ·refine bi λe9 he9=>?_;refine bi λe10 he10=>?_;refine bi λz11 hz11=>?_;refine At.d 0 (dE1 3 (λ_=>bB hT k8 he9) (dE1 7 (λ_=>bB hT k8 he10) (dE1 10 (λ_=>bU hT (x:=(.sl 1 1 [(k8 (uR .u8 e9 e10))]))) dE0))) (dF 11 (eO 0 1 k8 z11) [(0,.tail (z11.length*1))] [] (bP (dE hT k8 (id:=0) (k:=1) hz11)) dF0) ?_;exact λh=>At.k 3 ⟨_,_,h,jr⟩
    ·apply rt;exact At.x 0
  ·apply rt;exact At.r 2
def aDO : Nat->Bool:=imL [4,5]
def iV(N:Nat)(r5:(Vector Int 16))(a3:(List Int))(x1:Int):Nat->Int->Option (Sum (Unit) ((List Int)×Int))
 | 0,_=>none
 | k+1,s7=>
  cond (decide (s7 < 16)) (
   ae (aW s7 16) λ_=>
   ae (r5.toList[s7.toNat]?) λe9=>
   ae (idx a3 (I64 (x1+s7))) λe10=>
   cond (e9 != e10) (
    some (Sum.inr (([],6)))) (
    iV N r5 a3 x1 k (I64 (s7+1)))) (
   some (Sum.inl (())))
def mD(N:Nat)(a0:(Vector Int 32))(a1:(Vector Int 12))(a2 a3:(List Int)):Option ((List Int)×Int):=
 aT (I64 (((a3.length:Int)) - 16)) λx1=>
 cond (decide (x1 < 0)) (
  some (([],4))) (
  aT (decide (((a2.length:Int)) > 16384)) λx2=>
  aT (cond x2 true (decide (x1 > 16384))) λx3=>
  cond x3 (
   some (([],3))) (
   ae (eD a3 0 x1) λs4=>
   ae (pA N a0 a1 a2 s4) λr5=>
   ae (iV N r5 a3 x1 N 0) λo=>nQ o (λp6=>
    ae (eD a3 0 x1) λs11=>
    ae (oZ N a0 1 a1 s11) λr12=>
    some ((r12,0))) (λr=>some r)))
theorem xR{N a0 a1 a2 a3 r}(h:mD N a0 a1 a2 a3=some r):FnM Tryz.prog 32 [] [(eA 32 1 k8 a0),(eA 12 1 k8 a1),(eL 1 k8 a2),(eL 1 k8 a3)] (.tup [(eL 1 k8 r.1),(j64 r.2)]) []:=by
 unfold mD at h;refine At.f aDO hT hmo Tryz.func32 rfl h ?_;refine lx ?_;intro x1;refine At.c 10 ?_ ?_
 ·apply rt;exact At.r 2
 ·refine lx ?_;intro x2;refine lx ?_;intro x3;refine At.c 7 ?_ ?_
  ·apply rt;exact At.r 2
  ·refine bi λs4 hs4=>?_;refine bi λr5 hr5=>?_;refine At.d 0 (dE1 5 (λ_=>iQ hT (k:=1) k8 hs4) (dE2 6 (eA 16 1 k8 r5) (λ_=>dM (aCj hr5)) dE0)) dF0 ?_;refine At.LS 1 [3,4,5,10] 1 (λp6=>([],[],[])) (λop6 J k=>∃s7,iV N r5 a3 x1 k s7=some op6/\J [3,4,5,10,11] 1 [(12,(j64 s7))] [] []) N (λ_ h=>⟨_,h,jr⟩) (λop6 g6 k s hI=>?_) λp6=>?_
   ·obtain⟨s7,h,hj⟩:=hI;cases k with
    | zero=>cases h
    | succ k=>
     refine At.jr hj ?_ h;refine At.c 2 ?_ ?_
     ·refine bi λu8 hu8=>?_;refine bi λe9 he9=>?_;refine bi λe10 he10=>?_;refine At.d 0 (dE1 1 (λ_=>aJ hT (k:=1) 0 [] 0 hu8) (dEL hT 2 (k8 e9) k8 0 he9 (dE1 7 (λ_=>bB hT k8 he10) dE0))) dF0 ?_;refine At.c 0 ?_ ?_
      ·intro e;apply uQ g6 e;exact At.r 2
      ·exact λh=>At.k 3 ⟨_,h,jr⟩
     ·apply rt;exact At.xs 0
   ·refine bi λs11 hs11=>?_;refine bi λr12 hr12=>?_;refine At.d 0 (dE1 4 (λ_=>iQ hT (k:=1) k8 hs11) (dE2 5 (eL 1 k8 r12) (λ_=>dM (aCh hr12)) dE0)) dF0 ?_;apply rt;exact At.r 0
end Go.UK
