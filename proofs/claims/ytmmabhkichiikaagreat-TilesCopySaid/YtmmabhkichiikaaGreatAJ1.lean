/- A part of the proof: what the functions of the program compute. -/
import Derived.Test.YtmmabhkichiikaaGreatTT
open Int renaming tdiv→d6,toNat→bg
open List renaming length_map→ak,map→aj,map_eq_nil_iff→ct,mem_singleton→bz,replicate→ai
open Option renaming bind→aa
open Vector renaming replicate→bu
namespace Go.UK
open Go Go.Proofs
set_option maxRecDepth 20000
set_option maxHeartbeats 40000000
set_option linter.all false
attribute [local irreducible] adv aHR aGn zS brPt aPs aJK pS aBy aPX dG wG fV aDn aNG aLd lPt cX opD wZ aCq aLC stD dCl dEn dH DD aQ owp awl aw FnM aJX opS Stab TOK Big
def aGz : Nat->Bool:=imL [1]
def oQ(N:Nat)(a0:aE):Nat->(List aC)->Int->Option ((List aC))
 | 0,_,_=>none
 | k+1,s2,s3=>
  aQ ((a0.gO.length:Int)) λx4=>
  aQ (cond (decide (s3 < x4)) (decide (s3 < 4)) false) λx5=>
  cond x5 (
   aa (idx a0.gO s3) λe6=>
   aQ ((e6.gA5.length:Int)) λx7=>
   aa (yN e6.gA5 0 (eP x7 260)) λs8=>
   aa (tU 32 s2 (([aC.mk e6.gF s8]:List aC))) λz9=>
   oQ N a0 k z9 (I64 (s3+1))) (
   some s2)
def mU(N:Nat)(a0:aE):Option (aE):=
 aa (oQ N a0 N [] 0) λp1=>
 aQ ((a0.gQ.length:Int)) λx10=>
 aa (yN a0.gQ 0 (eP x10 20)) λs11=>
 aQ ((a0.gB0.length:Int)) λx12=>
 aa (yN a0.gB0 0 (eP x12 8)) λs13=>
 aQ ((a0.gM.length:Int)) λx14=>
 aa (yN a0.gM 0 (eP x14 5)) λs15=>
 aQ (eP ((a0.gJ.length:Int)) 20) λx16=>
 aa (yN a0.gJ 0 x16) λs17=>
 aQ ((a0.gA3.length:Int)) λx18=>
 aa (yN a0.gA3 0 (eP x18 20)) λs19=>
 some (aE.mk s11 s13 p1 s15 s17 s19 a0.gR a0.gB4 a0.gTo)
theorem aFy{N a0 r}(h:mU N a0=some r):FnM Tryz.prog 5 [] [(aE.enc a0)] (aE.enc r) []:=by
 unfold mU at h;refine At.f aGz hT hmo Tryz.func5 rfl h ?_;refine At.ownn 4 3 2 ?_;refine At.M 0 [1,2] 2 (λp1=>([(3,(eO 1 2 aC.enc p1))],[(1,.tail (p1.length*2))],[])) [1,2] 2 (CU2 (oQ N a0)) (cu2 λ(s2:(List aC)) (s3:Int)=>([(3,(eO 1 2 aC.enc s2)),(4,(j64 s3))],[(1,.tail (s2.length*2))],[])) (_,_) N (λp1 k=>un2 λs2 s3=>?_) λp1=>?_
 ·refine lx ?_;intro x4;refine lx ?_;intro x5;refine At.c 9 ?_ ?_
  ·refine At.i hT 3 aC.enc λe6=>?_;refine At.D 3 [] ?_;refine lx ?_;intro x7;refine DD.b 9 (λe _=>aA7 hT (k:=3) (eA 3 1 j64) e) λs8=>?_;refine DD.o 1 (λ_=>bH hT (x:=(.sl 2 1 [(.st 2 [(j64 e6.gF),(eL 3 (eA 3 1 j64) s8)])]))) ?_;refine bi λz9 hz9=>?_;refine DD.w 0 (eO 1 2 aC.enc z9) ⟨[(1,.tail (z9.length*2))],[]⟩ (λ_ e=>kB hT aC.enc (id:=1) (k:=2) hz9 (pj1 e) (pj2 e)) ?_;refine DD.e hT hmo 1 ?_;exact λh=>At.v 3 (_,_) h
  ·apply rt;exact At.x 0
 ·refine At.D 0 [] ?_;refine lx ?_;intro x10;refine DD.b 6 (λe _=>aA7 hT (k:=19) aJ.enc e) λs11=>?_;refine lx ?_;intro x12;refine DD.b 6 (λe _=>aA7 hT (k:=5) aO.enc e) λs13=>?_;refine lx ?_;intro x14;refine DD.b 7 (λe _=>aA7 hT (k:=13) aS.enc e) λs15=>?_;refine lx ?_;intro x16;refine DD.b 6 (λe _=>aA7 hT (k:=1) k64 e) λs17=>?_;refine lx ?_;intro x18;refine DD.b 6 (λe _=>aA7 hT (k:=1) k32 e) λs19=>?_;refine DD.e hT hmo 8 ?_;apply rt;exact At.r 0
def xK(N:Nat)(a0:aF):Option (aF):=
 some (aF.mk (eP a0.gW 3) (eP a0.gH 3) (eP a0.gB5 2) (eP a0.gG 3) a0.gK a0.gD6 a0.gD7 a0.gA4)
theorem aEp{N a0 r}(h:xK N a0=some r):FnM Tryz.prog 15 [] [(aF.enc a0)] (aF.enc r) []:=by
 unfold xK at h;refine At.f bO hT hmo Tryz.func15 rfl h ?_;apply rt;exact At.r 24
def mS(N:Nat)(a0:aF):Option (aF):=
 aa (xK N a0) λr1=>
 some (aF.mk r1.gW r1.gH r1.gB5 r1.gG (eP r1.gK 1) r1.gD6 r1.gD7 r1.gA4)
theorem aEs{N a0 r}(h:mS N a0=some r):FnM Tryz.prog 6 [] [(aF.enc a0)] (aF.enc r) []:=by
 unfold mS at h;refine At.f bO hT hmo Tryz.func6 rfl h ?_;refine At.y 3 aEp λr1=>?_;apply rt;exact At.r 8
def aME : Nat->Bool:=imL [2]
def sN(N:Nat)(a0:aB)(a1:Int):Option (Bool):=
 aa (aQ (decide ((jZ (jZ a0.gX a0.gY) a0.gZ)<=a1)) λx2=>
 cond x2 (
  aQ (decide ((eP (eP a0.gX a0.gY) a0.gZ)>=(I64 (0 - a1)))) λx3=>
  some x3) (
  some false)) λp1=>
 some p1
theorem aCW{N a0 a1 r}(h:sN N a0 a1=some r):FnM Tryz.prog 157 [] [(aB.enc a0),(j64 a1)] (eB r) []:=by
 unfold sN at h;refine At.f aME hT hmo Tryz.func157 rfl h ?_;refine At.J 2 0 [] 0 (λp1=>([(4,(eB p1))],[],[])) (λp1=>?_) λp1=>?_
 ·refine At.o 6 (aBU (k := .i64) (i:=a0.gX) (j:=a0.gY) (l:=a0.gZ) (by kernel_rfl) (by kernel_rfl)) ?_;refine lx ?_;intro x2;refine At.s 14 3 ?_ ?_
  ·refine At.g [14] 6 ?_;refine At.o 0 (aBt (k := .i64) (i:=a0.gX) (j:=a0.gY) (l:=a0.gZ) (by kernel_rfl) (by kernel_rfl)) ?_;refine lx ?_;intro x3;refine At.g [14] 5 ?_;apply rt;exact At.jn 0
  ·refine At.g [14] 12 ?_;apply rt;exact At.jn 0
 ·apply rt;exact At.r 0
def aQV : Nat->Bool:=imL [2,3]
def vX(N:Nat)(a0 a1:aB):Option (Bool):=
 aa (aa (sN N a0 65536) λr2=>
 cond r2 (
  aa (sN N a1 131072) λr3=>
  cond r3 (
   aQ (!(aB.eq a1 (aB.mk 0 0 0))) λx4=>
   some x4) (
   some false)) (
  some false)) λp1=>
 some p1
theorem aBW{N a0 a1 r}(h:vX N a0 a1=some r):FnM Tryz.prog 105 [] [(aB.enc a0),(aB.enc a1)] (eB r) []:=by
 unfold vX at h;refine At.f aQV hT hmo Tryz.func105 rfl h ?_;refine At.J 3 0 [] 0 (λp1=>([(4,(eB p1))],[],[])) (λp1=>?_) λp1=>?_
 ·refine At.y 1 aCW λr2=>?_;refine At.s 7 1 ?_ ?_
  ·refine At.g [7] 1 ?_;refine At.y 0 aCW λr3=>?_;refine At.g [7] 2 ?_;refine At.s 11 0 ?_ ?_
   ·refine At.g [11] 2 ?_;refine At.o 0 (aA9 aDB (a1:aB) (aB.mk 0 0 0:aB) (by kernel_rfl) (by kernel_rfl) (λ_=>rfl) (λ_=>rfl) (by kernel_rfl) (by kernel_rfl)) ?_;refine lx ?_;intro x4;refine At.g [11] 2 ?_;apply rt;exact At.jn 0
   ·refine At.g [11] 5 ?_;apply rt;exact At.jn 0
  ·refine At.g [7,11] 9 ?_;apply rt;exact At.jn 0
 ·apply rt;exact At.r 0
def aGx : Nat->Bool:=imL [2,3]
def mB(N:Nat)(a1:aJ):Nat->Int->Option (Sum (Unit) (Int))
 | 0,_=>none
 | k+1,s9=>
  cond (decide (s9 < 3)) (
   aa (idx a1.gUv.toList s9) λe10=>
   aa (aa (eY 0 2) λ_=>
   aa (e10.toList[(bg 0)]?) λe13=>
   aa (eY 1 2) λ_=>
   aa (e10.toList[(bg 1)]?) λe15=>
   aQ (decide ((eP e13 e15) < 0)) λx16=>
   cond x16 (
    some true) (
    aa (eY 0 2) λ_=>
    aa (e10.toList[(bg 0)]?) λe18=>
    aa (eY 1 2) λ_=>
    aa (e10.toList[(bg 1)]?) λe20=>
    aQ (decide ((jZ e18 e20) > 65535)) λx21=>
    some x21)) λp11=>
   cond p11 (some (Sum.inr 5)) (mB N a1 k (I64 (s9+1)))) (
   some (Sum.inl (())))
def mA(N:Nat)(a1:aJ):Nat->Int->Option (Sum (Unit) (Int))
 | 0,_=>none
 | k+1,s23=>
  cond (decide (s23 < 3)) (
   aa (idx a1.gP.toList s23) λe24=>
   aa (vX N e24 (aB.mk 1 0 0)) λr25=>
   cond (!r25) (some (Sum.inr 8)) (mA N a1 k (I64 (s23+1)))) (
   some (Sum.inl (())))
def nB(N:Nat)(a0:aE)(a1:aJ):Option (Int):=
 aQ ((a0.gB0.length:Int)) λx1=>
 aQ (cond (decide (a1.gC5 < 0)) true (decide (a1.gC5>=x1))) λx2=>
 aQ (decide (a1.gB7 < (-1))) λx3=>
 aQ ((a0.gO.length:Int)) λx4=>
 aQ (cond (cond x2 true x3) true (decide (a1.gB7>=x4))) λx5=>
 aQ (cond x5 true (decide (a1.gA2 < 0))) λx6=>
 aQ (decide (a1.gA2>=((a0.gJ.length:Int)))) λx7=>
 cond (cond x6 true x7) (
  some 5) (
  aa (mB N a1 N 0) λo=>jY o (λp8=>
   aa (mA N a1 N 0) λo=>jY o (λp22=>
    some 0) (λr=>some r)) (λr=>some r))
theorem aGR{N a0 a1 r}(h:nB N a0 a1=some r):FnM Tryz.prog 68 [] [(aE.enc a0),(aJ.enc a1)] (j64 r) []:=by
 unfold nB at h;refine At.f aGx hT hmo Tryz.func68 rfl h ?_;refine lx ?_;intro x1;refine lx ?_;intro x2;refine lx ?_;intro x3;refine lx ?_;intro x4;refine lx ?_;intro x5;refine lx ?_;intro x6;refine lx ?_;intro x7;refine At.c 40 ?_ ?_
 ·apply rt;exact At.r 1
 ·refine At.MS 3 [3] 0 (λp8=>([],[],[])) [3,47] 0 (mB N a1) (λ(s9:Int)=>([(48,(j64 s9))],[],[])) _ N (λop8 g8 k s9=>?_) λp8=>?_
  ·refine At.c 1 ?_ ?_
   ·refine At.b 0 (λ_ e=>aA2 hT (eA 2 1 j64) a1.gUv e (by kernel_rfl) (by kernel_rfl)) λe10=>?_;refine At.J 2 0 [3,47,48] 1 (λp11=>([(64,(eB p11))],[],[])) (λp11=>?_) λp11=>?_
    ·refine At.b 0 (λ_ e=>bF hT (k:=1) 0 [] 0 e) λu12=>?_;refine At.b 0 (λ_ e=>qG hT j64 0 e) λe13=>?_;refine At.b 0 (λ_ e=>bF hT (k:=1) 0 [] 0 e) λu14=>?_;refine At.b 0 (λ_ e=>qG hT j64 0 e) λe15=>?_;refine lx ?_;intro x16;refine At.s 57 3 ?_ ?_
     ·refine At.g [57] 7 ?_;apply rt;exact At.jn 0
     ·refine At.b 0 (λ_ e=>bF hT (k:=1) 0 [] 0 e) λu17=>?_;refine At.b 0 (λ_ e=>qG hT j64 0 e) λe18=>?_;refine At.b 0 (λ_ e=>bF hT (k:=1) 0 [] 0 e) λu19=>?_;refine At.b 0 (λ_ e=>qG hT j64 0 e) λe20=>?_;refine lx ?_;intro x21;refine At.g [57] 3 ?_;apply rt;exact At.jn 0
    ·refine At.c 0 ?_ ?_
     ·intro e;apply aBq g8 e;exact At.r 1
     ·exact λh=>At.v 2 _ h
   ·apply rt;exact At.xs 0
  ·refine At.MS 3 [] 0 (λp22=>([],[],[])) [67] 0 (mA N a1) (λ(s23:Int)=>([(68,(j64 s23))],[],[])) _ N (λop22 g22 k s23=>?_) λp22=>?_
   ·refine At.c 1 ?_ ?_
    ·refine At.b 0 (λ_ e=>aA2 hT aB.enc a1.gP e (by kernel_rfl) (by kernel_rfl)) λe24=>?_;refine At.y 4 aBW λr25=>?_;refine At.c 1 ?_ ?_
     ·intro e;apply aBq g22 e;exact At.r 1
     ·exact λh=>At.v 2 _ h
    ·apply rt;exact At.xs 0
   ·apply rt;exact At.r 1
def aFR : Nat->Bool:=imL [2]
def kV(N:Nat)(a0:aJ)(a1:aE):Option (Int):=
 aa (nB N a1 a0) λr1=>
 some r1
theorem aEq{N a0 a1 r}(h:kV N a0 a1=some r):FnM Tryz.prog 67 [] [(aJ.enc a0),(.im (aE.enc a1))] (j64 r) []:=by
 unfold kV at h;refine At.f aFR hT hmo Tryz.func67 rfl h ?_;refine At.y 4 aGR λr1=>?_;apply rt;exact At.r 1
def fH(N:Nat)(a0:(List aJ))(a1:aE):Nat->Int->Option (Sum (Unit) (Int))
 | 0,_=>none
 | k+1,s2=>
  aQ (decide (s2 < ((a0.length:Int)))) λx3=>
  cond x3 (
   aa (idx a0 s2) λe4=>
   aa (kV N e4 a1) λr5=>
   cond (r5 != 0) (
    some (Sum.inr r5)) (
    fH N a0 a1 k (I64 (s2+1)))) (
   some (Sum.inl (())))
def dI(N:Nat)(a0:(List aJ))(a1:aE):Option (Int):=
 aa (fH N a0 a1 N 0) λo=>jY o (λp1=>
  some 0) (λr=>some r)
theorem aAE{N a0 a1 r}(h:dI N a0 a1=some r):FnM Tryz.prog 66 [] [(eL 19 aJ.enc a0),(.fn (.func 67) [] [(.im (aE.enc a1))])] (j64 r) []:=by
 unfold dI at h;refine At.f bO hT hmo Tryz.func66 rfl h ?_;refine At.MS 4 [] 0 (λp1=>([],[],[])) [1,8,9] 0 (fH N a0 a1) (λ(s2:Int)=>([(10,(j64 s2))],[],[])) _ N (λop1 g1 k s2=>?_) λp1=>?_
 ·refine lx ?_;intro x3;refine At.c 1 ?_ ?_
  ·refine At.i hT 0 aJ.enc λe4=>?_;refine At.y 5 aEq λr5=>?_;refine At.c 3 ?_ ?_
   ·intro e;apply aBq g1 e;exact At.r 2
   ·exact λh=>At.v 2 _ h
  ·apply rt;exact At.xs 0
 ·apply rt;exact At.r 1
def nK(N:Nat)(a0 a1:Int):Option (Bool):=
 aQ (cond (decide (a0 < 0)) true (decide (a0 > a1))) λx1=>
 some x1
theorem aDk{N a0 a1 r}(h:nK N a0 a1=some r):FnM Tryz.prog 159 [] [(j64 a0),(.im (j64 a1))] (eB r) []:=by
 unfold nK at h;refine At.f bO hT hmo Tryz.func159 rfl h ?_;refine lx ?_;intro x1;apply rt;exact At.r 9
def eQ(N:Nat)(a0:(List Int))(a1:Int):Nat->Int->Option (Sum (Unit) (Int))
 | 0,_=>none
 | k+1,s2=>
  aQ (decide (s2 < ((a0.length:Int)))) λx3=>
  cond x3 (
   aa (idx a0 s2) λe4=>
   aa (nK N e4 a1) λr5=>
   cond r5 (
    some (Sum.inr s2)) (
    eQ N a0 a1 k (I64 (s2+1)))) (
   some (Sum.inl (())))
def fO(N:Nat)(a0:(List Int))(a1:Int):Option (Int):=
 aa (eQ N a0 a1 N 0) λo=>jY o (λp1=>
  some (-1)) (λr=>some r)
theorem vL{N a0 a1 r}(h:fO N a0 a1=some r):FnM Tryz.prog 171 [] [(eL 1 j64 a0),(.fn (.func 159) [] [(.im (j64 a1))])] (j64 r) []:=by
 unfold fO at h;refine At.f bO hT hmo Tryz.func171 rfl h ?_;refine At.MS 4 [] 0 (λp1=>([],[],[])) [0,1,7] 0 (eQ N a0 a1) (λ(s2:Int)=>([(8,(j64 s2))],[],[])) _ N (λop1 g1 k s2=>?_) λp1=>?_
 ·refine lx ?_;intro x3;refine At.c 1 ?_ ?_
  ·refine At.i hT 5 j64 λe4=>?_;refine At.y 1 aDk λr5=>?_;refine At.c 0 ?_ ?_
   ·intro e;apply aBq g1 e;exact At.r 2
   ·exact λh=>At.v 2 _ h
  ·apply rt;exact At.xs 0
 ·apply rt;exact At.r 1
def eR(N:Nat)(a0:(List Int))(a1:Int):Option (Bool):=
 aa (fO N a0 a1) λr1=>
 some (decide (r1>=0))
theorem tR{N a0 a1 r}(h:eR N a0 a1=some r):FnM Tryz.prog 158 [] [(eL 1 j64 a0),(.fn (.func 159) [] [(.im (j64 a1))])] (eB r) []:=by
 unfold eR at h;refine At.f bO hT hmo Tryz.func158 rfl h ?_;refine At.y 3 vL λr1=>?_;apply rt;exact At.r 2
def aIC : Nat->Bool:=imL [2]
def mD(N:Nat)(a0:Int)(a1:(List Int)):Option (Bool):=
 aa (eR N a1 a0) λr1=>
 some r1
theorem wD{N a0 a1 r}(h:mD N a0 a1=some r):FnM Tryz.prog 106 [] [(j64 a0),(eL 1 j64 a1)] (eB r) []:=by
 unfold mD at h;refine At.f aIC hT hmo Tryz.func106 rfl h ?_;refine At.o 3 (qT (x:=(.fn (.func 159) [] [(.im (j64 a0))])) (by kernel_rfl) (by kernel_rfl)) ?_;refine At.y 0 tR λr1=>?_;apply rt;exact At.r 1
def aGm : Nat->Bool:=imL [1]
def pE(N:Nat)(a0:aO):Option (Int):=
 aa (aa (mD N 4 ([a0.gA9])) λr2=>
 cond r2 (
  some true) (
  aa (idx a0.gA7.toList 0) λe3=>
  aa (idx a0.gA7.toList 1) λe4=>
  aa (idx a0.gA7.toList 2) λe5=>
  aa (mD N 65535 ([e3,e4,e5,a0.gD5])) λr6=>
  some r6)) λp1=>
 cond p1 (some 5) (some 0)
theorem aGI{N a0 r}(h:pE N a0=some r):FnM Tryz.prog 70 [] [(aO.enc a0)] (j64 r) []:=by
 unfold pE at h;refine At.f aGm hT hmo Tryz.func70 rfl h ?_;refine At.J 2 0 [] 0 (λp1=>([(21,(eB p1))],[],[])) (λp1=>?_) λp1=>?_
 ·refine At.o 2 (bH hT (x:=(.sl 1 1 [(j64 a0.gA9)]))) ?_;refine At.y 0 wD λr2=>?_;refine At.s 7 1 ?_ ?_
  ·refine At.g [7] 14 ?_;apply rt;exact At.jn 0
  ·refine At.g [7] 1 ?_;refine At.b 0 (λ_ e=>dC hT (N:=3) (k:=1) j64 a0.gA7 e) λe3=>?_;refine At.g [7] 2 ?_;refine At.b 0 (λ_ e=>dC hT (N:=3) (k:=1) j64 a0.gA7 e) λe4=>?_;refine At.g [7] 2 ?_;refine At.b 0 (λ_ e=>dC hT (N:=3) (k:=1) j64 a0.gA7 e) λe5=>?_;refine At.g [7] 3 ?_;refine At.o 0 (bH hT (x:=(.sl 1 4 [(j64 e3),(j64 e4),(j64 e5),(j64 a0.gD5)]))) ?_;refine At.y 0 wD λr6=>?_;refine At.g [7] 1 ?_;apply rt;exact At.jn 0
 ·refine At.c 0 ?_ ?_
  ·apply rt;exact At.r 1
  ·apply rt;exact At.r 1
def fA(N:Nat)(a0:(List aO)):Nat->Int->Option (Sum (Unit) (Int))
 | 0,_=>none
 | k+1,s2=>
  aQ (decide (s2 < ((a0.length:Int)))) λx3=>
  cond x3 (
   aa (idx a0 s2) λe4=>
   aa (pE N e4) λr5=>
   cond (r5 != 0) (
    some (Sum.inr r5)) (
    fA N a0 k (I64 (s2+1)))) (
   some (Sum.inl (())))
def dS(N:Nat)(a0:(List aO)):Option (Int):=
 aa (fA N a0 N 0) λo=>jY o (λp1=>
  some 0) (λr=>some r)
theorem wJ{N a0 r}(h:dS N a0=some r):FnM Tryz.prog 69 [] [(eL 5 aO.enc a0),(.fn (.func 70) [] [])] (j64 r) []:=by
 unfold dS at h;refine At.f bO hT hmo Tryz.func69 rfl h ?_;refine At.MS 4 [] 0 (λp1=>([],[],[])) [1,8,9] 0 (fA N a0) (λ(s2:Int)=>([(10,(j64 s2))],[],[])) _ N (λop1 g1 k s2=>?_) λp1=>?_
 ·refine lx ?_;intro x3;refine At.c 1 ?_ ?_
  ·refine At.i hT 0 aO.enc λe4=>?_;refine At.y 5 aGI λr5=>?_;refine At.c 3 ?_ ?_
   ·intro e;apply aBq g1 e;exact At.r 2
   ·exact λh=>At.v 2 _ h
  ·apply rt;exact At.xs 0
 ·apply rt;exact At.r 1
def hO(N:Nat)(a0:(List Int))(a1:Int):Nat->Int->Option (Sum (Unit) (Int))
 | 0,_=>none
 | k+1,s2=>
  aQ (decide (s2 < ((a0.length:Int)))) λx3=>
  cond x3 (
   aa (idx a0 s2) λe4=>
   cond (a1==e4) (
    some (Sum.inr s2)) (
    hO N a0 a1 k (I64 (s2+1)))) (
   some (Sum.inl (())))
def oS(N:Nat)(a0:(List Int))(a1:Int):Option (Int):=
 aa (hO N a0 a1 N 0) λo=>jY o (λp1=>
  some (-1)) (λr=>some r)
theorem aCo{N a0 a1 r}(h:oS N a0 a1=some r):FnM Tryz.prog 160 [] [(eL 1 j64 a0),(j64 a1)] (j64 r) []:=by
 unfold oS at h;refine At.f bO hT hmo Tryz.func160 rfl h ?_;refine At.MS 4 [] 0 (λp1=>([],[],[])) [0,1,7] 0 (hO N a0 a1) (λ(s2:Int)=>([(8,(j64 s2))],[],[])) _ N (λop1 g1 k s2=>?_) λp1=>?_
 ·refine lx ?_;intro x3;refine At.c 1 ?_ ?_
  ·refine At.i hT 5 j64 λe4=>?_;refine At.c 2 ?_ ?_
   ·intro e;apply aBq g1 e;exact At.r 2
   ·exact λh=>At.v 2 _ h
  ·apply rt;exact At.xs 0
 ·apply rt;exact At.r 1
def jS(N:Nat)(a0:(List Int))(a1:Int):Option (Bool):=
 aa (oS N a0 a1) λr1=>
 some (decide (r1>=0))
theorem aBQ{N a0 a1 r}(h:jS N a0 a1=some r):FnM Tryz.prog 107 [] [(eL 1 j64 a0),(j64 a1)] (eB r) []:=by
 unfold jS at h;refine At.f bO hT hmo Tryz.func107 rfl h ?_;refine At.y 3 aCo λr1=>?_;apply rt;exact At.r 2
def aIB : Nat->Bool:=imL [1]
def mX(N:Nat)(x5:Int)(a0:aC):Nat->Int->Option (Sum (Unit) (Int))
 | 0,_=>none
 | k+1,s7=>
  cond (decide (s7 < x5)) (
   aa (idx a0.gA5 s7) λe8=>
   aa (aa (eY 0 3) λ_=>
   aa (e8.toList[(bg 0)]?) λe11=>
   aa (eY 1 3) λ_=>
   aa (e8.toList[(bg 1)]?) λe13=>
   aa (eY 2 3) λ_=>
   aa (e8.toList[(bg 2)]?) λe15=>
   aQ (decide ((eP (eP e11 e13) e15) < 0)) λx16=>
   cond x16 (
    some true) (
    aa (eY 0 3) λ_=>
    aa (e8.toList[(bg 0)]?) λe18=>
    aa (eY 1 3) λ_=>
    aa (e8.toList[(bg 1)]?) λe20=>
    aa (eY 2 3) λ_=>
    aa (e8.toList[(bg 2)]?) λe22=>
    aQ (decide ((jZ (jZ e18 e20) e22) > 255)) λx23=>
    some x23)) λp9=>
   cond p9 (some (Sum.inr 5)) (mX N x5 a0 k (I64 (s7+1)))) (
   some (Sum.inl (())))
def kP(N:Nat)(a0:aC):Option (Int):=
 aa (jS N ([1,2,4,8,16]) a0.gF) λr1=>
 aQ ((a0.gA5.length:Int)) λx2=>
 aQ (I64 (a0.gF*a0.gF)) λx3=>
 aQ (cond (!r1) true (x2 != x3)) λx4=>
 cond x4 (
  some 5) (
  aQ ((a0.gA5.length:Int)) λx5=>
  aa (mX N x5 a0 N 0) λo=>jY o (λp6=>
   some 0) (λr=>some r))
theorem vM{N a0 r}(h:kP N a0=some r):FnM Tryz.prog 72 [] [(aC.enc a0)] (j64 r) []:=by
 unfold kP at h;refine At.f aIB hT hmo Tryz.func72 rfl h ?_;refine At.o 2 (bH hT (x:=(.sl 1 5 [(j64 1),(j64 2),(j64 4),(j64 8),(j64 16)]))) ?_;refine At.y 2 aBQ λr1=>?_;refine lx ?_;intro x2;refine lx ?_;intro x3;refine lx ?_;intro x4;refine At.c 12 ?_ ?_
 ·apply rt;exact At.r 1
 ·refine lx ?_;intro x5;refine At.MS 4 [] 0 (λp6=>([],[],[])) [22,23] 0 (mX N x5 a0) (λ(s7:Int)=>([(24,(j64 s7))],[],[])) _ N (λop6 g6 k s7=>?_) λp6=>?_
  ·refine At.c 1 ?_ ?_
   ·refine At.i hT 0 (eA 3 1 j64) λe8=>?_;refine At.J 3 0 [22,23,24] 1 (λp9=>([(45,(eB p9))],[],[])) (λp9=>?_) λp9=>?_
    ·refine At.b 0 (λ_ e=>bF hT (k:=1) 0 [] 0 e) λu10=>?_;refine At.b 0 (λ_ e=>qG hT j64 0 e) λe11=>?_;refine At.b 0 (λ_ e=>bF hT (k:=1) 0 [] 0 e) λu12=>?_;refine At.b 0 (λ_ e=>qG hT j64 0 e) λe13=>?_;refine At.b 0 (λ_ e=>bF hT (k:=1) 0 [] 0 e) λu14=>?_;refine At.b 0 (λ_ e=>qG hT j64 0 e) λe15=>?_;refine At.o 0 (aBt (k := .i64) (i:=e11) (j:=e13) (l:=e15) (by kernel_rfl) (by kernel_rfl)) ?_;refine lx ?_;intro x16;refine At.s 36 2 ?_ ?_
     ·refine At.g [36] 9 ?_;apply rt;exact At.jn 0
     ·refine At.b 0 (λ_ e=>bF hT (k:=1) 0 [] 0 e) λu17=>?_;refine At.b 0 (λ_ e=>qG hT j64 0 e) λe18=>?_;refine At.b 0 (λ_ e=>bF hT (k:=1) 0 [] 0 e) λu19=>?_;refine At.b 0 (λ_ e=>qG hT j64 0 e) λe20=>?_;refine At.b 0 (λ_ e=>bF hT (k:=1) 0 [] 0 e) λu21=>?_;refine At.b 0 (λ_ e=>qG hT j64 0 e) λe22=>?_;refine At.o 0 (aBU (k := .i64) (i:=e18) (j:=e20) (l:=e22) (by kernel_rfl) (by kernel_rfl)) ?_;refine lx ?_;intro x23;refine At.g [36] 2 ?_;apply rt;exact At.jn 0
    ·refine At.c 0 ?_ ?_
     ·intro e;apply aBq g6 e;exact At.r 1
     ·exact λh=>At.v 2 _ h
   ·apply rt;exact At.xs 0
  ·apply rt;exact At.r 1
def iC(N:Nat)(a0:(List aC)):Nat->Int->Option (Sum (Unit) (Int))
 | 0,_=>none
 | k+1,s2=>
  aQ (decide (s2 < ((a0.length:Int)))) λx3=>
  cond x3 (
   aa (idx a0 s2) λe4=>
   aa (kP N e4) λr5=>
   cond (r5 != 0) (
    some (Sum.inr r5)) (
    iC N a0 k (I64 (s2+1)))) (
   some (Sum.inl (())))
def fK(N:Nat)(a0:(List aC)):Option (Int):=
 aa (iC N a0 N 0) λo=>jY o (λp1=>
  some 0) (λr=>some r)
theorem zB{N a0 r}(h:fK N a0=some r):FnM Tryz.prog 71 [] [(eL 2 aC.enc a0),(.fn (.func 72) [] [])] (j64 r) []:=by
 unfold fK at h;refine At.f bO hT hmo Tryz.func71 rfl h ?_;refine At.MS 4 [] 0 (λp1=>([],[],[])) [1,8,9] 0 (iC N a0) (λ(s2:Int)=>([(10,(j64 s2))],[],[])) _ N (λop1 g1 k s2=>?_) λp1=>?_
 ·refine lx ?_;intro x3;refine At.c 1 ?_ ?_
  ·refine At.i hT 0 aC.enc λe4=>?_;refine At.y 5 vM λr5=>?_;refine At.c 3 ?_ ?_
   ·intro e;apply aBq g1 e;exact At.r 2
   ·exact λh=>At.v 2 _ h
  ·apply rt;exact At.xs 0
 ·apply rt;exact At.r 1
def aH8 : Nat->Bool:=imL [1]
def oF(N:Nat)(a0:aB):Option (Bool):=
 aa (aQ (decide ((jZ (jZ a0.gX a0.gY) a0.gZ) > 4096)) λx2=>
 cond x2 (
  some true) (
  aQ (decide ((eP (eP a0.gX a0.gY) a0.gZ) < (-4096))) λx3=>
  some x3)) λp1=>
 some p1
theorem aAH{N a0 r}(h:oF N a0=some r):FnM Tryz.prog 108 [] [(aB.enc a0)] (eB r) []:=by
 unfold oF at h;refine At.f aH8 hT hmo Tryz.func108 rfl h ?_;refine At.J 2 0 [] 0 (λp1=>([(2,(eB p1))],[],[])) (λp1=>?_) λp1=>?_
 ·refine At.o 6 (aBU (k := .i64) (i:=a0.gX) (j:=a0.gY) (l:=a0.gZ) (by kernel_rfl) (by kernel_rfl)) ?_;refine lx ?_;intro x2;refine At.s 11 2 ?_ ?_
  ·refine At.g [11] 10 ?_;apply rt;exact At.jn 0
  ·refine At.g [11] 6 ?_;refine At.o 0 (aBt (k := .i64) (i:=a0.gX) (j:=a0.gY) (l:=a0.gZ) (by kernel_rfl) (by kernel_rfl)) ?_;refine lx ?_;intro x3;refine At.g [11] 3 ?_;apply rt;exact At.jn 0
 ·apply rt;exact At.r 0
def aKX : Nat->Bool:=imL [1]
def qU(N:Nat)(a0:aS):Option (Int):=
 aa (aa (mD N 2 ([a0.gA9])) λr2=>
 cond r2 (
  some true) (
  aa (yN a0.gA7.toList 0 3) λs3=>
  aa (mD N 1048576 s3) λr4=>
  some r4)) λp1=>
 cond p1 (
  some 5) (
  aa (aa (oF N a0.gAt) λr6=>
  cond r6 (
   some true) (
   aa (oF N a0.gU) λr7=>
   cond r7 (
    some true) (
    aa (oF N a0.gV) λr8=>
    some r8))) λp5=>
  cond p5 (
   some 8) (
   aa (cond (a0.gA9==2) (
    cond (!(aB.eq a0.gAt (aB.mk 0 0 0))) (
     some (Sum.inr 5)) (
     aa (aQ (!(aB.eq a0.gU (aB.mk 0 0 0))) λx11=>
     cond x11 (
      some true) (
      some (!(aB.eq a0.gV (aB.mk 0 0 0))))) λp10=>
     cond p10 (some (Sum.inr 5)) (some (Sum.inl (()))))) (
    cond (a0.gA9==0) (
     aa (aQ (!(aB.eq a0.gU (aB.mk 0 0 0))) λx13=>
     cond x13 (
      some true) (
      some (!(aB.eq a0.gV (aB.mk 0 0 0))))) λp12=>
     cond p12 (some (Sum.inr 5)) (some (Sum.inl (())))) (
     some (Sum.inl (()))))) λo=>jY o (λp9=>
    some 0) (λr=>some r)))
theorem aEA{N a0 r}(h:qU N a0=some r):FnM Tryz.prog 74 [] [(aS.enc a0)] (j64 r) []:=by
 unfold qU at h;refine At.f aKX hT hmo Tryz.func74 rfl h ?_;refine At.J 6 0 [1,3,4] 1 (λp1=>([(6,(eB p1))],[],[])) (λp1=>?_) λp1=>?_
 ·refine At.o 2 (bH hT (x:=(.sl 1 1 [(j64 a0.gA9)]))) ?_;refine At.y 0 wD λr2=>?_;refine At.s 11 1 ?_ ?_
  ·refine At.g [11] 5 ?_;apply rt;exact At.jn 0
  ·refine At.g [11] 1 ?_;refine At.b 0 (λ_ e=>aCN hT (N:=3) (k:=1) j64 a0.gA7 e) λs3=>?_;refine At.y 0 wD λr4=>?_;refine At.g [11] 2 ?_;apply rt;exact At.jn 0
 ·refine At.c 0 ?_ ?_
  ·apply rt;exact At.r 1
  ·refine At.J 0 0 [1,4] 1 (λp5=>([(16,(eB p5))],[],[])) (λp5=>?_) λp5=>?_
   ·refine At.y 3 aAH λr6=>?_;refine At.s 21 1 ?_ ?_
    ·refine At.g [21,27] 12 ?_;apply rt;exact At.jn 0
    ·refine At.g [21] 3 ?_;refine At.y 0 aAH λr7=>?_;refine At.g [21] 2 ?_;refine At.s 27 0 ?_ ?_
     ·refine At.g [27] 6 ?_;apply rt;exact At.jn 0
     ·refine At.g [27] 3 ?_;refine At.y 0 aAH λr8=>?_;refine At.g [27] 2 ?_;apply rt;exact At.jn 0
   ·refine At.c 0 ?_ ?_
    ·apply rt;exact At.r 1
    ·refine At.JS 0 1 [] 1 (λp9=>([],[],[])) (λop9 g9=>?_) λp9=>?_
     ·refine At.c 4 ?_ ?_
      ·refine At.o 3 (aA9 aDB (a0.gAt:aB) (aB.mk 0 0 0:aB) (by kernel_rfl) (by kernel_rfl) (λ_=>rfl) (λ_=>rfl) (by kernel_rfl) (by kernel_rfl)) ?_;refine At.c 0 ?_ ?_
       ·intro e;apply aBq g9 e;exact At.r 1
       ·refine At.J 0 0 [] 1 (λp10=>([(52,(eB p10))],[],[])) (λp10=>?_) λp10=>?_
        ·refine At.o 3 (aA9 aDB (a0.gU:aB) (aB.mk 0 0 0:aB) (by kernel_rfl) (by kernel_rfl) (λ_=>rfl) (λ_=>rfl) (by kernel_rfl) (by kernel_rfl)) ?_;refine lx ?_;intro x11;refine At.s 47 1 ?_ ?_
         ·refine At.g [47] 5 ?_;apply rt;exact At.jn 0
         ·refine At.g [47] 3 ?_;refine At.o 0 (aA9 aDB (a0.gV:aB) (aB.mk 0 0 0:aB) (by kernel_rfl) (by kernel_rfl) (λ_=>rfl) (λ_=>rfl) (by kernel_rfl) (by kernel_rfl)) ?_;refine At.g [47] 1 ?_;apply rt;exact At.jn 0
        ·refine At.c 0 ?_ ?_
         ·intro e;apply aBq g9 e;exact At.r 1
         ·apply rt;exact At.jsn 0
      ·refine At.c 2 ?_ ?_
       ·refine At.J 0 0 [] 1 (λp12=>([(52,(eB p12))],[],[])) (λp12=>?_) λp12=>?_
        ·refine At.o 3 (aA9 aDB (a0.gU:aB) (aB.mk 0 0 0:aB) (by kernel_rfl) (by kernel_rfl) (λ_=>rfl) (λ_=>rfl) (by kernel_rfl) (by kernel_rfl)) ?_;refine lx ?_;intro x13;refine At.s 47 1 ?_ ?_
         ·refine At.g [47] 5 ?_;apply rt;exact At.jn 0
         ·refine At.g [47] 3 ?_;refine At.o 0 (aA9 aDB (a0.gV:aB) (aB.mk 0 0 0:aB) (by kernel_rfl) (by kernel_rfl) (λ_=>rfl) (λ_=>rfl) (by kernel_rfl) (by kernel_rfl)) ?_;refine At.g [47] 1 ?_;apply rt;exact At.jn 0
        ·refine At.c 0 ?_ ?_
         ·intro e;apply aBq g9 e;exact At.r 1
         ·apply rt;exact At.jsn 0
       ·apply rt;exact At.jsn 0
     ·apply rt;exact At.r 1
def iV(N:Nat)(a0:(List aS)):Nat->Int->Option (Sum (Unit) (Int))
 | 0,_=>none
 | k+1,s2=>
  aQ (decide (s2 < ((a0.length:Int)))) λx3=>
  cond x3 (
   aa (idx a0 s2) λe4=>
   aa (qU N e4) λr5=>
   cond (r5 != 0) (
    some (Sum.inr r5)) (
    iV N a0 k (I64 (s2+1)))) (
   some (Sum.inl (())))
def hJ(N:Nat)(a0:(List aS)):Option (Int):=
 aa (iV N a0 N 0) λo=>jY o (λp1=>
  some 0) (λr=>some r)
theorem aAF{N a0 r}(h:hJ N a0=some r):FnM Tryz.prog 73 [] [(eL 13 aS.enc a0),(.fn (.func 74) [] [])] (j64 r) []:=by
 unfold hJ at h;refine At.f bO hT hmo Tryz.func73 rfl h ?_;refine At.MS 4 [] 0 (λp1=>([],[],[])) [1,8,9] 0 (iV N a0) (λ(s2:Int)=>([(10,(j64 s2))],[],[])) _ N (λop1 g1 k s2=>?_) λp1=>?_
 ·refine lx ?_;intro x3;refine At.c 1 ?_ ?_
  ·refine At.i hT 0 aS.enc λe4=>?_;refine At.y 5 aEA λr5=>?_;refine At.c 3 ?_ ?_
   ·intro e;apply aBq g1 e;exact At.r 2
   ·exact λh=>At.v 2 _ h
  ·apply rt;exact At.xs 0
 ·apply rt;exact At.r 1
def aKH : Nat->Bool:=imL [1]
def kG(N:Nat)(a0:aE):Option (Int):=
 aQ ((a0.gA3.length:Int)) λx1=>
 aQ (x1 != ((a0.gJ.length:Int))) λx2=>
 cond x2 (
  some 5) (
  aa (dI N a0.gQ a0) λr3=>
  cond (r3 != 0) (
   some r3) (
   aa (dS N a0.gB0) λr4=>
   cond (r4 != 0) (
    some r4) (
    aa (fK N a0.gO) λr5=>
    cond (r5 != 0) (
     some r5) (
     aa (hJ N a0.gM) λr6=>
     some r6))))
theorem aId{N a0 r}(h:kG N a0=some r):FnM Tryz.prog 30 [] [(aE.enc a0)] (j64 r) []:=by
 unfold kG at h;refine At.f aKH hT hmo Tryz.func30 rfl h ?_;refine lx ?_;intro x1;refine lx ?_;intro x2;refine At.c 9 ?_ ?_
 ·apply rt;exact At.r 1
 ·refine At.o 2 (qT (x:=(.fn (.func 67) [] [(.im (aE.enc a0))])) (by kernel_rfl) (by kernel_rfl)) ?_;refine At.y 0 aAE λr3=>?_;refine At.c 3 ?_ ?_
  ·apply rt;exact At.r 2
  ·refine At.y 2 wJ λr4=>?_;refine At.c 3 ?_ ?_
   ·apply rt;exact At.r 2
   ·refine At.y 2 zB λr5=>?_;refine At.c 3 ?_ ?_
    ·apply rt;exact At.r 2
    ·refine At.y 2 aAF λr6=>?_;apply rt;exact At.r 1
def aOJ : Nat->Bool:=imL [1]
def xN(N:Nat)(a0:aB):Option (Bool):=
 aa (aQ (!(aB.eq a0 (aB.mk 0 0 0))) λx2=>
 cond x2 (
  aQ (decide ((jZ (jZ a0.gX a0.gY) a0.gZ)<=16384)) λx3=>
  cond x3 (
   aQ (decide ((eP (eP a0.gX a0.gY) a0.gZ)>=(-16384))) λx4=>
   some x4) (
   some false)) (
  some false)) λp1=>
 some p1
theorem aDy{N a0 r}(h:xN N a0=some r):FnM Tryz.prog 110 [] [(aB.enc a0)] (eB r) []:=by
 unfold xN at h;refine At.f aOJ hT hmo Tryz.func110 rfl h ?_;refine At.J 2 0 [] 0 (λp1=>([(2,(eB p1))],[],[])) (λp1=>?_) λp1=>?_
 ·refine At.o 2 (aA9 aDB (a0:aB) (aB.mk 0 0 0:aB) (by kernel_rfl) (by kernel_rfl) (λ_=>rfl) (λ_=>rfl) (by kernel_rfl) (by kernel_rfl)) ?_;refine lx ?_;intro x2;refine At.s 6 1 ?_ ?_
  ·refine At.g [6] 6 ?_;refine At.o 0 (aBU (k := .i64) (i:=a0.gX) (j:=a0.gY) (l:=a0.gZ) (by kernel_rfl) (by kernel_rfl)) ?_;refine lx ?_;intro x3;refine At.g [6] 3 ?_;refine At.s 16 0 ?_ ?_
   ·refine At.g [16] 6 ?_;refine At.o 0 (aBt (k := .i64) (i:=a0.gX) (j:=a0.gY) (l:=a0.gZ) (by kernel_rfl) (by kernel_rfl)) ?_;refine lx ?_;intro x4;refine At.g [16] 3 ?_;apply rt;exact At.jn 0
   ·refine At.g [16] 10 ?_;apply rt;exact At.jn 0
  ·refine At.g [6,16] 20 ?_;apply rt;exact At.jn 0
 ·apply rt;exact At.r 0
def nS(N:Nat)(a0 a1 a2:Int):Option (Bool):=
 aQ (cond (decide (a0>=a1)) (decide (a0<=a2)) false) λx1=>
 some x1
theorem xH{N a0 a1 a2 r}(h:nS N a0 a1 a2=some r):FnM Tryz.prog 109 [] [(j64 a0),(j64 a1),(j64 a2)] (eB r) []:=by
 unfold nS at h;refine At.f bO hT hmo Tryz.func109 rfl h ?_;refine lx ?_;intro x1;apply rt;exact At.r 10
def aLW : Nat->Bool:=imL [3]
def vO(N:Nat)(a0:bQ)(a1 a2:Int):Option (Int):=
 aa (aQ (decide ((jZ (jZ a0.gA6.gX a0.gA6.gY) a0.gA6.gZ) > 32768)) λx2=>
 cond x2 (
  some true) (
  aQ (decide ((eP (eP a0.gA6.gX a0.gA6.gY) a0.gA6.gZ) < (-32768))) λx3=>
  some x3)) λp1=>
 cond p1 (
  some 8) (
  aa (aa (xN N a0.gB3) λr5=>
  cond (!r5) (
   some true) (
   aa (xN N a0.gUp) λr6=>
   cond (!r6) (
    some true) (
    aa (xN N a0.gE2) λr7=>
    some (!r7)))) λp4=>
  cond p4 (
   some 2) (
   aa (aa (nS N a0.gC6 0 1024) λr9=>
   cond (!r9) (
    some true) (
    aa (nS N a0.gD1 1 32768) λr10=>
    cond (!r10) (
     some true) (
     aa (nS N a1 1 64) λr11=>
     cond (!r11) (
      some true) (
      aa (nS N a2 1 64) λr12=>
      some (!r12))))) λp8=>
   cond p8 (some 2) (some 0)))
theorem aE5{N a0 a1 a2 r}(h:vO N a0 a1 a2=some r):FnM Tryz.prog 75 [] [(bQ.enc a0),(j64 a1),(j64 a2)] (j64 r) []:=by
 unfold vO at h;refine At.f aLW hT hmo Tryz.func75 rfl h ?_;refine At.J 7 0 [1,2,3,8] 1 (λp1=>([(11,(eB p1))],[],[])) (λp1=>?_) λp1=>?_
 ·refine At.o 6 (aBU (k := .i64) (i:=a0.gA6.gX) (j:=a0.gA6.gY) (l:=a0.gA6.gZ) (by kernel_rfl) (by kernel_rfl)) ?_;refine lx ?_;intro x2;refine At.s 20 2 ?_ ?_
  ·refine At.g [20] 10 ?_;apply rt;exact At.jn 0
  ·refine At.g [20] 6 ?_;refine At.o 0 (aBt (k := .i64) (i:=a0.gA6.gX) (j:=a0.gA6.gY) (l:=a0.gA6.gZ) (by kernel_rfl) (by kernel_rfl)) ?_;refine lx ?_;intro x3;refine At.g [20] 3 ?_;apply rt;exact At.jn 0
 ·refine At.c 0 ?_ ?_
  ·apply rt;exact At.r 1
  ·refine At.J 0 0 [1,2,3,8] 1 (λp4=>([(30,(eB p4))],[],[])) (λp4=>?_) λp4=>?_
   ·refine At.y 2 aDy λr5=>?_;refine At.s 35 2 ?_ ?_
    ·refine At.g [35,41] 12 ?_;apply rt;exact At.jn 0
    ·refine At.g [35] 2 ?_;refine At.y 0 aDy λr6=>?_;refine At.g [35] 3 ?_;refine At.s 41 0 ?_ ?_
     ·refine At.g [41] 6 ?_;apply rt;exact At.jn 0
     ·refine At.g [41] 2 ?_;refine At.y 0 aDy λr7=>?_;refine At.g [41] 3 ?_;apply rt;exact At.jn 0
   ·refine At.c 0 ?_ ?_
    ·apply rt;exact At.r 1
    ·refine At.J 0 0 [] 1 (λp8=>([(47,(eB p8))],[],[])) (λp8=>?_) λp8=>?_
     ·refine At.y 3 xH λr9=>?_;refine At.s 53 2 ?_ ?_
      ·refine At.g [53,60,66] 19 ?_;apply rt;exact At.jn 0
      ·refine At.g [53] 3 ?_;refine At.y 0 xH λr10=>?_;refine At.g [53] 3 ?_;refine At.s 60 0 ?_ ?_
       ·refine At.g [60,66] 12 ?_;apply rt;exact At.jn 0
       ·refine At.g [60] 2 ?_;refine At.y 0 xH λr11=>?_;refine At.g [60] 3 ?_;refine At.s 66 0 ?_ ?_
        ·refine At.g [66] 6 ?_;apply rt;exact At.jn 0
        ·refine At.g [66] 2 ?_;refine At.y 0 xH λr12=>?_;refine At.g [66] 3 ?_;apply rt;exact At.jn 0
     ·refine At.c 0 ?_ ?_
      ·apply rt;exact At.r 1
      ·apply rt;exact At.r 1
def aNj : Nat->Bool:=imL [1]
def uR(N:Nat)(a0:aF):Option (Int):=
 aa (vO N a0.gD7 a0.gW a0.gH) λr1=>
 cond (r1 != 0) (
  some r1) (
  aQ (decide (a0.gB5 < 1)) λx2=>
  aQ (decide (a0.gB5 > 16)) λx3=>
  aQ (cond (cond x2 true x3) true (decide (a0.gG < 0))) λx4=>
  aQ (cond x4 true (decide (a0.gG > 8))) λx5=>
  aQ (cond x5 true (decide (a0.gK < 0))) λx6=>
  aQ (cond x6 true (decide (a0.gK > 2))) λx7=>
  cond x7 (some 2) (some 0))
theorem aMN{N a0 r}(h:uR N a0=some r):FnM Tryz.prog 31 [] [(aF.enc a0)] (j64 r) []:=by
 unfold uR at h;refine At.f aNj hT hmo Tryz.func31 rfl h ?_;refine At.y 8 aE5 λr1=>?_;refine At.c 3 ?_ ?_
 ·apply rt;exact At.r 2
 ·refine lx ?_;intro x2;refine lx ?_;intro x3;refine lx ?_;intro x4;refine lx ?_;intro x5;refine lx ?_;intro x6;refine lx ?_;intro x7;refine At.c 28 ?_ ?_
  ·apply rt;exact At.r 1
  ·apply rt;exact At.r 1
def kM(N:Nat)(a0:Int):Option (Int×Int):=
 cond (a0==0) (
  some ((16,4))) (
  cond (a0==1) (
   some ((64,4))) (
   cond (a0==2) (some ((256,8))) (some ((0,0)))))
theorem vN{N a0 r}(h:kM N a0=some r):FnM Tryz.prog 35 [] [(j64 a0)] (.tup [(j64 r.1),(j64 r.2)]) []:=by
 unfold kM at h;refine At.f bO hT hmo Tryz.func35 rfl h ?_;refine At.c 5 ?_ ?_
 ·apply rt;exact At.r 2
 ·refine At.c 2 ?_ ?_
  ·apply rt;exact At.r 2
  ·refine At.c 2 ?_ ?_
   ·apply rt;exact At.r 2
   ·apply rt;exact At.r 2
def aIo : Nat->Bool:=imL [2]
def pL(N:Nat)(a0:aE)(a1:Int):Option (Int):=
 aa (kM N a1) λr1=>
 aQ ((a0.gQ.length:Int)) λx2=>
 aQ ((a0.gM.length:Int)) λx3=>
 aQ (cond (decide (x2 > r1.1)) true (decide (x3 > r1.2))) λx4=>
 cond x4 (some 15) (some 0)
theorem aH4{N a0 a1 r}(h:pL N a0 a1=some r):FnM Tryz.prog 32 [] [(aE.enc a0),(j64 a1)] (j64 r) []:=by
 unfold pL at h;refine At.f aIo hT hmo Tryz.func32 rfl h ?_;refine At.y 3 vN λr1=>?_;refine lx ?_;intro x2;refine lx ?_;intro x3;refine lx ?_;intro x4;refine At.c 17 ?_ ?_
 ·apply rt;exact At.r 1
 ·apply rt;exact At.r 1
def uY(N:Nat)(a0:Int):Option (Int×Bool):=
 cond (decide (a0 < 0)) (some ((U64 (0 - (U64 a0)),true))) (some ((U64 a0,false)))
theorem aDJ{N a0 r}(h:uY N a0=some r):FnM Tryz.prog 143 [] [(j64 a0)] (.tup [(k64 r.1),(eB r.2)]) []:=by
 unfold uY at h;refine At.f bO hT hmo Tryz.func143 rfl h ?_;refine At.c 4 ?_ ?_
 ·apply rt;exact At.r 5
 ·apply rt;exact At.r 4
def lT(N:Nat)(a0 a1:Int):Option (Int×Int):=
 aQ (lE .u64 a0 4294967295) λx1=>
 aQ (lE .u64 a1 4294967295) λx2=>
 aQ (U64 ((shr .u64 a0 32)*x2)) λx3=>
 aQ (shr .u64 (U64 (x1*x2)) 32) λx4=>
 aQ (lE .u64 (U64 (x3+x4)) 4294967295) λx5=>
 aQ (shr .u64 (U64 (x3+x4)) 32) λx6=>
 aQ (U64 (x1*(shr .u64 a1 32))) λx7=>
 aQ (U64 ((shr .u64 a0 32)*(shr .u64 a1 32))) λx8=>
 aQ (shr .u64 (U64 (x5+x7)) 32) λx9=>
 aQ (U64 ((U64 (x8+x6))+x9)) λx10=>
 some ((x10,U64 (a0*a1)))
theorem aBc{N a0 a1 r}(h:lT N a0 a1=some r):FnM Tryz.prog 147 [] [(k64 a0),(k64 a1)] (.tup [(k64 r.1),(k64 r.2)]) []:=by
 unfold lT at h;refine At.f bO hT hmo Tryz.func147 rfl h ?_;refine lx ?_;intro x1;refine lx ?_;intro x2;refine lx ?_;intro x3;refine lx ?_;intro x4;refine lx ?_;intro x5;refine lx ?_;intro x6;refine lx ?_;intro x7;refine lx ?_;intro x8;refine lx ?_;intro x9;refine lx ?_;intro x10;apply rt;exact At.r 50
theorem aQJ{x y c:Int}{r:Int×Int}(h:aEb x y c=some r):aJX Tryz.prog 186 [.int .u64 x,.int .u64 y,.int .u64 c] (.tuple #[.int .u64 r.1,.int .u64 r.2]):=
 aQ3 Tryz.func186 (by kernel_rfl) (by kernel_rfl) (by kernel_rfl) (by kernel_rfl) h
def rG(N:Nat)(a0 a1:Int):Option (Int×Int):=
 aa (aEb 0 a1 0) λr1=>
 aa (aEb 0 a0 r1.2) λr2=>
 some ((r2.1,r1.1))
theorem aEB{N a0 a1 r}(h:rG N a0 a1=some r):FnM Tryz.prog 142 [] [(k64 a0),(k64 a1)] (.tup [(k64 r.1),(k64 r.2)]) []:=by
 unfold rG at h;refine At.f bO hT hmo Tryz.func142 rfl h ?_;refine At.b 3 (λ_ e=>aGb (aQJ e) (λ_=>aFq)) λr1=>?_;refine At.b 7 (λ_ e=>aGb (aQJ e) (λ_=>aFq)) λr2=>?_;apply rt;exact At.r 8
def lJ(N:Nat)(a0 a1:Int)(a2:Bool):Option (aT×Bool):=
 aa (cond a2 (
  aa (rG N a0 a1) λr2=>
  some ((r2.1,r2.2))) (
  some ((a0,a1)))) λp1=>
 aQ (decide ((I64 p1.1) < 0)) λx3=>
 aQ ((bor .u64 p1.1 p1.2)==0) λx4=>
 aQ (cond (x3==a2) true x4) λx5=>
 some ((aT.mk (I64 p1.1) p1.2,x5))
theorem aD0{N a0 a1 a2 r}(h:lJ N a0 a1 a2=some r):FnM Tryz.prog 146 [] [(k64 a0),(k64 a1),(eB a2)] (.tup [(aT.enc r.1),(eB r.2)]) []:=by
 unfold lJ at h;refine At.f bO hT hmo Tryz.func146 rfl h ?_;refine At.J 2 1 [2,6] 1 (λp1=>([(0,(k64 p1.1)),(1,(k64 p1.2))],[],[])) (λp1=>?_) λp1=>?_
 ·refine At.c 1 ?_ ?_
  ·refine At.y 2 aEB λr2=>?_;apply rt;exact At.jn 5
  ·apply rt;exact At.jn 0
 ·refine lx ?_;intro x3;refine lx ?_;intro x4;refine lx ?_;intro x5;apply rt;exact At.r 20
def jI(N:Nat)(a0 a1:Int):Option (aT):=
 aa (uY N a0) λr1=>
 aa (uY N a1) λr2=>
 aa (lT N r1.1 r2.1) λr3=>
 aa (lJ N r3.1 r3.2 (!(r1.2==r2.2))) λr4=>
 some r4.1
theorem mF{N a0 a1 r}(h:jI N a0 a1=some r):FnM Tryz.prog 96 [] [(j64 a0),(j64 a1)] (aT.enc r) []:=by
 unfold jI at h;refine At.f bO hT hmo Tryz.func96 rfl h ?_;refine At.y 2 aDJ λr1=>?_;refine At.y 6 aDJ λr2=>?_;refine At.y 7 aBc λr3=>?_;refine At.y 10 aD0 λr4=>?_;apply rt;exact At.r 8
def aOL : Nat->Bool:=imL [1]
def rD(N:Nat)(a0:aT):Option (Int×Bool):=
 aQ (shr .i64 (I64 a0.gLo) 63) λx1=>
 cond (a0.gHi != x1) (some ((0,false))) (some ((I64 a0.gLo,true)))
theorem aAd{N a0 r}(h:rD N a0=some r):FnM Tryz.prog 148 [] [(aT.enc a0)] (.tup [(j64 r.1),(eB r.2)]) []:=by
 unfold rD at h;refine At.f aOL hT hmo Tryz.func148 rfl h ?_;refine lx ?_;intro x1;refine At.c 12 ?_ ?_
 ·apply rt;exact At.r 2
 ·apply rt;exact At.r 3
def aOV : Nat->Bool:=imL [1]
def uO(N:Nat)(a0:aT):Option (Int):=
 aa (rD N a0) λr1=>
 cond r1.2 (
  some r1.1) (
  cond (decide (a0.gHi < 0)) (some (-9223372036854775808)) (some 9223372036854775807))
theorem aEH{N a0 r}(h:uO N a0=some r):FnM Tryz.prog 97 [] [(aT.enc a0)] (j64 r) []:=by
 unfold uO at h;refine At.f aOV hT hmo Tryz.func97 rfl h ?_;refine At.y 3 aAd λr1=>?_;refine At.c 6 ?_ ?_
 ·apply rt;exact At.r 2
 ·refine At.c 3 ?_ ?_
  ·apply rt;exact At.r 1
  ·apply rt;exact At.r 1
def jE(N:Nat)(a0:Int):Option (Int):=
 aa (jI N a0 4294967296) λr1=>
 aa (uO N r1) λr2=>
 some r2
theorem jP{N a0 r}(h:jE N a0=some r):FnM Tryz.prog 54 [] [(j64 a0)] (j64 r) []:=by
 unfold jE at h;refine At.f bO hT hmo Tryz.func54 rfl h ?_;refine At.y 2 mF λr1=>?_;refine At.y 0 aEH λr2=>?_;apply rt;exact At.r 1
def qJ(N:Nat)(a0:Int):Option (Int):=
 aa (aQ (decide (a0>=4294967296)) λx2=>
 cond x2 (some ((shr .u64 a0 32,32))) (some ((a0,0)))) λp1=>
 aa (cond (decide (p1.1>=65536)) (
  some ((shr .u64 p1.1 16,I64 (p1.2+16)))) (
  some ((p1.1,p1.2)))) λp3=>
 aa (cond (decide (p3.1>=256)) (some ((shr .u64 p3.1 8,I64 (p3.2+8)))) (some ((p3.1,p3.2)))) λp4=>
 aa (idx aPM.data.toList (U8 p4.1)) λc5=>
 aQ (I64 ((UInt8.toNat c5:Int))) λx6=>
 some (I64 (p4.2+x6))
theorem aFX{N a0 r}(h:qJ N a0=some r):FnM Tryz.prog 205 [] [(k64 a0)] (j64 r) []:=by
 unfold qJ at h;refine At.f bO hT hmo Tryz.func205 rfl h ?_;refine At.J 1 1 [] 0 (λp1=>([(0,(k64 p1.1)),(2,(j64 p1.2))],[],[])) (λp1=>?_) λp1=>?_
 ·refine lx ?_;intro x2;refine At.c 2 ?_ ?_
  ·apply rt;exact At.jn 4
  ·apply rt;exact At.jn 0
 ·refine At.J 0 1 [] 0 (λp3=>([(0,(k64 p3.1)),(2,(j64 p3.2))],[],[])) (λp3=>?_) λp3=>?_
  ·refine At.c 2 ?_ ?_
   ·apply rt;exact At.jn 6
   ·apply rt;exact At.jn 0
  ·refine At.J 0 1 [] 0 (λp4=>([(0,(k64 p4.1)),(2,(j64 p4.2))],[],[])) (λp4=>?_) λp4=>?_
   ·refine At.c 2 ?_ ?_
    ·apply rt;exact At.jn 6
    ·apply rt;exact At.jn 0
   ·refine At.b 3 (λ_ e=>aT5 hT e (by kernel_rfl) (by kernel_rfl)) λc5=>?_;refine lx ?_;intro x6;apply rt;exact At.r 3
def lO(N:Nat)(a0:Int):Option (Int):=
 aa (qJ N a0) λr1=>
 some (I64 (64 - r1))
theorem aBH{N a0 r}(h:lO N a0=some r):FnM Tryz.prog 187 [] [(k64 a0)] (j64 r) []:=by
 unfold lO at h;refine At.f bO hT hmo Tryz.func187 rfl h ?_;refine At.y 2 aFX λr1=>?_;apply rt;exact At.r 2
def nO(N:Nat)(x5:Int):Nat->Int->Int->Int->Int->Int->Option (Int×Int×Int×Int)
 | 0,_,_,_,_,_=>none
 | k+1,s14,s15,s16,s17,s18=>
  aQ (decide (s17>=4294967296)) λx19=>
  aQ (U64 ((U64 (4294967296*s18))+s16)) λx20=>
  aQ (decide ((U64 (s17*x5)) > x20)) λx21=>
  cond (cond x19 true x21) (
   aQ (decide ((U64 (s18+s14))>=4294967296)) λx22=>
   cond x22 (
    some ((s14,s15,s16,U64 (s17 - 1)))) (
    nO N x5 k s14 s15 s16 (U64 (s17 - 1)) (U64 (s18+s14)))) (
   some ((s14,s15,s16,s17)))
def nL(N:Nat)(x9 x5:Int)(p13:Int×Int×Int×Int):Nat->Int->Int->Option (Int)
 | 0,_,_=>none
 | k+1,s28,s29=>
  aQ (decide (s29>=4294967296)) λx30=>
  aQ (U64 ((U64 (4294967296*s28))+x9)) λx31=>
  aQ (decide ((U64 (s29*x5)) > x31)) λx32=>
  cond (cond x30 true x32) (
   aQ (decide ((U64 (s28+p13.1))>=4294967296)) λx33=>
   cond x33 (
    some (U64 (s29 - 1))) (
    nL N x9 x5 p13 k (U64 (s28+p13.1)) (U64 (s29 - 1)))) (
   some s29)
def kC(N:Nat)(a0 a1 a2:Int):Option (Int×Int):=
 cond (a2==0) (
  none) (
  cond (decide (a2<=a0)) (
   none) (
   cond (a0==0) (
    aa (aDm .u64 a1 a2) λx1=>
    aa (aG6 .u64 a1 a2) λx2=>
    some ((x1,x2))) (
    aa (lO N a2) λr3=>
    aa (aLm .u64 a2 (U64 r3)) λx4=>
    aQ (lE .u64 x4 4294967295) λx5=>
    aa (aLm .u64 a0 (U64 r3)) λx6=>
    aa (aHz .u64 a1 (U64 (64 - (U64 r3)))) λx7=>
    aa (aLm .u64 a1 (U64 r3)) λx8=>
    aQ (lE .u64 x8 4294967295) λx9=>
    aa (aDm .u64 (bor .u64 x6 x7) (shr .u64 x4 32)) λx10=>
    aQ (U64 (x10*(shr .u64 x4 32))) λx11=>
    aQ (U64 ((bor .u64 x6 x7) - x11)) λx12=>
    aa (nO N x5 N (shr .u64 x4 32) (bor .u64 x6 x7) (shr .u64 x8 32) x10 x12) λp13=>
    aQ (U64 (p13.2.1*4294967296)) λx23=>
    aQ (U64 ((U64 (x23+p13.2.2.1)) - (U64 (p13.2.2.2*x4)))) λx24=>
    aa (aDm .u64 x24 p13.1) λx25=>
    aQ (U64 (x24 - (U64 (x25*p13.1)))) λx26=>
    aa (nL N x9 x5 p13 N x26 x25) λp27=>
    aQ (U64 (p13.2.2.2*4294967296)) λx34=>
    aQ (U64 ((U64 (x24*4294967296))+x9)) λx35=>
    aQ (U64 (x35 - (U64 (p27*x4)))) λx36=>
    aa (aHz .u64 x36 (U64 r3)) λx37=>
    some ((U64 (x34+p27),x37)))))
theorem aBi{N a0 a1 a2 r}(h:kC N a0 a1 a2=some r):FnM Tryz.prog 144 [] [(k64 a0),(k64 a1),(k64 a2)] (.tup [(k64 r.1),(k64 r.2)]) []:=by
 unfold kC at h;refine At.f bO hT hmo Tryz.func144 rfl h ?_;refine At.c 4 ?_ ?_
 ·exact nn
 ·refine At.c 3 ?_ ?_
  ·exact nn
  ·refine At.c 2 ?_ ?_
   ·refine At.D 0 [] ?_;refine DD.b 2 (λe _=>yX hT e (by kernel_rfl) (by kernel_rfl)) λx1=>?_;refine DD.b 2 (λe _=>aDA hT e (by kernel_rfl) (by kernel_rfl)) λx2=>?_;refine DD.e hT hmo 2 ?_;apply rt;exact At.r 0
   ·refine At.y 1 aBH λr3=>?_;refine At.b 4 (λ_ e=>aEk hT (k' := .u64) e (by kernel_rfl) (by kernel_rfl)) λx4=>?_;refine lx ?_;intro x5;refine At.b 9 (λ_ e=>aEk hT (k' := .u64) e (by kernel_rfl) (by kernel_rfl)) λx6=>?_;refine At.b 3 (λ_ e=>aBA hT (k' := .u64) e (by kernel_rfl) (by kernel_rfl)) λx7=>?_;refine At.b 4 (λ_ e=>aEk hT (k' := .u64) e (by kernel_rfl) (by kernel_rfl)) λx8=>?_;refine lx ?_;intro x9;refine At.b 9 (λ_ e=>yX hT e (by kernel_rfl) (by kernel_rfl)) λx10=>?_;refine lx ?_;intro x11;refine lx ?_;intro x12;refine At.M 7 [2,8,10,14] 0 (λp13=>([(9,(k64 p13.1)),(11,(k64 p13.2.1)),(13,(k64 p13.2.2.1)),(15,(k64 p13.2.2.2))],[],[])) [2,8,10,14] 0 (CU5 (nO N x5)) (cu5 λ(s14:Int) (s15:Int) (s16:Int) (s17:Int) (s18:Int)=>([(9,(k64 s14)),(11,(k64 s15)),(13,(k64 s16)),(15,(k64 s17)),(16,(k64 s18))],[],[])) (_,_,_,_,_) N (λp13 k=>un5 λs14 s15 s16 s17 s18=>?_) λp13=>?_
    ·refine lx ?_;intro x19;refine lx ?_;intro x20;refine lx ?_;intro x21;refine At.c 12 ?_ ?_
     ·refine lx ?_;intro x22;refine At.c 9 ?_ ?_
      ·apply rt;exact At.x 0
      ·exact λh=>At.v 0 (_,_,_,_,_) h
     ·apply rt;exact At.x 0
    ·refine lx ?_;intro x23;refine lx ?_;intro x24;refine At.b 11 (λ_ e=>yX hT e (by kernel_rfl) (by kernel_rfl)) λx25=>?_;refine lx ?_;intro x26;refine At.M 7 [2,8,14,15,17] 0 (λp27=>([(18,(k64 p27))],[],[])) [2,8,9,10,14,15,17] 0 (CU2 (nL N x9 x5 p13)) (cu2 λ(s28:Int) (s29:Int)=>([(16,(k64 s28)),(18,(k64 s29))],[],[])) (_,_) N (λp27 k=>un2 λs28 s29=>?_) λp27=>?_
     ·refine lx ?_;intro x30;refine lx ?_;intro x31;refine lx ?_;intro x32;refine At.c 12 ?_ ?_
      ·refine lx ?_;intro x33;refine At.c 9 ?_ ?_
       ·apply rt;exact At.x 0
       ·exact λh=>At.v 0 (_,_) h
      ·apply rt;exact At.x 0
     ·refine lx ?_;intro x34;refine lx ?_;intro x35;refine lx ?_;intro x36;refine At.b 13 (λ_ e=>aBA hT (k' := .u64) e (by kernel_rfl) (by kernel_rfl)) λx37=>?_;apply rt;exact At.r 2
theorem aL3{x y c:Int}{r:Int×Int}(h:aBC x y c=some r):aJX Tryz.prog 145 [.int .u64 x,.int .u64 y,.int .u64 c] (.tuple #[.int .u64 r.1,.int .u64 r.2]):=
 aQm Tryz.func145 (by kernel_rfl) (by kernel_rfl) (by kernel_rfl) (by kernel_rfl) h
def aOc : Nat->Bool:=imL [2]
def rA(N:Nat)(a0:aT)(a1:Int):Option (aT×Int×Bool):=
 cond (a1==0) (
  some ((aT.mk 0 0,0,false))) (
  aa (cond (decide (a0.gHi < 0)) (
   aa (rG N (U64 a0.gHi) a0.gLo) λr2=>
   some ((r2.1,r2.2))) (
   some ((U64 a0.gHi,a0.gLo)))) λp1=>
  aa (uY N a1) λr3=>
  aa (kC N 0 p1.1 r3.1) λr4=>
  aa (kC N r4.2 p1.2 r3.1) λr5=>
  aa (aQ (!((decide (a0.gHi < 0))==r3.2)) λx7=>
  aQ (cond x7 (decide (r5.2 > 0)) false) λx8=>
  cond x8 (
   aa (aBC r5.1 1 0) λr9=>
   some ((U64 (r4.1+r9.2),r9.1,U64 (r3.1 - r5.2)))) (
   some ((r4.1,r5.1,r5.2)))) λp6=>
  aQ (!((decide (a0.gHi < 0))==r3.2)) λx10=>
  aa (lJ N p6.1 p6.2.1 x10) λr11=>
  cond (!r11.2) (
   some ((aT.mk 0 0,0,false))) (
   aa (cond r3.2 (some (U64 (0 - p6.2.2))) (some p6.2.2)) λp12=>
   some ((r11.1,I64 p12,true))))
theorem aCK{N a0 a1 r}(h:rA N a0 a1=some r):FnM Tryz.prog 95 [] [(aT.enc a0),(j64 a1)] (.tup [(aT.enc r.1),(j64 r.2.1),(eB r.2.2)]) []:=by
 unfold rA at h;refine At.f aOc hT hmo Tryz.func95 rfl h ?_;refine At.c 6 ?_ ?_
 ·apply rt;exact At.r 4
 ·refine At.D 0 [] ?_;refine DD.e hT hmo 7 ?_;refine At.J 0 1 [1,2,4] 1 (λp1=>([(7,(k64 p1.1)),(8,(k64 p1.2))],[],[])) (λp1=>?_) λp1=>?_
  ·refine At.c 3 ?_ ?_
   ·refine At.y 2 aEB λr2=>?_;apply rt;exact At.jn 5
   ·apply rt;exact At.jn 0
  ·refine At.y 1 aDJ λr3=>?_;refine At.y 7 aBi λr4=>?_;refine At.y 8 aBi λr5=>?_;refine At.J 5 1 [2,4,10] 1 (λp6=>([(11,(k64 p6.1)),(13,(k64 p6.2.1)),(14,(k64 p6.2.2))],[],[])) (λp6=>?_) λp6=>?_
   ·refine lx ?_;intro x7;refine lx ?_;intro x8;refine At.c 9 ?_ ?_
    ·refine At.b 1 (λ_ e=>aGb (aL3 e) (λ_=>aFq)) λr9=>?_;apply rt;exact At.jn 15
    ·apply rt;exact At.jn 0
   ·refine lx ?_;intro x10;refine At.y 7 aD0 λr11=>?_;refine At.c 7 ?_ ?_
    ·apply rt;exact At.r 4
    ·refine At.J 0 1 [4] 1 (λp12=>([(14,(k64 p12))],[],[])) (λp12=>?_) λp12=>?_
     ·refine At.c 1 ?_ ?_
      ·apply rt;exact At.jn 3
      ·apply rt;exact At.jn 0
     ·apply rt;exact At.r 6
def jM(N:Nat)(a0 a1:Int):Option (Int):=
 cond (a1==0) (
  cond (decide (a0 > 0)) (
   some 9223372036854775807) (
   cond (decide (a0 < 0)) (some (-9223372036854775808)) (some 0))) (
  aa (jI N a0 4294967296) λr1=>
  aa (rA N r1 a1) λr2=>
  aa (uO N r2.1) λr3=>
  some r3)
theorem nD{N a0 a1 r}(h:jM N a0 a1=some r):FnM Tryz.prog 53 [] [(j64 a0),(j64 a1)] (j64 r) []:=by
 unfold jM at h;refine At.f bO hT hmo Tryz.func53 rfl h ?_;refine At.c 3 ?_ ?_
 ·refine At.c 3 ?_ ?_
  ·apply rt;exact At.r 1
  ·refine At.c 3 ?_ ?_
   ·apply rt;exact At.r 1
   ·apply rt;exact At.r 1
 ·refine At.y 1 mF λr1=>?_;refine At.y 1 aCK λr2=>?_;refine At.y 9 aEH λr3=>?_;apply rt;exact At.r 1
def kU(N:Nat)(a0 a1:Int):Option (Int):=
 aa (jE N a0) λr1=>
 aa (jE N a1) λr2=>
 aa (jM N r1 r2) λr3=>
 some r3
theorem wM{N a0 a1 r}(h:kU N a0 a1=some r):FnM Tryz.prog 161 [] [(j64 a0),(.im (j64 a1))] (j64 r) []:=by
 unfold kU at h;refine At.f bO hT hmo Tryz.func161 rfl h ?_;refine At.D 1 [] ?_;refine DD.y 1 jP λr1=>?_;refine DD.y 1 jP λr2=>?_;refine DD.y 0 nD λr3=>?_;refine DD.e hT hmo 1 ?_;apply rt;exact At.r 0
def aKM : Nat->Bool:=imL [2,3]
def tQ(N:Nat)(a0:(Vector Int 3))(a1:Int):Option (aA):=
 aa (idx a0.toList 0) λe1=>
 aa (kU N e1 a1) λr2=>
 aa (idx a0.toList 1) λe3=>
 aa (kU N e3 a1) λr4=>
 aa (idx a0.toList 2) λe5=>
 aa (kU N e5 a1) λr6=>
 some (aA.mk r2 r4 r6)
theorem aEG{N a0 a1 r}(h:tQ N a0 a1=some r):FnM Tryz.prog 111 [] [(eA 3 1 j64 a0),(j64 a1)] (aA.enc r) []:=by
 unfold tQ at h;refine At.f aKM hT hmo Tryz.func111 rfl h ?_;refine At.o 3 (qT (x:=(.fn (.func 161) [] [(.im (j64 a1))])) (by kernel_rfl) (by kernel_rfl)) ?_;refine At.D 1 [] ?_;refine DD.b 1 (λe _=>dC hT (N:=3) (k:=1) j64 a0 e) λe1=>?_;refine DD.y 1 wM λr2=>?_;refine DD.b 1 (λe _=>dC hT (N:=3) (k:=1) j64 a0 e) λe3=>?_;refine DD.y 1 wM λr4=>?_;refine DD.b 1 (λe _=>dC hT (N:=3) (k:=1) j64 a0 e) λe5=>?_;refine DD.y 1 wM λr6=>?_;refine DD.e hT hmo 2 ?_;apply rt;exact At.r 0
def aKL : Nat->Bool:=imL [1]
def qY(N:Nat)(a0:aS):Option (aA):=
 aa (tQ N a0.gA7 65536) λr1=>
 some r1
theorem aBx{N a0 r}(h:qY N a0=some r):FnM Tryz.prog 76 [] [(aS.enc a0)] (aA.enc r) []:=by
 unfold qY at h;refine At.f aKL hT hmo Tryz.func76 rfl h ?_;refine At.y 4 aEG λr1=>?_;apply rt;exact At.r 1
def oR(N:Nat)(a0:(List Int)):Nat->Int->Int->Option (Int)
 | 0,_,_=>none
 | k+1,s2,s3=>
  aQ (decide (s3 < ((a0.length:Int)))) λx4=>
  cond x4 (
   aa (idx a0 s3) λe5=>
   aa (aQ (cond (decide (s2 > 0)) (decide (e5 > 0)) false) λx7=>
   aQ (decide ((I64 (s2+e5)) < 0)) λx8=>
   cond (cond x7 x8 false) (
    some 9223372036854775807) (
    aQ (cond (decide (s2 < 0)) (decide (e5 < 0)) false) λx9=>
    aQ (decide ((I64 (s2+e5))>=0)) λx10=>
    cond (cond x9 x10 false) (some (-9223372036854775808)) (some (I64 (s2+e5))))) λp6=>
   oR N a0 k p6 (I64 (s3+1))) (
   some s2)
def lB(N:Nat)(a0:(List Int)):Option (Int):=
 aa (oR N a0 N 0 0) λp1=>
 some p1
theorem rB{N a0 r}(h:lB N a0=some r):FnM Tryz.prog 52 [] [(eL 1 j64 a0)] (j64 r) []:=by
 unfold lB at h;refine At.f bO hT hmo Tryz.func52 rfl h ?_;refine At.M 5 [] 0 (λp1=>([(3,(j64 p1))],[],[])) [7,8] 0 (CU2 (oR N a0)) (cu2 λ(s2:Int) (s3:Int)=>([(3,(j64 s2)),(9,(j64 s3))],[],[])) (_,_) N (λp1 k=>un2 λs2 s3=>?_) λp1=>?_
 ·refine lx ?_;intro x4;refine At.c 1 ?_ ?_
  ·refine At.i hT 0 j64 λe5=>?_;refine At.J 6 2 [7,8,9] 0 (λp6=>([(6,(j64 p6))],[],[])) (λp6=>?_) λp6=>?_
   ·refine lx ?_;intro x7;refine lx ?_;intro x8;refine At.c 11 ?_ ?_
    ·apply rt;exact At.jn 1
    ·refine lx ?_;intro x9;refine lx ?_;intro x10;refine At.c 11 ?_ ?_
     ·apply rt;exact At.jn 1
     ·apply rt;exact At.jn 0
   ·exact λh=>At.v 4 (_,_) h
  ·apply rt;exact At.x 0
 ·apply rt;exact At.r 2
def yG(N:Nat)(a0 a1:Int):Option (Int):=
 aa (lB N ([a0,a1])) λr1=>
 some r1
theorem aDO{N a0 a1 r}(h:yG N a0 a1=some r):FnM Tryz.prog 94 [] [(j64 a0),(j64 a1)] (j64 r) []:=by
 unfold yG at h;refine At.f bO hT hmo Tryz.func94 rfl h ?_;refine At.o 3 (bH hT (x:=(.sl 1 2 [(j64 a0),(j64 a1)]))) ?_;refine At.y 0 rB λr1=>?_;apply rt;exact At.r 1
def aG2 : Nat->Bool:=imL [3,4]
def sB(N:Nat)(a0 a1:aA):Option (aA):=
 aa (yG N a0.gX a1.gX) λr1=>
 aa (yG N a0.gY a1.gY) λr2=>
 aa (yG N a0.gZ a1.gZ) λr3=>
 some (aA.mk r1 r2 r3)
theorem aFh{N a0 a1 r}(h:sB N a0 a1=some r):FnM Tryz.prog 93 [] [(aA.enc a0),(aA.enc a1),(.fn (.func 94) [] [])] (aA.enc r) []:=by
 unfold sB at h;refine At.f aG2 hT hmo Tryz.func93 rfl h ?_;refine At.D 3 [] ?_;refine DD.y 5 aDO λr1=>?_;refine DD.y 5 aDO λr2=>?_;refine DD.y 5 aDO λr3=>?_;refine DD.e hT hmo 2 ?_;apply rt;exact At.r 0
def qM(N:Nat)(a0:(List aA)):Nat->aA->Int->Option (aA)
 | 0,_,_=>none
 | k+1,s2,s3=>
  aQ (decide (s3 < ((a0.length:Int)))) λx4=>
  cond x4 (
   aa (idx a0 s3) λe5=>
   aa (sB N s2 e5) λr6=>
   qM N a0 k r6 (I64 (s3+1))) (
   some s2)
def mC(N:Nat)(a0:(List aA)):Option (aA):=
 aa (qM N a0 N (aA.mk 0 0 0) 0) λp1=>
 some p1
theorem vC{N a0 r}(h:mC N a0=some r):FnM Tryz.prog 51 [] [(eL 3 aA.enc a0)] (aA.enc r) []:=by
 unfold mC at h;refine At.f bO hT hmo Tryz.func51 rfl h ?_;refine At.M 5 [2,3] 2 (λp1=>([],[(1,.var (aA.enc p1))],[])) [2,3,6,7] 2 (CU2 (qM N a0)) (cu2 λ(s2:aA) (s3:Int)=>([(8,(j64 s3))],[(1,.var (aA.enc s2))],[])) (_,_) N (λp1 k=>un2 λs2 s3=>?_) λp1=>?_
 ·refine lx ?_;intro x4;refine At.c 1 ?_ ?_
  ·refine At.i hT 0 aA.enc λe5=>?_;refine At.y 5 aFh λr6=>?_;exact λh=>At.v 3 (_,_) h
  ·apply rt;exact At.x 0
 ·apply rt;exact At.r 2
def tO(N:Nat)(a0:(List aS)):Nat->(List aA)->Int->Option ((List aA))
 | 0,_,_=>none
 | k+1,s2,s3=>
  aQ (decide (s3 < ((a0.length:Int)))) λx4=>
  cond x4 (
   aa (aa (idx a0 s3) λe6=>
   cond (e6.gA9==2) (
    aa (qY N e6) λr7=>
    aa (tU 24 s2 (([r7]:List aA))) λz8=>
    some ((z8,e6))) (
    some ((s2,e6)))) λp5=>
   tO N a0 k p5.1 (I64 (s3+1))) (
   some s2)
def aAM(N:Nat)(a0:(List aS)):Option (aA):=
 aa (tO N a0 N [] 0) λp1=>
 aa (mC N p1) λr9=>
 some r9
theorem aNz{N a0 r}(h:aAM N a0=some r):FnM Tryz.prog 33 [] [(eL 13 aS.enc a0)] (aA.enc r) []:=by
 unfold aAM at h;refine At.f bO hT hmo Tryz.func33 rfl h ?_;refine At.ownn 5 3 3 ?_;refine At.M 0 [2] 2 (λp1=>([(3,(eO 1 3 aA.enc p1))],[(1,.tail (p1.length*3))],[])) [2,6,7] 2 (CU2 (tO N a0)) (cu2 λ(s2:(List aA)) (s3:Int)=>([(3,(eO 1 3 aA.enc s2)),(8,(j64 s3))],[(1,.tail (s2.length*3))],[])) (_,_) N (λp1 k=>un2 λs2 s3=>?_) λp1=>?_
 ·refine lx ?_;intro x4;refine At.c 1 ?_ ?_
  ·refine At.J 0 2 [2,6,7,8] 2 (λp5=>([(3,(eO 1 3 aA.enc p5.1))],[(1,.tail (p5.1.length*3))],[.var (aS.enc p5.2)])) (λp5=>?_) λp5=>?_
   ·refine At.i hT 0 aS.enc λe6=>?_;refine At.c 6 ?_ ?_
    ·refine At.y 2 aBx λr7=>?_;refine At.o 0 (bH hT (x:=(.sl 3 1 [(aA.enc r7)]))) ?_;refine At.b 0 (λ_ e=>kB hT aA.enc (id:=1) (k:=3) e) λz8=>?_;apply rt;exact At.jn 1
    ·apply rt;exact At.jn 0
   ·exact λh=>At.v 2 (_,_) h
  ·apply rt;exact At.x 0
 ·refine At.y 1 vC λr9=>?_;apply rt;exact At.r 1
def eE(N:Nat)(a0:(List (Vector Int 3))):Option ((List (Vector Int 3))):=
 aa (tU 24 (([]:List (Vector Int 3))) a0) λz1=>
 some z1
theorem tX{N a0 r}(h:eE N a0=some r):FnM Tryz.prog 43 [] [(eL 3 (eA 3 1 j64) a0)] (eL 3 (eA 3 1 j64) r) []:=by
 unfold eE at h;refine At.f bO hT hmo Tryz.func43 rfl h ?_;refine At.q hT 2 (d:=4) (t:=49) (e:=97) (z:=3) (x:=(eL 3 (eA 3 1 j64) a0)) (es:=aj (eA 3 1 j64) a0) rfl ?_ (λhe=>?_)
 ·refine At.o 1 (sZ hT (eA 3 1 j64) (k:=3) ([]:List (Vector Int 3)) (by kernel_rfl) (by kernel_rfl)) ?_;refine At.b 1 (λ_ e=>kB hT (eA 3 1 j64) (id:=0) (k:=3) e) λz1=>?_;apply rt;exact At.r 1
 ·have h0:a0=[]:=ct.1 he;subst h0;change some []=_->_;apply rt;exact At.r 2
def vS(N:Nat)(a0:aC):Option (Unit):=
 some (())
theorem aFo{N a0 r}(h:vS N a0=some r):FnM Tryz.prog 77 [] [(aC.enc a0)] (.fn (.func 112) [] [(.ref 0 [] 0)]) [.var (aC.enc a0)]:=by
 unfold vS at h;refine At.f bO hT hmo Tryz.func77 rfl h ?_;refine At.o 2 (qT (x:=(.fn (.func 112) [] [(.ref 0 [] 0)])) (by kernel_rfl) (by kernel_rfl)) ?_;apply rt;exact At.r 1
def aEu : Nat->Bool:=imL [1]
def oP(N:Nat)(b2:(List aC))(a1 a2:aC):Option ((List aC)):=
 aa (tU 32 b2 (([a2]:List aC))) λz1=>
 some z1
theorem aDu{N:Nat}{b2:(List aC)}{a1:aC}{a2:aC}{r:(List aC)}(h:oP N b2 a1 a2=some r):aQ4 Tryz.prog (aD9 25 Tryz.f34.body [1,1,1,0,1,0]) [en 5 (.ref 0 [] 0)] [.var (eO 2 2 aC.enc b2),.var (aC.enc a1),.tail (b2.length*2)] [(aC.enc a2)] [.var (eO 2 2 aC.enc r),.var (aC.enc a1),.tail (r.length*2)] none:=by
 unfold oP at h;refine aDW (lo:=4) (by kernel_rfl) (λbk rl=>At.of aEu hT hmo h ?_)
 refine At.to 0 ⟨[en 5 (.ref 0 [] 0),en 19 (aC.enc a2)],[.var (eO 2 2 aC.enc b2),.var (aC.enc a1),.tail (b2.length*2),.loop rl]⟩ ?_;refine At.mid 2 (λrl2=>?_)
 refine At.o 2 (bH hT (x:=(.sl 2 1 [(aC.enc a2)]))) ?_;refine At.b 0 (λ_ e=>kB hT aC.enc (id:=2) (k:=2) e) λz1=>?_;apply rt;exact At.rnd 1
def aMK : Nat->Bool:=imL [3]
def oY(N:Nat)(a0:aC)(a1 a2:Int):Option ((Vector Int 3)):=
 aQ (lE .i64 a2 (I64 (a0.gF - 1))) λx1=>
 aQ (lE .i64 a1 (I64 (a0.gF - 1))) λx2=>
 aQ (I64 ((I64 (x1*a0.gF))+x2)) λx3=>
 aa (idx a0.gA5 x3) λe4=>
 some e4
theorem wR{N a0 a1 a2 r}(h:oY N a0 a1 a2=some r):FnM Tryz.prog 162 [] [(aC.enc a0),(j64 a1),(j64 a2)] (eA 3 1 j64 r) []:=by
 unfold oY at h;refine At.f aMK hT hmo Tryz.func162 rfl h ?_;refine lx ?_;intro x1;refine lx ?_;intro x2;refine lx ?_;intro x3;refine At.i hT 18 (eA 3 1 j64) λe4=>?_;apply rt;exact At.r 2
def aJk : Nat->Bool:=imL [1]
def lN(N:Nat)(r12 r14 r16 r19:(Vector Int 3)):Nat->(Vector Int 3)->Int->Option ((Vector Int 3))
 | 0,_,_=>none
 | k+1,s21,s22=>
  cond (decide (s22 < 3)) (
   aa (eY s22 3) λ_=>
   aa (r12.toList[s22.toNat]?) λe24=>
   aa (eY s22 3) λ_=>
   aa (r14.toList[s22.toNat]?) λe26=>
   aa (eY s22 3) λ_=>
   aa (r16.toList[s22.toNat]?) λe28=>
   aQ (I64 ((I64 (e24+e26))+e28)) λx29=>
   aa (eY s22 3) λ_=>
   aa (r19.toList[s22.toNat]?) λe31=>
   aQ (I64 ((I64 (x29+e31))+2)) λx32=>
   aa (eY s22 3) λ_=>
   aa (s21.toList[s22.toNat]?) λe34=>
   lN N r12 r14 r16 r19 k (s21.setIfInBounds s22.toNat (I64 (d6 x32 4))) (I64 (s22+1))) (
   some s21)
def nU(N:Nat)(x2 x3:Int)(a0:aC):Nat->(List (Vector Int 3))->Int->Option ((List (Vector Int 3)))
 | 0,_,_=>none
 | k+1,s5,s6=>
  aQ (decide (s6 < (I64 (x2*x3)))) λx7=>
  cond x7 (
   aQ ((I64 (d6 a0.gF 2))) λx8=>
   aa (aG6 .i64 s6 x8) λx9=>
   aQ ((I64 (d6 a0.gF 2))) λx10=>
   aa (aDm .i64 s6 x10) λx11=>
   aa (oY N a0 (I64 (2*x9)) (I64 (2*x11))) λr12=>
   aQ (I64 ((I64 (2*x9))+1)) λx13=>
   aa (oY N a0 x13 (I64 (2*x11))) λr14=>
   aQ (I64 ((I64 (2*x11))+1)) λx15=>
   aa (oY N a0 (I64 (2*x9)) x15) λr16=>
   aQ (I64 ((I64 (2*x9))+1)) λx17=>
   aQ (I64 ((I64 (2*x11))+1)) λx18=>
   aa (oY N a0 x17 x18) λr19=>
   aa (lN N r12 r14 r16 r19 N (#v[0,0,0]) 0) λp20=>
   aa (tU 24 s5 (([p20]:List (Vector Int 3)))) λz35=>
   nU N x2 x3 a0 k z35 (I64 (s6+1))) (
   some s5)
def uF(N:Nat)(a0:aC):Option (aC):=
 aQ (I64 (d6 a0.gF 2)) λx1=>
 aQ ((I64 (d6 a0.gF 2))) λx2=>
 aQ ((I64 (d6 a0.gF 2))) λx3=>
 aa (nU N x2 x3 a0 N [] 0) λp4=>
 some (aC.mk ((I64 (d6 a0.gF 2))) p4)
theorem aH3{N a0 r}(h:uF N a0=some r):FnM Tryz.prog 113 [] [(aC.enc a0)] (aC.enc r) []:=by
 unfold uF at h;refine At.f aJk hT hmo Tryz.func113 rfl h ?_;refine lx ?_;intro x1;refine lx ?_;intro x2;refine lx ?_;intro x3;refine At.ownb 14 1 3 [1] ?_;refine At.M 0 [2,3] 3 (λp4=>([],[(1,.var (.st 2 [(j64 ((I64 (d6 a0.gF 2)))),(eO 2 3 (eA 3 1 j64) p4)])),(2,.tail (p4.length*3))],[])) [1,2,3,21] 3 (CU2 (nU N x2 x3 a0)) (cu2 λ(s5:(List (Vector Int 3))) (s6:Int)=>([(22,(j64 s6))],[(1,.var (.st 2 [(j64 ((I64 (d6 a0.gF 2)))),(eO 2 3 (eA 3 1 j64) s5)])),(2,.tail (s5.length*3))],[])) (_,_) N (λp4 k=>un2 λs5 s6=>?_) λp4=>?_
 ·refine lx ?_;intro x7;refine At.c 1 ?_ ?_
  ·refine At.D 2 [] ?_;refine lx ?_;intro x8;refine DD.b 3 (λe _=>aDA hT e (by kernel_rfl) (by kernel_rfl)) λx9=>?_;refine lx ?_;intro x10;refine DD.b 4 (λe _=>yX hT e (by kernel_rfl) (by kernel_rfl)) λx11=>?_;refine DD.e hT hmo 3 ?_;refine At.D 0 [false,false,false,false] ?_;refine DD.y 3 wR λr12=>?_;refine lx ?_;intro x13;refine DD.y 4 wR λr14=>?_;refine lx ?_;intro x15;refine DD.y 4 wR λr16=>?_;refine lx ?_;intro x17;refine lx ?_;intro x18;refine DD.y 5 wR λr19=>?_;refine DD.e hT hmo 8 ?_;refine At.M 2 [1,2,3,11,21,22] 8 (λp20=>([],[(7,.var (eA 3 1 j64 p20))],[])) [1,2,3,7,8,9,10,11,21,22] 8 (CU2 (lN N r12 r14 r16 r19)) (cu2 λ(s21:(Vector Int 3)) (s22:Int)=>([(55,(j64 s22))],[(7,.var (eA 3 1 j64 s21))],[])) (_,_) N (λp20 k=>un2 λs21 s22=>?_) λp20=>?_
   ·refine At.c 1 ?_ ?_
    ·refine At.D 2 [] ?_;refine DD.b 2 (λe _=>bF hT (k:=1) 3 [] 0 e) λu23=>?_;refine DD.l hT 0 j64 j64 0 λe24=>?_;refine DD.b 1 (λe _=>bF hT (k:=1) 4 [] 0 e) λu25=>?_;refine DD.l hT 0 j64 j64 0 λe26=>?_;refine DD.b 2 (λe _=>bF hT (k:=1) 5 [] 0 e) λu27=>?_;refine DD.l hT 0 j64 j64 0 λe28=>?_;refine lx ?_;intro x29;refine DD.b 2 (λe _=>bF hT (k:=1) 6 [] 0 e) λu30=>?_;refine DD.l hT 0 j64 j64 0 λe31=>?_;refine lx ?_;intro x32;refine DD.b 3 (λe _=>bF hT (k:=1) 7 [] 0 e) λu33=>?_;refine bi λe34 he34=>?_;refine DD.w 0 (.v (.bool false)) ⟨[(7,.var (eA 3 1 j64 (s21.setIfInBounds s22.toNat (I64 (d6 x32 4)))))],[]⟩ (λ_ e=>pP hT j64 0 s21 he34 (I64 (d6 x32 4)) (pj1 e) (pj1 (pj2 e)) (pj2 (pj2 e))) ?_;refine DD.e hT hmo 0 ?_;exact λh=>At.v 2 (_,_) h
    ·apply rt;exact At.x 0
   ·refine At.o 3 (bH hT (x:=(.sl 3 1 [(eA 3 1 j64 p20)]))) ?_;refine At.b 0 (λ_ e=>kB hT (eA 3 1 j64) (id:=2) (k:=3) e) λz35=>?_;exact λh=>At.v 4 (_,_) h
  ·apply rt;exact At.x 0
 ·apply rt;exact At.r 2
def bU(N:Nat)  : Nat->(List aC)->aC->Option ((List aC)×aC)
 | 0,_,_=>none
 | k+1,s2,s3=>
  aa (oP N s2 s3 s3) λr4=>
  cond (decide (s3.gF > 1)) (
   aa (uF N s3) λr5=>
   bU N k r4 r5) (
   some ((r4,s3)))
def eH(N:Nat)(b2:(List aC))(a1:aC):Option ((List aC)×aC):=
 aa (bU N N b2 a1) λp1=>
 some ((p1.1,p1.2))
theorem sX{N:Nat}{b2:(List aC)}{a1:aC}{r:(List aC)×aC}(h:eH N b2 a1=some r):ItM Tryz.prog 112 (aD9 25 Tryz.f34.body [1,1,1,0,1,0]) [en 5 (.ref 0 [] 0)] [.var (eO 2 2 aC.enc b2),.var (aC.enc a1),.tail (b2.length*2)] [(.yld 3),(.ref 1 [] 0)] (.tup []) [.var (eO 2 2 aC.enc r.1),.var (aC.enc r.2),.tail (r.1.length*2)] none:=by
 unfold eH at h;refine aEY (m:=13) (lo:=4) (rs:=[]) hT Tryz.func112 rfl (by kernel_rfl) rfl (λfn tmps D hsz=>At.of bO hT hmo h ?_)
 refine At.M 0 [] 4 (λp1=>([],[(0,.var (eO 2 2 aC.enc p1.1)),(1,.var (aC.enc p1.2)),(2,.tail (p1.1.length*2))],[])) [0,1] 4 (CU2 (bU N)) (cu2 λ(s2:(List aC)) (s3:aC)=>([],[(0,.var (eO 2 2 aC.enc s2)),(1,.var (aC.enc s3)),(2,.tail (s2.length*2))],[])) (_,_) N (λp1 k=>un2 λs2 s3=>?_) λp1=>?_
 ·refine At.b 2 (λ_ e=>aII (aDu e) (fn:=fn) (D:=D) hsz rfl (bz.2 rfl) (by kernel_rfl) (by kernel_rfl)) λr4=>?_;refine At.g [6] 5 ?_;refine At.c 0 ?_ ?_
  ·refine At.y 1 aH3 λr5=>?_;exact λh=>At.v 1 (_,_) h
  ·apply rt;exact At.x 0
 ·apply rt;exact At.z 0
theorem sI : tB Tryz.prog 112:=sC (show lA Tryz.prog 112=true by kernel_rfl)
def aGl : Nat->Bool:=imL [1]
def rQ(N:Nat)(a0:aC):Option ((List aC)×Int):=
 aa (kP N a0) λr1=>
 cond (r1 != 0) (
  some (([],r1))) (
  aa (eE N a0.gA5) λr2=>
  aa (vS N (aC.mk a0.gF r2)) λr3=>
  aa (eH N [] ((aC.mk a0.gF r2))) λr4=>
  some ((r4.1,0)))
theorem aFw{N a0 r}(h:rQ N a0=some r):FnM Tryz.prog 34 [] [(aC.enc a0)] (.tup [(eL 2 aC.enc r.1),(j64 r.2)]) []:=by
 unfold rQ at h;refine At.fR aGl hT hmo Tryz.func34 rfl h ?_;refine At.y 4 vM λr1=>?_;refine At.c 3 ?_ ?_
 ·apply rt;exact At.r 3
 ·refine At.D 1 [] ?_;refine DD.y 4 tX λr2=>?_;refine DD.Z 1 [] 1 aFo λr3=>?_;refine DD.e hT hmo 0 ?_;refine At.ownb 0 0 2 [] ?_;refine bi λr4 hr4=>?_;refine At.rg 0 (sX hr4) sI (.tmp 18) [0,1,2] ⟨[en 5 (.ref 0 [] 0)],[.var (eO 2 2 aC.enc r4.1),.var (aC.enc r4.2),.tail (r4.1.length*2)]⟩ [(.ref 1 [] 0)] ?_;apply rt;exact At.r 3
def uE(N:Nat)(a0:(List aJ))(a1:Int):Option (Sum (Int) ((List aJ)×Int)):=
 aQ (cond (decide (a1 < 0)) true (decide (a1 > 4096))) λx1=>
 cond x1 (
  some (Sum.inl 2)) (
  aQ (decide (((a0.length:Int)) > a1)) λx2=>
  cond x2 (
   some (Sum.inl 15)) (
   aa (mkO 152 a1) λ_=>
   aa (cpD (ai a1.toNat (aJ.mk (#v[aB.mk 0 0 0,aB.mk 0 0 0,aB.mk 0 0 0]) (#v[#v[0,0],#v[0,0],#v[0,0]]) 0 0 0 0:aJ)) a0 a1.toNat) λv4=>
   aa (zQ v4 a1.toNat) λ_=>
   some (Sum.inr ((v4,0)))))
theorem aFr{N a0 a1 r}(h:uE N a0 a1=some r):FnM Tryz.prog 36 [] [(eL 19 aJ.enc a0),(j64 a1)] (aAz r (λr=>(.tup [(.v (.pointer none)),(j64 r)])) (λr=>(.tup [(.ref 1 [] 0),(j64 r.2)]))) (aAz r (λr=>[]) (λr=>[.dead,.var (.st 3 [(.st 1 [(j64 0)]),(eB true),(eL 19 aJ.enc r.1)])])):=by
 unfold uE at h;refine At.f bO hT hmo Tryz.func36 rfl h ?_;refine lx ?_;intro x1;refine At.c 9 ?_ ?_
 ·apply rt;exact At.r 2
 ·refine lx ?_;intro x2;refine At.c 5 ?_ ?_
  ·apply rt;exact At.r 2
  ·refine At.b 1 (λ_ e=>aTQ hT aJ.enc ((aJ.mk (#v[aB.mk 0 0 0,aB.mk 0 0 0,aB.mk 0 0 0]) (#v[#v[0,0],#v[0,0],#v[0,0]]) 0 0 0 0:aJ)) (k:=19) (kd := .st [(0,119),(9,121),(15,3),(16,3),(17,3),(18,5)]) e (by kernel_rfl) (by kernel_rfl) rfl) λu3=>?_;refine At.b 8 (λv4 e=>aS3 hT aJ.enc (id:=0) (k:=19) (N:=a1.toNat*19) (H':=[.var (.arr (a1.toNat*19) 19 (aj aJ.enc v4)),.var (.st 3 [(.st 1 [(j64 0)]),(eB true),(.bsl 0 [] 0 19 0 a1.toNat)])]) e (by kernel_rfl) (by kernel_rfl) (by kernel_rfl)) λv4=>?_;refine bi λu5 hu5=>?_;refine At.fz 3 0 19 a1.toNat _ (aj aJ.enc v4) (ak _) (aOI aJ.enc hu5) ?_;apply rt;exact At.r 0
theorem aJT{N a0 a1 r}(h:uE N a0 a1=some (Sum.inl r)):FnM Tryz.prog 36 [] [(eL 19 aJ.enc a0),(j64 a1)] (.tup [(.v (.pointer none)),(j64 r)]) []:=aFr h
theorem aJ5{N a0 a1 r}(h:uE N a0 a1=some (Sum.inr r)):FnM Tryz.prog 36 [] [(eL 19 aJ.enc a0),(j64 a1)] (.tup [(.ref 1 [] 0),(j64 r.2)]) [.dead,.var (.st 3 [(.st 1 [(j64 0)]),(eB true),(eL 19 aJ.enc r.1)])]:=aFr h
def rX(N:Nat)(a0:aJ):Nat->aB->aB->Int->Option (aB×aB)
 | 0,_,_,_=>none
 | k+1,s2,s3,s4=>
  aQ (decide (s4 < ((3:Int)))) λx5=>
  cond x5 (
   aa (eY s4 3) λ_=>
   aa (a0.gP.toList[s4.toNat]?) λe7=>
   aa (cond (s4==0) (some ((e7,e7))) (some ((s2,s3)))) λp8=>
   rX N a0 k (aB.mk (eP p8.1.gX e7.gX) (eP p8.1.gY e7.gY) (eP p8.1.gZ e7.gZ)) (aB.mk (jZ p8.2.gX e7.gX) (jZ p8.2.gY e7.gY) (jZ p8.2.gZ e7.gZ)) (I64 (s4+1))) (
   some ((s2,s3)))
def aAg(N:Nat)(a0:aJ):Option (aB×aB):=
 aa (rX N a0 N (aB.mk 0 0 0) (aB.mk 0 0 0) 0) λp1=>
 some ((p1.1,p1.2))
theorem aMZ{N a0 r}(h:aAg N a0=some r):FnM Tryz.prog 114 [.var (aJ.enc a0)] [(.bsl 0 [0] 0 3 0 3)] (.tup [(aB.enc r.1),(aB.enc r.2)]) [.var (aJ.enc a0)]:=by
 unfold aAg at h;refine At.f bO hT hmo Tryz.func114 rfl h ?_;refine At.M 5 [2,3] 3 (λp1=>([],[(1,.var (aB.enc p1.1)),(2,.var (aB.enc p1.2))],[])) [2,3,6,7] 3 (CU3 (rX N a0)) (cu3 λ(s2:aB) (s3:aB) (s4:Int)=>([(8,(j64 s4))],[(1,.var (aB.enc s2)),(2,.var (aB.enc s3))],[])) (_,_,_) N (λp1 k=>un3 λs2 s3 s4=>?_) λp1=>?_
 ·refine lx ?_;intro x5;refine At.c 1 ?_ ?_
  ·refine At.b 1 (λ_ e=>aIH hT 0 [0] 0 0 3 (k:=3) e (by kernel_rfl) (by kernel_rfl)) λu6=>?_;refine At.b 0 (λ_ e=>qG hT aB.enc 1 e) λe7=>?_;refine At.J 3 1 [2,3,5,6,7,8] 4 (λp8=>([],[(1,.var (aB.enc p8.1)),(2,.var (aB.enc p8.2))],[])) (λp8=>?_) λp8=>?_
   ·refine At.c 2 ?_ ?_
    ·refine At.D 0 [] ?_;refine DD.e hT hmo 4 ?_;apply rt;exact At.jn 0
    ·apply rt;exact At.jn 0
   ·exact λh=>At.v 36 (_,_,_) h
  ·apply rt;exact At.x 0
 ·refine At.D 0 [] ?_;refine DD.e hT hmo 4 ?_;apply rt;exact At.r 0
def vY(N:Nat)(a0:(List aB)):Nat->aB->aB->Int->Option (aB×aB)
 | 0,_,_,_=>none
 | k+1,s2,s3,s4=>
  aQ (decide (s4 < ((a0.length:Int)))) λx5=>
  cond x5 (
   aa (idx a0 s4) λe6=>
   aa (cond (s4==0) (some ((e6,e6))) (some ((s2,s3)))) λp7=>
   vY N a0 k (aB.mk (eP p7.1.gX e6.gX) (eP p7.1.gY e6.gY) (eP p7.1.gZ e6.gZ)) (aB.mk (jZ p7.2.gX e6.gX) (jZ p7.2.gY e6.gY) (jZ p7.2.gZ e6.gZ)) (I64 (s4+1))) (
   some ((s2,s3)))
def pC(N:Nat)(a0:(List aB)):Option (aB×aB):=
 aa (vY N a0 N (aB.mk 0 0 0) (aB.mk 0 0 0) 0) λp1=>
 some ((p1.1,p1.2))
theorem vH{N a0 r}(h:pC N a0=some r):FnM Tryz.prog 114 [] [(eL 3 aB.enc a0)] (.tup [(aB.enc r.1),(aB.enc r.2)]) []:=by
 unfold pC at h;refine At.f bO hT hmo Tryz.func114 rfl h ?_;refine At.M 5 [2,3] 2 (λp1=>([],[(0,.var (aB.enc p1.1)),(1,.var (aB.enc p1.2))],[])) [2,3,6,7] 2 (CU3 (vY N a0)) (cu3 λ(s2:aB) (s3:aB) (s4:Int)=>([(8,(j64 s4))],[(0,.var (aB.enc s2)),(1,.var (aB.enc s3))],[])) (_,_,_) N (λp1 k=>un3 λs2 s3 s4=>?_) λp1=>?_
 ·refine lx ?_;intro x5;refine At.c 1 ?_ ?_
  ·refine At.i hT 1 aB.enc λe6=>?_;refine At.J 4 1 [2,3,5,6,7,8] 3 (λp7=>([],[(0,.var (aB.enc p7.1)),(1,.var (aB.enc p7.2))],[])) (λp7=>?_) λp7=>?_
   ·refine At.c 2 ?_ ?_
    ·refine At.D 0 [] ?_;refine DD.e hT hmo 4 ?_;apply rt;exact At.jn 0
    ·apply rt;exact At.jn 0
   ·exact λh=>At.v 36 (_,_,_) h
  ·apply rt;exact At.x 0
 ·refine At.D 0 [] ?_;refine DD.e hT hmo 4 ?_;apply rt;exact At.r 0
def pT(N a3:Nat)(b0:(List Int))(a2:Nat)(a1:(List aJ)):Nat->aB->aB->Int->Option (aB×aB)
 | 0,_,_,_=>none
 | k+1,s2,s3,s4=>
  aQ (decide (s4 < ((a3:Int)))) λx5=>
  cond x5 (
   aa (aa (aAk b0.length a2 a3 s4) λ_=>
   aa (b0[(aA5 a2 s4.toNat)]?) λe8=>
   aa (idx a1 e8) λe9=>
   aa (yN e9.gP.toList 0 3) λs10=>
   aa (pC N s10) λr11=>
   cond (s4==0) (
    some ((r11.1,r11.2,r11.1,r11.2))) (
    aa (pC N ([s2,r11.1])) λr12=>
    aa (pC N ([s3,r11.2])) λr13=>
    some ((r12.1,r13.2,r11.1,r11.2)))) λp6=>
   pT N a3 b0 a2 a1 k p6.1 p6.2.1 (I64 (s4+1))) (
   some ((s2,s3)))
def yV(N:Nat)(b0:(List Int))(a1:(List aJ))(a2 a3:Nat):Option (aB×aB):=
 aa (pT N a3 b0 a2 a1 N (aB.mk 0 0 0) (aB.mk 0 0 0) 0) λp1=>
 some ((p1.1,p1.2))
theorem aKB{N b0 a1 a2 a3 r}(h:yV N b0 a1 a2 a3=some r):FnM Tryz.prog 115 [.gro 1 (aj j64 b0)] [(eL 19 aJ.enc a1),(.gro 0 1 b0.length (.sub a2 a3))] (.tup [(aB.enc r.1),(aB.enc r.2)]) [.gro 1 (aj j64 b0)]:=by
 unfold yV at h;refine At.f bO hT hmo Tryz.func115 rfl h ?_;refine At.M 5 [4,5] 3 (λp1=>([],[(1,.var (aB.enc p1.1)),(2,.var (aB.enc p1.2))],[])) [0,4,5,10,11] 3 (CU3 (pT N a3 b0 a2 a1)) (cu3 λ(s2:aB) (s3:aB) (s4:Int)=>([(12,(j64 s4))],[(1,.var (aB.enc s2)),(2,.var (aB.enc s3))],[])) (_,_,_) N (λp1 k=>un3 λs2 s3 s4=>?_) λp1=>?_
 ·refine lx ?_;intro x5;refine At.c 1 ?_ ?_
  ·refine At.J 0 2 [0,4,5,10,11,12] 3 (λp6=>([],[(1,.var (aB.enc p6.1)),(2,.var (aB.enc p6.2.1))],[.var (aB.enc p6.2.2.1),.var (aB.enc p6.2.2.2)])) (λp6=>?_) λp6=>?_
   ·refine At.b 1 (λ_ e=>lS hT (id:=0) (k:=1) e (by kernel_rfl) (by kernel_rfl)) λu7=>?_;refine At.b 0 (λ_ e=>sR hT j64 [] e rfl (by kernel_rfl) (by kernel_rfl)) λe8=>?_;refine At.i hT 4 aJ.enc λe9=>?_;refine At.b 1 (λ_ e=>aCN hT (N:=9) (k:=3) aB.enc e9.gP e) λs10=>?_;refine At.y 0 vH λr11=>?_;refine At.c 9 ?_ ?_
    ·refine At.D 0 [] ?_;refine DD.e hT hmo 4 ?_;apply rt;exact At.jn 0
    ·refine At.o 2 (bH hT (x:=(.sl 3 2 [(aB.enc s2),(aB.enc r11.1)]))) ?_;refine At.y 0 vH λr12=>?_;refine At.o 6 (bH hT (x:=(.sl 3 2 [(aB.enc s3),(aB.enc r11.2)]))) ?_;refine At.y 0 vH λr13=>?_;apply rt;exact At.jn 4
   ·exact λh=>At.v 2 (_,_,_) h
  ·apply rt;exact At.x 0
 ·refine At.D 0 [] ?_;refine DD.e hT hmo 4 ?_;apply rt;exact At.r 0
def aLL : Nat->Bool:=imL [1]
def kS(N:Nat)(a0:aJ):Option (aB):=
 aa (yN a0.gP.toList 0 3) λs1=>
 aa (pC N s1) λr2=>
 aQ (I64 (r2.1.gX+r2.2.gX)) λx3=>
 aQ (I64 (r2.1.gY+r2.2.gY)) λx4=>
 aQ (I64 (r2.1.gZ+r2.2.gZ)) λx5=>
 some (aB.mk ((I64 (r2.1.gX+r2.2.gX))) ((I64 (r2.1.gY+r2.2.gY))) ((I64 (r2.1.gZ+r2.2.gZ))))
theorem xB{N a0 r}(h:kS N a0=some r):FnM Tryz.prog 163 [] [(aJ.enc a0)] (aB.enc r) []:=by
 unfold kS at h;refine At.f aLL hT hmo Tryz.func163 rfl h ?_;refine At.b 3 (λ_ e=>aCN hT (N:=9) (k:=3) aB.enc a0.gP e) λs1=>?_;refine At.y 0 vH λr2=>?_;refine lx ?_;intro x3;refine lx ?_;intro x4;refine lx ?_;intro x5;apply rt;exact At.r 24
def aON : Nat->Bool:=imL [2]
def mZ(N:Nat)(a0:aB)(a1:Int):Option (Int):=
 aa (idx (#v[a0.gX,a0.gY,a0.gZ]).toList a1) λe1=>
 some e1
theorem pB{N a0 a1 r}(h:mZ N a0 a1=some r):FnM Tryz.prog 164 [] [(aB.enc a0),(j64 a1)] (j64 r) []:=by
 unfold mZ at h;refine At.f aON hT hmo Tryz.func164 rfl h ?_;refine At.b 10 (λ_ e=>aA2 hT j64 (#v[a0.gX,a0.gY,a0.gZ]) e (by kernel_rfl) (by kernel_rfl)) λe1=>?_;apply rt;exact At.r 1
def qD(N:Nat)(a0 a1:Int)(a2:(List aJ))(a3:Int):Option (Int):=
 aa (idx a2 a0) λe1=>
 aa (kS N e1) λr2=>
 aa (mZ N r2 a3) λr3=>
 aa (idx a2 a1) λe4=>
 aa (kS N e4) λr5=>
 aa (mZ N r5 a3) λr6=>
 some (I64 (r3 - r6))
theorem aFg{N a0 a1 a2 a3 r}(h:qD N a0 a1 a2 a3=some r):FnM Tryz.prog 166 [.var (j64 a3)] [(j64 a0),(j64 a1),(.im (eL 19 aJ.enc a2)),(.ref 0 [] 0)] (j64 r) [.var (j64 a3)]:=by
 unfold qD at h;refine At.f bO hT hmo Tryz.func166 rfl h ?_;refine At.D 1 [] ?_;refine DD.i hT 2 aJ.enc λe1=>?_;refine DD.y 1 xB λr2=>?_;refine DD.y 1 pB λr3=>?_;refine DD.i hT 2 aJ.enc λe4=>?_;refine DD.y 1 xB λr5=>?_;refine DD.y 1 pB λr6=>?_;refine DD.e hT hmo 2 ?_;apply rt;exact At.r 0
def bL(N:Nat)(a3:Int)(a1:Nat)(a5:(List aJ))(a6:Int):Nat->(List Int)->Nat->Int->Option ((List Int)×Nat)
 | 0,_,_,_=>none
 | k+1,s6,s7,s8=>
  aa (cond (decide (s8 > a3)) (
   aa (aAk s6.length a1 s7 s8) λ_=>
   aa (s6[(aA5 a1 s8.toNat)]?) λe11=>
   aa (aAk s6.length a1 s7 (I64 (s8 - 1))) λ_=>
   aa (s6[(aA5 a1 ((I64 (s8 - 1)).toNat))]?) λe13=>
   aa (qD N e11 e13 a5 a6) λr14=>
   some (decide (r14 < 0))) (
   some false)) λp9=>
  cond p9 (
   aa (aAk s6.length a1 s7 (I64 (s8 - 1))) λ_=>
   aa (s6[(aA5 a1 ((I64 (s8 - 1)).toNat))]?) λe16=>
   aa (aAk s6.length a1 s7 s8) λ_=>
   aa (s6[(aA5 a1 s8.toNat)]?) λe18=>
   aa (aAk s6.length a1 s7 s8) λ_=>
   aa (aC7 s6 ((aA5 a1 s8.toNat)) e16) λz20=>
   aa (aAk s6.length a1 s7 (I64 (s8 - 1))) λ_=>
   aa (aC7 z20 ((aA5 a1 ((I64 (s8 - 1)).toNat))) e18) λz22=>
   bL N a3 a1 a5 a6 k z22 s7 (I64 (s8 - 1))) (
   some ((s6,s7)))
def bX(N:Nat)(a4 a3:Int)(a1:Nat)(a5:(List aJ))(a6:Int):Nat->(List Int)->Nat->Int->Option ((List Int))
 | 0,_,_,_=>none
 | k+1,s2,s3,s4=>
  cond (decide (s4 < a4)) (
   aa (bL N a3 a1 a5 a6 N s2 s3 s4) λp5=>
   bX N a4 a3 a1 a5 a6 k p5.1 p5.2 (I64 (s4+1))) (
   some s2)
def bG(N:Nat)(b0:(List Int))(a1 a2:Nat)(a3 a4:Int)(a5:(List aJ))(a6:Int):Option ((List Int)):=
 aa (bX N a4 a3 a1 a5 a6 N b0 a2 (I64 (a3+1))) λp1=>
 some p1
theorem kJ{N b0 a1 a2 a3 a4 a5 a6 r}(h:bG N b0 a1 a2 a3 a4 a5 a6=some r):FnM Tryz.prog 206 [.gro 1 (aj j64 b0),.var (j64 a6)] [(.gro 0 1 b0.length (.sub a1 a2)),(j64 a3),(j64 a4),(.fn (.func 166) [] [(.im (eL 19 aJ.enc a5)),(.ref 1 [] 0)])] (.tup []) [.gro 1 (aj j64 r),.var (j64 a6)]:=by
 unfold bG at h;refine At.f bO hT hmo Tryz.func206 rfl h ?_;refine At.M 3 [] 2 (λp1=>([],[(0,.gro 1 (aj j64 p1))],[])) [1,2,3] 2 (CU3 (bX N a4 a3 a1 a5 a6)) (cu3 λ(s2:(List Int)) (s3:Nat) (s4:Int)=>([(0,(.gro 0 1 s2.length (.sub a1 s3))),(8,(j64 s4))],[(0,.gro 1 (aj j64 s2))],[])) (_,_,_) N (λp1 k=>un3 λs2 s3 s4=>?_) λp1=>?_
 ·refine At.c 3 ?_ ?_
  ·refine At.M 2 [1,2,3,8] 2 (λp5=>([(0,(.gro 0 1 p5.1.length (.sub a1 p5.2)))],[(0,.gro 1 (aj j64 p5.1))],[])) [1,2,3,8] 2 (CU3 (bL N a3 a1 a5 a6)) (cu3 λ(s6:(List Int)) (s7:Nat) (s8:Int)=>([(0,(.gro 0 1 s6.length (.sub a1 s7))),(9,(j64 s8))],[(0,.gro 1 (aj j64 s6))],[])) (_,_,_) N (λp5 k=>un3 λs6 s7 s8=>?_) λp5=>?_
   ·refine At.J 0 0 [0,1,2,3,8,9] 2 (λp9=>([(34,(eB p9))],[],[])) (λp9=>?_) λp9=>?_
    ·refine At.D 0 [] ?_;refine DD.s hT 4 ?_ ?_
     ·refine DD.b 3 (λe _=>lS hT (id:=0) (k:=1) e (by kernel_rfl) (by kernel_rfl)) λu10=>?_;refine bi λe11 he11=>?_;refine DD.w 0 (j64 e11) ⟨[],[]⟩ (λ_ e=>zY (sR hT j64 [] he11 rfl (pj1 e) (pj1 (pj2 e))) (pj2 (pj2 e))) ?_;refine DD.b 3 (λe _=>lS hT (id:=0) (k:=1) e (by kernel_rfl) (by kernel_rfl)) λu12=>?_;refine bi λe13 he13=>?_;refine DD.w 0 (j64 e13) ⟨[],[]⟩ (λ_ e=>zY (sR hT j64 [] he13 rfl (pj1 e) (pj1 (pj2 e))) (pj2 (pj2 e))) ?_;refine DD.Y 0 [1] aFg λr14=>?_;refine DD.e hT hmo 2 ?_;apply rt;exact At.jn 0
     ·refine DD.e hT hmo 13 ?_;apply rt;exact At.jn 0
    ·refine At.c 0 ?_ ?_
     ·refine At.D 0 [] ?_;refine DD.b 8 (λe _=>lS hT (id:=0) (k:=1) e (by kernel_rfl) (by kernel_rfl)) λu15=>?_;refine bi λe16 he16=>?_;refine DD.w 0 (j64 e16) ⟨[],[]⟩ (λ_ e=>zY (sR hT j64 [] he16 rfl (pj1 e) (pj1 (pj2 e))) (pj2 (pj2 e))) ?_;refine DD.b 2 (λe _=>lS hT (id:=0) (k:=1) e (by kernel_rfl) (by kernel_rfl)) λu17=>?_;refine bi λe18 he18=>?_;refine DD.w 0 (j64 e18) ⟨[],[]⟩ (λ_ e=>zY (sR hT j64 [] he18 rfl (pj1 e) (pj1 (pj2 e))) (pj2 (pj2 e))) ?_;refine DD.b 0 (λe _=>lS hT (id:=0) (k:=1) e (by kernel_rfl) (by kernel_rfl)) λu19=>?_;refine bi λz20 hz20=>?_;refine DD.w 0 (.v (.bool false)) ⟨[(0,.gro 1 (aj j64 z20))],[]⟩ (λ_ e=>uX hT j64 (k:=1) e16 hz20 rfl (pj1 e) (congrFun (pj1 (pj2 e))) (pj1 (pj2 (pj2 e))) (pj2 (pj2 (pj2 e)))) ?_;refine DD.b 0 (λe _=>lS hT (id:=0) (k:=1) e (by kernel_rfl) (by kernel_rfl)) λu21=>?_;refine bi λz22 hz22=>?_;refine DD.w 0 (.v (.bool false)) ⟨[(0,.gro 1 (aj j64 z22))],[]⟩ (λ_ e=>uX hT j64 (k:=1) e18 hz22 ((zN hz20).2.2).symm (pj1 e) (congrFun (pj1 (pj2 e))) (pj1 (pj2 (pj2 e))) (pj2 (pj2 (pj2 e)))) ?_;refine DD.e hT hmo 0 ?_;refine At.gp [0] [] 0 s6.length z22.length (((zN hz22).2.2).trans ((zN hz20).2.2)) ?_;exact λh=>At.v 3 (_,_,_) h
     ·apply rt;exact At.x 0
   ·exact λh=>At.v 3 (_,_,_) h
  ·apply rt;exact At.x 0
 ·apply rt;exact At.z 0
def bY(N:Nat)(a3:Int)(a1:Nat)(a4:(List aJ))(a5:Int):Nat->(List Int)->Nat->Int->Int->Option ((List Int)×Nat×Int)
 | 0,_,_,_,_=>none
 | k+1,s2,s3,s4,s5=>
  cond (decide (s5<=a3)) (
   aa (bG N s2 a1 s3 s4 s5 a4 a5) λr6=>
   aa (zQ r6 s2.length) λ_=>
   bY N a3 a1 a4 a5 k r6 s3 s5 (I64 (s5+20))) (
   some ((s2,s3,s4)))
def iG(N:Nat)(s11 a3:Int):Nat->Option (Unit)
 | 0=>none
 | k+1=>
  aQ (decide ((I64 (2*s11))<=a3)) λx13=>
  cond x13 (none) (some (()))
def cS(N:Nat)(a3:Int):Nat->Int->Option (Unit)
 | 0,_=>none
 | k+1,s11=>
  cond (decide (s11 < a3)) (
   aa (iG N s11 a3 N ) λp12=>
   aa (aQ (decide ((I64 (0+s11)) < a3)) λx15=>
   cond x15 (none) (some (()))) λp14=>
   cS N a3 k (I64 (s11*2))) (
   some (()))
def fG(N:Nat)(b0:(List Int))(a1 a2:Nat)(a3:Int)(a4:(List aJ))(a5:Int):Option ((List Int)):=
 aa (bY N a3 a1 a4 a5 N b0 a2 0 20) λp1=>
 aa (bG N p1.1 a1 p1.2.1 p1.2.2 a3 a4 a5) λr8=>
 aa (zQ r8 p1.1.length) λ_=>
 aa (cS N a3 N 20) λp10=>
 some r8
theorem uB{N b0 a1 a2 a3 a4 a5 r}(h:fG N b0 a1 a2 a3 a4 a5=some r):FnM Tryz.prog 192 [.gro 1 (aj j64 b0),.var (j64 a5)] [(.gro 0 1 b0.length (.sub a1 a2)),(j64 a3),(.fn (.func 166) [] [(.im (eL 19 aJ.enc a4)),(.ref 1 [] 0)])] (.tup []) [.gro 1 (aj j64 r),.var (j64 a5)]:=by
 unfold fG at h;refine At.f bO hT hmo Tryz.func192 rfl h ?_;refine At.M 4 [1,2,6] 2 (λp1=>([(0,(.gro 0 1 p1.1.length (.sub a1 p1.2.1))),(7,(j64 p1.2.2))],[(0,.gro 1 (aj j64 p1.1))],[])) [1,2,6] 2 (CU4 (bY N a3 a1 a4 a5)) (cu4 λ(s2:(List Int)) (s3:Nat) (s4:Int) (s5:Int)=>([(0,(.gro 0 1 s2.length (.sub a1 s3))),(7,(j64 s4)),(8,(j64 s5))],[(0,.gro 1 (aj j64 s2))],[])) (_,_,_,_) N (λp1 k=>un4 λs2 s3 s4 s5=>?_) λp1=>?_
 ·refine At.c 3 ?_ ?_
  ·refine bi λr6 hr6=>?_;refine bi λu7 hu7=>?_;refine At.o 4 (rI [0,1] (kJ hr6)) ?_;refine At.gl 0 [0] [] 0 s2.length r6.length (aEM hu7) ?_;exact λh=>At.v 6 (_,_,_,_) h
  ·apply rt;exact At.x 0
 ·refine bi λr8 hr8=>?_;refine bi λu9 hu9=>?_;refine At.o 4 (rI [0,1] (kJ hr8)) ?_;refine At.gl 0 [0] [] 0 p1.1.length r8.length (aEM hu9) ?_;refine At.M 0 [] 2 (λp10=>([],[],[])) [0,1,2] 2 (cS N a3) (λ(s11:Int)=>([(6,(j64 s11))],[],[])) _ N (λp10 k s11=>?_) λp10=>?_
  ·refine At.c 3 ?_ ?_
   ·refine At.M 4 [0,1,2,6,7] 2 (λp12=>([],[],[])) [0,1,2,6,7,8] 2 (CU0 (iG N s11 a3)) (λ(_:Unit)=>([],[],[])) () N (λp12 k _=>?_) λp12=>?_
    ·unfold iG;dsimp only;refine lx ?_;intro x13;refine At.c 3 ?_ ?_
     ·exact nn
     ·apply rt;exact At.x 0
    ·refine At.J 0 1 [0,1,2,6] 2 (λp14=>([],[],[])) (λp14=>?_) λp14=>?_
     ·refine lx ?_;intro x15;refine At.c 7 ?_ ?_
      ·exact nn
      ·apply rt;exact At.jn 0
     ·exact λh=>At.v 3 _ h
   ·apply rt;exact At.x 0
  ·apply rt;exact At.z 0
def cJ(N:Nat)(b0:(List Int))(a1 a2:Nat)(a3:(List aJ))(a4:Int):Option ((List Int)):=
 aa (fG N b0 a1 a2 ((a2:Int)) a3 a4) λr1=>
 some r1
theorem rK{N b0 a1 a2 a3 a4 r}(h:cJ N b0 a1 a2 a3 a4=some r):FnM Tryz.prog 165 [.gro 1 (aj j64 b0),.var (j64 a4)] [(.gro 0 1 b0.length (.sub a1 a2)),(.fn (.func 166) [] [(.im (eL 19 aJ.enc a3)),(.ref 1 [] 0)])] (.tup []) [.gro 1 (aj j64 r),.var (j64 a4)]:=by
 unfold cJ at h;refine At.f bO hT hmo Tryz.func165 rfl h ?_;refine At.Y 4 [0,1] uB λr1=>?_;apply rt;exact At.z 0
def yF(N:Nat)(a0 a1 a2:Int):Option (Int):=
 aQ (I64 ((I64 (a0 - a1))*8)) λx1=>
 aa (aDm .i64 x1 (I64 (a2 - a1))) λx2=>
 some (eP x2 7)
theorem aJG{N a0 a1 a2 r}(h:yF N a0 a1 a2=some r):FnM Tryz.prog 169 [] [(j64 a0),(j64 a1),(j64 a2)] (j64 r) []:=by
 unfold yF at h;refine At.f bO hT hmo Tryz.func169 rfl h ?_;refine lx ?_;intro x1;refine At.b 8 (λ_ e=>yX hT e (by kernel_rfl) (by kernel_rfl)) λx2=>?_;apply rt;exact At.r 2
def aIi : Nat->Bool:=imL [4]
def pH(N:Nat)(a0:bB)(a1:Int)(a2 a3:aB):Option (bB):=
 cond (a1==0) (
  some a0) (
  aa (cond (decide (a0.gn > 0)) (
   aa (pC N ([a0.glo,a2])) λr2=>
   aa (pC N ([a0.ghi,a3])) λr3=>
   some ((r2.1,r3.2))) (
   some ((a2,a3)))) λp1=>
  some (bB.mk (I64 (a0.gn+a1)) p1.1 p1.2))
theorem aAl{N a0 a1 a2 a3 r}(h:pH N a0 a1 a2 a3=some r):FnM Tryz.prog 193 [] [(bB.enc a0),(j64 a1),(aB.enc a2),(aB.enc a3)] (bB.enc r) []:=by
 unfold pH at h;refine At.f aIi hT hmo Tryz.func193 rfl h ?_;refine At.c 6 ?_ ?_
 ·apply rt;exact At.r 2
 ·refine At.J 0 1 [1,4,6,7,8] 3 (λp1=>([],[(0,.var (aB.enc p1.1)),(1,.var (aB.enc p1.2))],[])) (λp1=>?_) λp1=>?_
  ·refine At.c 3 ?_ ?_
   ·refine At.o 3 (bH hT (x:=(.sl 3 2 [(aB.enc a0.glo),(aB.enc a2)]))) ?_;refine At.y 0 vH λr2=>?_;refine At.o 7 (bH hT (x:=(.sl 3 2 [(aB.enc a0.ghi),(aB.enc a3)]))) ?_;refine At.y 0 vH λr3=>?_;apply rt;exact At.jn 4
   ·apply rt;exact At.jn 0
  ·apply rt;exact At.r 8
def aOl : Nat->Bool:=imL [2,3]
def aDU(N:Nat)(a0 a1:aB):Option (Int):=
 aQ (shr .i64 (I64 (a1.gX - a0.gX)) 10) λx1=>
 aQ (shr .i64 (I64 (a1.gY - a0.gY)) 10) λx2=>
 aQ (shr .i64 (I64 (a1.gZ - a0.gZ)) 10) λx3=>
 aQ (I64 ((I64 (x1+1))*(I64 (x2+1)))) λx4=>
 aQ (I64 ((I64 (x2+1))*(I64 (x3+1)))) λx5=>
 aQ (I64 ((I64 (x3+1))*(I64 (x1+1)))) λx6=>
 aQ (I64 ((I64 (x4+x5))+x6)) λx7=>
 some x7
theorem aNH{N a0 a1 r}(h:aDU N a0 a1=some r):FnM Tryz.prog 208 [] [(aB.enc a0),(aB.enc a1)] (j64 r) []:=by
 unfold aDU at h;refine At.f aOl hT hmo Tryz.func208 rfl h ?_;refine At.D 3 [] ?_;refine lx ?_;intro x1;refine lx ?_;intro x2;refine lx ?_;intro x3;refine DD.e hT hmo 24 ?_;refine lx ?_;intro x4;refine lx ?_;intro x5;refine lx ?_;intro x6;refine lx ?_;intro x7;apply rt;exact At.r 12
def aH6 : Nat->Bool:=imL [1]
def pY(N:Nat)(a0:bB):Option (Int):=
 cond (a0.gn==0) (
  some 1152921504606846976) (
  aa (aDU N a0.glo a0.ghi) λr1=>
  some (I64 (a0.gn*r1)))
theorem aCv{N a0 r}(h:pY N a0=some r):FnM Tryz.prog 194 [] [(bB.enc a0)] (j64 r) []:=by
 unfold pY at h;refine At.f aH6 hT hmo Tryz.func194 rfl h ?_;refine At.c 5 ?_ ?_
 ·apply rt;exact At.r 1
 ·refine At.D 0 [] ?_;refine DD.y 6 aNH λr1=>?_;refine DD.e hT hmo 2 ?_;apply rt;exact At.r 0
def mW(N a3:Nat)(b0:(List Int))(a2:Nat)(a1:(List aJ))(a4 a5 a6:Int):Nat->(Vector bB 8)->Int->Option ((Vector bB 8))
 | 0,_,_=>none
 | k+1,s2,s3=>
  aQ (decide (s3 < ((a3:Int)))) λx4=>
  cond x4 (
   aa (aAk b0.length a2 a3 s3) λ_=>
   aa (b0[(aA5 a2 s3.toNat)]?) λe6=>
   aa (idx a1 e6) λe7=>
   aa (yN e7.gP.toList 0 3) λs8=>
   aa (pC N s8) λr9=>
   aa (idx a1 e6) λe10=>
   aa (kS N e10) λr11=>
   aa (mZ N r11 a4) λr12=>
   aa (yF N r12 a5 a6) λr13=>
   aa (eY r13 8) λ_=>
   aa (s2.toList[r13.toNat]?) λe15=>
   aa (pH N e15 1 r9.1 r9.2) λr16=>
   aa (eY r13 8) λ_=>
   aa (s2.toList[r13.toNat]?) λe18=>
   mW N a3 b0 a2 a1 a4 a5 a6 k (s2.setIfInBounds r13.toNat r16) (I64 (s3+1))) (
   some s2)
def mY(N:Nat)(p1:(Vector bB 8))(s22:Int):Nat->bB->bB->Int->Option (bB×bB)
 | 0,_,_,_=>none
 | k+1,s25,s26,s27=>
  cond (decide (s27 < 8)) (
   aa (aa (idx p1.toList s27) λe29=>
   cond (decide (s27 < s22)) (
    aa (pH N s25 e29.gn e29.glo e29.ghi) λr30=>
    some ((r30,s26,e29))) (
    aa (pH N s26 e29.gn e29.glo e29.ghi) λr31=>
    some ((s25,r31,e29)))) λp28=>
   mY N p1 s22 k p28.1 p28.2.1 (I64 (s27+1))) (
   some ((s25,s26)))
def pF(N:Nat)(p1:(Vector bB 8)):Nat->Int->Int->Int->Option (Int)
 | 0,_,_,_=>none
 | k+1,s20,s21,s22=>
  cond (decide (s22 < 8)) (
   aa (aa (mY N p1 s22 N (bB.mk 0 (aB.mk 0 0 0) (aB.mk 0 0 0)) (bB.mk 0 (aB.mk 0 0 0) (aB.mk 0 0 0)) 0) λp24=>
   aa (pY N p24.1) λr32=>
   aQ (eP r32 576460752303423488) λx33=>
   aa (pY N p24.2) λr34=>
   aQ (eP r34 576460752303423488) λx35=>
   aQ (cond (decide (p24.1.gn > 0)) (decide (p24.2.gn > 0)) false) λx36=>
   aQ (decide ((I64 (x33+x35)) < s20)) λx37=>
   cond (cond x36 x37 false) (
    some ((p24.1,p24.2,I64 (x33+x35),s22))) (
    some ((p24.1,p24.2,s20,s21)))) λp23=>
   pF N p1 k p23.2.2.1 p23.2.2.2 (I64 (s22+1))) (
   some s21)
def sW(N:Nat)(b0:(List Int))(a1:(List aJ))(a2 a3:Nat)(a4 a5 a6:Int):Option (Int):=
 aa (mW N a3 b0 a2 a1 a4 a5 a6 N (bu 8 (bB.mk 0 (aB.mk 0 0 0) (aB.mk 0 0 0))) 0) λp1=>
 aa (pF N p1 N 2305843009213693952 1 1) λp19=>
 some p19
theorem aGv{N b0 a1 a2 a3 a4 a5 a6 r}(h:sW N b0 a1 a2 a3 a4 a5 a6=some r):FnM Tryz.prog 167 [.gro 1 (aj j64 b0)] [(eL 19 aJ.enc a1),(.gro 0 1 b0.length (.sub a2 a3)),(j64 a4),(j64 a5),(j64 a6)] (j64 r) [.gro 1 (aj j64 b0)]:=by
 unfold sW at h;refine At.f bO hT hmo Tryz.func167 rfl h ?_;refine At.M 5 [11] 2 (λp1=>([],[(1,.var (eA 56 7 bB.enc p1))],[])) [0,2,3,4,11,25,26] 2 (CU2 (mW N a3 b0 a2 a1 a4 a5 a6)) (cu2 λ(s2:(Vector bB 8)) (s3:Int)=>([(27,(j64 s3))],[(1,.var (eA 56 7 bB.enc s2))],[])) (_,_) N (λp1 k=>un2 λs2 s3=>?_) λp1=>?_
 ·refine lx ?_;intro x4;refine At.c 1 ?_ ?_
  ·refine At.b 0 (λ_ e=>lS hT (id:=0) (k:=1) e (by kernel_rfl) (by kernel_rfl)) λu5=>?_;refine At.b 0 (λ_ e=>sR hT j64 [] e rfl (by kernel_rfl) (by kernel_rfl)) λe6=>?_;refine At.i hT 3 aJ.enc λe7=>?_;refine At.b 1 (λ_ e=>aCN hT (N:=9) (k:=3) aB.enc e7.gP e) λs8=>?_;refine At.y 0 vH λr9=>?_;refine At.i hT 9 aJ.enc λe10=>?_;refine At.y 1 xB λr11=>?_;refine At.y 1 pB λr12=>?_;refine At.y 2 aJG λr13=>?_;refine At.D 1 [] ?_;refine DD.b 2 (λe _=>bF hT (k:=7) 1 [] 0 e) λu14=>?_;refine DD.l hT 0 bB.enc bB.enc 0 λe15=>?_;refine DD.y 2 aAl λr16=>?_;refine DD.b 0 (λe _=>bF hT (k:=7) 1 [] 0 e) λu17=>?_;refine bi λe18 he18=>?_;refine DD.w 0 (.v (.bool false)) ⟨[(1,.var (eA 56 7 bB.enc (s2.setIfInBounds r13.toNat r16)))],[]⟩ (λ_ e=>pP hT bB.enc 0 s2 he18 r16 (pj1 e) (pj1 (pj2 e)) (pj2 (pj2 e))) ?_;refine DD.e hT hmo 0 ?_;exact λh=>At.v 2 (_,_) h
  ·apply rt;exact At.x 0
 ·refine At.M 3 [] 2 (λp19=>([(18,(j64 p19))],[],[])) [11] 2 (CU3 (pF N p1)) (cu3 λ(s20:Int) (s21:Int) (s22:Int)=>([(17,(j64 s20)),(18,(j64 s21)),(19,(j64 s22))],[],[])) (_,_,_) N (λp19 k=>un3 λs20 s21 s22=>?_) λp19=>?_
  ·refine At.c 2 ?_ ?_
   ·refine At.J 0 2 [11,19] 2 (λp23=>([(17,(j64 p23.2.2.1)),(18,(j64 p23.2.2.2))],[],[.var (bB.enc p23.1),.var (bB.enc p23.2.1)])) (λp23=>?_) λp23=>?_
    ·refine At.M 4 [11,17,18,19,20,21] 4 (λp24=>([],[(2,.var (bB.enc p24.1)),(3,.var (bB.enc p24.2))],[])) [11,17,18,19,20,21,63] 4 (CU3 (mY N p1 s22)) (cu3 λ(s25:bB) (s26:bB) (s27:Int)=>([(64,(j64 s27))],[(2,.var (bB.enc s25)),(3,.var (bB.enc s26))],[])) (_,_,_) N (λp24 k=>un3 λs25 s26 s27=>?_) λp24=>?_
     ·refine At.c 1 ?_ ?_
      ·refine At.J 0 2 [11,17,18,19,20,21,63,64] 4 (λp28=>([],[(2,.var (bB.enc p28.1)),(3,.var (bB.enc p28.2.1))],[.var (bB.enc p28.2.2)])) (λp28=>?_) λp28=>?_
       ·refine At.b 1 (λ_ e=>aA2 hT bB.enc p1 e (by kernel_rfl) (by kernel_rfl)) λe29=>?_;refine At.c 6 ?_ ?_
        ·refine At.y 7 aAl λr30=>?_;apply rt;exact At.jn 1
        ·refine At.y 7 aAl λr31=>?_;apply rt;exact At.jn 1
       ·exact λh=>At.v 2 (_,_,_) h
      ·apply rt;exact At.x 0
     ·refine At.D 0 [] ?_;refine DD.y 1 aCv λr32=>?_;refine lx ?_;intro x33;refine DD.y 2 aCv λr34=>?_;refine lx ?_;intro x35;refine DD.e hT hmo 3 ?_;refine lx ?_;intro x36;refine lx ?_;intro x37;refine At.c 13 ?_ ?_
      ·apply rt;exact At.jn 4
      ·apply rt;exact At.jn 0
    ·exact λh=>At.v 3 (_,_,_) h
   ·apply rt;exact At.x 0
  ·apply rt;exact At.r 2
def iM(N:Nat)(a0:Int)(a1:(List aJ))(a2 a3 a4 a5:Int):Option (Bool):=
 aa (idx a1 a0) λe1=>
 aa (kS N e1) λr2=>
 aa (mZ N r2 a5) λr3=>
 aa (yF N r3 a2 a3) λr4=>
 some (decide (r4>=a4))
theorem qF{N a0 a1 a2 a3 a4 a5 r}(h:iM N a0 a1 a2 a3 a4 a5=some r):FnM Tryz.prog 168 [.var (j64 a5)] [(j64 a0),(.im (eL 19 aJ.enc a1)),(.ref 0 [] 0),(.im (j64 a2)),(.im (j64 a3)),(.im (j64 a4))] (eB r) [.var (j64 a5)]:=by
 unfold iM at h;refine At.f bO hT hmo Tryz.func168 rfl h ?_;refine At.D 1 [] ?_;refine DD.i hT 2 aJ.enc λe1=>?_;refine DD.y 1 xB λr2=>?_;refine DD.y 1 pB λr3=>?_;refine DD.y 2 aJG λr4=>?_;refine DD.e hT hmo 3 ?_;apply rt;exact At.r 0
def rW(N:Nat)(a0 a1:Int)(a2:(List aJ))(a3 a4 a5 a6:Int):Option (Int):=
 aa (iM N a0 a2 a3 a4 a5 a6) λr1=>
 aa (iM N a1 a2 a3 a4 a5 a6) λr2=>
 cond (r1==r2) (
  some 0) (
  aa (iM N a1 a2 a3 a4 a5 a6) λr3=>
  cond r3 (some (-1)) (some 1))
theorem aFl{N a0 a1 a2 a3 a4 a5 a6 r}(h:rW N a0 a1 a2 a3 a4 a5 a6=some r):FnM Tryz.prog 170 [.var (.fn (.func 168) [] [(.im (eL 19 aJ.enc a2)),(.ref 1 [] 0),(.im (j64 a3)),(.im (j64 a4)),(.im (j64 a5))]),.var (j64 a6)] [(j64 a0),(j64 a1),(.ref 0 [] 0)] (j64 r) [.var (.fn (.func 168) [] [(.im (eL 19 aJ.enc a2)),(.ref 1 [] 0),(.im (j64 a3)),(.im (j64 a4)),(.im (j64 a5))]),.var (j64 a6)]:=by
 unfold rW at h;refine At.f bO hT hmo Tryz.func170 rfl h ?_;refine At.D 1 [] ?_;refine DD.Y 2 [1] qF λr1=>?_;refine DD.Y 2 [1] qF λr2=>?_;refine DD.e hT hmo 2 ?_;refine At.c 0 ?_ ?_
 ·apply rt;exact At.r 1
 ·refine At.Y 2 [1] qF λr3=>?_;refine At.c 1 ?_ ?_
  ·apply rt;exact At.r 1
  ·apply rt;exact At.r 1
def bM(N:Nat)(a3:Int)(a1:Nat)(a5:(List aJ))(a6 a7 a8 a9:Int):Nat->(List Int)->Nat->Int->Option ((List Int)×Nat)
 | 0,_,_,_=>none
 | k+1,s6,s7,s8=>
  aa (cond (decide (s8 > a3)) (
   aa (aAk s6.length a1 s7 s8) λ_=>
   aa (s6[(aA5 a1 s8.toNat)]?) λe11=>
   aa (aAk s6.length a1 s7 (I64 (s8 - 1))) λ_=>
   aa (s6[(aA5 a1 ((I64 (s8 - 1)).toNat))]?) λe13=>
   aa (rW N e11 e13 a5 a6 a7 a8 a9) λr14=>
   some (decide (r14 < 0))) (
   some false)) λp9=>
  cond p9 (
   aa (aAk s6.length a1 s7 (I64 (s8 - 1))) λ_=>
   aa (s6[(aA5 a1 ((I64 (s8 - 1)).toNat))]?) λe16=>
   aa (aAk s6.length a1 s7 s8) λ_=>
   aa (s6[(aA5 a1 s8.toNat)]?) λe18=>
   aa (aAk s6.length a1 s7 s8) λ_=>
   aa (aC7 s6 ((aA5 a1 s8.toNat)) e16) λz20=>
   aa (aAk s6.length a1 s7 (I64 (s8 - 1))) λ_=>
   aa (aC7 z20 ((aA5 a1 ((I64 (s8 - 1)).toNat))) e18) λz22=>
   bM N a3 a1 a5 a6 a7 a8 a9 k z22 s7 (I64 (s8 - 1))) (
   some ((s6,s7)))
def cA(N:Nat)(a4 a3:Int)(a1:Nat)(a5:(List aJ))(a6 a7 a8 a9:Int):Nat->(List Int)->Nat->Int->Option ((List Int))
 | 0,_,_,_=>none
 | k+1,s2,s3,s4=>
  cond (decide (s4 < a4)) (
   aa (bM N a3 a1 a5 a6 a7 a8 a9 N s2 s3 s4) λp5=>
   cA N a4 a3 a1 a5 a6 a7 a8 a9 k p5.1 p5.2 (I64 (s4+1))) (
   some s2)
def bI(N:Nat)(b0:(List Int))(a1 a2:Nat)(a3 a4:Int)(a5:(List aJ))(a6 a7 a8 a9:Int):Option ((List Int)):=
 aa (cA N a4 a3 a1 a5 a6 a7 a8 a9 N b0 a2 (I64 (a3+1))) λp1=>
 some p1
theorem kT{N b0 a1 a2 a3 a4 a5 a6 a7 a8 a9 r}(h:bI N b0 a1 a2 a3 a4 a5 a6 a7 a8 a9=some r):FnM Tryz.prog 206 [.gro 1 (aj j64 b0),.var (.fn (.func 168) [] [(.im (eL 19 aJ.enc a5)),(.ref 2 [] 0),(.im (j64 a6)),(.im (j64 a7)),(.im (j64 a8))]),.var (j64 a9)] [(.gro 0 1 b0.length (.sub a1 a2)),(j64 a3),(j64 a4),(.fn (.func 170) [] [(.ref 1 [] 0)])] (.tup []) [.gro 1 (aj j64 r),.var (.fn (.func 168) [] [(.im (eL 19 aJ.enc a5)),(.ref 2 [] 0),(.im (j64 a6)),(.im (j64 a7)),(.im (j64 a8))]),.var (j64 a9)]:=by
 unfold bI at h;refine At.f bO hT hmo Tryz.func206 rfl h ?_;refine At.M 3 [] 3 (λp1=>([],[(0,.gro 1 (aj j64 p1))],[])) [1,2,3] 3 (CU3 (cA N a4 a3 a1 a5 a6 a7 a8 a9)) (cu3 λ(s2:(List Int)) (s3:Nat) (s4:Int)=>([(0,(.gro 0 1 s2.length (.sub a1 s3))),(8,(j64 s4))],[(0,.gro 1 (aj j64 s2))],[])) (_,_,_) N (λp1 k=>un3 λs2 s3 s4=>?_) λp1=>?_
 ·refine At.c 3 ?_ ?_
  ·refine At.M 2 [1,2,3,8] 3 (λp5=>([(0,(.gro 0 1 p5.1.length (.sub a1 p5.2)))],[(0,.gro 1 (aj j64 p5.1))],[])) [1,2,3,8] 3 (CU3 (bM N a3 a1 a5 a6 a7 a8 a9)) (cu3 λ(s6:(List Int)) (s7:Nat) (s8:Int)=>([(0,(.gro 0 1 s6.length (.sub a1 s7))),(9,(j64 s8))],[(0,.gro 1 (aj j64 s6))],[])) (_,_,_) N (λp5 k=>un3 λs6 s7 s8=>?_) λp5=>?_
   ·refine At.J 0 0 [0,1,2,3,8,9] 3 (λp9=>([(34,(eB p9))],[],[])) (λp9=>?_) λp9=>?_
    ·refine At.D 0 [] ?_;refine DD.s hT 4 ?_ ?_
     ·refine DD.b 3 (λe _=>lS hT (id:=0) (k:=1) e (by kernel_rfl) (by kernel_rfl)) λu10=>?_;refine bi λe11 he11=>?_;refine DD.w 0 (j64 e11) ⟨[],[]⟩ (λ_ e=>zY (sR hT j64 [] he11 rfl (pj1 e) (pj1 (pj2 e))) (pj2 (pj2 e))) ?_;refine DD.b 3 (λe _=>lS hT (id:=0) (k:=1) e (by kernel_rfl) (by kernel_rfl)) λu12=>?_;refine bi λe13 he13=>?_;refine DD.w 0 (j64 e13) ⟨[],[]⟩ (λ_ e=>zY (sR hT j64 [] he13 rfl (pj1 e) (pj1 (pj2 e))) (pj2 (pj2 e))) ?_;refine DD.Y 0 [1,2] aFl λr14=>?_;refine DD.e hT hmo 2 ?_;apply rt;exact At.jn 0
     ·refine DD.e hT hmo 13 ?_;apply rt;exact At.jn 0
    ·refine At.c 0 ?_ ?_
     ·refine At.D 0 [] ?_;refine DD.b 8 (λe _=>lS hT (id:=0) (k:=1) e (by kernel_rfl) (by kernel_rfl)) λu15=>?_;refine bi λe16 he16=>?_;refine DD.w 0 (j64 e16) ⟨[],[]⟩ (λ_ e=>zY (sR hT j64 [] he16 rfl (pj1 e) (pj1 (pj2 e))) (pj2 (pj2 e))) ?_;refine DD.b 2 (λe _=>lS hT (id:=0) (k:=1) e (by kernel_rfl) (by kernel_rfl)) λu17=>?_;refine bi λe18 he18=>?_;refine DD.w 0 (j64 e18) ⟨[],[]⟩ (λ_ e=>zY (sR hT j64 [] he18 rfl (pj1 e) (pj1 (pj2 e))) (pj2 (pj2 e))) ?_;refine DD.b 0 (λe _=>lS hT (id:=0) (k:=1) e (by kernel_rfl) (by kernel_rfl)) λu19=>?_;refine bi λz20 hz20=>?_;refine DD.w 0 (.v (.bool false)) ⟨[(0,.gro 1 (aj j64 z20))],[]⟩ (λ_ e=>uX hT j64 (k:=1) e16 hz20 rfl (pj1 e) (congrFun (pj1 (pj2 e))) (pj1 (pj2 (pj2 e))) (pj2 (pj2 (pj2 e)))) ?_;refine DD.b 0 (λe _=>lS hT (id:=0) (k:=1) e (by kernel_rfl) (by kernel_rfl)) λu21=>?_;refine bi λz22 hz22=>?_;refine DD.w 0 (.v (.bool false)) ⟨[(0,.gro 1 (aj j64 z22))],[]⟩ (λ_ e=>uX hT j64 (k:=1) e18 hz22 ((zN hz20).2.2).symm (pj1 e) (congrFun (pj1 (pj2 e))) (pj1 (pj2 (pj2 e))) (pj2 (pj2 (pj2 e)))) ?_;refine DD.e hT hmo 0 ?_;refine At.gp [0] [] 0 s6.length z22.length (((zN hz22).2.2).trans ((zN hz20).2.2)) ?_;exact λh=>At.v 3 (_,_,_) h
     ·apply rt;exact At.x 0
   ·exact λh=>At.v 3 (_,_,_) h
  ·apply rt;exact At.x 0
 ·apply rt;exact At.z 0
def cD(N:Nat)(a3:Int)(a1:Nat)(a4:(List aJ))(a5 a6 a7 a8:Int):Nat->(List Int)->Nat->Int->Int->Option ((List Int)×Nat×Int)
 | 0,_,_,_,_=>none
 | k+1,s2,s3,s4,s5=>
  cond (decide (s5<=a3)) (
   aa (bI N s2 a1 s3 s4 s5 a4 a5 a6 a7 a8) λr6=>
   aa (zQ r6 s2.length) λ_=>
   cD N a3 a1 a4 a5 a6 a7 a8 k r6 s3 s5 (I64 (s5+20))) (
   some ((s2,s3,s4)))
def iR(N:Nat)(s11 a3:Int):Nat->Option (Unit)
 | 0=>none
 | k+1=>
  aQ (decide ((I64 (2*s11))<=a3)) λx13=>
  cond x13 (none) (some (()))
def cV(N:Nat)(a3:Int):Nat->Int->Option (Unit)
 | 0,_=>none
 | k+1,s11=>
  cond (decide (s11 < a3)) (
   aa (iR N s11 a3 N ) λp12=>
   aa (aQ (decide ((I64 (0+s11)) < a3)) λx15=>
   cond x15 (none) (some (()))) λp14=>
   cV N a3 k (I64 (s11*2))) (
   some (()))
def fJ(N:Nat)(b0:(List Int))(a1 a2:Nat)(a3:Int)(a4:(List aJ))(a5 a6 a7 a8:Int):Option ((List Int)):=
 aa (cD N a3 a1 a4 a5 a6 a7 a8 N b0 a2 0 20) λp1=>
 aa (bI N p1.1 a1 p1.2.1 p1.2.2 a3 a4 a5 a6 a7 a8) λr8=>
 aa (zQ r8 p1.1.length) λ_=>
 aa (cV N a3 N 20) λp10=>
 some r8
theorem vD{N b0 a1 a2 a3 a4 a5 a6 a7 a8 r}(h:fJ N b0 a1 a2 a3 a4 a5 a6 a7 a8=some r):FnM Tryz.prog 192 [.gro 1 (aj j64 b0),.var (.fn (.func 168) [] [(.im (eL 19 aJ.enc a4)),(.ref 2 [] 0),(.im (j64 a5)),(.im (j64 a6)),(.im (j64 a7))]),.var (j64 a8)] [(.gro 0 1 b0.length (.sub a1 a2)),(j64 a3),(.fn (.func 170) [] [(.ref 1 [] 0)])] (.tup []) [.gro 1 (aj j64 r),.var (.fn (.func 168) [] [(.im (eL 19 aJ.enc a4)),(.ref 2 [] 0),(.im (j64 a5)),(.im (j64 a6)),(.im (j64 a7))]),.var (j64 a8)]:=by
 unfold fJ at h;refine At.f bO hT hmo Tryz.func192 rfl h ?_;refine At.M 4 [1,2,6] 3 (λp1=>([(0,(.gro 0 1 p1.1.length (.sub a1 p1.2.1))),(7,(j64 p1.2.2))],[(0,.gro 1 (aj j64 p1.1))],[])) [1,2,6] 3 (CU4 (cD N a3 a1 a4 a5 a6 a7 a8)) (cu4 λ(s2:(List Int)) (s3:Nat) (s4:Int) (s5:Int)=>([(0,(.gro 0 1 s2.length (.sub a1 s3))),(7,(j64 s4)),(8,(j64 s5))],[(0,.gro 1 (aj j64 s2))],[])) (_,_,_,_) N (λp1 k=>un4 λs2 s3 s4 s5=>?_) λp1=>?_
 ·refine At.c 3 ?_ ?_
  ·refine bi λr6 hr6=>?_;refine bi λu7 hu7=>?_;refine At.o 4 (rI [0,1,2] (kT hr6)) ?_;refine At.gl 0 [0] [] 0 s2.length r6.length (aEM hu7) ?_;exact λh=>At.v 6 (_,_,_,_) h
  ·apply rt;exact At.x 0
 ·refine bi λr8 hr8=>?_;refine bi λu9 hu9=>?_;refine At.o 4 (rI [0,1,2] (kT hr8)) ?_;refine At.gl 0 [0] [] 0 p1.1.length r8.length (aEM hu9) ?_;refine At.M 0 [] 3 (λp10=>([],[],[])) [0,1,2] 3 (cV N a3) (λ(s11:Int)=>([(6,(j64 s11))],[],[])) _ N (λp10 k s11=>?_) λp10=>?_
  ·refine At.c 3 ?_ ?_
   ·refine At.M 4 [0,1,2,6,7] 3 (λp12=>([],[],[])) [0,1,2,6,7,8] 3 (CU0 (iR N s11 a3)) (λ(_:Unit)=>([],[],[])) () N (λp12 k _=>?_) λp12=>?_
    ·unfold iR;dsimp only;refine lx ?_;intro x13;refine At.c 3 ?_ ?_
     ·exact nn
     ·apply rt;exact At.x 0
    ·refine At.J 0 1 [0,1,2,6] 3 (λp14=>([],[],[])) (λp14=>?_) λp14=>?_
     ·refine lx ?_;intro x15;refine At.c 7 ?_ ?_
      ·exact nn
      ·apply rt;exact At.jn 0
     ·exact λh=>At.v 3 _ h
   ·apply rt;exact At.x 0
  ·apply rt;exact At.z 0
def cP(N:Nat)(b0:(List Int))(a1 a2:Nat)(a3:(List aJ))(a4 a5 a6 a7:Int):Option ((List Int)):=
 aa (fJ N b0 a1 a2 ((a2:Int)) a3 a4 a5 a6 a7) λr1=>
 some r1
theorem sJ{N b0 a1 a2 a3 a4 a5 a6 a7 r}(h:cP N b0 a1 a2 a3 a4 a5 a6 a7=some r):FnM Tryz.prog 165 [.gro 1 (aj j64 b0),.var (.fn (.func 168) [] [(.im (eL 19 aJ.enc a3)),(.ref 2 [] 0),(.im (j64 a4)),(.im (j64 a5)),(.im (j64 a6))]),.var (j64 a7)] [(.gro 0 1 b0.length (.sub a1 a2)),(.fn (.func 170) [] [(.ref 1 [] 0)])] (.tup []) [.gro 1 (aj j64 r),.var (.fn (.func 168) [] [(.im (eL 19 aJ.enc a3)),(.ref 2 [] 0),(.im (j64 a4)),(.im (j64 a5)),(.im (j64 a6))]),.var (j64 a7)]:=by
 unfold cP at h;refine At.f bO hT hmo Tryz.func165 rfl h ?_;refine At.Y 4 [0,1,2] vD λr1=>?_;apply rt;exact At.z 0
def bJ(N a2:Nat)(b0:(List Int))(a1:Nat)(a3:(List aJ))(a4 a5 a6 a7:Int):Nat->Int->Option (Sum (Unit) (Int))
 | 0,_=>none
 | k+1,s2=>
  aQ (decide (s2 < ((a2:Int)))) λx3=>
  cond x3 (
   aa (aAk b0.length a1 a2 s2) λ_=>
   aa (b0[(aA5 a1 s2.toNat)]?) λe5=>
   aa (iM N e5 a3 a4 a5 a6 a7) λr6=>
   cond r6 (
    some (Sum.inr s2)) (
    bJ N a2 b0 a1 a3 a4 a5 a6 a7 k (I64 (s2+1)))) (
   some (Sum.inl (())))
def cQ(N:Nat)(b0:(List Int))(a1 a2:Nat)(a3:(List aJ))(a4 a5 a6 a7:Int):Option (Int):=
 aa (bJ N a2 b0 a1 a3 a4 a5 a6 a7 N 0) λo=>jY o (λp1=>
  some (-1)) (λr=>some r)
theorem sO{N b0 a1 a2 a3 a4 a5 a6 a7 r}(h:cQ N b0 a1 a2 a3 a4 a5 a6 a7=some r):FnM Tryz.prog 171 [.gro 1 (aj j64 b0),.var (j64 a7)] [(.gro 0 1 b0.length (.sub a1 a2)),(.fn (.func 168) [] [(.im (eL 19 aJ.enc a3)),(.ref 1 [] 0),(.im (j64 a4)),(.im (j64 a5)),(.im (j64 a6))])] (j64 r) [.gro 1 (aj j64 b0),.var (j64 a7)]:=by
 unfold cQ at h;refine At.f bO hT hmo Tryz.func171 rfl h ?_;refine At.MS 4 [] 2 (λp1=>([],[],[])) [0,1,7] 2 (bJ N a2 b0 a1 a3 a4 a5 a6 a7) (λ(s2:Int)=>([(8,(j64 s2))],[],[])) _ N (λop1 g1 k s2=>?_) λp1=>?_
 ·refine lx ?_;intro x3;refine At.c 1 ?_ ?_
  ·refine At.b 5 (λ_ e=>lS hT (id:=0) (k:=1) e (by kernel_rfl) (by kernel_rfl)) λu4=>?_;refine At.b 0 (λ_ e=>sR hT j64 [] e rfl (by kernel_rfl) (by kernel_rfl)) λe5=>?_;refine At.Y 0 [1] qF λr6=>?_;refine At.c 0 ?_ ?_
   ·intro e;apply aBq g1 e;exact At.r 2
   ·exact λh=>At.v 2 _ h
  ·apply rt;exact At.xs 0
 ·apply rt;exact At.r 1
def aI6 : Nat->Bool:=imL [3]
def oB(N a3:Nat)(b0:(List Int))(a2:Nat)(a1:(List aJ)):Nat->(List aB)->Int->Option ((List aB))
 | 0,_,_=>none
 | k+1,s3,s4=>
  aQ (decide (s4 < ((a3:Int)))) λx5=>
  cond x5 (
   aa (aAk b0.length a2 a3 s4) λ_=>
   aa (b0[(aA5 a2 s4.toNat)]?) λe7=>
   aa (idx a1 e7) λe8=>
   aa (kS N e8) λr9=>
   aa (tU 24 s3 (([r9]:List aB))) λz10=>
   oB N a3 b0 a2 a1 k z10 (I64 (s4+1))) (
   some s3)
def qQ(N:Nat)(r11:aB×aB):Nat->Int->Int->Option (Int)
 | 0,_,_=>none
 | k+1,s13,s14=>
  cond (decide (s14 < 3)) (
   aa (aa (mZ N r11.2 s14) λr16=>
   aa (mZ N r11.1 s14) λr17=>
   aa (mZ N r11.2 s13) λr18=>
   aa (mZ N r11.1 s13) λr19=>
   aQ (decide ((I64 (r16 - r17)) > (I64 (r18 - r19)))) λx20=>
   cond x20 (some s14) (some s13)) λp15=>
   qQ N r11 k p15 (I64 (s14+1))) (
   some s13)
def uS(N:Nat)(b0:(List Int))(a1:(List aJ))(a2 a3:Nat)(a4:Int):Option ((List Int)×Int):=
 aQ (decide (((a3:Int))<=4)) λx1=>
 cond x1 (
  some ((b0,0))) (
  aa (oB N a3 b0 a2 a1 N [] 0) λp2=>
  aa (pC N p2) λr11=>
  aa (qQ N r11 N 0 1) λp12=>
  aa (mZ N r11.1 p12) λr21=>
  aa (mZ N r11.2 p12) λr22=>
  cond (r21==r22) (
   some ((b0,0))) (
   cond (decide (a4 > 31)) (
    aa (cJ N b0 a2 a3 a1 p12) λr23=>
    aa (zQ r23 b0.length) λ_=>
    aQ (I64 (d6 ((a3:Int)) 2)) λx25=>
    some ((r23,x25))) (
    aa (sW N b0 a1 a2 a3 p12 r21 r22) λr26=>
    aa (cP N b0 a2 a3 a1 r21 r22 r26 p12) λr27=>
    aa (zQ r27 b0.length) λ_=>
    aa (cQ N r27 a2 a3 a1 r21 r22 r26 p12) λr29=>
    some ((r27,r29)))))
theorem aH1{N b0 a1 a2 a3 a4 r}(h:uS N b0 a1 a2 a3 a4=some r):FnM Tryz.prog 116 [.gro 1 (aj j64 b0)] [(eL 19 aJ.enc a1),(.gro 0 1 b0.length (.sub a2 a3)),(j64 a4)] (j64 r.2) [.gro 1 (aj j64 r.1)]:=by
 unfold uS at h;refine At.f aI6 hT hmo Tryz.func116 rfl h ?_;refine lx ?_;intro x1;refine At.c 5 ?_ ?_
 ·apply rt;exact At.r 1
 ·refine At.ownn 4 7 3 ?_;refine At.M 0 [1,2,3] 2 (λp2=>([(7,(eO 1 3 aB.enc p2))],[(1,.tail (p2.length*3))],[])) [1,2,3,21,22] 2 (CU2 (oB N a3 b0 a2 a1)) (cu2 λ(s3:(List aB)) (s4:Int)=>([(7,(eO 1 3 aB.enc s3)),(23,(j64 s4))],[(1,.tail (s3.length*3))],[])) (_,_) N (λp2 k=>un2 λs3 s4=>?_) λp2=>?_
  ·refine lx ?_;intro x5;refine At.c 1 ?_ ?_
   ·refine At.b 0 (λ_ e=>lS hT (id:=0) (k:=1) e (by kernel_rfl) (by kernel_rfl)) λu6=>?_;refine At.b 0 (λ_ e=>sR hT j64 [] e rfl (by kernel_rfl) (by kernel_rfl)) λe7=>?_;refine At.i hT 4 aJ.enc λe8=>?_;refine At.y 1 xB λr9=>?_;refine At.o 0 (bH hT (x:=(.sl 3 1 [(aB.enc r9)]))) ?_;refine At.b 0 (λ_ e=>kB hT aB.enc (id:=1) (k:=3) e) λz10=>?_;exact λh=>At.v 3 (_,_) h
   ·apply rt;exact At.x 0
  ·refine At.y 1 vH λr11=>?_;refine At.M 10 [1,2,3,10,11,12] 5 (λp12=>([],[(4,.var (j64 p12))],[])) [1,2,3,10,11,12] 5 (CU2 (qQ N r11)) (cu2 λ(s13:Int) (s14:Int)=>([(13,(j64 s14))],[(4,.var (j64 s13))],[])) (_,_) N (λp12 k=>un2 λs13 s14=>?_) λp12=>?_
   ·refine At.c 2 ?_ ?_
    ·refine At.J 0 2 [1,2,3,10,11,12,13] 5 (λp15=>([],[(4,.var (j64 p15))],[])) (λp15=>?_) λp15=>?_
     ·refine At.D 0 [] ?_;refine DD.y 2 pB λr16=>?_;refine DD.y 2 pB λr17=>?_;refine DD.y 3 pB λr18=>?_;refine DD.y 2 pB λr19=>?_;refine lx ?_;intro x20;refine DD.e hT hmo 2 ?_;refine At.c 0 ?_ ?_
      ·apply rt;exact At.jn 2
      ·apply rt;exact At.jn 0
     ·exact λh=>At.v 3 (_,_) h
    ·apply rt;exact At.x 0
   ·refine At.D 0 [false,false] ?_;refine DD.y 2 pB λr21=>?_;refine DD.y 2 pB λr22=>?_;refine DD.e hT hmo 4 ?_;refine At.c 3 ?_ ?_
    ·apply rt;exact At.r 1
    ·refine At.c 2 ?_ ?_
     ·refine At.o 1 (qT (x:=(.fn (.func 166) [] [(.im (eL 19 aJ.enc a1)),(.ref 4 [] 0)])) (by kernel_rfl) (by kernel_rfl)) ?_;refine bi λr23 hr23=>?_;refine bi λu24 hu24=>?_;refine At.o 0 (rI [0,4] (rK hr23)) ?_;refine At.gl 0 [1] [] 0 b0.length r23.length (aEM hu24) ?_;refine lx ?_;intro x25;apply rt;exact At.r 4
     ·refine At.Y 5 [0] aGv λr26=>?_;refine At.gz 2 5 ((j64 r21)) ?_;refine At.gz 0 6 ((j64 r22)) ?_;refine At.gz 0 7 ((j64 r26)) ?_;refine At.o 0 (qT (x:=(.fn (.func 168) [] [(.im (eL 19 aJ.enc a1)),(.ref 4 [] 0),(.im (j64 r21)),(.im (j64 r22)),(.im (j64 r26))])) (by kernel_rfl) (by kernel_rfl)) ?_;refine At.o 3 (qT (x:=(.fn (.func 170) [] [(.ref 8 [] 0)])) (by kernel_rfl) (by kernel_rfl)) ?_;refine bi λr27 hr27=>?_;refine bi λu28 hu28=>?_;refine At.o 0 (rI [0,8,4] (sJ hr27)) ?_;refine At.gl 0 [1] [] 0 b0.length r27.length (aEM hu28) ?_;refine At.Y 2 [0,4] sO λr29=>?_;apply rt;exact At.r 1
def rR(N:Nat)(a0:(List aJ)):Nat->Int->Option (Sum (Unit) (bD×Int))
 | 0,_=>none
 | k+1,s3=>
  aQ (decide (s3 < ((a0.length:Int)))) λx4=>
  cond x4 (
   aa (idx a0 s3) λe5=>
   aa (aSB 3 0 3) λ_=>
   aa (aAg N e5) λr7=>
   aa (aQ (decide ((eP (eP r7.1.gX r7.1.gY) r7.1.gZ) < (-1048576))) λx9=>
   cond x9 (
    some true) (
    aQ (decide ((jZ (jZ r7.2.gX r7.2.gY) r7.2.gZ) > 1048576)) λx10=>
    some x10)) λp8=>
   cond p8 (
    some (Sum.inr ((bD.mk [] [],8)))) (
    rR N a0 k (I64 (s3+1)))) (
   some (Sum.inl (())))
def rU(N:Nat)(a0:(List aJ)):Nat->(List Int)->Int->Option ((List Int))
 | 0,_,_=>none
 | k+1,s13,s14=>
  aQ (decide (s14 < ((a0.length:Int)))) λx15=>
  cond x15 (
   aa (tU 8 s13 (([s14]:List Int))) λz16=>
   rU N a0 k z16 (I64 (s14+1))) (
   some s13)
def rZ(N:Nat)(a0:(List aJ)):Nat->(List Int)->(List aX)->(List aW)->Nat->Option ((List Int)×(List aX)×(List aW))
 | 0,_,_,_,_=>none
 | k+1,s18,s19,s20,s21=>
  aQ (decide (((s21:Int)) > 0)) λx22=>
  cond x22 (
   aQ (I64 (((s21:Int)) - 1)) λx23=>
   aa (aAk s20.length 0 s21 x23) λ_=>
   aa (s20[x23.toNat]?) λe25=>
   aQ (I64 (((s21:Int)) - 1)) λx26=>
   aa (aLY s20.length 0 s21 0 x26) λ_=>
   aQ (I64 (e25.gC+e25.gS)) λx28=>
   aa (aLY s18.length 0 s18.length e25.gC x28) λ_=>
   aa (yV N s18 a0 e25.gC.toNat (x28.toNat - e25.gC.toNat)) λr30=>
   aa (aa (uS N s18 a0 e25.gC.toNat (x28.toNat - e25.gC.toNat) e25.gD9) λr32=>
   aa (zQ r32.1 s18.length) λ_=>
   cond (decide (r32.2 > 0)) (
    aQ (I64 (((s19.length:Int))+1)) λx34=>
    aa (tU 80 s19 (([aX.mk (aB.mk 0 0 0) (aB.mk 0 0 0) 0 0 0 0,aX.mk (aB.mk 0 0 0) (aB.mk 0 0 0) 0 0 0 0]:List aX))) λz35=>
    aQ (I64 (((s19.length:Int))+1)) λx36=>
    aQ (I64 (e25.gC+r32.2)) λx37=>
    aQ (I64 (e25.gS - r32.2)) λx38=>
    aa (aNE 32 s20 x26.toNat (([aW.mk x36 x37 x38 (I64 (e25.gD9+1)),aW.mk ((s19.length:Int)) e25.gC r32.2 (I64 (e25.gD9+1))]:List aW))) λz39=>
    some ((r32.1,z35,z39,aX.mk r30.1 r30.2 ((s19.length:Int)) ((I64 (((s19.length:Int))+1))) 0 0,x26.toNat+2))) (
    some ((r32.1,s19,s20,aX.mk r30.1 r30.2 (-1) (-1) e25.gC e25.gS,x26.toNat)))) λp31=>
   aa (eY e25.gA1 p31.2.1.length) λ_=>
   aa (aC7 p31.2.1 e25.gA1.toNat p31.2.2.2.1) λz41=>
   rZ N a0 k p31.1 z41 p31.2.2.1 p31.2.2.2.2) (
   some ((s18,s19,s20)))
def aAX(N:Nat)(a0:(List aJ)):Option (bD×Int):=
 aQ (decide (((a0.length:Int)) > 4096)) λx1=>
 cond x1 (
  some ((bD.mk [] [],3))) (
  aa (rR N a0 N 0) λo=>jY o (λp2=>
   aQ (((a0.length:Int))==0) λx11=>
   cond x11 (
    some ((bD.mk [] [],0))) (
    aa (rU N a0 N [] 0) λp12=>
    aa (rZ N a0 N p12 (([aX.mk (aB.mk 0 0 0) (aB.mk 0 0 0) 0 0 0 0]:List aX)) (([aW.mk 0 0 ((a0.length:Int)) 1]:List aW)) ((([aW.mk 0 0 ((a0.length:Int)) 1]:List aW)).length)) λp17=>
    some ((bD.mk p17.2.1 p17.1,0)))) (λr=>some r))
theorem aLa{N a0 r}(h:aAX N a0=some r):FnM Tryz.prog 78 [] [(eL 19 aJ.enc a0)] (.tup [(bD.enc r.1),(j64 r.2)]) []:=by
 unfold aAX at h;refine At.f bO hT hmo Tryz.func78 rfl h ?_;refine lx ?_;intro x1;refine At.c 5 ?_ ?_
 ·apply rt;exact At.r 3
 ·refine At.MS 3 [0,2] 1 (λp2=>([],[],[])) [0,2,22,23] 1 (rR N a0) (λ(s3:Int)=>([(24,(j64 s3))],[],[])) _ N (λop2 g2 k s3=>?_) λp2=>?_
  ·refine lx ?_;intro x4;refine At.c 1 ?_ ?_
   ·refine At.i hT 0 aJ.enc λe5=>?_;refine At.b 4 (λ_ e=>aPz hT (k:=3) 1 [0] 0 e (by kernel_rfl) (by kernel_rfl) (by decide)) λs6=>?_;refine At.Y 0 [1] aMZ λr7=>?_;refine At.J 7 0 [0,2,22,23,24] 4 (λp8=>([(51,(eB p8))],[],[])) (λp8=>?_) λp8=>?_
    ·refine At.o 6 (aBt (k := .i64) (i:=r7.1.gX) (j:=r7.1.gY) (l:=r7.1.gZ) (by kernel_rfl) (by kernel_rfl)) ?_;refine lx ?_;intro x9;refine At.s 42 2 ?_ ?_
     ·refine At.g [42] 9 ?_;apply rt;exact At.jn 0
     ·refine At.g [42] 6 ?_;refine At.o 0 (aBU (k := .i64) (i:=r7.2.gX) (j:=r7.2.gY) (l:=r7.2.gZ) (by kernel_rfl) (by kernel_rfl)) ?_;refine lx ?_;intro x10;refine At.g [42] 2 ?_;apply rt;exact At.jn 0
    ·refine At.c 0 ?_ ?_
     ·intro e;apply aBq g2 e;exact At.r 3
     ·exact λh=>At.v 2 _ h
   ·apply rt;exact At.xs 0
  ·refine lx ?_;intro x11;refine At.c 4 ?_ ?_
   ·apply rt;exact At.r 3
   ·refine At.grob 3 1 1 [1] ?_;refine At.M 0 [0,2,8] 3 (λp12=>([],[(1,.var (.st 2 [(.v (.slice none 0 0)),(.gro 2 1 p12.length .all)])),(2,.gro 1 (aj j64 p12))],[])) [0,2,8,59] 3 (CU2 (rU N a0)) (cu2 λ(s13:(List Int)) (s14:Int)=>([(60,(j64 s14))],[(1,.var (.st 2 [(.v (.slice none 0 0)),(.gro 2 1 s13.length .all)])),(2,.gro 1 (aj j64 s13))],[])) (_,_) N (λp12 k=>un2 λs13 s14=>?_) λp12=>?_
    ·refine lx ?_;intro x15;refine At.c 1 ?_ ?_
     ·refine At.o 5 (bH hT (x:=(.sl 1 1 [(j64 s14)]))) ?_;refine At.b 0 (λz16 e=>aEm hT j64 (id:=2) (k:=1) e (by kernel_rfl) (by kernel_rfl) (H':=[.var (.st 2 [(.v (.slice none 0 0)),(.v (.slice none 0 0))]),.var (.st 2 [(.v (.slice none 0 0)),(.gro 2 1 s13.length .all)]),.gro 1 (aj j64 z16)]) (by kernel_rfl)) λz16=>?_;exact λh=>At.v 4 (_,_) h
     ·apply rt;exact At.x 0
    ·refine At.o 1 (aCh hT aX.enc (k:=10) ([aX.mk (aB.mk 0 0 0) (aB.mk 0 0 0) 0 0 0 0]:List aX) (by kernel_rfl) (by kernel_rfl)) ?_;refine At.o 5 (aCh hT aW.enc (k:=4) ([aW.mk 0 0 ((a0.length:Int)) 1]:List aW) (by kernel_rfl) (by kernel_rfl)) ?_;refine At.gsub 1 10 ?_;refine At.M 0 [2,8] 5 (λp17=>([],[(1,.var (.st 2 [(.gro 3 10 p17.2.1.length .all),(.gro 2 1 p17.1.length .all)])),(2,.gro 1 (aj j64 p17.1)),(3,.gro 10 (aj aX.enc p17.2.1)),(4,.gro 4 (aj aW.enc p17.2.2))],[])) [0,2,8] 5 (CU4 (rZ N a0)) (cu4 λ(s18:(List Int)) (s19:(List aX)) (s20:(List aW)) (s21:Nat)=>([(10,(.gro 4 4 s20.length (.sub 0 s21)))],[(1,.var (.st 2 [(.gro 3 10 s19.length .all),(.gro 2 1 s18.length .all)])),(2,.gro 1 (aj j64 s18)),(3,.gro 10 (aj aX.enc s19)),(4,.gro 4 (aj aW.enc s20))],[])) (_,_,_,_) N (λp17 k=>un4 λs18 s19 s20 s21=>?_) λp17=>?_
     ·refine lx ?_;intro x22;refine At.c 3 ?_ ?_
      ·refine lx ?_;intro x23;refine At.b 4 (λ_ e=>lS hT (id:=4) (k:=4) e (by kernel_rfl) (by kernel_rfl)) λu24=>?_;refine At.b 0 (λ_ e=>sR hT aW.enc [] e rfl (by kernel_rfl) (by kernel_rfl)) λe25=>?_;refine lx ?_;intro x26;refine At.b 6 (λ_ e=>aIM hT (id:=4) (k:=4) (L:=s20.length) (lo0:=0) (m:=s21) e (by kernel_rfl) (by kernel_rfl)) λs27=>?_;refine lx ?_;intro x28;refine At.b 10 (λ_ e=>aIM hT (id:=2) (k:=1) (L:=s18.length) (lo0:=0) (m:=s18.length) e (by kernel_rfl) (by kernel_rfl)) λs29=>?_;refine At.Y 3 [2] aKB λr30=>?_;refine At.J 16 1 [0,2,8,11,15] 9 (λp31=>([(10,(.gro 4 4 p31.2.2.1.length (.sub 0 p31.2.2.2.2)))],[(1,.var (.st 2 [(.gro 3 10 p31.2.1.length .all),(.gro 2 1 p31.1.length .all)])),(2,.gro 1 (aj j64 p31.1)),(3,.gro 10 (aj aX.enc p31.2.1)),(4,.gro 4 (aj aW.enc p31.2.2.1)),(8,.var (aX.enc p31.2.2.2.1))],[])) (λp31=>?_) λp31=>?_
       ·refine bi λr32 hr32=>?_;refine bi λu33 hu33=>?_;refine At.o 4 (rI [2] (aH1 hr32)) ?_;refine At.gl 0 [] [1] 2 s18.length r32.1.length (aEM hu33) ?_;refine At.c 3 ?_ ?_
        ·refine lx ?_;intro x34;refine At.o 15 (bH hT (x:=(.sl 10 2 [(.st 10 [(.st 3 [(j64 0),(j64 0),(j64 0)]),(.st 3 [(j64 0),(j64 0),(j64 0)]),(j64 0),(j64 0),(j64 0),(j64 0)]),(.st 10 [(.st 3 [(j64 0),(j64 0),(j64 0)]),(.st 3 [(j64 0),(j64 0),(j64 0)]),(j64 0),(j64 0),(j64 0),(j64 0)])]))) ?_;refine At.b 0 (λz35 e=>aEm hT aX.enc (id:=3) (k:=10) e (by kernel_rfl) (by kernel_rfl) (H':=[.var (.st 2 [(.v (.slice none 0 0)),(.v (.slice none 0 0))]),.var (.st 2 [(.gro 3 10 s19.length .all),(.gro 2 1 r32.1.length .all)]),.gro 1 (aj j64 r32.1),.gro 10 (aj aX.enc z35),.gro 4 (aj aW.enc s20),.var (aW.enc e25),.var (aB.enc r30.1),.var (aB.enc r30.2),.var (.st 10 [(aB.enc r30.1),(aB.enc r30.2),(j64 ((s19.length:Int))),(j64 ((I64 (((s19.length:Int))+1)))),(j64 0),(j64 0)])]) (by kernel_rfl)) λz35=>?_;refine lx ?_;intro x36;refine lx ?_;intro x37;refine lx ?_;intro x38;refine At.o 25 (bH hT (x:=(.sl 4 2 [(.st 4 [(j64 x36),(j64 x37),(j64 x38),(j64 (I64 (e25.gD9+1)))]),(.st 4 [(j64 ((s19.length:Int))),(j64 e25.gC),(j64 r32.2),(j64 (I64 (e25.gD9+1)))])]))) ?_;refine At.b 0 (λz39 e=>aGq hT aW.enc (id:=4) (k:=4) e (by kernel_rfl) (by kernel_rfl) (H':=[.var (.st 2 [(.v (.slice none 0 0)),(.v (.slice none 0 0))]),.var (.st 2 [(.gro 3 10 z35.length .all),(.gro 2 1 r32.1.length .all)]),.gro 1 (aj j64 r32.1),.gro 10 (aj aX.enc z35),.gro 4 (aj aW.enc z39),.var (aW.enc e25),.var (aB.enc r30.1),.var (aB.enc r30.2),.var (.st 10 [(aB.enc r30.1),(aB.enc r30.2),(j64 ((s19.length:Int))),(j64 ((I64 (((s19.length:Int))+1)))),(j64 0),(j64 0)])]) (by kernel_rfl)) λz39=>?_;apply rt;exact At.jn 1
        ·apply rt;exact At.jn 0
       ·refine At.b 5 (λ_ e=>aDV hT (id:=3) (k:=10) e (by kernel_rfl) (by kernel_rfl)) λu40=>?_;refine bi λz41 hz41=>?_;refine At.o 0 (uX hT aX.enc (k:=10) p31.2.2.2.1 hz41 rfl (by kernel_rfl) (λ_=>by kernel_rfl) (by kernel_rfl) (H':=[.var (.st 2 [(.v (.slice none 0 0)),(.v (.slice none 0 0))]),.var (.st 2 [(.gro 3 10 p31.2.1.length .all),(.gro 2 1 p31.1.length .all)]),.gro 1 (aj j64 p31.1),.gro 10 (aj aX.enc z41),.gro 4 (aj aW.enc p31.2.2.1),.var (aW.enc e25),.var (aB.enc r30.1),.var (aB.enc r30.2),.var (aX.enc p31.2.2.2.1)]) (by kernel_rfl)) ?_;refine At.gl 0 [167] [1] 3 p31.2.1.length z41.length ((zN hz41).2.2) ?_;exact λh=>At.v 0 (_,_,_,_) h
      ·apply rt;exact At.x 0
     ·refine At.fz 3 2 1 p17.1.length _ (aj j64 p17.1) (ak _) (ak _) ?_;refine At.fz 0 3 10 p17.2.1.length _ (aj aX.enc p17.2.1) (ak _) (ak _) ?_;apply rt;exact At.r 0
def dX(N:Nat)(a0:(List aJ)):Option ((List aJ)):=
 aa (tU 152 (([]:List aJ)) a0) λz1=>
 some z1
theorem rH{N a0 r}(h:dX N a0=some r):FnM Tryz.prog 38 [] [(eL 19 aJ.enc a0)] (eL 19 aJ.enc r) []:=by
 unfold dX at h;refine At.f bO hT hmo Tryz.func38 rfl h ?_;refine At.q hT 2 (d:=4) (t:=22) (e:=123) (z:=19) (x:=(eL 19 aJ.enc a0)) (es:=aj aJ.enc a0) rfl ?_ (λhe=>?_)
 ·refine At.o 1 (sZ hT aJ.enc (k:=19) ([]:List aJ) (by kernel_rfl) (by kernel_rfl)) ?_;refine At.b 1 (λ_ e=>kB hT aJ.enc (id:=0) (k:=19) e) λz1=>?_;apply rt;exact At.r 1
 ·have h0:a0=[]:=ct.1 he;subst h0;change some []=_->_;apply rt;exact At.r 2
def xM(N:Nat)(a0:(List aJ)):Option (Sum (Int) (aM×Int)):=
 aa (aAX N a0) λr1=>
 cond (r1.2 != 0) (
  some (Sum.inl r1.2)) (
  aa (dX N a0) λr2=>
  some (Sum.inr ((aM.mk r1.1 true r2 0,0))))
theorem aHp{N a0 r}(h:xM N a0=some r):FnM Tryz.prog 37 [] [(eL 19 aJ.enc a0)] (aAz r (λr=>(.tup [(.v (.pointer none)),(j64 r)])) (λr=>(.tup [(.ref 1 [] 0),(j64 r.2)]))) (aAz r (λr=>[]) (λr=>[.dead,.var (aM.enc r.1)])):=by
 unfold xM at h;refine At.f bO hT hmo Tryz.func37 rfl h ?_;refine At.y 3 aLa λr1=>?_;refine At.c 8 ?_ ?_
 ·apply rt;exact At.r 3
 ·refine At.D 0 [] ?_;refine DD.y 2 rH λr2=>?_;refine DD.e hT hmo 4 ?_;apply rt;exact At.r 0
theorem aKJ{N a0 r}(h:xM N a0=some (Sum.inl r)):FnM Tryz.prog 37 [] [(eL 19 aJ.enc a0)] (.tup [(.v (.pointer none)),(j64 r)]) []:=aHp h
theorem aKK{N a0 r}(h:xM N a0=some (Sum.inr r)):FnM Tryz.prog 37 [] [(eL 19 aJ.enc a0)] (.tup [(.ref 1 [] 0),(j64 r.2)]) [.dead,.var (aM.enc r.1)]:=aHp h
def aNp : Nat->Bool:=imL [2,3]
def nR(N:Nat)(x8:Int)(a0:aE):Nat->(List (List aC))->Int->Option ((List (List aC)))
 | 0,_,_=>none
 | k+1,s10,s11=>
  cond (decide (s11 < x8)) (
   aa (idx a0.gO s11) λe12=>
   aa (rQ N e12) λr13=>
   aa (tU 24 s10 (([r13.1]:List (List aC)))) λz14=>
   nR N x8 a0 k z14 (I64 (s11+1))) (
   some s10)
def mH(N:Nat)(a0:aE)(a1:aF):Option (Sum (Int) (Sum ((List aJ)×(List aO)×(List aS)×(List (List aC))×aA×Int) (Sum ((List aJ)×(List aO)×(List aS)×(List (List aC))×aA×(List aJ)×Int) (Sum ((List aJ)×(List aO)×(List aS)×(List (List aC))×aA×Int) ((List aJ)×(List aO)×(List aS)×(List (List aC))×aA×aM×Int))))):=
 aa (kG N a0) λr1=>
 cond (r1 != 0) (
  some (Sum.inl r1)) (
  aa (uR N a1) λr2=>
  cond (r2 != 0) (
   some (Sum.inl r2)) (
   aa (pL N a0 a1.gK) λr3=>
   cond (r3 != 0) (
    some (Sum.inl r3)) (
    aa (aAM N a0.gM) λr4=>
    aa (tU 152 (([]:List aJ)) a0.gQ) λz5=>
    aa (tU 40 (([]:List aO)) a0.gB0) λz6=>
    aa (tU 104 (([]:List aS)) a0.gM) λz7=>
    aQ ((a0.gO.length:Int)) λx8=>
    aa (nR N x8 a0 N [] 0) λp9=>
    cond a1.gA4 (
     aa (kM N a1.gK) λr15=>
     aa (uE N a0.gQ r15.1) λq=>
     jY q (λr17=>
      some (Sum.inr (Sum.inl ((z5,z6,z7,p9,r4,r17))))) (λr18=>
      some (Sum.inr (Sum.inr (Sum.inl ((z5,z6,z7,p9,r4,r18.1,r18.2))))))) (
     aa (xM N a0.gQ) λq=>
     jY q (λr20=>
      some (Sum.inr (Sum.inr (Sum.inr (Sum.inl ((z5,z6,z7,p9,r4,r20))))))) (λr21=>
      some (Sum.inr (Sum.inr (Sum.inr (Sum.inr ((z5,z6,z7,p9,r4,r21.1,r21.2)))))))))))
theorem zO{N a0 a1 r}(h:mH N a0 a1=some r):FnM Tryz.prog 16 [] [(aE.enc a0),(aF.enc a1)] (aAz r (λr=>(.tup [(.v (.pointer none)),(j64 r)])) (λr=>aAz r (λr=>(.tup [(.ref 0 [] 0),(j64 r.2.2.2.2.2)])) (λr=>aAz r (λr=>(.tup [(.ref 0 [] 0),(j64 r.2.2.2.2.2.2)])) (λr=>aAz r (λr=>(.tup [(.ref 0 [] 0),(j64 r.2.2.2.2.2)])) (λr=>(.tup [(.ref 0 [] 0),(j64 r.2.2.2.2.2.2)])))))) (aAz r (λr=>[]) (λr=>aAz r (λr=>[.var (.st 38 [(.st 9 [(eL 19 aJ.enc r.1),(eL 5 aO.enc r.2.1),(eL 2 aC.enc a0.gO),(eL 13 aS.enc r.2.2.1),(eL 1 k64 a0.gJ),(eL 1 k32 a0.gA3),(k32 a0.gR),(k32 a0.gB4),(k32 a0.gTo)]),(aF.enc a1),(.ifc 112 (.v (.pointer none))),(eL 1 (eL 2 aC.enc) r.2.2.2.1),(aA.enc r.2.2.2.2.1),(.st 3 [(j64 0),(j64 0),(j64 0)])])]) (λr=>aAz r (λr=>[.var (.st 38 [(.st 9 [(eO 1 19 aJ.enc r.1),(eO 2 5 aO.enc r.2.1),(eL 2 aC.enc a0.gO),(eO 3 13 aS.enc r.2.2.1),(eL 1 k64 a0.gJ),(eL 1 k32 a0.gA3),(k32 a0.gR),(k32 a0.gB4),(k32 a0.gTo)]),(aF.enc a1),(.ifc 112 (.ref 6 [] 0)),(eO 4 1 (eL 2 aC.enc) r.2.2.2.1),(aA.enc r.2.2.2.2.1),(.st 3 [(j64 0),(j64 0),(j64 0)])]),.tail (r.1.length*19),.tail (r.2.1.length*5),.tail (r.2.2.1.length*13),.tail (r.2.2.2.1.length*1),.dead,.var (.st 3 [(.st 1 [(j64 0)]),(eB true),(eL 19 aJ.enc r.2.2.2.2.2.1)])]) (λr=>aAz r (λr=>[.var (.st 38 [(.st 9 [(eL 19 aJ.enc r.1),(eL 5 aO.enc r.2.1),(eL 2 aC.enc a0.gO),(eL 13 aS.enc r.2.2.1),(eL 1 k64 a0.gJ),(eL 1 k32 a0.gA3),(k32 a0.gR),(k32 a0.gB4),(k32 a0.gTo)]),(aF.enc a1),(.ifc 115 (.v (.pointer none))),(eL 1 (eL 2 aC.enc) r.2.2.2.1),(aA.enc r.2.2.2.2.1),(.st 3 [(j64 0),(j64 0),(j64 0)])])]) (λr=>[.var (.st 38 [(.st 9 [(eO 1 19 aJ.enc r.1),(eO 2 5 aO.enc r.2.1),(eL 2 aC.enc a0.gO),(eO 3 13 aS.enc r.2.2.1),(eL 1 k64 a0.gJ),(eL 1 k32 a0.gA3),(k32 a0.gR),(k32 a0.gB4),(k32 a0.gTo)]),(aF.enc a1),(.ifc 115 (.ref 6 [] 0)),(eO 4 1 (eL 2 aC.enc) r.2.2.2.1),(aA.enc r.2.2.2.2.1),(.st 3 [(j64 0),(j64 0),(j64 0)])]),.tail (r.1.length*19),.tail (r.2.1.length*5),.tail (r.2.2.1.length*13),.tail (r.2.2.2.1.length*1),.dead,.var (aM.enc r.2.2.2.2.2.1)]))))):=by
 unfold mH at h;refine At.f aNp hT hmo Tryz.func16 rfl h ?_;refine At.y 5 aId λr1=>?_;refine At.c 3 ?_ ?_
 ·apply rt;exact At.r 3
 ·refine At.y 1 aMN λr2=>?_;refine At.c 3 ?_ ?_
  ·apply rt;exact At.r 3
  ·refine At.y 3 aH4 λr3=>?_;refine At.c 3 ?_ ?_
   ·apply rt;exact At.r 3
   ·refine At.D 0 [] ?_;refine DD.y 4 aNz λr4=>?_;refine DD.e hT hmo 3 ?_;refine At.o 1 (sZ hT aJ.enc (k:=19) ([]:List aJ) (by kernel_rfl) (by kernel_rfl)) ?_;refine At.b 2 (λ_ e=>kB hT aJ.enc (id:=1) (k:=19) e) λz5=>?_;refine At.o 5 (sZ hT aO.enc (k:=5) ([]:List aO) (by kernel_rfl) (by kernel_rfl)) ?_;refine At.b 2 (λ_ e=>kB hT aO.enc (id:=2) (k:=5) e) λz6=>?_;refine At.o 5 (sZ hT aS.enc (k:=13) ([]:List aS) (by kernel_rfl) (by kernel_rfl)) ?_;refine At.b 2 (λ_ e=>kB hT aS.enc (id:=3) (k:=13) e) λz7=>?_;refine lx ?_;intro x8;refine At.ownb 8 0 1 [3] ?_;refine At.M 0 [2,3,9] 5 (λp9=>([],[(0,.var (.st 38 [(.st 9 [(eO 1 19 aJ.enc z5),(eO 2 5 aO.enc z6),(eL 2 aC.enc a0.gO),(eO 3 13 aS.enc z7),(eL 1 k64 a0.gJ),(eL 1 k32 a0.gA3),(k32 a0.gR),(k32 a0.gB4),(k32 a0.gTo)]),(aF.enc a1),(.v .nilIface),(eO 4 1 (eL 2 aC.enc) p9),(aA.enc r4),(.st 3 [(j64 0),(j64 0),(j64 0)])])),(4,.tail (p9.length*1))],[])) [2,3,9,69,70] 5 (CU2 (nR N x8 a0)) (cu2 λ(s10:(List (List aC))) (s11:Int)=>([(71,(j64 s11))],[(0,.var (.st 38 [(.st 9 [(eO 1 19 aJ.enc z5),(eO 2 5 aO.enc z6),(eL 2 aC.enc a0.gO),(eO 3 13 aS.enc z7),(eL 1 k64 a0.gJ),(eL 1 k32 a0.gA3),(k32 a0.gR),(k32 a0.gB4),(k32 a0.gTo)]),(aF.enc a1),(.v .nilIface),(eO 4 1 (eL 2 aC.enc) s10),(aA.enc r4),(.st 3 [(j64 0),(j64 0),(j64 0)])])),(4,.tail (s10.length*1))],[])) (_,_) N (λp9 k=>un2 λs10 s11=>?_) λp9=>?_
    ·refine At.c 1 ?_ ?_
     ·refine At.i hT 0 aC.enc λe12=>?_;refine At.y 4 aFw λr13=>?_;refine At.o 11 (bH hT (x:=(.sl 1 1 [(eL 2 aC.enc r13.1)]))) ?_;refine At.b 0 (λ_ e=>kB hT (eL 2 aC.enc) (id:=4) (k:=1) e) λz14=>?_;exact λh=>At.v 5 (_,_) h
     ·apply rt;exact At.x 0
    ·refine At.c 2 ?_ ?_
     ·refine At.y 2 vN λr15=>?_;refine aNo (λr17 hr17=>?_) (λr18 hr18=>?_)
      ·refine At.o 8 (rI [] (aJT hr17)) ?_;refine At.o 7 (aEe hT (t:=112) (x:=(.v (.pointer none))) (by kernel_rfl) (by kernel_rfl)) ?_;apply rt;exact At.r 7
      ·refine At.o 8 (rI [] (aJ5 hr18)) ?_;refine At.o 7 (aEe hT (t:=112) (x:=(.ref 6 [] 0)) (by kernel_rfl) (by kernel_rfl)) ?_;apply rt;exact At.r 7
     ·refine aNo (λr20 hr20=>?_) (λr21 hr21=>?_)
      ·refine At.o 2 (rI [] (aKJ hr20)) ?_;refine At.o 7 (aEe hT (t:=115) (x:=(.v (.pointer none))) (by kernel_rfl) (by kernel_rfl)) ?_;apply rt;exact At.r 7
      ·refine At.o 2 (rI [] (aKK hr21)) ?_;refine At.o 7 (aEe hT (t:=115) (x:=(.ref 6 [] 0)) (by kernel_rfl) (by kernel_rfl)) ?_;apply rt;exact At.r 7
theorem aJU{N a0 a1 r}(h:mH N a0 a1=some (Sum.inl r)):FnM Tryz.prog 16 [] [(aE.enc a0),(aF.enc a1)] (.tup [(.v (.pointer none)),(j64 r)]) []:=zO h
theorem aI4{N a0 a1 r}(h:mH N a0 a1=some (Sum.inr (Sum.inl r))):FnM Tryz.prog 16 [] [(aE.enc a0),(aF.enc a1)] (.tup [(.ref 0 [] 0),(j64 r.2.2.2.2.2)]) [.var (.st 38 [(.st 9 [(eL 19 aJ.enc r.1),(eL 5 aO.enc r.2.1),(eL 2 aC.enc a0.gO),(eL 13 aS.enc r.2.2.1),(eL 1 k64 a0.gJ),(eL 1 k32 a0.gA3),(k32 a0.gR),(k32 a0.gB4),(k32 a0.gTo)]),(aF.enc a1),(.ifc 112 (.v (.pointer none))),(eL 1 (eL 2 aC.enc) r.2.2.2.1),(aA.enc r.2.2.2.2.1),(.st 3 [(j64 0),(j64 0),(j64 0)])])]:=zO h
theorem aJm{N a0 a1 r}(h:mH N a0 a1=some (Sum.inr (Sum.inr (Sum.inl r)))):FnM Tryz.prog 16 [] [(aE.enc a0),(aF.enc a1)] (.tup [(.ref 0 [] 0),(j64 r.2.2.2.2.2.2)]) [.var (.st 38 [(.st 9 [(eO 1 19 aJ.enc r.1),(eO 2 5 aO.enc r.2.1),(eL 2 aC.enc a0.gO),(eO 3 13 aS.enc r.2.2.1),(eL 1 k64 a0.gJ),(eL 1 k32 a0.gA3),(k32 a0.gR),(k32 a0.gB4),(k32 a0.gTo)]),(aF.enc a1),(.ifc 112 (.ref 6 [] 0)),(eO 4 1 (eL 2 aC.enc) r.2.2.2.1),(aA.enc r.2.2.2.2.1),(.st 3 [(j64 0),(j64 0),(j64 0)])]),.tail (r.1.length*19),.tail (r.2.1.length*5),.tail (r.2.2.1.length*13),.tail (r.2.2.2.1.length*1),.dead,.var (.st 3 [(.st 1 [(j64 0)]),(eB true),(eL 19 aJ.enc r.2.2.2.2.2.1)])]:=zO h
theorem aJ6{N a0 a1 r}(h:mH N a0 a1=some (Sum.inr (Sum.inr (Sum.inr (Sum.inl r))))):FnM Tryz.prog 16 [] [(aE.enc a0),(aF.enc a1)] (.tup [(.ref 0 [] 0),(j64 r.2.2.2.2.2)]) [.var (.st 38 [(.st 9 [(eL 19 aJ.enc r.1),(eL 5 aO.enc r.2.1),(eL 2 aC.enc a0.gO),(eL 13 aS.enc r.2.2.1),(eL 1 k64 a0.gJ),(eL 1 k32 a0.gA3),(k32 a0.gR),(k32 a0.gB4),(k32 a0.gTo)]),(aF.enc a1),(.ifc 115 (.v (.pointer none))),(eL 1 (eL 2 aC.enc) r.2.2.2.1),(aA.enc r.2.2.2.2.1),(.st 3 [(j64 0),(j64 0),(j64 0)])])]:=zO h
theorem aJp{N a0 a1 r}(h:mH N a0 a1=some (Sum.inr (Sum.inr (Sum.inr (Sum.inr r))))):FnM Tryz.prog 16 [] [(aE.enc a0),(aF.enc a1)] (.tup [(.ref 0 [] 0),(j64 r.2.2.2.2.2.2)]) [.var (.st 38 [(.st 9 [(eO 1 19 aJ.enc r.1),(eO 2 5 aO.enc r.2.1),(eL 2 aC.enc a0.gO),(eO 3 13 aS.enc r.2.2.1),(eL 1 k64 a0.gJ),(eL 1 k32 a0.gA3),(k32 a0.gR),(k32 a0.gB4),(k32 a0.gTo)]),(aF.enc a1),(.ifc 115 (.ref 6 [] 0)),(eO 4 1 (eL 2 aC.enc) r.2.2.2.1),(aA.enc r.2.2.2.2.1),(.st 3 [(j64 0),(j64 0),(j64 0)])]),.tail (r.1.length*19),.tail (r.2.1.length*5),.tail (r.2.2.1.length*13),.tail (r.2.2.2.1.length*1),.dead,.var (aM.enc r.2.2.2.2.2.1)]:=zO h
def eC(N:Nat)(a0:Int):Option (Bool):=
 aQ (cond (decide (a0>=1)) (decide (a0<=64)) false) λx1=>
 some x1
theorem lD{N a0 r}(h:eC N a0=some r):FnM Tryz.prog 17 [] [(j64 a0)] (eB r) []:=by
 unfold eC at h;refine At.f bO hT hmo Tryz.func17 rfl h ?_;refine lx ?_;intro x1;apply rt;exact At.r 8
def eJ(N:Nat)(a0:(List aO)):Option ((List aO)):=
 aa (tU 40 (([]:List aO)) a0) λz1=>
 some z1
theorem sY{N a0 r}(h:eJ N a0=some r):FnM Tryz.prog 39 [] [(eL 5 aO.enc a0)] (eL 5 aO.enc r) []:=by
 unfold eJ at h;refine At.f bO hT hmo Tryz.func39 rfl h ?_;refine At.q hT 2 (d:=4) (t:=23) (e:=126) (z:=5) (x:=(eL 5 aO.enc a0)) (es:=aj aO.enc a0) rfl ?_ (λhe=>?_)
 ·refine At.o 1 (sZ hT aO.enc (k:=5) ([]:List aO) (by kernel_rfl) (by kernel_rfl)) ?_;refine At.b 1 (λ_ e=>kB hT aO.enc (id:=0) (k:=5) e) λz1=>?_;apply rt;exact At.r 1
 ·have h0:a0=[]:=ct.1 he;subst h0;change some []=_->_;apply rt;exact At.r 2
def iD(N:Nat)(a0:(List aS)):Option ((List aS)):=
 aa (tU 104 (([]:List aS)) a0) λz1=>
 some z1
theorem wS{N a0 r}(h:iD N a0=some r):FnM Tryz.prog 40 [] [(eL 13 aS.enc a0)] (eL 13 aS.enc r) []:=by
 unfold iD at h;refine At.f bO hT hmo Tryz.func40 rfl h ?_;refine At.q hT 2 (d:=4) (t:=25) (e:=129) (z:=13) (x:=(eL 13 aS.enc a0)) (es:=aj aS.enc a0) rfl ?_ (λhe=>?_)
 ·refine At.o 1 (sZ hT aS.enc (k:=13) ([]:List aS) (by kernel_rfl) (by kernel_rfl)) ?_;refine At.b 1 (λ_ e=>kB hT aS.enc (id:=0) (k:=13) e) λz1=>?_;apply rt;exact At.r 1
 ·have h0:a0=[]:=ct.1 he;subst h0;change some []=_->_;apply rt;exact At.r 2
def kO(N:Nat)(a0:(List Int)):Option ((List Int)):=
 aa (tU 8 (([]:List Int)) a0) λz1=>
 some z1
theorem aAf{N a0 r}(h:kO N a0=some r):FnM Tryz.prog 41 [] [(eL 1 k64 a0)] (eL 1 k64 r) []:=by
 unfold kO at h;refine At.f bO hT hmo Tryz.func41 rfl h ?_;refine At.q hT 2 (d:=4) (t:=26) (e:=31) (z:=1) (x:=(eL 1 k64 a0)) (es:=aj k64 a0) rfl ?_ (λhe=>?_)
 ·refine At.o 1 (sZ hT k64 (k:=1) ([]:List Int) (by kernel_rfl) (by kernel_rfl)) ?_;refine At.b 1 (λ_ e=>kB hT k64 (id:=0) (k:=1) e) λz1=>?_;apply rt;exact At.r 1
 ·have h0:a0=[]:=ct.1 he;subst h0;change some []=_->_;apply rt;exact At.r 2
def kR(N:Nat)(a0:(List Int)):Option ((List Int)):=
 aa (tU 4 (([]:List Int)) a0) λz1=>
 some z1
theorem aAc{N a0 r}(h:kR N a0=some r):FnM Tryz.prog 42 [] [(eL 1 k32 a0)] (eL 1 k32 r) []:=by
 unfold kR at h;refine At.f bO hT hmo Tryz.func42 rfl h ?_;refine At.q hT 2 (d:=4) (t:=27) (e:=28) (z:=1) (x:=(eL 1 k32 a0)) (es:=aj k32 a0) rfl ?_ (λhe=>?_)
 ·refine At.o 1 (sZ hT k32 (k:=1) ([]:List Int) (by kernel_rfl) (by kernel_rfl)) ?_;refine At.b 1 (λ_ e=>kB hT k32 (id:=0) (k:=1) e) λz1=>?_;apply rt;exact At.r 1
 ·have h0:a0=[]:=ct.1 he;subst h0;change some []=_->_;apply rt;exact At.r 2
def aIh : Nat->Bool:=imL [1]
def lU(N:Nat)(x6:Int)(a0:aE):Nat->(List aC)->Int->Option ((List aC))
 | 0,_,_=>none
 | k+1,s8,s9=>
  cond (decide (s9 < x6)) (
   aa (idx a0.gO s9) λe10=>
   aa (eE N e10.gA5) λr11=>
   aa (tU 32 s8 (([aC.mk e10.gF r11]:List aC))) λz12=>
   lU N x6 a0 k z12 (I64 (s9+1))) (
   some s8)
def rS(N:Nat)(a0:aE):Option (aE):=
 aa (dX N a0.gQ) λr1=>
 aa (eJ N a0.gB0) λr2=>
 aa (iD N a0.gM) λr3=>
 aa (kO N a0.gJ) λr4=>
 aa (kR N a0.gA3) λr5=>
 aQ ((a0.gO.length:Int)) λx6=>
 aa (lU N x6 a0 N [] 0) λp7=>
 some (aE.mk r1 r2 p7 r3 r4 r5 a0.gR a0.gB4 a0.gTo)
theorem aDd{N a0 r}(h:rS N a0=some r):FnM Tryz.prog 18 [] [(aE.enc a0)] (aE.enc r) []:=by
 unfold rS at h;refine At.f aIh hT hmo Tryz.func18 rfl h ?_;refine At.D 5 [] ?_;refine DD.y 2 rH λr1=>?_;refine DD.y 2 sY λr2=>?_;refine DD.y 2 wS λr3=>?_;refine DD.e hT hmo 6 ?_;refine At.D 0 [] ?_;refine DD.y 2 aAf λr4=>?_;refine DD.y 2 aAc λr5=>?_;refine DD.e hT hmo 6 ?_;refine lx ?_;intro x6;refine At.ownb 4 1 2 [2] ?_;refine At.M 0 [2,3] 3 (λp7=>([],[(1,.var (.st 9 [(eL 19 aJ.enc r1),(eL 5 aO.enc r2),(eO 2 2 aC.enc p7),(eL 13 aS.enc r3),(eL 1 k64 r4),(eL 1 k32 r5),(k32 a0.gR),(k32 a0.gB4),(k32 a0.gTo)])),(2,.tail (p7.length*2))],[])) [2,3,29,30] 3 (CU2 (lU N x6 a0)) (cu2 λ(s8:(List aC)) (s9:Int)=>([(31,(j64 s9))],[(1,.var (.st 9 [(eL 19 aJ.enc r1),(eL 5 aO.enc r2),(eO 2 2 aC.enc s8),(eL 13 aS.enc r3),(eL 1 k64 r4),(eL 1 k32 r5),(k32 a0.gR),(k32 a0.gB4),(k32 a0.gTo)])),(2,.tail (s8.length*2))],[])) (_,_) N (λp7 k=>un2 λs8 s9=>?_) λp7=>?_
 ·refine At.c 1 ?_ ?_
  ·refine At.i hT 0 aC.enc λe10=>?_;refine At.D 3 [] ?_;refine DD.y 6 tX λr11=>?_;refine DD.o 1 (λ_=>bH hT (x:=(.sl 2 1 [(.st 2 [(j64 e10.gF),(eL 3 (eA 3 1 j64) r11)])]))) ?_;refine bi λz12 hz12=>?_;refine DD.w 0 (eO 2 2 aC.enc z12) ⟨[(2,.tail (z12.length*2))],[]⟩ (λ_ e=>kB hT aC.enc (id:=2) (k:=2) hz12 (pj1 e) (pj2 e)) ?_;refine DD.e hT hmo 2 ?_;exact λh=>At.v 2 (_,_) h
  ·apply rt;exact At.x 0
 ·apply rt;exact At.r 2
def aJ9 : Nat->Bool:=imL [3,4,5]
def qZ(N:Nat)(a0 a1 a2:Int):Option (Unit):=
 some (())
theorem aBd{N a0 a1 a2 r}(h:qZ N a0 a1 a2=some r):FnM Tryz.prog 19 [] [(j64 a0),(j64 a1),(j64 a2)] (.fn (.func 44) [] [(.im (j64 a1)),(.im (j64 a2)),(.im (j64 a0))]) []:=by
 unfold qZ at h;refine At.f aJ9 hT hmo Tryz.func19 rfl h ?_;refine At.o 4 (qT (x:=(.fn (.func 44) [] [(.im (j64 a1)),(.im (j64 a2)),(.im (j64 a0))])) (by kernel_rfl) (by kernel_rfl)) ?_;apply rt;exact At.r 1
def aJf : Nat->Bool:=imL [3,4]
def zG(N:Nat)(a13:cO):Nat->(List aK)->Int->Option ((List aK))
 | 0,_,_=>none
 | k+1,s2,s3=>
  aQ (decide (s3 < (I64 (a13.gw*a13.gh)))) λx4=>
  cond x4 (
   aa (aG6 .i64 s3 a13.gw) λx5=>
   aa (aDm .i64 s3 a13.gw) λx6=>
   aa (tU 48 s2 (([aK.mk (I64 (a13.gx+x5)) (I64 (a13.gy+x6)) a13]:List aK))) λz7=>
   zG N a13 k z7 (I64 (s3+1))) (
   some s2)
def aBX(N:Nat)(b3:(List aK))(b4:(List aG))(b6:(List (List aC)))(a3:aE)(a4:aF)(a5 a6:Int)(a7:aI)(a8:aE)(a9:aF)(a10:aA)(a11:aH)(a12:aL)(a13:cO):Option ((List aK)):=
 aa (zG N a13 N b3 0) λp1=>
 some p1
theorem aHy{N:Nat}{b3:(List aK)}{b4:(List aG)}{b6:(List (List aC))}{a3:aE}{a4:aF}{a5:Int}{a6:Int}{a7:aI}{a8:aE}{a9:aF}{a10:aA}{a11:aH}{a12:aL}{a13:cO}{r:(List aK)}(h:aBX N b3 b4 b6 a3 a4 a5 a6 a7 a8 a9 a10 a11 a12 a13=some r):aQ4 Tryz.prog (aD9 85 Tryz.f7.body [1,1,1,1,1,0,1,0]) [en 10 (.ref 0 [] 0)] [.var (.ref 1 [] 0),.var (.st 43 [(.ref 2 [] 0),(aE.enc a3),(aF.enc a4),(j64 a5),(eO 3 6 aK.enc b3),(j64 a6),(eO 4 9 aG.enc b4),(aI.enc a7)]),.var (.st 38 [(aE.enc a8),(aF.enc a9),(.ifc 112 (.ref 5 [] 0)),(eO 6 1 (eL 2 aC.enc) b6),(aA.enc a10),(aH.enc a11)]),.tail (b3.length*6),.tail (b4.length*9),.var (aL.enc a12),.tail (b6.length*1)] [(cO.enc a13)] [.var (.ref 1 [] 0),.var (.st 43 [(.ref 2 [] 0),(aE.enc a3),(aF.enc a4),(j64 a5),(eO 3 6 aK.enc r),(j64 a6),(eO 4 9 aG.enc b4),(aI.enc a7)]),.var (.st 38 [(aE.enc a8),(aF.enc a9),(.ifc 112 (.ref 5 [] 0)),(eO 6 1 (eL 2 aC.enc) b6),(aA.enc a10),(aH.enc a11)]),.tail (r.length*6),.tail (b4.length*9),.var (aL.enc a12),.tail (b6.length*1)] none:=by
 unfold aBX at h;refine aDW (lo:=8) (by kernel_rfl) (λbk rl=>At.of aJf hT hmo h ?_)
 refine At.to 0 ⟨[en 10 (.ref 0 [] 0),en 38 (cO.enc a13)],[.var (.ref 1 [] 0),.var (.st 43 [(.ref 2 [] 0),(aE.enc a3),(aF.enc a4),(j64 a5),(eO 3 6 aK.enc b3),(j64 a6),(eO 4 9 aG.enc b4),(aI.enc a7)]),.var (.st 38 [(aE.enc a8),(aF.enc a9),(.ifc 112 (.ref 5 [] 0)),(eO 6 1 (eL 2 aC.enc) b6),(aA.enc a10),(aH.enc a11)]),.tail (b3.length*6),.tail (b4.length*9),.var (aL.enc a12),.tail (b6.length*1),.loop rl]⟩ ?_;refine At.mid 2 (λrl2=>?_)
 refine At.M 6 [] 9 (λp1=>([],[(1,.var (.st 43 [(.ref 2 [] 0),(aE.enc a3),(aF.enc a4),(j64 a5),(eO 3 6 aK.enc p1),(j64 a6),(eO 4 9 aG.enc b4),(aI.enc a7)])),(3,.tail (p1.length*6))],[])) [10,11,43] 9 (CU2 (zG N a13)) (cu2 λ(s2:(List aK)) (s3:Int)=>([(44,(j64 s3))],[(1,.var (.st 43 [(.ref 2 [] 0),(aE.enc a3),(aF.enc a4),(j64 a5),(eO 3 6 aK.enc s2),(j64 a6),(eO 4 9 aG.enc b4),(aI.enc a7)])),(3,.tail (s2.length*6))],[])) (_,_) N (λp1 k=>un2 λs2 s3=>?_) λp1=>?_
 ·refine lx ?_;intro x4;refine At.c 1 ?_ ?_
  ·refine At.D 2 [] ?_;refine DD.b 10 (λe _=>aDA hT e (by kernel_rfl) (by kernel_rfl)) λx5=>?_;refine DD.b 6 (λe _=>yX hT e (by kernel_rfl) (by kernel_rfl)) λx6=>?_;refine DD.o 3 (λ_=>bH hT (x:=(.sl 6 1 [(.st 6 [(j64 (I64 (a13.gx+x5))),(j64 (I64 (a13.gy+x6))),(cO.enc a13)])]))) ?_;refine bi λz7 hz7=>?_;refine DD.w 0 (eO 3 6 aK.enc z7) ⟨[(3,.tail (z7.length*6))],[]⟩ (λ_ e=>kB hT aK.enc (id:=3) (k:=6) hz7 (pj1 e) (pj2 e)) ?_;refine DD.e hT hmo 3 ?_;exact λh=>At.v 2 (_,_) h
  ·apply rt;exact At.x 0
 ·apply rt;exact At.rnd 0
def kF(N:Nat)(a5 a4 a3 s3:Int)(b4:(List aG))(b6:(List (List aC)))(a6:aE)(a7:aF)(a8 a9:Int)(a10:aI)(a11:aE)(a12:aF)(a13:aA)(a14:aH)(a15:aL):Nat->(List aK)->Int->Option ((List aK))
 | 0,_,_=>none
 | k+1,s5,s6=>
  cond (decide (s6 < a5)) (
   aQ (eP a4 (I64 (a5 - s6))) λx7=>
   aQ (eP a4 (I64 (a3 - s3))) λx8=>
   aa (aBX N s5 b4 b6 a6 a7 a8 a9 a10 a11 a12 a13 a14 a15 (cO.mk s6 s3 x7 x8)) λr9=>
   kF N a5 a4 a3 s3 b4 b6 a6 a7 a8 a9 a10 a11 a12 a13 a14 a15 k r9 (I64 (s6+a4))) (
   some s5)
def kK(N:Nat)(a3 a5 a4:Int)(b4:(List aG))(b6:(List (List aC)))(a6:aE)(a7:aF)(a8 a9:Int)(a10:aI)(a11:aE)(a12:aF)(a13:aA)(a14:aH)(a15:aL):Nat->(List aK)->Int->Option ((List aK))
 | 0,_,_=>none
 | k+1,s2,s3=>
  cond (decide (s3 < a3)) (
   aa (kF N a5 a4 a3 s3 b4 b6 a6 a7 a8 a9 a10 a11 a12 a13 a14 a15 N s2 0) λp4=>
   kK N a3 a5 a4 b4 b6 a6 a7 a8 a9 a10 a11 a12 a13 a14 a15 k p4 (I64 (s3+a4))) (
   some s2)
def fB(N:Nat)(b3:(List aK))(b4:(List aG))(b6:(List (List aC)))(a3 a4 a5:Int)(a6:aE)(a7:aF)(a8 a9:Int)(a10:aI)(a11:aE)(a12:aF)(a13:aA)(a14:aH)(a15:aL):Option ((List aK)):=
 aa (kK N a3 a5 a4 b4 b6 a6 a7 a8 a9 a10 a11 a12 a13 a14 a15 N b3 0) λp1=>
 some p1
theorem yO{N:Nat}{b3:(List aK)}{b4:(List aG)}{b6:(List (List aC))}{a3:Int}{a4:Int}{a5:Int}{a6:aE}{a7:aF}{a8:Int}{a9:Int}{a10:aI}{a11:aE}{a12:aF}{a13:aA}{a14:aH}{a15:aL}{r:(List aK)}(h:fB N b3 b4 b6 a3 a4 a5 a6 a7 a8 a9 a10 a11 a12 a13 a14 a15=some r):ItM Tryz.prog 44 (aD9 85 Tryz.f7.body [1,1,1,1,1,0,1,0]) [en 10 (.ref 0 [] 0)] [.var (.ref 1 [] 0),.var (.st 43 [(.ref 2 [] 0),(aE.enc a6),(aF.enc a7),(j64 a8),(eO 3 6 aK.enc b3),(j64 a9),(eO 4 9 aG.enc b4),(aI.enc a10)]),.var (.st 38 [(aE.enc a11),(aF.enc a12),(.ifc 112 (.ref 5 [] 0)),(eO 6 1 (eL 2 aC.enc) b6),(aA.enc a13),(aH.enc a14)]),.tail (b3.length*6),.tail (b4.length*9),.var (aL.enc a15),.tail (b6.length*1)] [(.yld 7),(.im (j64 a3)),(.im (j64 a4)),(.im (j64 a5))] (.tup []) [.var (.ref 1 [] 0),.var (.st 43 [(.ref 2 [] 0),(aE.enc a6),(aF.enc a7),(j64 a8),(eO 3 6 aK.enc r),(j64 a9),(eO 4 9 aG.enc b4),(aI.enc a10)]),.var (.st 38 [(aE.enc a11),(aF.enc a12),(.ifc 112 (.ref 5 [] 0)),(eO 6 1 (eL 2 aC.enc) b6),(aA.enc a13),(aH.enc a14)]),.tail (r.length*6),.tail (b4.length*9),.var (aL.enc a15),.tail (b6.length*1)] none:=by
 unfold fB at h;refine aEY (m:=35) (lo:=8) (rs:=[]) hT Tryz.func44 rfl (by kernel_rfl) rfl (λfn tmps D hsz=>At.of bO hT hmo h ?_)
 refine At.M 1 [] 8 (λp1=>([],[(1,.var (.st 43 [(.ref 2 [] 0),(aE.enc a6),(aF.enc a7),(j64 a8),(eO 3 6 aK.enc p1),(j64 a9),(eO 4 9 aG.enc b4),(aI.enc a10)])),(3,.tail (p1.length*6))],[])) [0,1,2,3] 8 (CU2 (kK N a3 a5 a4 b4 b6 a6 a7 a8 a9 a10 a11 a12 a13 a14 a15)) (cu2 λ(s2:(List aK)) (s3:Int)=>([(5,(j64 s3))],[(1,.var (.st 43 [(.ref 2 [] 0),(aE.enc a6),(aF.enc a7),(j64 a8),(eO 3 6 aK.enc s2),(j64 a9),(eO 4 9 aG.enc b4),(aI.enc a10)])),(3,.tail (s2.length*6))],[])) (_,_) N (λp1 k=>un2 λs2 s3=>?_) λp1=>?_
 ·refine At.c 3 ?_ ?_
  ·refine At.M 1 [0,1,2,3,5] 8 (λp4=>([],[(1,.var (.st 43 [(.ref 2 [] 0),(aE.enc a6),(aF.enc a7),(j64 a8),(eO 3 6 aK.enc p4),(j64 a9),(eO 4 9 aG.enc b4),(aI.enc a10)])),(3,.tail (p4.length*6))],[])) [0,1,2,3,5] 8 (CU2 (kF N a5 a4 a3 s3 b4 b6 a6 a7 a8 a9 a10 a11 a12 a13 a14 a15)) (cu2 λ(s5:(List aK)) (s6:Int)=>([(6,(j64 s6))],[(1,.var (.st 43 [(.ref 2 [] 0),(aE.enc a6),(aF.enc a7),(j64 a8),(eO 3 6 aK.enc s5),(j64 a9),(eO 4 9 aG.enc b4),(aI.enc a10)])),(3,.tail (s5.length*6))],[])) (_,_) N (λp4 k=>un2 λs5 s6=>?_) λp4=>?_
   ·refine At.c 3 ?_ ?_
    ·refine lx ?_;intro x7;refine lx ?_;intro x8;refine At.b 14 (λ_ e=>aII (aHy e) (fn:=fn) (D:=D) hsz rfl (bz.2 rfl) (by kernel_rfl) (by kernel_rfl)) λr9=>?_;exact λh=>At.v 6 (_,_) h
    ·apply rt;exact At.x 0
   ·exact λh=>At.v 4 (_,_) h
  ·apply rt;exact At.x 0
 ·apply rt;exact At.z 0
theorem wW : tB Tryz.prog 44:=sC (show lA Tryz.prog 44=true by kernel_rfl)
def lL(N:Nat)(a0 a1:Int):Option ((List Int)):=
 aa (mkO 8 (I64 (a0*a1))) λ_=>
 aa (zQ (ai ((I64 (a0*a1)).toNat) (0:Int)) ((I64 (a0*a1)).toNat)) λ_=>
 some (ai ((I64 (a0*a1)).toNat) (0:Int))
theorem sP{N a0 a1 r}(h:lL N a0 a1=some r):FnM Tryz.prog 79 [] [(.im (j64 a0)),(.im (j64 a1))] (eL 1 j64 r) []:=by
 unfold lL at h;refine At.f bO hT hmo Tryz.func79 rfl h ?_;refine At.b 4 (λ_ e=>aTQ hT j64 ((0:Int)) (k:=1) (kd := .int .i64) e (by kernel_rfl) (by kernel_rfl) rfl) λu1=>?_;refine bi λu2 hu2=>?_;refine At.fz 1 0 1 ((I64 (a0*a1)).toNat) _ (aj j64 (ai ((I64 (a0*a1)).toNat) (0:Int))) (ak _) (aOI j64 hu2) ?_;apply rt;exact At.r 0
def aMQ : Nat->Bool:=imL [2,3]
def aBI(N:Nat)(a0 a1:Int):Option (aI):=
 aa (mkO 24 (I64 (a0*a1))) λ_=>
 aa (lL N a0 a1) λr2=>
 aa (lL N a0 a1) λr3=>
 aa (mkO 24 (I64 (a0*a1))) λ_=>
 aa (lL N a0 a1) λr5=>
 aa (lL N a0 a1) λr6=>
 aa (zQ (ai ((I64 (a0*a1)).toNat) (#v[0,0,0]:(Vector Int 3))) ((I64 (a0*a1)).toNat)) λ_=>
 aa (zQ (ai ((I64 (a0*a1)).toNat) (#v[0,0,0]:(Vector Int 3))) ((I64 (a0*a1)).toNat)) λ_=>
 some (aI.mk a0 a1 (ai ((I64 (a0*a1)).toNat) (#v[0,0,0]:(Vector Int 3))) r2 r3 (ai ((I64 (a0*a1)).toNat) (#v[0,0,0]:(Vector Int 3))) r5 r6)
theorem aJ7{N a0 a1 r}(h:aBI N a0 a1=some r):FnM Tryz.prog 45 [] [(j64 a0),(j64 a1)] (aI.enc r) []:=by
 unfold aBI at h;refine At.f aMQ hT hmo Tryz.func45 rfl h ?_;refine At.o 3 (qT (x:=(.fn (.func 79) [] [(.im (j64 a0)),(.im (j64 a1))])) (by kernel_rfl) (by kernel_rfl)) ?_;refine At.D 1 [false,false] ?_;refine bi λu1 hu1=>?_;refine DD.w 5 (.bsl 1 [] 0 3 0 ((I64 (a0*a1)).toNat)) ⟨[(1,.var (.arr (((I64 (a0*a1)).toNat)*3) 3 (aj (eA 3 1 j64) (ai ((I64 (a0*a1)).toNat) (#v[0,0,0]:(Vector Int 3))))))],[]⟩ (λ_ e=>dsM hT (eA 3 1 j64) ((#v[0,0,0]:(Vector Int 3))) (k:=3) (kd := .arr 3 3) hu1 rfl e) ?_;refine DD.y 1 sP λr2=>?_;refine DD.y 1 sP λr3=>?_;refine bi λu4 hu4=>?_;refine DD.w 3 (.bsl 2 [] 0 3 0 ((I64 (a0*a1)).toNat)) ⟨[(2,.var (.arr (((I64 (a0*a1)).toNat)*3) 3 (aj (eA 3 1 j64) (ai ((I64 (a0*a1)).toNat) (#v[0,0,0]:(Vector Int 3))))))],[]⟩ (λ_ e=>dsM hT (eA 3 1 j64) ((#v[0,0,0]:(Vector Int 3))) (k:=3) (kd := .arr 3 3) hu4 rfl e) ?_;refine DD.y 1 sP λr5=>?_;refine DD.y 1 sP λr6=>?_;refine DD.e hT hmo 2 ?_;refine bi λu7 hu7=>?_;refine At.fz 0 1 3 ((I64 (a0*a1)).toNat) _ (aj (eA 3 1 j64) (ai ((I64 (a0*a1)).toNat) (#v[0,0,0]:(Vector Int 3)))) (ak _) (aOI (eA 3 1 j64) hu7) ?_;refine bi λu8 hu8=>?_;refine At.fz 0 2 3 ((I64 (a0*a1)).toNat) _ (aj (eA 3 1 j64) (ai ((I64 (a0*a1)).toNat) (#v[0,0,0]:(Vector Int 3)))) (ak _) (aOI (eA 3 1 j64) hu8) ?_;apply rt;exact At.r 0
def vQ(N:Nat)(a0 a1:Int):Option (aI×Int):=
 aQ (decide ((eP a0 a1) < 1)) λx1=>
 aQ (decide ((jZ a0 a1) > 64)) λx2=>
 cond (cond x1 true x2) (
  some ((aI.mk 0 0 [] [] [] [] [] [],2))) (
  aa (aBI N a0 a1) λr3=>
  some ((r3,0)))
theorem aFD{N a0 a1 r}(h:vQ N a0 a1=some r):FnM Tryz.prog 20 [] [(j64 a0),(j64 a1)] (.tup [(aI.enc r.1),(j64 r.2)]) []:=by
 unfold vQ at h;refine At.f bO hT hmo Tryz.func20 rfl h ?_;refine lx ?_;intro x1;refine lx ?_;intro x2;refine At.c 12 ?_ ?_
 ·apply rt;exact At.r 3
 ·refine At.y 2 aJ7 λr3=>?_;apply rt;exact At.r 2
def aIx : Nat->Bool:=imL [3,4]
def yW(N:Nat)(a13:cO):Nat->(List aK)->Int->Option ((List aK))
 | 0,_,_=>none
 | k+1,s2,s3=>
  aQ (decide (s3 < (I64 (a13.gw*a13.gh)))) λx4=>
  cond x4 (
   aa (aG6 .i64 s3 a13.gw) λx5=>
   aa (aDm .i64 s3 a13.gw) λx6=>
   aa (tU 48 s2 (([aK.mk (I64 (a13.gx+x5)) (I64 (a13.gy+x6)) a13]:List aK))) λz7=>
   yW N a13 k z7 (I64 (s3+1))) (
   some s2)
def aBZ(N:Nat)(b3:(List aK))(b4:(List aG))(b6:(List (List aC)))(a3:aE)(a4:aF)(a5 a6:Int)(a7:aI)(a8:aE)(a9:aF)(a10:aA)(a11:aH)(a12:aM)(a13:cO):Option ((List aK)):=
 aa (yW N a13 N b3 0) λp1=>
 some p1
theorem aH0{N:Nat}{b3:(List aK)}{b4:(List aG)}{b6:(List (List aC))}{a3:aE}{a4:aF}{a5:Int}{a6:Int}{a7:aI}{a8:aE}{a9:aF}{a10:aA}{a11:aH}{a12:aM}{a13:cO}{r:(List aK)}(h:aBZ N b3 b4 b6 a3 a4 a5 a6 a7 a8 a9 a10 a11 a12 a13=some r):aQ4 Tryz.prog (aD9 85 Tryz.f7.body [1,1,1,1,1,0,1,0]) [en 10 (.ref 0 [] 0)] [.var (.ref 1 [] 0),.var (.st 43 [(.ref 2 [] 0),(aE.enc a3),(aF.enc a4),(j64 a5),(eO 3 6 aK.enc b3),(j64 a6),(eO 4 9 aG.enc b4),(aI.enc a7)]),.var (.st 38 [(aE.enc a8),(aF.enc a9),(.ifc 115 (.ref 5 [] 0)),(eO 6 1 (eL 2 aC.enc) b6),(aA.enc a10),(aH.enc a11)]),.tail (b3.length*6),.tail (b4.length*9),.var (aM.enc a12),.tail (b6.length*1)] [(cO.enc a13)] [.var (.ref 1 [] 0),.var (.st 43 [(.ref 2 [] 0),(aE.enc a3),(aF.enc a4),(j64 a5),(eO 3 6 aK.enc r),(j64 a6),(eO 4 9 aG.enc b4),(aI.enc a7)]),.var (.st 38 [(aE.enc a8),(aF.enc a9),(.ifc 115 (.ref 5 [] 0)),(eO 6 1 (eL 2 aC.enc) b6),(aA.enc a10),(aH.enc a11)]),.tail (r.length*6),.tail (b4.length*9),.var (aM.enc a12),.tail (b6.length*1)] none:=by
 unfold aBZ at h;refine aDW (lo:=8) (by kernel_rfl) (λbk rl=>At.of aIx hT hmo h ?_)
 refine At.to 0 ⟨[en 10 (.ref 0 [] 0),en 38 (cO.enc a13)],[.var (.ref 1 [] 0),.var (.st 43 [(.ref 2 [] 0),(aE.enc a3),(aF.enc a4),(j64 a5),(eO 3 6 aK.enc b3),(j64 a6),(eO 4 9 aG.enc b4),(aI.enc a7)]),.var (.st 38 [(aE.enc a8),(aF.enc a9),(.ifc 115 (.ref 5 [] 0)),(eO 6 1 (eL 2 aC.enc) b6),(aA.enc a10),(aH.enc a11)]),.tail (b3.length*6),.tail (b4.length*9),.var (aM.enc a12),.tail (b6.length*1),.loop rl]⟩ ?_;refine At.mid 2 (λrl2=>?_)
 refine At.M 6 [] 9 (λp1=>([],[(1,.var (.st 43 [(.ref 2 [] 0),(aE.enc a3),(aF.enc a4),(j64 a5),(eO 3 6 aK.enc p1),(j64 a6),(eO 4 9 aG.enc b4),(aI.enc a7)])),(3,.tail (p1.length*6))],[])) [10,11,43] 9 (CU2 (yW N a13)) (cu2 λ(s2:(List aK)) (s3:Int)=>([(44,(j64 s3))],[(1,.var (.st 43 [(.ref 2 [] 0),(aE.enc a3),(aF.enc a4),(j64 a5),(eO 3 6 aK.enc s2),(j64 a6),(eO 4 9 aG.enc b4),(aI.enc a7)])),(3,.tail (s2.length*6))],[])) (_,_) N (λp1 k=>un2 λs2 s3=>?_) λp1=>?_
 ·refine lx ?_;intro x4;refine At.c 1 ?_ ?_
  ·refine At.D 2 [] ?_;refine DD.b 10 (λe _=>aDA hT e (by kernel_rfl) (by kernel_rfl)) λx5=>?_;refine DD.b 6 (λe _=>yX hT e (by kernel_rfl) (by kernel_rfl)) λx6=>?_;refine DD.o 3 (λ_=>bH hT (x:=(.sl 6 1 [(.st 6 [(j64 (I64 (a13.gx+x5))),(j64 (I64 (a13.gy+x6))),(cO.enc a13)])]))) ?_;refine bi λz7 hz7=>?_;refine DD.w 0 (eO 3 6 aK.enc z7) ⟨[(3,.tail (z7.length*6))],[]⟩ (λ_ e=>kB hT aK.enc (id:=3) (k:=6) hz7 (pj1 e) (pj2 e)) ?_;refine DD.e hT hmo 3 ?_;exact λh=>At.v 2 (_,_) h
  ·apply rt;exact At.x 0
 ·apply rt;exact At.rnd 0
def kL(N:Nat)(a5 a4 a3 s3:Int)(b4:(List aG))(b6:(List (List aC)))(a6:aE)(a7:aF)(a8 a9:Int)(a10:aI)(a11:aE)(a12:aF)(a13:aA)(a14:aH)(a15:aM):Nat->(List aK)->Int->Option ((List aK))
 | 0,_,_=>none
 | k+1,s5,s6=>
  cond (decide (s6 < a5)) (
   aQ (eP a4 (I64 (a5 - s6))) λx7=>
   aQ (eP a4 (I64 (a3 - s3))) λx8=>
   aa (aBZ N s5 b4 b6 a6 a7 a8 a9 a10 a11 a12 a13 a14 a15 (cO.mk s6 s3 x7 x8)) λr9=>
   kL N a5 a4 a3 s3 b4 b6 a6 a7 a8 a9 a10 a11 a12 a13 a14 a15 k r9 (I64 (s6+a4))) (
   some s5)
def kH(N:Nat)(a3 a5 a4:Int)(b4:(List aG))(b6:(List (List aC)))(a6:aE)(a7:aF)(a8 a9:Int)(a10:aI)(a11:aE)(a12:aF)(a13:aA)(a14:aH)(a15:aM):Nat->(List aK)->Int->Option ((List aK))
 | 0,_,_=>none
 | k+1,s2,s3=>
  cond (decide (s3 < a3)) (
   aa (kL N a5 a4 a3 s3 b4 b6 a6 a7 a8 a9 a10 a11 a12 a13 a14 a15 N s2 0) λp4=>
   kH N a3 a5 a4 b4 b6 a6 a7 a8 a9 a10 a11 a12 a13 a14 a15 k p4 (I64 (s3+a4))) (
   some s2)
def fC(N:Nat)(b3:(List aK))(b4:(List aG))(b6:(List (List aC)))(a3 a4 a5:Int)(a6:aE)(a7:aF)(a8 a9:Int)(a10:aI)(a11:aE)(a12:aF)(a13:aA)(a14:aH)(a15:aM):Option ((List aK)):=
 aa (kH N a3 a5 a4 b4 b6 a6 a7 a8 a9 a10 a11 a12 a13 a14 a15 N b3 0) λp1=>
 some p1
theorem yM{N:Nat}{b3:(List aK)}{b4:(List aG)}{b6:(List (List aC))}{a3:Int}{a4:Int}{a5:Int}{a6:aE}{a7:aF}{a8:Int}{a9:Int}{a10:aI}{a11:aE}{a12:aF}{a13:aA}{a14:aH}{a15:aM}{r:(List aK)}(h:fC N b3 b4 b6 a3 a4 a5 a6 a7 a8 a9 a10 a11 a12 a13 a14 a15=some r):ItM Tryz.prog 44 (aD9 85 Tryz.f7.body [1,1,1,1,1,0,1,0]) [en 10 (.ref 0 [] 0)] [.var (.ref 1 [] 0),.var (.st 43 [(.ref 2 [] 0),(aE.enc a6),(aF.enc a7),(j64 a8),(eO 3 6 aK.enc b3),(j64 a9),(eO 4 9 aG.enc b4),(aI.enc a10)]),.var (.st 38 [(aE.enc a11),(aF.enc a12),(.ifc 115 (.ref 5 [] 0)),(eO 6 1 (eL 2 aC.enc) b6),(aA.enc a13),(aH.enc a14)]),.tail (b3.length*6),.tail (b4.length*9),.var (aM.enc a15),.tail (b6.length*1)] [(.yld 7),(.im (j64 a3)),(.im (j64 a4)),(.im (j64 a5))] (.tup []) [.var (.ref 1 [] 0),.var (.st 43 [(.ref 2 [] 0),(aE.enc a6),(aF.enc a7),(j64 a8),(eO 3 6 aK.enc r),(j64 a9),(eO 4 9 aG.enc b4),(aI.enc a10)]),.var (.st 38 [(aE.enc a11),(aF.enc a12),(.ifc 115 (.ref 5 [] 0)),(eO 6 1 (eL 2 aC.enc) b6),(aA.enc a13),(aH.enc a14)]),.tail (r.length*6),.tail (b4.length*9),.var (aM.enc a15),.tail (b6.length*1)] none:=by
 unfold fC at h;refine aEY (m:=35) (lo:=8) (rs:=[]) hT Tryz.func44 rfl (by kernel_rfl) rfl (λfn tmps D hsz=>At.of bO hT hmo h ?_)
 refine At.M 1 [] 8 (λp1=>([],[(1,.var (.st 43 [(.ref 2 [] 0),(aE.enc a6),(aF.enc a7),(j64 a8),(eO 3 6 aK.enc p1),(j64 a9),(eO 4 9 aG.enc b4),(aI.enc a10)])),(3,.tail (p1.length*6))],[])) [0,1,2,3] 8 (CU2 (kH N a3 a5 a4 b4 b6 a6 a7 a8 a9 a10 a11 a12 a13 a14 a15)) (cu2 λ(s2:(List aK)) (s3:Int)=>([(5,(j64 s3))],[(1,.var (.st 43 [(.ref 2 [] 0),(aE.enc a6),(aF.enc a7),(j64 a8),(eO 3 6 aK.enc s2),(j64 a9),(eO 4 9 aG.enc b4),(aI.enc a10)])),(3,.tail (s2.length*6))],[])) (_,_) N (λp1 k=>un2 λs2 s3=>?_) λp1=>?_
 ·refine At.c 3 ?_ ?_
  ·refine At.M 1 [0,1,2,3,5] 8 (λp4=>([],[(1,.var (.st 43 [(.ref 2 [] 0),(aE.enc a6),(aF.enc a7),(j64 a8),(eO 3 6 aK.enc p4),(j64 a9),(eO 4 9 aG.enc b4),(aI.enc a10)])),(3,.tail (p4.length*6))],[])) [0,1,2,3,5] 8 (CU2 (kL N a5 a4 a3 s3 b4 b6 a6 a7 a8 a9 a10 a11 a12 a13 a14 a15)) (cu2 λ(s5:(List aK)) (s6:Int)=>([(6,(j64 s6))],[(1,.var (.st 43 [(.ref 2 [] 0),(aE.enc a6),(aF.enc a7),(j64 a8),(eO 3 6 aK.enc s5),(j64 a9),(eO 4 9 aG.enc b4),(aI.enc a10)])),(3,.tail (s5.length*6))],[])) (_,_) N (λp4 k=>un2 λs5 s6=>?_) λp4=>?_
   ·refine At.c 3 ?_ ?_
    ·refine lx ?_;intro x7;refine lx ?_;intro x8;refine At.b 14 (λ_ e=>aII (aH0 e) (fn:=fn) (D:=D) hsz rfl (bz.2 rfl) (by kernel_rfl) (by kernel_rfl)) λr9=>?_;exact λh=>At.v 6 (_,_) h
    ·apply rt;exact At.x 0
   ·exact λh=>At.v 4 (_,_) h
  ·apply rt;exact At.x 0
 ·apply rt;exact At.z 0
theorem wU : tB Tryz.prog 44:=sC (show lA Tryz.prog 44=true by kernel_rfl)
def aM7 : Nat->Bool:=imL [3,4]
def fM(N:Nat)(a0:aE)(a1:aF)(a2:Int):Option (Sum (Int) (Sum ((List (List aC))×aE×aA×aL×aE×(List aK)×aI×Int) ((List (List aC))×aE×aA×aM×aE×(List aK)×aI×Int))):=
 aa (mH N a0 a1) λq=>
 jY q (λr2=>
  cond (r2 != 0) (
   some (Sum.inl r2)) (
   aa (eC N a2) λr7=>
   cond (!r7) (some (Sum.inl 2)) (none))) (λq=>
 jY q (λr3=>
  cond (r3.2.2.2.2.2 != 0) (
   some (Sum.inl r3.2.2.2.2.2)) (
   aa (eC N a2) λr8=>
   cond (!r8) (some (Sum.inl 2)) (none))) (λq=>
 jY q (λr4=>
  cond (r4.2.2.2.2.2.2 != 0) (
   some (Sum.inl r4.2.2.2.2.2.2)) (
   aa (eC N a2) λr9=>
   cond (!r9) (
    some (Sum.inl 2)) (
    aa (rS N a0) λr10=>
    aa (qZ N a1.gW a1.gH a2) λr11=>
    aa (fB N [] [] r4.2.2.2.1 a1.gH a2 a1.gW r10 a1 a2 0 (aI.mk 0 0 (([]:(List (Vector Int 3)))) (([]:(List Int))) (([]:(List Int))) (([]:(List (Vector Int 3)))) (([]:(List Int))) (([]:(List Int)))) (aE.mk r4.1 r4.2.1 a0.gO r4.2.2.1 a0.gJ a0.gA3 a0.gR a0.gB4 a0.gTo) a1 r4.2.2.2.2.1 (aH.mk 0 0 0) (aL.mk (jJ.mk 0) true r4.2.2.2.2.2.1)) λr12=>
    aa (vQ N a1.gW a1.gH) λr13=>
    some (Sum.inr (Sum.inl ((r4.2.2.2.1,(aE.mk r4.1 r4.2.1 a0.gO r4.2.2.1 a0.gJ a0.gA3 a0.gR a0.gB4 a0.gTo),r4.2.2.2.2.1,(aL.mk (jJ.mk 0) true r4.2.2.2.2.2.1),r10,r12,r13.1,0))))))) (λq=>
 jY q (λr5=>
  cond (r5.2.2.2.2.2 != 0) (
   some (Sum.inl r5.2.2.2.2.2)) (
   aa (eC N a2) λr14=>
   cond (!r14) (some (Sum.inl 2)) (none))) (λr6=>
  cond (r6.2.2.2.2.2.2 != 0) (
   some (Sum.inl r6.2.2.2.2.2.2)) (
   aa (eC N a2) λr15=>
   cond (!r15) (
    some (Sum.inl 2)) (
    aa (rS N a0) λr16=>
    aa (qZ N a1.gW a1.gH a2) λr17=>
    aa (fC N [] [] r6.2.2.2.1 a1.gH a2 a1.gW r16 a1 a2 0 (aI.mk 0 0 (([]:(List (Vector Int 3)))) (([]:(List Int))) (([]:(List Int))) (([]:(List (Vector Int 3)))) (([]:(List Int))) (([]:(List Int)))) (aE.mk r6.1 r6.2.1 a0.gO r6.2.2.1 a0.gJ a0.gA3 a0.gR a0.gB4 a0.gTo) a1 r6.2.2.2.2.1 (aH.mk 0 0 0) r6.2.2.2.2.2.1) λr18=>
    aa (vQ N a1.gW a1.gH) λr19=>
    some (Sum.inr (Sum.inr ((r6.2.2.2.1,(aE.mk r6.1 r6.2.1 a0.gO r6.2.2.1 a0.gJ a0.gA3 a0.gR a0.gB4 a0.gTo),r6.2.2.2.2.1,r6.2.2.2.2.2.1,r16,r18,r19.1,0))))))))))
theorem aDM{N a0 a1 a2 r}(h:fM N a0 a1 a2=some r):FnM Tryz.prog 7 [] [(aE.enc a0),(aF.enc a1),(j64 a2)] (aAz r (λr=>(.tup [(.v (.pointer none)),(j64 r)])) (λr=>aAz r (λr=>(.tup [(.ref 7 [] 0),(j64 r.2.2.2.2.2.2.2)])) (λr=>(.tup [(.ref 7 [] 0),(j64 r.2.2.2.2.2.2.2)])))) (aAz r (λr=>[]) (λr=>aAz r (λr=>[.var (.st 38 [(aE.enc r.2.1),(aF.enc a1),(.ifc 112 (.ref 6 [] 0)),(eO 4 1 (eL 2 aC.enc) r.1),(aA.enc r.2.2.1),(aH.enc ((aH.mk 0 0 0)))]),.dead,.dead,.dead,.tail (r.1.length*1),.dead,.var (aL.enc r.2.2.2.1),.var (.st 43 [(.ref 0 [] 0),(aE.enc r.2.2.2.2.1),(aF.enc a1),(j64 a2),(eL 6 aK.enc r.2.2.2.2.2.1),(j64 0),(eO 9 9 aG.enc []),(aI.enc r.2.2.2.2.2.2.1)]),.dead,.tail 0]) (λr=>[.var (.st 38 [(aE.enc r.2.1),(aF.enc a1),(.ifc 115 (.ref 6 [] 0)),(eO 4 1 (eL 2 aC.enc) r.1),(aA.enc r.2.2.1),(aH.enc ((aH.mk 0 0 0)))]),.dead,.dead,.dead,.tail (r.1.length*1),.dead,.var (aM.enc r.2.2.2.1),.var (.st 43 [(.ref 0 [] 0),(aE.enc r.2.2.2.2.1),(aF.enc a1),(j64 a2),(eL 6 aK.enc r.2.2.2.2.2.1),(j64 0),(eO 9 9 aG.enc []),(aI.enc r.2.2.2.2.2.2.1)]),.dead,.tail 0]))):=by
 unfold fM at h;refine At.fR aM7 hT hmo Tryz.func7 rfl h ?_;refine aNo (λr2 hr2=>?_) (λq hq=>?_)
 ·refine At.o 6 (rI [] (aJU hr2)) ?_;refine At.c 7 ?_ ?_
  ·apply rt;exact At.r 3
  ·refine At.y 1 lD λr7=>?_;refine At.c 1 ?_ ?_
   ·apply rt;exact At.r 2
   ·refine At.D 0 [] ?_;exact nn
 ·refine aNu (λr3 e=>?_) (λq e=>?_)
  ·subst e;have hr3:=hq;refine At.o 6 (rI [] (aI4 hr3)) ?_;refine At.c 7 ?_ ?_
   ·apply rt;exact At.r 3
   ·refine At.y 1 lD λr8=>?_;refine At.c 1 ?_ ?_
    ·apply rt;exact At.r 2
    ·refine At.D 0 [] ?_;exact nn
  ·subst e;have hq:=hq;refine aNu (λr4 e=>?_) (λq e=>?_)
   ·subst e;have hr4:=hq;refine At.o 6 (rI [] (aJm hr4)) ?_;refine At.c 7 ?_ ?_
    ·apply rt;exact At.r 3
    ·refine At.y 1 lD λr9=>?_;refine At.c 1 ?_ ?_
     ·apply rt;exact At.r 2
     ·refine At.D 0 [false,false] ?_;refine DD.y 2 aDd λr10=>?_;refine DD.e hT hmo 6 ?_;refine At.y 5 aBd λr11=>?_;refine At.ownb 0 7 9 [6] ?_;refine At.ownb 0 7 6 [4] ?_;refine At.to 0 ⟨[en 4 (.im (aF.enc a1)),en 10 (.ref 8 [] 0),en 37 (.fn (.func 44) [] [(.im (j64 a1.gH)),(.im (j64 a2)),(.im (j64 a1.gW))])],[.var (.st 38 [(.st 9 [(eL 19 aJ.enc r4.1),(eL 5 aO.enc r4.2.1),(eL 2 aC.enc a0.gO),(eL 13 aS.enc r4.2.2.1),(eL 1 k64 a0.gJ),(eL 1 k32 a0.gA3),(k32 a0.gR),(k32 a0.gB4),(k32 a0.gTo)]),(aF.enc a1),(.ifc 112 (.ref 6 [] 0)),(eO 4 1 (eL 2 aC.enc) r4.2.2.2.1),(aA.enc r4.2.2.2.2.1),(.st 3 [(j64 0),(j64 0),(j64 0)])]),.tail (r4.1.length*19),.tail (r4.2.1.length*5),.tail (r4.2.2.1.length*13),.tail (r4.2.2.2.1.length*1),.dead,.var (.st 3 [(.st 1 [(j64 0)]),(eB true),(eL 19 aJ.enc r4.2.2.2.2.2.1)]),.var (.st 43 [(.ref 0 [] 0),(aE.enc r10),(aF.enc a1),(j64 a2),(eO 10 6 aK.enc []),(j64 0),(eO 9 9 aG.enc []),(.st 8 [(j64 0),(j64 0),(eL 3 (eA 3 1 j64) (([]:(List (Vector Int 3))))),(eL 1 j64 (([]:(List Int)))),(eL 1 j64 (([]:(List Int)))),(eL 3 (eA 3 1 j64) (([]:(List (Vector Int 3))))),(eL 1 j64 (([]:(List Int)))),(eL 1 j64 (([]:(List Int))))])]),.var (.ref 7 [] 0),.tail 0,.tail 0]⟩ ?_;refine bi λr12 hr12=>?_;refine At.rg 0 (yO hr12) wW (.tmp 37) [8,7,0,10,9,6,4] ⟨[en 4 (.im (aF.enc a1)),en 10 (.ref 8 [] 0)],[.var (.st 38 [(aE.enc ((aE.mk r4.1 r4.2.1 a0.gO r4.2.2.1 a0.gJ a0.gA3 a0.gR a0.gB4 a0.gTo))),(aF.enc a1),(.ifc 112 (.ref 6 [] 0)),(eO 4 1 (eL 2 aC.enc) r4.2.2.2.1),(aA.enc r4.2.2.2.2.1),(aH.enc ((aH.mk 0 0 0)))]),.tail (r4.1.length*19),.tail (r4.2.1.length*5),.tail (r4.2.2.1.length*13),.tail (r4.2.2.2.1.length*1),.dead,.var (aL.enc ((aL.mk (jJ.mk 0) true r4.2.2.2.2.2.1))),.var (.st 43 [(.ref 0 [] 0),(aE.enc r10),(aF.enc a1),(j64 a2),(eO 10 6 aK.enc r12),(j64 0),(eO 9 9 aG.enc []),(aI.enc ((aI.mk 0 0 (([]:(List (Vector Int 3)))) (([]:(List Int))) (([]:(List Int))) (([]:(List (Vector Int 3)))) (([]:(List Int))) (([]:(List Int))))))]),.var (.ref 7 [] 0),.tail 0,.tail (r12.length*6)]⟩ [(.im (j64 a1.gH)),(.im (j64 a2)),(.im (j64 a1.gW))] ?_;refine At.D 0 [] ?_;refine DD.y 5 aFD λr13=>?_;refine DD.e hT hmo 6 ?_;apply rt;exact At.r 3
   ·subst e;have hq:=hq;refine aNu (λr5 e=>?_) (λr6 e=>?_)
    ·subst e;have hr5:=hq;refine At.o 6 (rI [] (aJ6 hr5)) ?_;refine At.c 7 ?_ ?_
     ·apply rt;exact At.r 3
     ·refine At.y 1 lD λr14=>?_;refine At.c 1 ?_ ?_
      ·apply rt;exact At.r 2
      ·refine At.D 0 [] ?_;exact nn
    ·subst e;have hr6:=hq;refine At.o 6 (rI [] (aJp hr6)) ?_;refine At.c 7 ?_ ?_
     ·apply rt;exact At.r 3
     ·refine At.y 1 lD λr15=>?_;refine At.c 1 ?_ ?_
      ·apply rt;exact At.r 2
      ·refine At.D 0 [false,false] ?_;refine DD.y 2 aDd λr16=>?_;refine DD.e hT hmo 6 ?_;refine At.y 5 aBd λr17=>?_;refine At.ownb 0 7 9 [6] ?_;refine At.ownb 0 7 6 [4] ?_;refine At.to 0 ⟨[en 4 (.im (aF.enc a1)),en 10 (.ref 8 [] 0),en 37 (.fn (.func 44) [] [(.im (j64 a1.gH)),(.im (j64 a2)),(.im (j64 a1.gW))])],[.var (.st 38 [(.st 9 [(eL 19 aJ.enc r6.1),(eL 5 aO.enc r6.2.1),(eL 2 aC.enc a0.gO),(eL 13 aS.enc r6.2.2.1),(eL 1 k64 a0.gJ),(eL 1 k32 a0.gA3),(k32 a0.gR),(k32 a0.gB4),(k32 a0.gTo)]),(aF.enc a1),(.ifc 115 (.ref 6 [] 0)),(eO 4 1 (eL 2 aC.enc) r6.2.2.2.1),(aA.enc r6.2.2.2.2.1),(.st 3 [(j64 0),(j64 0),(j64 0)])]),.tail (r6.1.length*19),.tail (r6.2.1.length*5),.tail (r6.2.2.1.length*13),.tail (r6.2.2.2.1.length*1),.dead,.var (aM.enc r6.2.2.2.2.2.1),.var (.st 43 [(.ref 0 [] 0),(aE.enc r16),(aF.enc a1),(j64 a2),(eO 10 6 aK.enc []),(j64 0),(eO 9 9 aG.enc []),(.st 8 [(j64 0),(j64 0),(eL 3 (eA 3 1 j64) (([]:(List (Vector Int 3))))),(eL 1 j64 (([]:(List Int)))),(eL 1 j64 (([]:(List Int)))),(eL 3 (eA 3 1 j64) (([]:(List (Vector Int 3))))),(eL 1 j64 (([]:(List Int)))),(eL 1 j64 (([]:(List Int))))])]),.var (.ref 7 [] 0),.tail 0,.tail 0]⟩ ?_;refine bi λr18 hr18=>?_;refine At.rg 0 (yM hr18) wU (.tmp 37) [8,7,0,10,9,6,4] ⟨[en 4 (.im (aF.enc a1)),en 10 (.ref 8 [] 0)],[.var (.st 38 [(aE.enc ((aE.mk r6.1 r6.2.1 a0.gO r6.2.2.1 a0.gJ a0.gA3 a0.gR a0.gB4 a0.gTo))),(aF.enc a1),(.ifc 115 (.ref 6 [] 0)),(eO 4 1 (eL 2 aC.enc) r6.2.2.2.1),(aA.enc r6.2.2.2.2.1),(aH.enc ((aH.mk 0 0 0)))]),.tail (r6.1.length*19),.tail (r6.2.1.length*5),.tail (r6.2.2.1.length*13),.tail (r6.2.2.2.1.length*1),.dead,.var (aM.enc r6.2.2.2.2.2.1),.var (.st 43 [(.ref 0 [] 0),(aE.enc r16),(aF.enc a1),(j64 a2),(eO 10 6 aK.enc r18),(j64 0),(eO 9 9 aG.enc []),(aI.enc ((aI.mk 0 0 (([]:(List (Vector Int 3)))) (([]:(List Int))) (([]:(List Int))) (([]:(List (Vector Int 3)))) (([]:(List Int))) (([]:(List Int))))))]),.var (.ref 7 [] 0),.tail 0,.tail (r18.length*6)]⟩ [(.im (j64 a1.gH)),(.im (j64 a2)),(.im (j64 a1.gW))] ?_;refine At.D 0 [] ?_;refine DD.y 5 aFD λr19=>?_;refine DD.e hT hmo 6 ?_;apply rt;exact At.r 3
theorem aBe{N a0 a1 a2 r}(h:fM N a0 a1 a2=some (Sum.inl r)):FnM Tryz.prog 7 [] [(aE.enc a0),(aF.enc a1),(j64 a2)] (.tup [(.v (.pointer none)),(j64 r)]) []:=aDM h
theorem aBv{N a0 a1 a2 r}(h:fM N a0 a1 a2=some (Sum.inr (Sum.inl r))):FnM Tryz.prog 7 [] [(aE.enc a0),(aF.enc a1),(j64 a2)] (.tup [(.ref 7 [] 0),(j64 r.2.2.2.2.2.2.2)]) [.var (.st 38 [(aE.enc r.2.1),(aF.enc a1),(.ifc 112 (.ref 6 [] 0)),(eO 4 1 (eL 2 aC.enc) r.1),(aA.enc r.2.2.1),(aH.enc ((aH.mk 0 0 0)))]),.dead,.dead,.dead,.tail (r.1.length*1),.dead,.var (aL.enc r.2.2.2.1),.var (.st 43 [(.ref 0 [] 0),(aE.enc r.2.2.2.2.1),(aF.enc a1),(j64 a2),(eL 6 aK.enc r.2.2.2.2.2.1),(j64 0),(eO 9 9 aG.enc []),(aI.enc r.2.2.2.2.2.2.1)]),.dead,.tail 0]:=aDM h
theorem aBk{N a0 a1 a2 r}(h:fM N a0 a1 a2=some (Sum.inr (Sum.inr r))):FnM Tryz.prog 7 [] [(aE.enc a0),(aF.enc a1),(j64 a2)] (.tup [(.ref 7 [] 0),(j64 r.2.2.2.2.2.2.2)]) [.var (.st 38 [(aE.enc r.2.1),(aF.enc a1),(.ifc 115 (.ref 6 [] 0)),(eO 4 1 (eL 2 aC.enc) r.1),(aA.enc r.2.2.1),(aH.enc ((aH.mk 0 0 0)))]),.dead,.dead,.dead,.tail (r.1.length*1),.dead,.var (aM.enc r.2.2.2.1),.var (.st 43 [(.ref 0 [] 0),(aE.enc r.2.2.2.2.1),(aF.enc a1),(j64 a2),(eL 6 aK.enc r.2.2.2.2.2.1),(j64 0),(eO 9 9 aG.enc []),(aI.enc r.2.2.2.2.2.2.1)]),.dead,.tail 0]:=aDM h
def aAN(N:Nat)(b1:(List (Vector Int 4)))(a1:cO):Option ((List (Vector Int 4))):=
 aa (tU 32 b1 (([#v[a1.gx,a1.gy,a1.gw,a1.gh]]:List (Vector Int 4)))) λz1=>
 some z1
theorem aGU{N:Nat}{b1:(List (Vector Int 4))}{a1:cO}{r:(List (Vector Int 4))}(h:aAN N b1 a1=some r):aQ4 Tryz.prog (aD9 41 Tryz.f21.body [1,1,1,0,1,0]) [en 8 (.ref 0 [] 0)] [.var (eO 1 4 (eA 4 1 j64) b1),.tail (b1.length*4)] [(cO.enc a1)] [.var (eO 1 4 (eA 4 1 j64) r),.tail (r.length*4)] none:=by
 unfold aAN at h;refine aDW (lo:=3) (by kernel_rfl) (λbk rl=>At.of bO hT hmo h ?_)
 refine At.to 0 ⟨[en 8 (.ref 0 [] 0),en 27 (cO.enc a1)],[.var (eO 1 4 (eA 4 1 j64) b1),.tail (b1.length*4),.loop rl]⟩ ?_;refine At.mid 2 (λrl2=>?_)
 refine At.o 10 (bH hT (x:=(.sl 4 1 [(.arr 4 1 [(j64 a1.gx),(j64 a1.gy),(j64 a1.gw),(j64 a1.gh)])]))) ?_;refine At.b 0 (λ_ e=>kB hT (eA 4 1 j64) (id:=1) (k:=4) e) λz1=>?_;apply rt;exact At.rnd 1
def jQ(N:Nat)(a3 a2 a1 s3:Int):Nat->(List (Vector Int 4))->Int->Option ((List (Vector Int 4)))
 | 0,_,_=>none
 | k+1,s5,s6=>
  cond (decide (s6 < a3)) (
   aQ (eP a2 (I64 (a3 - s6))) λx7=>
   aQ (eP a2 (I64 (a1 - s3))) λx8=>
   aa (aAN N s5 (cO.mk s6 s3 x7 x8)) λr9=>
   jQ N a3 a2 a1 s3 k r9 (I64 (s6+a2))) (
   some s5)
def jL(N:Nat)(a1 a3 a2:Int):Nat->(List (Vector Int 4))->Int->Option ((List (Vector Int 4)))
 | 0,_,_=>none
 | k+1,s2,s3=>
  cond (decide (s3 < a1)) (
   aa (jQ N a3 a2 a1 s3 N s2 0) λp4=>
   jL N a1 a3 a2 k p4 (I64 (s3+a2))) (
   some s2)
def kW(N:Nat)(b1:(List (Vector Int 4)))(a1 a2 a3:Int):Option ((List (Vector Int 4))):=
 aa (jL N a1 a3 a2 N b1 0) λp1=>
 some p1
theorem xD{N:Nat}{b1:(List (Vector Int 4))}{a1:Int}{a2:Int}{a3:Int}{r:(List (Vector Int 4))}(h:kW N b1 a1 a2 a3=some r):ItM Tryz.prog 44 (aD9 41 Tryz.f21.body [1,1,1,0,1,0]) [en 8 (.ref 0 [] 0)] [.var (eO 1 4 (eA 4 1 j64) b1),.tail (b1.length*4)] [(.yld 2),(.im (j64 a1)),(.im (j64 a2)),(.im (j64 a3))] (.tup []) [.var (eO 1 4 (eA 4 1 j64) r),.tail (r.length*4)] none:=by
 unfold kW at h;refine aEY (m:=35) (lo:=3) (rs:=[]) hT Tryz.func44 rfl (by kernel_rfl) rfl (λfn tmps D hsz=>At.of bO hT hmo h ?_)
 refine At.M 1 [] 3 (λp1=>([],[(0,.var (eO 1 4 (eA 4 1 j64) p1)),(1,.tail (p1.length*4))],[])) [0,1,2,3] 3 (CU2 (jL N a1 a3 a2)) (cu2 λ(s2:(List (Vector Int 4))) (s3:Int)=>([(5,(j64 s3))],[(0,.var (eO 1 4 (eA 4 1 j64) s2)),(1,.tail (s2.length*4))],[])) (_,_) N (λp1 k=>un2 λs2 s3=>?_) λp1=>?_
 ·refine At.c 3 ?_ ?_
  ·refine At.M 1 [0,1,2,3,5] 3 (λp4=>([],[(0,.var (eO 1 4 (eA 4 1 j64) p4)),(1,.tail (p4.length*4))],[])) [0,1,2,3,5] 3 (CU2 (jQ N a3 a2 a1 s3)) (cu2 λ(s5:(List (Vector Int 4))) (s6:Int)=>([(6,(j64 s6))],[(0,.var (eO 1 4 (eA 4 1 j64) s5)),(1,.tail (s5.length*4))],[])) (_,_) N (λp4 k=>un2 λs5 s6=>?_) λp4=>?_
   ·refine At.c 3 ?_ ?_
    ·refine lx ?_;intro x7;refine lx ?_;intro x8;refine At.b 14 (λ_ e=>aII (aGU e) (fn:=fn) (D:=D) hsz rfl (bz.2 rfl) (by kernel_rfl) (by kernel_rfl)) λr9=>?_;exact λh=>At.v 6 (_,_) h
    ·apply rt;exact At.x 0
   ·exact λh=>At.v 4 (_,_) h
  ·apply rt;exact At.x 0
 ·apply rt;exact At.z 0
theorem wA : tB Tryz.prog 44:=sC (show lA Tryz.prog 44=true by kernel_rfl)
def aCZ(N:Nat)(a0 a1 a2:Int):Option ((List (Vector Int 4))×Int):=
 aa (aa (eC N a0) λr2=>
 cond (!r2) (
  some true) (
  aa (eC N a1) λr3=>
  cond (!r3) (
   some true) (
   aa (eC N a2) λr4=>
   some (!r4)))) λp1=>
 cond p1 (
  some (([],2))) (
  aa (qZ N a0 a1 a2) λr5=>
  aa (kW N [] a1 a2 a0) λr6=>
  some ((r6,0)))
theorem aI5{N a0 a1 a2 r}(h:aCZ N a0 a1 a2=some r):FnM Tryz.prog 21 [] [(j64 a0),(j64 a1),(j64 a2)] (.tup [(eL 4 (eA 4 1 j64) r.1),(j64 r.2)]) []:=by
 unfold aCZ at h;refine At.fR bO hT hmo Tryz.func21 rfl h ?_;refine At.J 2 0 [0,1,2] 0 (λp1=>([(22,(eB p1))],[],[])) (λp1=>?_) λp1=>?_
 ·refine At.y 1 lD λr2=>?_;refine At.s 13 2 ?_ ?_
  ·refine At.g [13,18] 9 ?_;apply rt;exact At.jn 0
  ·refine At.g [13] 1 ?_;refine At.y 0 lD λr3=>?_;refine At.g [13] 3 ?_;refine At.s 18 0 ?_ ?_
   ·refine At.g [18] 4 ?_;apply rt;exact At.jn 0
   ·refine At.g [18] 1 ?_;refine At.y 0 lD λr4=>?_;refine At.g [18] 2 ?_;apply rt;exact At.jn 0
 ·refine At.c 0 ?_ ?_
  ·apply rt;exact At.r 2
  ·refine At.y 4 aBd λr5=>?_;refine At.ownb 0 0 4 [] ?_;refine bi λr6 hr6=>?_;refine At.rg 0 (xD hr6) wA (.tmp 26) [0,1] ⟨[en 8 (.ref 0 [] 0)],[.var (eO 1 4 (eA 4 1 j64) r6),.tail (r6.length*4)]⟩ [(.im (j64 a1)),(.im (j64 a2)),(.im (j64 a0))] ?_;apply rt;exact At.r 3
def cY(N:Nat):Option (Bool):=
 aa (aCZ N 5 3 2) λr1=>
 aa (aQ (((r1.1.length:Int))==6) λx3=>
 aQ (cond (r1.2==0) x3 false) λx4=>
 cond x4 (
  aa (idx r1.1 5) λe5=>
  aQ ((eqV (λa b=>a==b)) e5 (#v[4,2,1,1])) λx6=>
  some x6) (
  some false)) λp2=>
 some p2
theorem jX{N r}(h:cY N=some r):FnM Tryz.prog 8 [] [] (eB r) []:=by
 unfold cY at h;refine At.f bO hT hmo Tryz.func8 rfl h ?_;refine At.y 1 aI5 λr1=>?_;refine At.J 5 0 [] 0 (λp2=>([(0,(eB p2))],[],[])) (λp2=>?_) λp2=>?_
 ·refine lx ?_;intro x3;refine lx ?_;intro x4;refine At.s 14 8 ?_ ?_
  ·refine At.g [14] 1 ?_;refine At.i hT 0 (eA 4 1 j64) λe5=>?_;refine At.g [14] 2 ?_;refine At.o 0 (aBF aWl (e5:(Vector Int 4)) (#v[4,2,1,1]:(Vector Int 4)) (by kernel_rfl) (by kernel_rfl) (λ_=>rfl) (λ_=>rfl) (by kernel_rfl) (by kernel_rfl)) ?_;refine lx ?_;intro x6;refine At.g [14] 2 ?_;apply rt;exact At.jn 0
  ·refine At.g [14] 7 ?_;apply rt;exact At.jn 0
 ·apply rt;exact At.r 0
def dN(N:Nat)(b2:(List aG))(b4:(List (List aC)))(a2:aE)(a3:aF)(a4:Int)(a5:(List aK))(a6:Int)(a7:aI)(a8:aE)(a9:aF)(a10:aA)(a11:aH)(a12:aL):Option (Unit):=
 some (())
theorem oN{N b2 b4 a2 a3 a4 a5 a6 a7 a8 a9 a10 a11 a12 r}(h:dN N b2 b4 a2 a3 a4 a5 a6 a7 a8 a9 a10 a11 a12=some r):FnM Tryz.prog 22 [.var (.st 43 [(.ref 1 [] 0),(aE.enc a2),(aF.enc a3),(j64 a4),(eL 6 aK.enc a5),(j64 a6),(eO 2 9 aG.enc b2),(aI.enc a7)]),.var (.st 38 [(aE.enc a8),(aF.enc a9),(.ifc 112 (.ref 3 [] 0)),(eO 4 1 (eL 2 aC.enc) b4),(aA.enc a10),(aH.enc a11)]),.tail (b2.length*9),.var (aL.enc a12),.tail (b4.length*1)] [(.ref 0 [] 0)] (eB false) [.var (.st 43 [(.ref 1 [] 0),(aE.enc a2),(aF.enc a3),(j64 a4),(eL 6 aK.enc a5),(j64 a6),(eO 2 9 aG.enc b2),(aI.enc a7)]),.var (.st 38 [(aE.enc a8),(aF.enc a9),(.ifc 112 (.ref 3 [] 0)),(eO 4 1 (eL 2 aC.enc) b4),(aA.enc a10),(aH.enc a11)]),.tail (b2.length*9),.var (aL.enc a12),.tail (b4.length*1)]:=by
 unfold dN at h;refine At.f bO hT hmo Tryz.func22 rfl h ?_;refine At.o 2 (nI hT (t:=41) (x:=(.ref 0 [] 0)) (b:=true) (by kernel_rfl) rfl rfl (by kernel_rfl)) ?_;refine At.g [5] 5 ?_;refine At.o 0 (nI hT (t:=64) (x:=(.ref 1 [] 0)) (b:=true) (by kernel_rfl) rfl rfl (by kernel_rfl)) ?_;refine At.g [5] 2 ?_;apply rt;exact At.r 0
def bT(N:Nat)(b2:(List aG))(b4:(List (List aC)))(a2:aE)(a3:aF)(a4:Int)(a5:(List aK))(a6:Int)(a7:aI)(a8:aE)(a9:aF)(a10:aA)(a11:aH)(a12:aL):Option (Int):=
 aa (dN N b2 b4 a2 a3 a4 a5 a6 a7 a8 a9 a10 a11 a12) λr1=>
 aQ (I64 (((a5.length:Int))*a3.gB5)) λx2=>
 some (I64 (x2 - a6))
theorem dA{N b2 b4 a2 a3 a4 a5 a6 a7 a8 a9 a10 a11 a12 r}(h:bT N b2 b4 a2 a3 a4 a5 a6 a7 a8 a9 a10 a11 a12=some r):FnM Tryz.prog 11 [.var (.st 43 [(.ref 1 [] 0),(aE.enc a2),(aF.enc a3),(j64 a4),(eL 6 aK.enc a5),(j64 a6),(eO 2 9 aG.enc b2),(aI.enc a7)]),.var (.st 38 [(aE.enc a8),(aF.enc a9),(.ifc 112 (.ref 3 [] 0)),(eO 4 1 (eL 2 aC.enc) b4),(aA.enc a10),(aH.enc a11)]),.tail (b2.length*9),.var (aL.enc a12),.tail (b4.length*1)] [(.ref 0 [] 0)] (j64 r) [.var (.st 43 [(.ref 1 [] 0),(aE.enc a2),(aF.enc a3),(j64 a4),(eL 6 aK.enc a5),(j64 a6),(eO 2 9 aG.enc b2),(aI.enc a7)]),.var (.st 38 [(aE.enc a8),(aF.enc a9),(.ifc 112 (.ref 3 [] 0)),(eO 4 1 (eL 2 aC.enc) b4),(aA.enc a10),(aH.enc a11)]),.tail (b2.length*9),.var (aL.enc a12),.tail (b4.length*1)]:=by
 unfold bT at h;refine At.f bO hT hmo Tryz.func11 rfl h ?_;refine At.Y 2 [0,1,2,3,4] oN λr1=>?_;refine At.D 1 [] ?_;refine lx ?_;intro x2;refine DD.e hT hmo 17 ?_;apply rt;exact At.r 0
def wC(N:Nat)(a0 a1 a2:Int):Option (Unit):=
 some (())
theorem aEy{N a0 a1 a2 r}(h:wC N a0 a1 a2=some r):FnM Tryz.prog 46 [] [(k64 a0),(j64 a1),(j64 a2)] (.ref 0 [] 0) [.var (.st 72 [(.st 68 [(.st 3 [(k32 0),(k32 0),(k32 0)]),(eB false),(eA 64 1 k8 (bu 64 0))]),(eB true),(k64 a0),(j64 a1),(j64 a2)])]:=by
 unfold wC at h;refine At.f bO hT hmo Tryz.func46 rfl h ?_;apply rt;exact At.r 7
def zH(N:Nat)(a0 a1 a2 a3:Int):Option (bV):=
 aQ (U32 (lE .i64 a2 65535)) λx1=>
 aQ (U32 (d6 (U32 (lE .i64 a3 63)) 16)) λx2=>
 aQ (U32 ((U32 (x1*4))+x2)) λx3=>
 some (bV.mk (U32 a0) (U32 a1) ((U32 ((U32 ((U32 (lE .i64 a2 65535))*4))+(U32 (d6 (U32 (lE .i64 a3 63)) 16))))))
theorem aH7{N a0 a1 a2 a3 r}(h:zH N a0 a1 a2 a3=some r):FnM Tryz.prog 117 [] [(j64 a0),(j64 a1),(j64 a2),(j64 a3)] (bV.enc r) []:=by
 unfold zH at h;refine At.f bO hT hmo Tryz.func117 rfl h ?_;refine lx ?_;intro x1;refine lx ?_;intro x2;refine lx ?_;intro x3;apply rt;exact At.r 16
def pV(N:Nat)(a0:Int):Nat->(Vector Int 32)->Int->Option ((Vector Int 32))
 | 0,_,_=>none
 | k+1,s4,s5=>
  cond (decide (s5 < 8)) (
   aa (aHz .u64 a0 (I64 (8*s5))) λx6=>
   aa (eY (I64 (24+s5)) 32) λ_=>
   aa (s4.toList[(I64 (24+s5)).toNat]?) λe8=>
   pV N a0 k (s4.setIfInBounds ((I64 (24+s5)).toNat) (U8 x6)) (I64 (s5+1))) (
   some s4)
def zF(N:Nat)(a0:Int):Option ((Vector Int 32)):=
 aa (aSB 32 0 32) λ_=>
 aa (cpV (bu 32 0) (aDY str_1) 0 32) λv2=>
 aa (pV N a0 N v2 0) λp3=>
 some p3
theorem aKU{N a0 r}(h:zF N a0=some r):FnM Tryz.prog 173 [] [(k64 a0)] (eA 32 1 k8 r) []:=by
 unfold zF at h;refine At.f bO hT hmo Tryz.func173 rfl h ?_;refine At.b 2 (λ_ e=>aPz hT (k:=1) 1 [] 0 e (by kernel_rfl) (by kernel_rfl) (by decide)) λs1=>?_;refine At.b 0 (λv2 e=>aTB hT k8 (id:=1) (path:=[]) (off:=0) (H':=[.var (eA 32 1 k8 (bu 32 0)),.var (eA 32 1 k8 v2)]) e (by kernel_rfl) (by kernel_rfl) (by kernel_rfl)) λv2=>?_;refine At.M 1 [2,3] 2 (λp3=>([],[(1,.var (eA 32 1 k8 p3))],[])) [0,2,3] 2 (CU2 (pV N a0)) (cu2 λ(s4:(Vector Int 32)) (s5:Int)=>([(7,(j64 s5))],[(1,.var (eA 32 1 k8 s4))],[])) (_,_) N (λp3 k=>un2 λs4 s5=>?_) λp3=>?_
 ·refine At.c 1 ?_ ?_
  ·refine At.b 7 (λ_ e=>aBA hT (k' := .i64) e (by kernel_rfl) (by kernel_rfl)) λx6=>?_;refine At.b 1 (λ_ e=>bF hT (k:=1) 1 [] 0 e) λu7=>?_;refine At.b 0 (λ_ e=>pP hT k8 0 s4 e (U8 x6) (by kernel_rfl) (by kernel_rfl) (H':=[.var (eA 32 1 k8 (bu 32 0)),.var (eA 32 1 k8 (s4.setIfInBounds ((I64 (24+s5)).toNat) (U8 x6)))])) λe8=>?_;exact λh=>At.v 2 (_,_) h
  ·apply rt;exact At.x 0
 ·apply rt;exact At.r 2
def pW(N:Nat)(a0:(List Int)):Option (Int):=
 aa (idx a0 0) λe1=>
 aa (idx a0 1) λe2=>
 aQ (bor .u32 (U32 e1) (shl .u32 (U32 e2) 8)) λx3=>
 aa (idx a0 2) λe4=>
 aQ (bor .u32 x3 (shl .u32 (U32 e4) 16)) λx5=>
 aa (idx a0 3) λe6=>
 aQ (bor .u32 x5 (shl .u32 (U32 e6) 24)) λx7=>
 some x7
theorem aCf{N a0 r}(h:pW N a0=some r):FnM Tryz.prog 209 [] [(eL 1 k8 a0)] (k32 r) []:=by
 unfold pW at h;refine At.f bO hT hmo Tryz.func209 rfl h ?_;refine At.D 1 [] ?_;refine DD.i hT 1 k8 λe1=>?_;refine DD.i hT 3 k8 λe2=>?_;refine lx ?_;intro x3;refine DD.i hT 5 k8 λe4=>?_;refine lx ?_;intro x5;refine DD.i hT 5 k8 λe6=>?_;refine lx ?_;intro x7;refine DD.e hT hmo 5 ?_;apply rt;exact At.r 0
def aJc : Nat->Bool:=imL [3,5]
def nW(N:Nat)(a0:(Vector Int 32)):Nat->(Vector Int 16)->Int->Option ((Vector Int 16))
 | 0,_,_=>none
 | k+1,s2,s3=>
  cond (decide (s3 < 8)) (
   aa (yN a0.toList (I64 (4*s3)) 32) λs4=>
   aa (pW N s4) λr5=>
   aa (eY (I64 (4+s3)) 16) λ_=>
   aa (s2.toList[(I64 (4+s3)).toNat]?) λe7=>
   nW N a0 k (s2.setIfInBounds ((I64 (4+s3)).toNat) r5) (I64 (s3+1))) (
   some s2)
def oE(N:Nat)(a2:(Vector Int 12)):Nat->(Vector Int 16)->Int->Option ((Vector Int 16))
 | 0,_,_=>none
 | k+1,s9,s10=>
  cond (decide (s10 < 3)) (
   aa (yN a2.toList (I64 (4*s10)) 12) λs11=>
   aa (pW N s11) λr12=>
   aa (eY (I64 (13+s10)) 16) λ_=>
   aa (s9.toList[(I64 (13+s10)).toNat]?) λe14=>
   oE N a2 k (s9.setIfInBounds ((I64 (13+s10)).toNat) r12) (I64 (s10+1))) (
   some s9)
def vG(N:Nat)(a0:(Vector Int 32))(a1:Int)(a2:(Vector Int 12)):Option ((Vector Int 16)):=
 aa (nW N a0 N (#v[1634760805,857760878,2036477234,1797285236,0,0,0,0,0,0,0,0,a1,0,0,0]) 0) λp1=>
 aa (oE N a2 N p1 0) λp8=>
 some p8
theorem aHv{N a0 a1 a2 r}(h:vG N a0 a1 a2=some r):FnM Tryz.prog 195 [] [(eA 32 1 k8 a0),(k32 a1),(eA 12 1 k8 a2)] (eA 16 1 k32 r) []:=by
 unfold vG at h;refine At.f aJc hT hmo Tryz.func195 rfl h ?_;refine At.M 8 [5,6,7] 2 (λp1=>([],[(1,.var (eA 16 1 k32 p1))],[])) [3,5,6,7] 2 (CU2 (nW N a0)) (cu2 λ(s2:(Vector Int 16)) (s3:Int)=>([(12,(j64 s3))],[(1,.var (eA 16 1 k32 s2))],[])) (_,_) N (λp1 k=>un2 λs2 s3=>?_) λp1=>?_
 ·refine At.c 1 ?_ ?_
  ·refine At.b 6 (λ_ e=>aCN hT (N:=32) (k:=1) k8 a0 e) λs4=>?_;refine At.y 0 aCf λr5=>?_;refine At.b 0 (λ_ e=>bF hT (k:=1) 1 [] 0 e) λu6=>?_;refine At.b 0 (λ_ e=>pP hT k32 0 s2 e r5 (by kernel_rfl) (by kernel_rfl) (H':=[.var (eA 16 1 k32 (bu 16 0)),.var (eA 16 1 k32 (s2.setIfInBounds ((I64 (4+s3)).toNat) r5))])) λe7=>?_;exact λh=>At.v 2 (_,_) h
  ·apply rt;exact At.x 0
 ·refine At.M 1 [6,7] 2 (λp8=>([],[(1,.var (eA 16 1 k32 p8))],[])) [5,6,7] 2 (CU2 (oE N a2)) (cu2 λ(s9:(Vector Int 16)) (s10:Int)=>([(23,(j64 s10))],[(1,.var (eA 16 1 k32 s9))],[])) (_,_) N (λp8 k=>un2 λs9 s10=>?_) λp8=>?_
  ·refine At.c 1 ?_ ?_
   ·refine At.b 6 (λ_ e=>aCN hT (N:=12) (k:=1) k8 a2 e) λs11=>?_;refine At.y 0 aCf λr12=>?_;refine At.b 0 (λ_ e=>bF hT (k:=1) 1 [] 0 e) λu13=>?_;refine At.b 0 (λ_ e=>pP hT k32 0 s9 e r12 (by kernel_rfl) (by kernel_rfl) (H':=[.var (eA 16 1 k32 (bu 16 0)),.var (eA 16 1 k32 (s9.setIfInBounds ((I64 (13+s10)).toNat) r12))])) λe14=>?_;exact λh=>At.v 2 (_,_) h
   ·apply rt;exact At.x 0
  ·apply rt;exact At.r 2
def dW(N:Nat)(a0 a1:Int):Option (Int):=
 aa (aLm .u32 a0 (lE .u64 (U64 a1) 31)) λx1=>
 aQ (U64 (32 - (lE .u64 (U64 a1) 31))) λx2=>
 aa (aHz .u32 a0 x2) λx3=>
 some (bor .u32 x1 x3)
theorem mI{N a0 a1 r}(h:dW N a0 a1=some r):FnM Tryz.prog 210 [] [(k32 a0),(j64 a1)] (k32 r) []:=by
 unfold dW at h;refine At.f bO hT hmo Tryz.func210 rfl h ?_;refine At.b 7 (λ_ e=>aEk hT (k' := .u64) e (by kernel_rfl) (by kernel_rfl)) λx1=>?_;refine lx ?_;intro x2;refine At.b 3 (λ_ e=>aBA hT (k' := .u64) e (by kernel_rfl) (by kernel_rfl)) λx3=>?_;apply rt;exact At.r 2
def aGj : Nat->Bool:=imL [1]
def sA(N:Nat)(a0:(Vector Int 4)):Option ((Vector Int 4)):=
 aa (idx a0.toList 0) λe1=>
 aa (idx a0.toList 1) λe2=>
 aa (idx a0.toList 2) λe3=>
 aa (idx a0.toList 3) λe4=>
 aQ (bxor .u32 e4 (U32 (e1+e2))) λx5=>
 aa (dW N x5 16) λr6=>
 aQ (bxor .u32 e2 (U32 (e3+r6))) λx7=>
 aa (dW N x7 12) λr8=>
 aQ (U32 ((U32 (e1+e2))+r8)) λx9=>
 aa (dW N (bxor .u32 r6 x9) 8) λr10=>
 aQ (U32 ((U32 (e3+r6))+r10)) λx11=>
 aa (dW N (bxor .u32 r8 x11) 7) λr12=>
 some (#v[x9,r12,x11,r10])
theorem aFx{N a0 r}(h:sA N a0=some r):FnM Tryz.prog 196 [] [(eA 4 1 k32 a0)] (eA 4 1 k32 r) []:=by
 unfold sA at h;refine At.f aGj hT hmo Tryz.func196 rfl h ?_;refine At.D 2 [] ?_;refine DD.b 0 (λe _=>dC hT (N:=4) (k:=1) k32 a0 e) λe1=>?_;refine DD.b 1 (λe _=>dC hT (N:=4) (k:=1) k32 a0 e) λe2=>?_;refine DD.b 1 (λe _=>dC hT (N:=4) (k:=1) k32 a0 e) λe3=>?_;refine DD.b 1 (λe _=>dC hT (N:=4) (k:=1) k32 a0 e) λe4=>?_;refine DD.e hT hmo 5 ?_;refine lx ?_;intro x5;refine At.y 7 mI λr6=>?_;refine lx ?_;intro x7;refine At.y 8 mI λr8=>?_;refine lx ?_;intro x9;refine At.y 8 mI λr10=>?_;refine lx ?_;intro x11;refine At.y 8 mI λr12=>?_;apply rt;exact At.r 7
def aJd : Nat->Bool:=imL [3,5]
def lV(N:Nat)  : Nat->(Vector Int 16)->Int->Option ((Vector Int 16))
 | 0,_,_=>none
 | k+1,s6,s7=>
  cond (decide (s7 < 8)) (
   aa (idx (#v[#v[0,4,8,12],#v[1,5,9,13],#v[2,6,10,14],#v[3,7,11,15],#v[0,5,10,15],#v[1,6,11,12],#v[2,7,8,13],#v[3,4,9,14]]).toList s7) λe8=>
   aa (eY 0 4) λ_=>
   aa (e8.toList[(bg 0)]?) λe10=>
   aa (eY e10 16) λ_=>
   aa (s6.toList[e10.toNat]?) λe12=>
   aa (eY 1 4) λ_=>
   aa (e8.toList[(bg 1)]?) λe14=>
   aa (eY e14 16) λ_=>
   aa (s6.toList[e14.toNat]?) λe16=>
   aa (eY 2 4) λ_=>
   aa (e8.toList[(bg 2)]?) λe18=>
   aa (eY e18 16) λ_=>
   aa (s6.toList[e18.toNat]?) λe20=>
   aa (eY 3 4) λ_=>
   aa (e8.toList[(bg 3)]?) λe22=>
   aa (eY e22 16) λ_=>
   aa (s6.toList[e22.toNat]?) λe24=>
   aa (sA N (#v[e12,e16,e20,e24])) λr25=>
   aa (eY 0 4) λ_=>
   aa (e8.toList[(bg 0)]?) λe27=>
   aa (eY 1 4) λ_=>
   aa (e8.toList[(bg 1)]?) λe29=>
   aa (eY 2 4) λ_=>
   aa (e8.toList[(bg 2)]?) λe31=>
   aa (eY 3 4) λ_=>
   aa (e8.toList[(bg 3)]?) λe33=>
   aa (eY 0 4) λ_=>
   aa (r25.toList[(bg 0)]?) λe35=>
   aa (eY 1 4) λ_=>
   aa (r25.toList[(bg 1)]?) λe37=>
   aa (eY 2 4) λ_=>
   aa (r25.toList[(bg 2)]?) λe39=>
   aa (eY 3 4) λ_=>
   aa (r25.toList[(bg 3)]?) λe41=>
   aa (eY e27 16) λ_=>
   aa (s6.toList[e27.toNat]?) λe43=>
   aa (eY e29 16) λ_=>
   aa ((s6.setIfInBounds e27.toNat e35).toList[e29.toNat]?) λe45=>
   aa (eY e31 16) λ_=>
   aa (((s6.setIfInBounds e27.toNat e35).setIfInBounds e29.toNat e37).toList[e31.toNat]?) λe47=>
   aa (eY e33 16) λ_=>
   aa ((((s6.setIfInBounds e27.toNat e35).setIfInBounds e29.toNat e37).setIfInBounds e31.toNat e39).toList[e33.toNat]?) λe49=>
   lV N k ((((s6.setIfInBounds e27.toNat e35).setIfInBounds e29.toNat e37).setIfInBounds e31.toNat e39).setIfInBounds e33.toNat e41) (I64 (s7+1))) (
   some s6)
def nZ(N:Nat)  : Nat->(Vector Int 16)->Int->Option ((Vector Int 16))
 | 0,_,_=>none
 | k+1,s3,s4=>
  cond (decide (s4 < 10)) (
   aa (lV N N s3 0) λp5=>
   nZ N k p5 (I64 (s4+1))) (
   some s3)
def nX(N:Nat)(p2 r1:(Vector Int 16)):Nat->(Vector Int 64)->Int->Option ((Vector Int 64))
 | 0,_,_=>none
 | k+1,s51,s52=>
  cond (decide (s52 < 16)) (
   aa (idx p2.toList s52) λe53=>
   aa (eY s52 16) λ_=>
   aa (r1.toList[s52.toNat]?) λe55=>
   aQ (I64 ((I64 (4*s52))+1)) λx56=>
   aQ (I64 ((I64 (4*s52))+2)) λx57=>
   aQ (I64 ((I64 (4*s52))+3)) λx58=>
   aQ (shr .u32 (U32 (e53+e55)) 8) λx59=>
   aQ (shr .u32 (U32 (e53+e55)) 16) λx60=>
   aQ (shr .u32 (U32 (e53+e55)) 24) λx61=>
   aa (eY (I64 (4*s52)) 64) λ_=>
   aa (s51.toList[(I64 (4*s52)).toNat]?) λe63=>
   aa (eY x56 64) λ_=>
   aa ((s51.setIfInBounds ((I64 (4*s52)).toNat) (U8 (U32 (e53+e55)))).toList[x56.toNat]?) λe65=>
   aa (eY x57 64) λ_=>
   aa (((s51.setIfInBounds ((I64 (4*s52)).toNat) (U8 (U32 (e53+e55)))).setIfInBounds x56.toNat (U8 x59)).toList[x57.toNat]?) λe67=>
   aa (eY x58 64) λ_=>
   aa ((((s51.setIfInBounds ((I64 (4*s52)).toNat) (U8 (U32 (e53+e55)))).setIfInBounds x56.toNat (U8 x59)).setIfInBounds x57.toNat (U8 x60)).toList[x58.toNat]?) λe69=>
   nX N p2 r1 k ((((s51.setIfInBounds ((I64 (4*s52)).toNat) (U8 (U32 (e53+e55)))).setIfInBounds x56.toNat (U8 x59)).setIfInBounds x57.toNat (U8 x60)).setIfInBounds x58.toNat (U8 x61)) (I64 (s52+1))) (
   some s51)
def vI(N:Nat)(a0:(Vector Int 32))(a1:Int)(a2:(Vector Int 12)):Option ((Vector Int 64)):=
 aa (vG N a0 a1 a2) λr1=>
 aa (nZ N N r1 0) λp2=>
 aa (nX N p2 r1 N (bu 64 0) 0) λp50=>
 some p50
theorem aHx{N a0 a1 a2 r}(h:vI N a0 a1 a2=some r):FnM Tryz.prog 172 [] [(eA 32 1 k8 a0),(k32 a1),(eA 12 1 k8 a2)] (eA 64 1 k8 r) []:=by
 unfold vI at h;refine At.f aJd hT hmo Tryz.func172 rfl h ?_;refine At.y 6 aHv λr1=>?_;refine At.M 17 [6,7,8] 4 (λp2=>([],[(2,.var (eA 16 1 k32 p2))],[])) [6,7,8,9] 4 (CU2 (nZ N)) (cu2 λ(s3:(Vector Int 16)) (s4:Int)=>([(30,(j64 s4))],[(2,.var (eA 16 1 k32 s3))],[])) (_,_) N (λp2 k=>un2 λs3 s4=>?_) λp2=>?_
 ·refine At.c 1 ?_ ?_
  ·refine At.M 2 [6,7,8,9,30] 4 (λp5=>([],[(2,.var (eA 16 1 k32 p5))],[])) [6,7,8,9,30,32] 4 (CU2 (lV N)) (cu2 λ(s6:(Vector Int 16)) (s7:Int)=>([(33,(j64 s7))],[(2,.var (eA 16 1 k32 s6))],[])) (_,_) N (λp5 k=>un2 λs6 s7=>?_) λp5=>?_
   ·refine At.c 1 ?_ ?_
    ·refine At.b 0 (λ_ e=>aA2 hT (eA 4 1 j64) (#v[#v[0,4,8,12],#v[1,5,9,13],#v[2,6,10,14],#v[3,7,11,15],#v[0,5,10,15],#v[1,6,11,12],#v[2,7,8,13],#v[3,4,9,14]]) e (by kernel_rfl) (by kernel_rfl)) λe8=>?_;refine At.D 2 [] ?_;refine DD.b 0 (λe _=>bF hT (k:=1) 4 [] 0 e) λu9=>?_;refine DD.l hT 0 j64 j64 0 λe10=>?_;refine DD.b 0 (λe _=>bF hT (k:=1) 2 [] 0 e) λu11=>?_;refine DD.l hT 0 k32 k32 0 λe12=>?_;refine DD.b 0 (λe _=>bF hT (k:=1) 4 [] 0 e) λu13=>?_;refine DD.l hT 0 j64 j64 0 λe14=>?_;refine DD.b 0 (λe _=>bF hT (k:=1) 2 [] 0 e) λu15=>?_;refine DD.l hT 0 k32 k32 0 λe16=>?_;refine DD.b 0 (λe _=>bF hT (k:=1) 4 [] 0 e) λu17=>?_;refine DD.l hT 0 j64 j64 0 λe18=>?_;refine DD.b 0 (λe _=>bF hT (k:=1) 2 [] 0 e) λu19=>?_;refine DD.l hT 0 k32 k32 0 λe20=>?_;refine DD.b 0 (λe _=>bF hT (k:=1) 4 [] 0 e) λu21=>?_;refine DD.l hT 0 j64 j64 0 λe22=>?_;refine DD.b 0 (λe _=>bF hT (k:=1) 2 [] 0 e) λu23=>?_;refine DD.l hT 0 k32 k32 0 λe24=>?_;refine DD.y 1 aFx λr25=>?_;refine DD.e hT hmo 2 ?_;refine At.D 0 [] ?_;refine DD.b 0 (λe _=>bF hT (k:=1) 4 [] 0 e) λu26=>?_;refine DD.l hT 0 j64 j64 0 λe27=>?_;refine DD.b 0 (λe _=>bF hT (k:=1) 4 [] 0 e) λu28=>?_;refine DD.l hT 0 j64 j64 0 λe29=>?_;refine DD.b 0 (λe _=>bF hT (k:=1) 4 [] 0 e) λu30=>?_;refine DD.l hT 0 j64 j64 0 λe31=>?_;refine DD.b 0 (λe _=>bF hT (k:=1) 4 [] 0 e) λu32=>?_;refine DD.l hT 0 j64 j64 0 λe33=>?_;refine DD.b 0 (λe _=>bF hT (k:=1) 5 [] 0 e) λu34=>?_;refine DD.l hT 0 k32 k32 0 λe35=>?_;refine DD.b 0 (λe _=>bF hT (k:=1) 5 [] 0 e) λu36=>?_;refine DD.l hT 0 k32 k32 0 λe37=>?_;refine DD.b 0 (λe _=>bF hT (k:=1) 5 [] 0 e) λu38=>?_;refine DD.l hT 0 k32 k32 0 λe39=>?_;refine DD.b 0 (λe _=>bF hT (k:=1) 5 [] 0 e) λu40=>?_;refine DD.l hT 0 k32 k32 0 λe41=>?_;refine DD.b 0 (λe _=>bF hT (k:=1) 2 [] 0 e) λu42=>?_;refine bi λe43 he43=>?_;refine DD.w 0 (.v (.bool false)) ⟨[(2,.var (eA 16 1 k32 (s6.setIfInBounds e27.toNat e35)))],[]⟩ (λ_ e=>pP hT k32 0 s6 he43 e35 (pj1 e) (pj1 (pj2 e)) (pj2 (pj2 e))) ?_;refine DD.b 0 (λe _=>bF hT (k:=1) 2 [] 0 e) λu44=>?_;refine bi λe45 he45=>?_;refine DD.w 0 (.v (.bool false)) ⟨[(2,.var (eA 16 1 k32 ((s6.setIfInBounds e27.toNat e35).setIfInBounds e29.toNat e37)))],[]⟩ (λ_ e=>pP hT k32 0 (s6.setIfInBounds e27.toNat e35) he45 e37 (pj1 e) (pj1 (pj2 e)) (pj2 (pj2 e))) ?_;refine DD.b 0 (λe _=>bF hT (k:=1) 2 [] 0 e) λu46=>?_;refine bi λe47 he47=>?_;refine DD.w 0 (.v (.bool false)) ⟨[(2,.var (eA 16 1 k32 (((s6.setIfInBounds e27.toNat e35).setIfInBounds e29.toNat e37).setIfInBounds e31.toNat e39)))],[]⟩ (λ_ e=>pP hT k32 0 ((s6.setIfInBounds e27.toNat e35).setIfInBounds e29.toNat e37) he47 e39 (pj1 e) (pj1 (pj2 e)) (pj2 (pj2 e))) ?_;refine DD.b 0 (λe _=>bF hT (k:=1) 2 [] 0 e) λu48=>?_;refine bi λe49 he49=>?_;refine DD.w 0 (.v (.bool false)) ⟨[(2,.var (eA 16 1 k32 ((((s6.setIfInBounds e27.toNat e35).setIfInBounds e29.toNat e37).setIfInBounds e31.toNat e39).setIfInBounds e33.toNat e41)))],[]⟩ (λ_ e=>pP hT k32 0 (((s6.setIfInBounds e27.toNat e35).setIfInBounds e29.toNat e37).setIfInBounds e31.toNat e39) he49 e41 (pj1 e) (pj1 (pj2 e)) (pj2 (pj2 e))) ?_;refine DD.e hT hmo 0 ?_;exact λh=>At.v 2 (_,_) h
    ·apply rt;exact At.x 0
   ·exact λh=>At.v 2 (_,_) h
  ·apply rt;exact At.x 0
 ·refine At.M 3 [6,13] 5 (λp50=>([],[(4,.var (eA 64 1 k8 p50))],[])) [6,7,13,76] 5 (CU2 (nX N p2 r1)) (cu2 λ(s51:(Vector Int 64)) (s52:Int)=>([(77,(j64 s52))],[(4,.var (eA 64 1 k8 s51))],[])) (_,_) N (λp50 k=>un2 λs51 s52=>?_) λp50=>?_
  ·refine At.c 1 ?_ ?_
   ·refine At.b 1 (λ_ e=>aA2 hT k32 p2 e (by kernel_rfl) (by kernel_rfl)) λe53=>?_;refine At.b 4 (λ_ e=>bF hT (k:=1) 1 [] 0 e) λu54=>?_;refine At.b 0 (λ_ e=>qG hT k32 0 e) λe55=>?_;refine lx ?_;intro x56;refine lx ?_;intro x57;refine lx ?_;intro x58;refine lx ?_;intro x59;refine lx ?_;intro x60;refine lx ?_;intro x61;refine At.b 24 (λ_ e=>bF hT (k:=1) 4 [] 0 e) λu62=>?_;refine At.b 0 (λ_ e=>pP hT k8 0 s51 e (U8 (U32 (e53+e55))) (by kernel_rfl) (by kernel_rfl) (H':=[.var (eA 64 1 k8 (bu 64 0)),.var (eA 16 1 k32 r1),.var (eA 16 1 k32 p2),.var cv_1,.var (eA 64 1 k8 (s51.setIfInBounds ((I64 (4*s52)).toNat) (U8 (U32 (e53+e55)))))])) λe63=>?_;refine At.b 0 (λ_ e=>bF hT (k:=1) 4 [] 0 e) λu64=>?_;refine At.b 0 (λ_ e=>pP hT k8 0 (s51.setIfInBounds ((I64 (4*s52)).toNat) (U8 (U32 (e53+e55)))) e (U8 x59) (by kernel_rfl) (by kernel_rfl) (H':=[.var (eA 64 1 k8 (bu 64 0)),.var (eA 16 1 k32 r1),.var (eA 16 1 k32 p2),.var cv_1,.var (eA 64 1 k8 ((s51.setIfInBounds ((I64 (4*s52)).toNat) (U8 (U32 (e53+e55)))).setIfInBounds x56.toNat (U8 x59)))])) λe65=>?_;refine At.b 0 (λ_ e=>bF hT (k:=1) 4 [] 0 e) λu66=>?_;refine At.b 0 (λ_ e=>pP hT k8 0 ((s51.setIfInBounds ((I64 (4*s52)).toNat) (U8 (U32 (e53+e55)))).setIfInBounds x56.toNat (U8 x59)) e (U8 x60) (by kernel_rfl) (by kernel_rfl) (H':=[.var (eA 64 1 k8 (bu 64 0)),.var (eA 16 1 k32 r1),.var (eA 16 1 k32 p2),.var cv_1,.var (eA 64 1 k8 (((s51.setIfInBounds ((I64 (4*s52)).toNat) (U8 (U32 (e53+e55)))).setIfInBounds x56.toNat (U8 x59)).setIfInBounds x57.toNat (U8 x60)))])) λe67=>?_;refine At.b 0 (λ_ e=>bF hT (k:=1) 4 [] 0 e) λu68=>?_;refine At.b 0 (λ_ e=>pP hT k8 0 (((s51.setIfInBounds ((I64 (4*s52)).toNat) (U8 (U32 (e53+e55)))).setIfInBounds x56.toNat (U8 x59)).setIfInBounds x57.toNat (U8 x60)) e (U8 x61) (by kernel_rfl) (by kernel_rfl) (H':=[.var (eA 64 1 k8 (bu 64 0)),.var (eA 16 1 k32 r1),.var (eA 16 1 k32 p2),.var cv_1,.var (eA 64 1 k8 ((((s51.setIfInBounds ((I64 (4*s52)).toNat) (U8 (U32 (e53+e55)))).setIfInBounds x56.toNat (U8 x59)).setIfInBounds x57.toNat (U8 x60)).setIfInBounds x58.toNat (U8 x61)))])) λe69=>?_;exact λh=>At.v 2 (_,_) h
   ·apply rt;exact At.x 0
  ·apply rt;exact At.r 2
def aDw : Nat->Bool:=imL [2]
def iZ(N:Nat)(a0:bV):Nat->(Vector Int 12)->Int->Option ((Vector Int 12))
 | 0,_,_=>none
 | k+1,s2,s3=>
  cond (decide (s3 < 4)) (
   aa (aHz .u32 a0.gE3 (I64 (8*s3))) λx4=>
   aa (aHz .u32 a0.gE4 (I64 (8*s3))) λx5=>
   aa (eY s3 12) λ_=>
   aa (s2.toList[s3.toNat]?) λe7=>
   aa (eY (I64 (4+s3)) 12) λ_=>
   aa ((s2.setIfInBounds s3.toNat (U8 x4)).toList[(I64 (4+s3)).toNat]?) λe9=>
   iZ N a0 k ((s2.setIfInBounds s3.toNat (U8 x4)).setIfInBounds ((I64 (4+s3)).toNat) (U8 x5)) (I64 (s3+1))) (
   some s2)
def nN(N:Nat)(a0:bV)(a1:Int):Option ((Vector Int 64)):=
 aa (iZ N a0 N (bu 12 0) 0) λp1=>
 aa (zF N a1) λr10=>
 aa (vI N r10 a0.gE5 p1) λr11=>
 some r11
theorem aDl{N a0 a1 r}(h:nN N a0 a1=some r):FnM Tryz.prog 118 [] [(bV.enc a0),(k64 a1)] (eA 64 1 k8 r) []:=by
 unfold nN at h;refine At.f aDw hT hmo Tryz.func118 rfl h ?_;refine At.M 4 [1,2,4,5] 2 (λp1=>([],[(1,.var (eA 12 1 k8 p1))],[])) [1,2,4,5] 2 (CU2 (iZ N a0)) (cu2 λ(s2:(Vector Int 12)) (s3:Int)=>([(7,(j64 s3))],[(1,.var (eA 12 1 k8 s2))],[])) (_,_) N (λp1 k=>un2 λs2 s3=>?_) λp1=>?_
 ·refine At.c 1 ?_ ?_
  ·refine At.D 2 [] ?_;refine DD.b 7 (λe _=>aBA hT (k' := .i64) e (by kernel_rfl) (by kernel_rfl)) λx4=>?_;refine DD.b 5 (λe _=>aBA hT (k' := .i64) e (by kernel_rfl) (by kernel_rfl)) λx5=>?_;refine DD.b 1 (λe _=>bF hT (k:=1) 1 [] 0 e) λu6=>?_;refine bi λe7 he7=>?_;refine DD.w 0 (.v (.bool false)) ⟨[(1,.var (eA 12 1 k8 (s2.setIfInBounds s3.toNat (U8 x4))))],[]⟩ (λ_ e=>pP hT k8 0 s2 he7 (U8 x4) (pj1 e) (pj1 (pj2 e)) (pj2 (pj2 e))) ?_;refine DD.b 0 (λe _=>bF hT (k:=1) 1 [] 0 e) λu8=>?_;refine bi λe9 he9=>?_;refine DD.w 0 (.v (.bool false)) ⟨[(1,.var (eA 12 1 k8 ((s2.setIfInBounds s3.toNat (U8 x4)).setIfInBounds ((I64 (4+s3)).toNat) (U8 x5))))],[]⟩ (λ_ e=>pP hT k8 0 (s2.setIfInBounds s3.toNat (U8 x4)) he9 (U8 x5) (pj1 e) (pj1 (pj2 e)) (pj2 (pj2 e))) ?_;refine DD.e hT hmo 0 ?_;exact λh=>At.v 2 (_,_) h
  ·apply rt;exact At.x 0
 ·refine At.D 0 [] ?_;refine DD.y 1 aKU λr10=>?_;refine DD.y 3 aHx λr11=>?_;refine DD.e hT hmo 1 ?_;apply rt;exact At.r 0
def aHw : Nat->Bool:=imL [2]
def sV(N:Nat)(a0:(Vector Int 64))(a1:Int):Option (Int):=
 aQ (I64 (4*(lE .i64 a1 15))) λx1=>
 aa (idx a0.toList x1) λe2=>
 aa (idx a0.toList (I64 (x1+1))) λe3=>
 aQ (bor .u32 (U32 e2) (shl .u32 (U32 e3) 8)) λx4=>
 aa (idx a0.toList (I64 (x1+2))) λe5=>
 aQ (bor .u32 x4 (shl .u32 (U32 e5) 16)) λx6=>
 aa (idx a0.toList (I64 (x1+3))) λe7=>
 aQ (bor .u32 x6 (shl .u32 (U32 e7) 24)) λx8=>
 some x8
theorem aHC{N a0 a1 r}(h:sV N a0 a1=some r):FnM Tryz.prog 119 [] [(eA 64 1 k8 a0),(j64 a1)] (k32 r) []:=by
 unfold sV at h;refine At.f aHw hT hmo Tryz.func119 rfl h ?_;refine lx ?_;intro x1;refine At.D 6 [] ?_;refine DD.b 1 (λe _=>dC hT (N:=64) (k:=1) k8 a0 e) λe2=>?_;refine DD.b 4 (λe _=>dC hT (N:=64) (k:=1) k8 a0 e) λe3=>?_;refine lx ?_;intro x4;refine DD.b 6 (λe _=>dC hT (N:=64) (k:=1) k8 a0 e) λe5=>?_;refine lx ?_;intro x6;refine DD.b 6 (λe _=>dC hT (N:=64) (k:=1) k8 a0 e) λe7=>?_;refine lx ?_;intro x8;refine DD.e hT hmo 5 ?_;apply rt;exact At.r 0
def iJ(N:Nat)(a0 a1:Int)(a2:aD):Option (eM×Int):=
 cond (!a2.gA) (
  some ((a2.gE6,0))) (
  aa (aa (zH N a2.gC a2.gE a0 a1) λr2=>
  aa (cond (!a2.gE6.gis) (
   some true) (
   some (!(bV.eq r2 a2.gE6.gF2)))) λp3=>
  cond p3 (
   aa (nN N r2 a2.gD) λr4=>
   some ((eM.mk r2 true r4,r2))) (
   some ((a2.gE6,r2)))) λp1=>
  aa (sV N p1.1.gF3 a1) λr5=>
  some ((p1.1,r5)))
theorem wH{N a0 a1 a2 r}(h:iJ N a0 a1 a2=some r):FnM Tryz.prog 80 [.var (aD.enc a2)] [(.ref 0 [] 0),(j64 a0),(j64 a1)] (k32 r.2) [.var (.st 72 [(eM.enc r.1),(eB a2.gA),(k64 a2.gD),(j64 a2.gC),(j64 a2.gE)])]:=by
 unfold iJ at h;refine At.f bO hT hmo Tryz.func80 rfl h ?_;refine At.o 2 (nI hT (t:=136) (x:=(.ref 0 [] 0)) (b:=true) (by kernel_rfl) rfl rfl (by kernel_rfl)) ?_;refine At.g [10] 7 ?_;refine At.c 0 ?_ ?_
 ·apply rt;exact At.r 1
 ·refine At.J 0 1 [0,2] 1 (λp1=>([],[(0,.var (.st 72 [(eM.enc p1.1),(eB a2.gA),(k64 a2.gD),(j64 a2.gC),(j64 a2.gE)]))],[.var (bV.enc p1.2)])) (λp1=>?_) λp1=>?_
  ·refine At.D 0 [] ?_;refine DD.y 10 aH7 λr2=>?_;refine DD.e hT hmo 2 ?_;refine At.J 0 0 [0,2,7] 2 (λp3=>([(42,(eB p3))],[],[])) (λp3=>?_) λp3=>?_
   ·refine At.D 0 [] ?_;refine DD.s hT 7 ?_ ?_
    ·refine DD.e hT hmo 8 ?_;apply rt;exact At.jn 0
    ·refine DD.o 6 (λ_=>aA9 aUZ (r2:bV) (a2.gE6.gF2:bV) (by kernel_rfl) (by kernel_rfl) (λ_=>rfl) (λ_=>rfl) (by kernel_rfl) (by kernel_rfl)) ?_;refine DD.e hT hmo 1 ?_;apply rt;exact At.jn 0
   ·refine At.c 0 ?_ ?_
    ·refine At.D 0 [] ?_;refine DD.y 7 aDl λr4=>?_;refine DD.e hT hmo 4 ?_;apply rt;exact At.jn 0
    ·apply rt;exact At.jn 0
  ·refine At.y 6 aHC λr5=>?_;apply rt;exact At.r 1
def dD(N:Nat)(b4:(List (List aC)))(a1:Int)(a2:aN)(a3 a4:aA)(a5:Int)(a6:Bool)(a7:aG)(a8:aE)(a9:aF)(a10:aA)(a11:aH)(a12:aD)(a13:aL):Option (eM×Int):=
 aa (iJ N a5 a1 a12) λr1=>
 some ((r1.1,r1.2))
theorem iY{N b4 a1 a2 a3 a4 a5 a6 a7 a8 a9 a10 a11 a12 a13 r}(h:dD N b4 a1 a2 a3 a4 a5 a6 a7 a8 a9 a10 a11 a12 a13=some r):FnM Tryz.prog 47 [.var (.st 26 [(aN.enc a2),(.ref 1 [] 0),(.ref 2 [] 0),(aA.enc a3),(aA.enc a4),(j64 a5),(eB a6),(aG.enc a7)]),.var (.st 38 [(aE.enc a8),(aF.enc a9),(.ifc 112 (.ref 3 [] 0)),(eO 4 1 (eL 2 aC.enc) b4),(aA.enc a10),(aH.enc a11)]),.var (aD.enc a12),.var (aL.enc a13),.tail (b4.length*1)] [(.ref 0 [] 0),(j64 a1)] (k32 r.2) [.var (.st 26 [(aN.enc a2),(.ref 1 [] 0),(.ref 2 [] 0),(aA.enc a3),(aA.enc a4),(j64 a5),(eB a6),(aG.enc a7)]),.var (.st 38 [(aE.enc a8),(aF.enc a9),(.ifc 112 (.ref 3 [] 0)),(eO 4 1 (eL 2 aC.enc) b4),(aA.enc a10),(aH.enc a11)]),.var (.st 72 [(eM.enc r.1),(eB a12.gA),(k64 a12.gD),(j64 a12.gC),(j64 a12.gE)]),.var (aL.enc a13),.tail (b4.length*1)]:=by
 unfold dD at h;refine At.f bO hT hmo Tryz.func47 rfl h ?_;refine At.D 1 [] ?_;refine DD.Y 9 [2] wH λr1=>?_;refine DD.e hT hmo 1 ?_;apply rt;exact At.r 0
def rE(N:Nat)(a0:Int):Option (Int):=
 some (I64 a0)
theorem aBa{N a0 r}(h:rE N a0=some r):FnM Tryz.prog 120 [] [(k32 a0)] (j64 r) []:=by
 unfold rE at h;refine At.f bO hT hmo Tryz.func120 rfl h ?_;apply rt;exact At.r 4
def wB(N:Nat)(a0 a1:Int):Option (Int):=
 aQ (cond (decide (a0>=0)) (decide (a1 < 0)) false) λx1=>
 aQ (decide ((I64 (a0 - a1)) < 0)) λx2=>
 cond (cond x1 x2 false) (
  some 9223372036854775807) (
  aQ (cond (decide (a0 < 0)) (decide (a1 > 0)) false) λx3=>
  aQ (decide ((I64 (a0 - a1))>=0)) λx4=>
  cond (cond x3 x4 false) (some (-9223372036854775808)) (some (I64 (a0 - a1))))
theorem aBP{N a0 a1 r}(h:wB N a0 a1=some r):FnM Tryz.prog 121 [] [(j64 a0),(j64 a1)] (j64 r) []:=by
 unfold wB at h;refine At.f bO hT hmo Tryz.func121 rfl h ?_;refine lx ?_;intro x1;refine lx ?_;intro x2;refine At.c 16 ?_ ?_
 ·apply rt;exact At.r 1
 ·refine lx ?_;intro x3;refine lx ?_;intro x4;refine At.c 11 ?_ ?_
  ·apply rt;exact At.r 1
  ·apply rt;exact At.r 2
def aSy : Nat->Bool:=imL [1]
def qH(N:Nat)(a0:aB):Option (aA):=
 aa (jE N a0.gX) λr1=>
 aa (jE N a0.gY) λr2=>
 aa (jE N a0.gZ) λr3=>
 some (aA.mk r1 r2 r3)
theorem tN{N a0 r}(h:qH N a0=some r):FnM Tryz.prog 84 [] [(aB.enc a0)] (aA.enc r) []:=by
 unfold qH at h;refine At.f aSy hT hmo Tryz.func84 rfl h ?_;refine At.D 2 [] ?_;refine DD.y 2 jP λr1=>?_;refine DD.y 2 jP λr2=>?_;refine DD.y 2 jP λr3=>?_;refine DD.e hT hmo 2 ?_;apply rt;exact At.r 0
def vR(N:Nat)(a0:Int):Option (aT):=
 some (aT.mk (shr .i64 a0 63) (U64 a0))
theorem aBo{N a0 r}(h:vR N a0=some r):FnM Tryz.prog 188 [] [(j64 a0)] (aT.enc r) []:=by
 unfold vR at h;refine At.f bO hT hmo Tryz.func188 rfl h ?_;apply rt;exact At.r 7
def aOa : Nat->Bool:=imL [2]
def aBO(N:Nat)(a0:aT)(a1:Int):Option (aT):=
 aQ (decide ((jZ a1 0)>=64)) λx1=>
 cond x1 (
  aQ (eP (I64 ((jZ a1 0) - 64)) 63) λx2=>
  aa (aHz .i64 a0.gHi x2) λx3=>
  aa (vR N x3) λr4=>
  some r4) (
  cond ((jZ a1 0)==0) (
   some a0) (
   aa (aHz .i64 a0.gHi (jZ a1 0)) λx5=>
   aa (aHz .u64 a0.gLo (jZ a1 0)) λx6=>
   aa (aLm .u64 (U64 a0.gHi) (I64 (64 - (jZ a1 0)))) λx7=>
   some (aT.mk x5 (bor .u64 x6 x7))))
theorem aNn{N a0 a1 r}(h:aBO N a0 a1=some r):FnM Tryz.prog 149 [] [(aT.enc a0),(j64 a1)] (aT.enc r) []:=by
 unfold aBO at h;refine At.f aOa hT hmo Tryz.func149 rfl h ?_;refine lx ?_;intro x1;refine At.c 7 ?_ ?_
 ·refine lx ?_;intro x2;refine At.b 5 (λ_ e=>aBA hT (k' := .i64) e (by kernel_rfl) (by kernel_rfl)) λx3=>?_;refine At.y 0 aBo λr4=>?_;apply rt;exact At.r 1
 ·refine At.c 2 ?_ ?_
  ·apply rt;exact At.r 2
  ·refine At.D 0 [] ?_;refine DD.b 3 (λe _=>aBA hT (k' := .i64) e (by kernel_rfl) (by kernel_rfl)) λx5=>?_;refine DD.b 3 (λe _=>aBA hT (k' := .i64) e (by kernel_rfl) (by kernel_rfl)) λx6=>?_;refine DD.b 5 (λe _=>aEk hT (k' := .i64) e (by kernel_rfl) (by kernel_rfl)) λx7=>?_;refine DD.e hT hmo 3 ?_;apply rt;exact At.r 0
def vP(N:Nat)(a0:(List Int)):Nat->Int->Int->Option (Int)
 | 0,_,_=>none
 | k+1,s2,s3=>
  aQ (decide (s3 < ((a0.length:Int)))) λx4=>
  cond x4 (
   aa (aa (idx a0 s3) λe6=>
   cond (s3==0) (
    some e6) (
    aa (jI N s2 e6) λr7=>
    aa (aBO N r7 32) λr8=>
    aa (uO N r8) λr9=>
    some r9)) λp5=>
   vP N a0 k p5 (I64 (s3+1))) (
   some s2)
def aAD(N:Nat)(a0:(List Int)):Option (Int):=
 aa (vP N a0 N 4294967296 0) λp1=>
 some p1
theorem aFd{N a0 r}(h:aAD N a0=some r):FnM Tryz.prog 99 [] [(eL 1 j64 a0)] (j64 r) []:=by
 unfold aAD at h;refine At.f bO hT hmo Tryz.func99 rfl h ?_;refine At.M 5 [] 0 (λp1=>([(3,(j64 p1))],[],[])) [6,7] 0 (CU2 (vP N a0)) (cu2 λ(s2:Int) (s3:Int)=>([(3,(j64 s2)),(8,(j64 s3))],[],[])) (_,_) N (λp1 k=>un2 λs2 s3=>?_) λp1=>?_
 ·refine lx ?_;intro x4;refine At.c 1 ?_ ?_
  ·refine At.J 0 2 [6,7,8] 0 (λp5=>([(3,(j64 p5))],[],[])) (λp5=>?_) λp5=>?_
   ·refine At.i hT 1 j64 λe6=>?_;refine At.c 5 ?_ ?_
    ·apply rt;exact At.jn 2
    ·refine At.y 2 mF λr7=>?_;refine At.y 0 aNn λr8=>?_;refine At.y 0 aEH λr9=>?_;apply rt;exact At.jn 1
   ·exact λh=>At.v 2 (_,_) h
  ·apply rt;exact At.x 0
 ·apply rt;exact At.r 2
def tP(N:Nat)(a0 a1:Int):Option (Int):=
 aa (aAD N ([a0,a1])) λr1=>
 some r1
theorem aBp{N a0 a1 r}(h:tP N a0 a1=some r):FnM Tryz.prog 140 [] [(j64 a0),(j64 a1)] (j64 r) []:=by
 unfold tP at h;refine At.f bO hT hmo Tryz.func140 rfl h ?_;refine At.o 3 (bH hT (x:=(.sl 1 2 [(j64 a0),(j64 a1)]))) ?_;refine At.y 0 aFd λr1=>?_;apply rt;exact At.r 1
def aFT : Nat->Bool:=imL [3,4]
def pM(N:Nat)(a0 a1:aA):Option (aA):=
 aa (tP N a0.gX a1.gX) λr1=>
 aa (tP N a0.gY a1.gY) λr2=>
 aa (tP N a0.gZ a1.gZ) λr3=>
 some (aA.mk r1 r2 r3)
theorem aEw{N a0 a1 r}(h:pM N a0 a1=some r):FnM Tryz.prog 93 [] [(aA.enc a0),(aA.enc a1),(.fn (.func 140) [] [])] (aA.enc r) []:=by
 unfold pM at h;refine At.f aFT hT hmo Tryz.func93 rfl h ?_;refine At.D 3 [] ?_;refine DD.y 5 aBp λr1=>?_;refine DD.y 5 aBp λr2=>?_;refine DD.y 5 aBp λr3=>?_;refine DD.e hT hmo 2 ?_;apply rt;exact At.r 0
def lM(N:Nat)(a0:(List aA)):Nat->aA->Int->Option (aA)
 | 0,_,_=>none
 | k+1,s2,s3=>
  aQ (decide (s3 < ((a0.length:Int)))) λx4=>
  cond x4 (
   aa (idx a0 s3) λe5=>
   aa (pM N s2 e5) λr6=>
   lM N a0 k r6 (I64 (s3+1))) (
   some s2)
def kA(N:Nat)(a0:(List aA)):Option (aA):=
 aa (lM N a0 N (aA.mk 4294967296 4294967296 4294967296) 0) λp1=>
 some p1
theorem sU{N a0 r}(h:kA N a0=some r):FnM Tryz.prog 91 [] [(eL 3 aA.enc a0)] (aA.enc r) []:=by
 unfold kA at h;refine At.f bO hT hmo Tryz.func91 rfl h ?_;refine At.M 7 [2,3] 2 (λp1=>([],[(1,.var (aA.enc p1))],[])) [2,3,7,8] 2 (CU2 (lM N a0)) (cu2 λ(s2:aA) (s3:Int)=>([(9,(j64 s3))],[(1,.var (aA.enc s2))],[])) (_,_) N (λp1 k=>un2 λs2 s3=>?_) λp1=>?_
 ·refine lx ?_;intro x4;refine At.c 1 ?_ ?_
  ·refine At.i hT 0 aA.enc λe5=>?_;refine At.y 5 aEw λr6=>?_;exact λh=>At.v 3 (_,_) h
  ·apply rt;exact At.x 0
 ·apply rt;exact At.r 2
def aNI : Nat->Bool:=imL [2]
def hK(N:Nat)(a0:aA)(a1:Int):Option (aA):=
 aa (kA N ([a0,aA.mk a1 a1 a1])) λr1=>
 some r1
theorem kN{N a0 a1 r}(h:hK N a0 a1=some r):FnM Tryz.prog 56 [] [(aA.enc a0),(j64 a1)] (aA.enc r) []:=by
 unfold hK at h;refine At.f aNI hT hmo Tryz.func56 rfl h ?_;refine At.o 7 (bH hT (x:=(.sl 3 2 [(aA.enc a0),(.st 3 [(j64 a1),(j64 a1),(j64 a1)])]))) ?_;refine At.y 0 sU λr1=>?_;apply rt;exact At.r 1
def aKT : Nat->Bool:=imL [6,11]
def xA(N:Nat)(a0:bQ)(a1 a2 a3 a4:Int)(a5:(Vector Int 2)):Option (aA×Int):=
 aa (vO N a0 a1 a2) λr1=>
 cond (r1 != 0) (
  some ((aA.mk 0 0 0,r1))) (
  aQ (cond (decide (a3 < 0)) true (decide (a3>=a1))) λx2=>
  aQ (cond x2 true (decide (a4 < 0))) λx3=>
  aQ (cond x3 true (decide (a4>=a2))) λx4=>
  cond x4 (
   some ((aA.mk 0 0 0,2))) (
   aQ (I64 ((I64 (2*a3)) - a1)) λx5=>
   aa (jE N x5) λr6=>
   aa (idx a5.toList 0) λe7=>
   aa (rE N e7) λr8=>
   aa (lB N ([r6,I64 (2*r8)])) λr9=>
   aa (jE N a1) λr10=>
   aa (jM N r9 r10) λr11=>
   aQ (I64 (a2 - (I64 (2*a4)))) λx12=>
   aa (jE N x12) λr13=>
   aa (idx a5.toList 1) λe14=>
   aa (rE N e14) λr15=>
   aa (wB N r13 (I64 (2*r15))) λr16=>
   aa (jE N a2) λr17=>
   aa (jM N r16 r17) λr18=>
   aa (qH N a0.gE2) λr19=>
   aa (qH N a0.gB3) λr20=>
   aa (hK N r20 r11) λr21=>
   aa (qH N a0.gUp) λr22=>
   aa (hK N r22 r18) λr23=>
   aa (mC N ([r19,r21,r23])) λr24=>
   some ((r24,0))))
theorem aJS{N a0 a1 a2 a3 a4 a5 r}(h:xA N a0 a1 a2 a3 a4 a5=some r):FnM Tryz.prog 81 [] [(bQ.enc a0),(j64 a1),(j64 a2),(j64 a3),(j64 a4),(eA 2 1 k32 a5)] (.tup [(aA.enc r.1),(j64 r.2)]) []:=by
 unfold xA at h;refine At.f aKT hT hmo Tryz.func81 rfl h ?_;refine At.y 7 aE5 λr1=>?_;refine At.c 3 ?_ ?_
 ·apply rt;exact At.r 4
 ·refine lx ?_;intro x2;refine lx ?_;intro x3;refine lx ?_;intro x4;refine At.c 16 ?_ ?_
  ·apply rt;exact At.r 3
  ·refine At.D 0 [] ?_;refine lx ?_;intro x5;refine DD.y 4 jP λr6=>?_;refine DD.b 0 (λe _=>dC hT (N:=2) (k:=1) k32 a5 e) λe7=>?_;refine DD.y 1 aBa λr8=>?_;refine DD.o 1 (λ_=>bH hT (x:=(.sl 1 2 [(j64 r6),(j64 (I64 (2*r8)))]))) ?_;refine DD.y 0 rB λr9=>?_;refine DD.y 1 jP λr10=>?_;refine DD.y 0 nD λr11=>?_;refine DD.e hT hmo 1 ?_;refine At.D 0 [] ?_;refine lx ?_;intro x12;refine DD.y 4 jP λr13=>?_;refine DD.b 0 (λe _=>dC hT (N:=2) (k:=1) k32 a5 e) λe14=>?_;refine DD.y 1 aBa λr15=>?_;refine DD.y 1 aBP λr16=>?_;refine DD.y 1 jP λr17=>?_;refine DD.y 0 nD λr18=>?_;refine DD.e hT hmo 1 ?_;refine At.D 0 [] ?_;refine DD.y 2 tN λr19=>?_;refine DD.y 2 tN λr20=>?_;refine DD.y 1 kN λr21=>?_;refine DD.y 2 tN λr22=>?_;refine DD.y 1 kN λr23=>?_;refine DD.o 0 (λ_=>bH hT (x:=(.sl 3 3 [(aA.enc r19),(aA.enc r21),(aA.enc r23)]))) ?_;refine DD.y 0 vC λr24=>?_;refine DD.e hT hmo 2 ?_;apply rt;exact At.r 0
def rN(N:Nat)(a0 a1:Int):Option (Int):=
 aQ (eP (jZ a1 0) 2147483648) λx1=>
 aQ (U64 ((U64 a0)*(U64 x1))) λx2=>
 some (I64 (shr .u64 x2 32))
theorem aDg{N a0 a1 r}(h:rN N a0 a1=some r):FnM Tryz.prog 123 [] [(k32 a0),(j64 a1)] (j64 r) []:=by
 unfold rN at h;refine At.f bO hT hmo Tryz.func123 rfl h ?_;refine lx ?_;intro x1;refine lx ?_;intro x2;apply rt;exact At.r 13
def oD(N:Nat)(a0:Int)(a1:bQ):Option (Int):=
 aQ (I64 ((I64 (2*a1.gC6))+1)) λx1=>
 aa (rN N a0 x1) λr2=>
 aa (jE N (I64 (r2 - a1.gC6))) λr3=>
 aa (jE N 16384) λr4=>
 aa (jM N r3 r4) λr5=>
 some r5
theorem aBf{N a0 a1 r}(h:oD N a0 a1=some r):FnM Tryz.prog 122 [] [(k32 a0),(.im (bQ.enc a1))] (j64 r) []:=by
 unfold oD at h;refine At.f bO hT hmo Tryz.func122 rfl h ?_;refine At.D 1 [] ?_;refine lx ?_;intro x1;refine DD.y 5 aDg λr2=>?_;refine DD.y 3 jP λr3=>?_;refine DD.y 0 jP λr4=>?_;refine DD.y 0 nD λr5=>?_;refine DD.e hT hmo 1 ?_;apply rt;exact At.r 0
def vJ(N:Nat)(a0:Int):Option (Int):=
 aQ (lE .i64 (shr .i64 a0 31) 1) λx1=>
 aQ (I64 ((shr .i64 a0 32)+x1)) λx2=>
 some x2
theorem aC0{N a0 r}(h:vJ N a0=some r):FnM Tryz.prog 124 [] [(j64 a0)] (j64 r) []:=by
 unfold vJ at h;refine At.f bO hT hmo Tryz.func124 rfl h ?_;refine lx ?_;intro x1;refine lx ?_;intro x2;apply rt;exact At.r 8
def aLe : Nat->Bool:=imL [2,3]
def zL(N:Nat)(a0:bQ)(a1:(Vector Int 4)):Option (aB):=
 aa (qH N a0.gB3) λr1=>
 aa (idx a1.toList 2) λe2=>
 aa (oD N e2 a0) λr3=>
 aa (hK N r1 r3) λr4=>
 aa (qH N a0.gUp) λr5=>
 aa (idx a1.toList 3) λe6=>
 aa (oD N e6 a0) λr7=>
 aa (hK N r5 r7) λr8=>
 aa (mC N ([r4,r8])) λr9=>
 aa (vJ N r9.gX) λr10=>
 aa (vJ N r9.gY) λr11=>
 aa (vJ N r9.gZ) λr12=>
 some (aB.mk r10 r11 r12)
theorem aKE{N a0 a1 r}(h:zL N a0 a1=some r):FnM Tryz.prog 82 [] [(bQ.enc a0),(eA 4 1 k32 a1)] (aB.enc r) []:=by
 unfold zL at h;refine At.f aLe hT hmo Tryz.func82 rfl h ?_;refine At.o 3 (qT (x:=(.fn (.func 122) [] [(.im (bQ.enc a0))])) (by kernel_rfl) (by kernel_rfl)) ?_;refine At.D 1 [] ?_;refine DD.y 2 tN λr1=>?_;refine DD.b 1 (λe _=>dC hT (N:=4) (k:=1) k32 a1 e) λe2=>?_;refine DD.y 1 aBf λr3=>?_;refine DD.y 0 kN λr4=>?_;refine DD.y 2 tN λr5=>?_;refine DD.b 1 (λe _=>dC hT (N:=4) (k:=1) k32 a1 e) λe6=>?_;refine DD.y 1 aBf λr7=>?_;refine DD.y 0 kN λr8=>?_;refine DD.o 0 (λ_=>bH hT (x:=(.sl 3 2 [(aA.enc r4),(aA.enc r8)]))) ?_;refine DD.y 0 vC λr9=>?_;refine DD.e hT hmo 2 ?_;refine At.D 0 [] ?_;refine DD.y 2 aC0 λr10=>?_;refine DD.y 2 aC0 λr11=>?_;refine DD.y 2 aC0 λr12=>?_;refine DD.e hT hmo 2 ?_;apply rt;exact At.r 0
def aJg : Nat->Bool:=imL [3,4]
def zK(N:Nat)(a0 a1:aA):Option (aA):=
 aa (wB N a0.gX a1.gX) λr1=>
 aa (wB N a0.gY a1.gY) λr2=>
 aa (wB N a0.gZ a1.gZ) λr3=>
 some (aA.mk r1 r2 r3)
theorem aHr{N a0 a1 r}(h:zK N a0 a1=some r):FnM Tryz.prog 93 [] [(aA.enc a0),(aA.enc a1),(.fn (.func 121) [] [])] (aA.enc r) []:=by
 unfold zK at h;refine At.f aJg hT hmo Tryz.func93 rfl h ?_;refine At.D 3 [] ?_;refine DD.y 5 aBP λr1=>?_;refine DD.y 5 aBP λr2=>?_;refine DD.y 5 aBP λr3=>?_;refine DD.e hT hmo 2 ?_;apply rt;exact At.r 0
def aQb : Nat->Bool:=imL [2,3]
def xY(N:Nat)(a0 a1:aA):Option (aA):=
 aa (zK N a0 a1) λr1=>
 some r1
theorem aC4{N a0 a1 r}(h:xY N a0 a1=some r):FnM Tryz.prog 83 [] [(aA.enc a0),(aA.enc a1)] (aA.enc r) []:=by
 unfold xY at h;refine At.f aQb hT hmo Tryz.func83 rfl h ?_;refine At.y 5 aHr λr1=>?_;apply rt;exact At.r 1
def vT(N:Nat)(a0:Int):Option (Int):=
 aa (wB N 0 a0) λr1=>
 some r1
theorem aDK{N a0 r}(h:vT N a0=some r):FnM Tryz.prog 183 [] [(j64 a0)] (j64 r) []:=by
 unfold vT at h;refine At.f bO hT hmo Tryz.func183 rfl h ?_;refine At.y 2 aBP λr1=>?_;apply rt;exact At.r 1
def aAK(N:Nat)(a0:Int):Option (Int):=
 aa (vT N a0) λr1=>
 some (jZ a0 r1)
theorem aFZ{N a0 r}(h:aAK N a0=some r):FnM Tryz.prog 174 [] [(j64 a0)] (j64 r) []:=by
 unfold aAK at h;refine At.f bO hT hmo Tryz.func174 rfl h ?_;refine At.y 3 aDK λr1=>?_;apply rt;exact At.r 2
def aN4 : Nat->Bool:=imL [1]
def aAC(N:Nat)(a0:aA):Option (Int):=
 aa (aAK N a0.gX) λr1=>
 aa (aAK N a0.gY) λr2=>
 aa (aAK N a0.gZ) λr3=>
 some (jZ (jZ r1 r2) r3)
theorem aHN{N a0 r}(h:aAC N a0=some r):FnM Tryz.prog 125 [] [(aA.enc a0)] (j64 r) []:=by
 unfold aAC at h;refine At.f aN4 hT hmo Tryz.func125 rfl h ?_;refine At.D 2 [] ?_;refine DD.y 2 aFZ λr1=>?_;refine DD.y 2 aFZ λr2=>?_;refine DD.y 2 aFZ λr3=>?_;refine DD.o 0 (λ_=>aBU (k := .i64) (i:=r1) (j:=r2) (l:=r3) (by kernel_rfl) (by kernel_rfl)) ?_;refine DD.e hT hmo 1 ?_;apply rt;exact At.r 0
def kI(N:Nat)(a0 a1 a2:Int):Option (Int):=
 cond (a2==0) (
  some 0) (
  aa (jI N a0 a1) λr1=>
  aa (rA N r1 a2) λr2=>
  aa (rD N r2.1) λr3=>
  cond r3.2 (
   some r3.1) (
   cond (decide (r2.1.gHi < 0)) (some (-9223372036854775808)) (some 9223372036854775807)))
theorem uU{N a0 a1 a2 r}(h:kI N a0 a1 a2=some r):FnM Tryz.prog 127 [] [(j64 a0),(j64 a1),(j64 a2)] (j64 r) []:=by
 unfold kI at h;refine At.f bO hT hmo Tryz.func127 rfl h ?_;refine At.c 3 ?_ ?_
 ·apply rt;exact At.r 1
 ·refine At.y 2 mF λr1=>?_;refine At.y 4 aCK λr2=>?_;refine At.y 9 aAd λr3=>?_;refine At.c 6 ?_ ?_
  ·apply rt;exact At.r 2
  ·refine At.c 3 ?_ ?_
   ·apply rt;exact At.r 1
   ·apply rt;exact At.r 1
def lR(N:Nat)(a0 a1:Int):Option (Int):=
 aa (kI N a0 16384 a1) λr1=>
 some (jZ r1 (-16384))
theorem xQ{N a0 a1 r}(h:lR N a0 a1=some r):FnM Tryz.prog 126 [] [(j64 a0),(.im (j64 a1))] (j64 r) []:=by
 unfold lR at h;refine At.f bO hT hmo Tryz.func126 rfl h ?_;refine At.y 3 uU λr1=>?_;apply rt;exact At.r 2
def aMV : Nat->Bool:=imL [1]
def vV(N:Nat)(a0:aA):Option (aB×Int):=
 aa (aAC N a0) λr1=>
 cond (r1==0) (
  some ((aB.mk 0 0 0,2))) (
  aa (lR N a0.gX r1) λr2=>
  aa (lR N a0.gY r1) λr3=>
  aa (lR N a0.gZ r1) λr4=>
  some ((aB.mk r2 r3 r4,0)))
theorem aE0{N a0 r}(h:vV N a0=some r):FnM Tryz.prog 85 [] [(aA.enc a0)] (.tup [(aB.enc r.1),(j64 r.2)]) []:=by
 unfold vV at h;refine At.f aMV hT hmo Tryz.func85 rfl h ?_;refine At.y 4 aHN λr1=>?_;refine At.c 4 ?_ ?_
 ·apply rt;exact At.r 3
 ·refine At.gz 0 1 ((j64 r1)) ?_;refine At.o 0 (qT (x:=(.fn (.func 126) [] [(.im (j64 r1))])) (by kernel_rfl) (by kernel_rfl)) ?_;refine At.D 1 [] ?_;refine DD.y 3 xQ λr2=>?_;refine DD.y 3 xQ λr3=>?_;refine DD.y 3 xQ λr4=>?_;refine DD.e hT hmo 3 ?_;apply rt;exact At.r 0
def aOs : Nat->Bool:=imL [6,11]
def xS(N:Nat)(a0:bQ)(a1 a2 a3 a4:Int)(a5:(Vector Int 4)):Option (aB×aB×Int):=
 aa (idx a5.toList 0) λe1=>
 aa (idx a5.toList 1) λe2=>
 aa (xA N a0 a1 a2 a3 a4 (#v[e1,e2])) λr3=>
 cond (r3.2 != 0) (
  some ((aB.mk 0 0 0,aB.mk 0 0 0,r3.2))) (
  aa (cond (decide (a0.gC6 > 0)) (
   aa (zL N a0 a5) λr5=>
   aQ (I64 (a0.gA6.gX+r5.gX)) λx6=>
   aQ (I64 (a0.gA6.gY+r5.gY)) λx7=>
   aQ (I64 (a0.gA6.gZ+r5.gZ)) λx8=>
   aa (jE N a0.gD1) λr9=>
   aa (jE N 16384) λr10=>
   aa (jM N r9 r10) λr11=>
   aa (hK N r3.1 r11) λr12=>
   aa (qH N r5) λr13=>
   aa (xY N r12 r13) λr14=>
   some ((aB.mk ((I64 (a0.gA6.gX+r5.gX))) ((I64 (a0.gA6.gY+r5.gY))) ((I64 (a0.gA6.gZ+r5.gZ))),r14))) (
   some ((a0.gA6,r3.1)))) λp4=>
  aa (vV N p4.2) λr15=>
  cond (r15.2 != 0) (
   some ((aB.mk 0 0 0,aB.mk 0 0 0,r15.2))) (
   some ((p4.1,r15.1,0))))
theorem aHo{N a0 a1 a2 a3 a4 a5 r}(h:xS N a0 a1 a2 a3 a4 a5=some r):FnM Tryz.prog 48 [] [(bQ.enc a0),(j64 a1),(j64 a2),(j64 a3),(j64 a4),(eA 4 1 k32 a5)] (.tup [(aB.enc r.1),(aB.enc r.2.1),(j64 r.2.2)]) []:=by
 unfold xS at h;refine At.f aOs hT hmo Tryz.func48 rfl h ?_;refine At.b 10 (λ_ e=>dC hT (N:=4) (k:=1) k32 a5 e) λe1=>?_;refine At.b 1 (λ_ e=>dC hT (N:=4) (k:=1) k32 a5 e) λe2=>?_;refine At.y 2 aJS λr3=>?_;refine At.c 8 ?_ ?_
 ·refine At.D 0 [] ?_;refine DD.e hT hmo 6 ?_;apply rt;exact At.r 0
 ·refine At.J 3 1 [12,13,15] 3 (λp4=>([],[(0,.var (aB.enc p4.1)),(2,.var (aA.enc p4.2))],[])) (λp4=>?_) λp4=>?_
  ·refine At.c 3 ?_ ?_
   ·refine At.y 2 aKE λr5=>?_;refine lx ?_;intro x6;refine lx ?_;intro x7;refine lx ?_;intro x8;refine At.D 19 [] ?_;refine DD.y 3 jP λr9=>?_;refine DD.y 0 jP λr10=>?_;refine DD.y 0 nD λr11=>?_;refine DD.y 0 kN λr12=>?_;refine DD.y 1 tN λr13=>?_;refine DD.y 0 aC4 λr14=>?_;refine DD.e hT hmo 1 ?_;apply rt;exact At.jn 0
   ·apply rt;exact At.jn 0
  ·refine At.y 1 aE0 λr15=>?_;refine At.c 7 ?_ ?_
   ·apply rt;exact At.r 6
   ·refine At.D 0 [] ?_;refine DD.e hT hmo 5 ?_;apply rt;exact At.r 0
def jH(N:Nat)(a0:aL):Option (Bool):=
 some (!a0.gA)
theorem tV{N a0 r}(h:jH N a0=some r):FnM Tryz.prog 234 [.var (aL.enc a0)] [(.ref 0 [] 0)] (eB r) [.var (aL.enc a0)]:=by
 unfold jH at h;refine At.f bO hT hmo Tryz.func234 rfl h ?_;refine At.o 2 (nI hT (t:=112) (x:=(.ref 0 [] 0)) (b:=true) (by kernel_rfl) rfl rfl (by kernel_rfl)) ?_;refine At.g [5] 8 ?_;apply rt;exact At.r 0
def qO(N:Nat)(a0:aL):Option (Unit):=
 some (())
theorem aDq{N a0 r}(h:qO N a0=some r):FnM Tryz.prog 233 [.var (aL.enc a0)] [(.ref 0 [0] 0)] (.tup []) [.var (.st 3 [(.st 1 [(j64 (I64 (a0.gD8.gn+1)))]),(eB a0.gA),(eL 19 aJ.enc a0.gl)])]:=by
 unfold qO at h;refine At.f bO hT hmo Tryz.func233 rfl h ?_;apply rt;exact At.z 8
def aNe : Nat->Bool:=imL [1]
def yJ(N:Nat)(a0:aB):Option (Bool):=
 aa (sN N a0 65536) λr1=>
 some (!r1)
theorem aMF{N a0 r}(h:yJ N a0=some r):FnM Tryz.prog 238 [] [(aB.enc a0)] (eB r) []:=by
 unfold yJ at h;refine At.f aNe hT hmo Tryz.func238 rfl h ?_;refine At.y 3 aCW λr1=>?_;apply rt;exact At.r 2
def cW(N:Nat)(a0:(List aB)):Nat->Int->Option (Sum (Unit) (Int))
 | 0,_=>none
 | k+1,s2=>
  aQ (decide (s2 < ((a0.length:Int)))) λx3=>
  cond x3 (
   aa (idx a0 s2) λe4=>
   aa (yJ N e4) λr5=>
   cond r5 (
    some (Sum.inr s2)) (
    cW N a0 k (I64 (s2+1)))) (
   some (Sum.inl (())))
def dJ(N:Nat)(a0:(List aB)):Option (Int):=
 aa (cW N a0 N 0) λo=>jY o (λp1=>
  some (-1)) (λr=>some r)
theorem rJ{N a0 r}(h:dJ N a0=some r):FnM Tryz.prog 241 [] [(eL 3 aB.enc a0),(.fn (.func 238) [] [])] (j64 r) []:=by
 unfold dJ at h;refine At.f bO hT hmo Tryz.func241 rfl h ?_;refine At.MS 4 [] 0 (λp1=>([],[],[])) [0,1,7] 0 (cW N a0) (λ(s2:Int)=>([(8,(j64 s2))],[],[])) _ N (λop1 g1 k s2=>?_) λp1=>?_
 ·refine lx ?_;intro x3;refine At.c 1 ?_ ?_
  ·refine At.i hT 5 aB.enc λe4=>?_;refine At.y 1 aMF λr5=>?_;refine At.c 0 ?_ ?_
   ·intro e;apply aBq g1 e;exact At.r 2
   ·exact λh=>At.v 2 _ h
  ·apply rt;exact At.xs 0
 ·apply rt;exact At.r 1
def cB(N:Nat)(a0:(List aB)):Option (Bool):=
 aa (dJ N a0) λr1=>
 some (decide (r1>=0))
theorem pR{N a0 r}(h:cB N a0=some r):FnM Tryz.prog 239 [] [(eL 3 aB.enc a0),(.fn (.func 238) [] [])] (eB r) []:=by
 unfold cB at h;refine At.f bO hT hmo Tryz.func239 rfl h ?_;refine At.y 3 rJ λr1=>?_;apply rt;exact At.r 2
def aQr : Nat->Bool:=imL [2,3]
def sD(N:Nat)(a0 a1:aB):Option (aB):=
 some (aB.mk (I64 (a0.gX - a1.gX)) (I64 (a0.gY - a1.gY)) (I64 (a0.gZ - a1.gZ)))
theorem uJ{N a0 a1 r}(h:sD N a0 a1=some r):FnM Tryz.prog 130 [] [(aB.enc a0),(aB.enc a1)] (aB.enc r) []:=by
 unfold sD at h;refine At.f aQr hT hmo Tryz.func130 rfl h ?_;apply rt;exact At.r 20
def aNc : Nat->Bool:=imL [2,3]
def uC(N:Nat)(a0 a1:aB):Option (aB):=
 aQ (I64 ((I64 (a0.gY*a1.gZ)) - (I64 (a0.gZ*a1.gY)))) λx1=>
 aQ (I64 ((I64 (a0.gZ*a1.gX)) - (I64 (a0.gX*a1.gZ)))) λx2=>
 aQ (I64 ((I64 (a0.gX*a1.gY)) - (I64 (a0.gY*a1.gX)))) λx3=>
 some (aB.mk ((I64 ((I64 (a0.gY*a1.gZ)) - (I64 (a0.gZ*a1.gY))))) ((I64 ((I64 (a0.gZ*a1.gX)) - (I64 (a0.gX*a1.gZ))))) ((I64 ((I64 (a0.gX*a1.gY)) - (I64 (a0.gY*a1.gX))))))
theorem aBG{N a0 a1 r}(h:uC N a0 a1=some r):FnM Tryz.prog 129 [] [(aB.enc a0),(aB.enc a1)] (aB.enc r) []:=by
 unfold uC at h;refine At.f aNc hT hmo Tryz.func129 rfl h ?_;refine lx ?_;intro x1;refine lx ?_;intro x2;refine lx ?_;intro x3;apply rt;exact At.r 38
def aQz : Nat->Bool:=imL [2,3]
def yH(N:Nat)(a0 a1:aB):Option (Int):=
 aQ (I64 ((I64 (a0.gX*a1.gX))+(I64 (a0.gY*a1.gY)))) λx1=>
 aQ (I64 (x1+(I64 (a0.gZ*a1.gZ)))) λx2=>
 some x2
theorem aBj{N a0 a1 r}(h:yH N a0 a1=some r):FnM Tryz.prog 240 [] [(aB.enc a0),(aB.enc a1)] (j64 r) []:=by
 unfold yH at h;refine At.f aQz hT hmo Tryz.func240 rfl h ?_;refine lx ?_;intro x1;refine lx ?_;intro x2;apply rt;exact At.r 21
def aRG : Nat->Bool:=imL [3,4,5]
def aBM(N:Nat)(a0 a1:aB)(a2:(Vector aB 3)):Option (aR×Bool):=
 aa (aa (vX N a0 a1) λr2=>
 cond (!r2) (
  some true) (
  aa (yN a2.toList 0 3) λs3=>
  aa (cB N s3) λr4=>
  some r4)) λp1=>
 cond p1 (
  some ((aR.mk 0 0 0 0,false))) (
  aa (idx a2.toList 1) λe5=>
  aa (idx a2.toList 0) λe6=>
  aa (sD N e5 e6) λr7=>
  aa (idx a2.toList 2) λe8=>
  aa (idx a2.toList 0) λe9=>
  aa (sD N e8 e9) λr10=>
  aa (uC N a1 r10) λr11=>
  aa (idx a2.toList 0) λe12=>
  aa (sD N a0 e12) λr13=>
  aa (uC N r13 r7) λr14=>
  aa (yH N r10 r14) λr15=>
  aa (yH N r7 r11) λr16=>
  aa (yH N r13 r11) λr17=>
  aa (yH N a1 r14) λr18=>
  aa (cond (decide (r16 < 0)) (
   some (aR.mk (I64 (0 - r15)) (I64 (0 - r16)) (I64 (0 - r17)) (I64 (0 - r18)))) (
   some (aR.mk r15 r16 r17 r18))) λp19=>
  aQ (cond (p19.gB9==0) true (decide (p19.gU < 0))) λx20=>
  aQ (cond x20 true (decide (p19.gV < 0))) λx21=>
  aQ (decide ((I64 (p19.gU+p19.gV)) > p19.gB9)) λx22=>
  aQ (cond (cond x21 true x22) true (decide (p19.gC3<=0))) λx23=>
  cond x23 (some ((aR.mk 0 0 0 0,false))) (some ((p19,true))))
theorem aJI{N a0 a1 a2 r}(h:aBM N a0 a1 a2=some r):FnM Tryz.prog 237 [] [(aB.enc a0),(aB.enc a1),(eA 9 3 aB.enc a2)] (.tup [(aR.enc r.1),(eB r.2)]) []:=by
 unfold aBM at h;refine At.f aRG hT hmo Tryz.func237 rfl h ?_;refine At.J 6 0 [3,4,5,6] 1 (λp1=>([(22,(eB p1))],[],[])) (λp1=>?_) λp1=>?_
 ·refine At.y 2 aBW λr2=>?_;refine At.s 18 2 ?_ ?_
  ·refine At.g [18] 4 ?_;apply rt;exact At.jn 0
  ·refine At.b 0 (λ_ e=>aCN hT (N:=9) (k:=3) aB.enc a2 e) λs3=>?_;refine At.g [18] 1 ?_;refine At.y 0 pR λr4=>?_;refine At.g [18] 1 ?_;apply rt;exact At.jn 0
 ·refine At.c 0 ?_ ?_
  ·apply rt;exact At.r 3
  ·refine At.D 0 [false,false] ?_;refine DD.b 0 (λe _=>dC hT (N:=9) (k:=3) aB.enc a2 e) λe5=>?_;refine DD.b 1 (λe _=>dC hT (N:=9) (k:=3) aB.enc a2 e) λe6=>?_;refine DD.y 1 uJ λr7=>?_;refine DD.b 0 (λe _=>dC hT (N:=9) (k:=3) aB.enc a2 e) λe8=>?_;refine DD.b 1 (λe _=>dC hT (N:=9) (k:=3) aB.enc a2 e) λe9=>?_;refine DD.y 1 uJ λr10=>?_;refine DD.e hT hmo 4 ?_;refine At.y 2 aBG λr11=>?_;refine At.b 3 (λ_ e=>dC hT (N:=9) (k:=3) aB.enc a2 e) λe12=>?_;refine At.y 1 uJ λr13=>?_;refine At.y 4 aBG λr14=>?_;refine At.D 2 [] ?_;refine DD.y 2 aBj λr15=>?_;refine DD.y 2 aBj λr16=>?_;refine DD.y 2 aBj λr17=>?_;refine DD.y 2 aBj λr18=>?_;refine DD.e hT hmo 2 ?_;refine At.J 0 1 [6] 6 (λp19=>([],[(0,.var (aR.enc p19))],[])) (λp19=>?_) λp19=>?_
   ·refine At.c 3 ?_ ?_
    ·apply rt;exact At.jn 14
    ·apply rt;exact At.jn 0
   ·refine lx ?_;intro x20;refine lx ?_;intro x21;refine lx ?_;intro x22;refine lx ?_;intro x23;refine At.c 28 ?_ ?_
    ·apply rt;exact At.r 3
    ·apply rt;exact At.r 3
end Go.UK
