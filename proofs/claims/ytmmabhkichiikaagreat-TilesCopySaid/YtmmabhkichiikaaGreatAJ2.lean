/- A part of the proof: what the functions of the program compute. -/
import Derived.Test.YtmmabhkichiikaaGreatAJ1
open Int renaming tdiv→d6,tmod→eg,toNat→bg
open List renaming length_map→ak,map→aj,map_eq_nil_iff→ct
open Option renaming bind→aa
namespace Go.UK
open Go Go.Proofs
set_option maxRecDepth 20000
set_option maxHeartbeats 40000000
set_option linter.all false
attribute [local irreducible] adv aHR aGn zS brPt aPs aJK pS aBy aPX dG wG fV aDn aNG aLd lPt cX opD wZ aCq aLC stD dCl dEn dH DD aQ owp awl aw FnM aJX opS Stab TOK Big
def aBV : Nat->Bool:=imL [7,8]
def eF(N:Nat)(a0 a1:aB)(a2 a3 a4:Int)(a5:aL):Option (aR×Bool):=
 aa (qO N a5) λr1=>
 aa (idx a5.gl a4) λe2=>
 aa (aBM N a0 a1 e2.gP) λr3=>
 aa (cond r3.2 (
  aa (idx a5.gl a4) λe5=>
  aQ ((lE .u8 e5.gD4 a2) != 0) λx6=>
  cond x6 (
   some (a4 != a3)) (
   some false)) (
  some false)) λp4=>
 some ((r3.1,p4))
theorem tZ{N a0 a1 a2 a3 a4 a5 r}(h:eF N a0 a1 a2 a3 a4 a5=some r):FnM Tryz.prog 235 [.var (aL.enc a5)] [(.ref 0 [] 0),(aB.enc a0),(aB.enc a1),(k8 a2),(j64 a3),(j64 a4)] (.tup [(aR.enc r.1),(eB r.2)]) [.var (.st 3 [(.st 1 [(j64 (I64 (a5.gD8.gn+1)))]),(eB a5.gA),(eL 19 aJ.enc a5.gl)])]:=by
 unfold eF at h;refine At.f aBV hT hmo Tryz.func235 rfl h ?_;refine At.Y 7 [0] aDq λr1=>?_;refine At.D 0 [] ?_;refine DD.i hT 7 aJ.enc λe2=>?_;refine DD.y 2 aJI λr3=>?_;refine DD.e hT hmo 6 ?_;refine At.J 0 0 [12] 3 (λp4=>([(13,(eB p4))],[(1,.var (aR.enc r3.1))],[])) (λp4=>?_) λp4=>?_
 ·refine At.D 0 [] ?_;refine DD.s hT 3 ?_ ?_
  ·refine DD.i hT 5 aJ.enc λe5=>?_;refine lx ?_;intro x6;refine DD.s hT 7 ?_ ?_
   ·refine DD.e hT hmo 6 ?_;apply rt;exact At.jn 0
   ·refine DD.e hT hmo 6 ?_;apply rt;exact At.jn 0
  ·refine DD.e hT hmo 19 ?_;apply rt;exact At.jn 0
 ·apply rt;exact At.r 0
def aOZ : Nat->Bool:=imL [2,3]
def uW(N:Nat)(a0 a1:aT):Option (Int):=
 cond (aT.eq a0 a1) (
  some 0) (
  aa (aQ (decide (a0.gHi < a1.gHi)) λx2=>
  cond x2 (
   some x2) (
   aQ (decide (a0.gLo < a1.gLo)) λx3=>
   aQ (cond (a0.gHi==a1.gHi) x3 false) λx4=>
   some x4)) λp1=>
  cond p1 (some (-1)) (some 1))
theorem aCB{N a0 a1 r}(h:uW N a0 a1=some r):FnM Tryz.prog 197 [] [(aT.enc a0),(aT.enc a1)] (j64 r) []:=by
 unfold uW at h;refine At.f aOZ hT hmo Tryz.func197 rfl h ?_;refine At.o 5 (aBF aUD (a0:aT) (a1:aT) (by kernel_rfl) (by kernel_rfl) (λ_=>rfl) (λ_=>rfl) (by kernel_rfl) (by kernel_rfl)) ?_;refine At.c 1 ?_ ?_
 ·apply rt;exact At.r 1
 ·refine At.J 0 1 [] 0 (λp1=>([(9,(eB p1))],[],[])) (λp1=>?_) λp1=>?_
  ·refine lx ?_;intro x2;refine At.c 6 ?_ ?_
   ·apply rt;exact At.jn 0
   ·refine lx ?_;intro x3;refine lx ?_;intro x4;apply rt;exact At.jn 13
  ·refine At.c 0 ?_ ?_
   ·apply rt;exact At.r 1
   ·apply rt;exact At.r 1
def aOP : Nat->Bool:=imL [2,3]
def xU(N:Nat)(a0 a1:aR):Option (Bool):=
 aQ (cond (decide (a0.gB9 < 1)) true (decide (a1.gB9 < 1))) λx1=>
 cond x1 (
  some false) (
  aa (jI N a0.gC3 a1.gB9) λr2=>
  aa (jI N a1.gC3 a0.gB9) λr3=>
  aa (uW N r2 r3) λr4=>
  some (decide (r4 < 0)))
theorem aD4{N a0 a1 r}(h:xU N a0 a1=some r):FnM Tryz.prog 236 [] [(aR.enc a0),(aR.enc a1)] (eB r) []:=by
 unfold xU at h;refine At.f aOP hT hmo Tryz.func236 rfl h ?_;refine lx ?_;intro x1;refine At.c 11 ?_ ?_
 ·apply rt;exact At.r 1
 ·refine At.D 0 [] ?_;refine DD.y 4 mF λr2=>?_;refine DD.y 4 mF λr3=>?_;refine DD.y 0 aCB λr4=>?_;refine DD.e hT hmo 2 ?_;apply rt;exact At.r 0
def aBE : Nat->Bool:=imL [6,7]
def dZ(N:Nat)(a4:aL)(a0 a1:aB)(a2 a3:Int):Nat->aL->aR->Int->Int->Option (aL×aR×Int)
 | 0,_,_,_,_=>none
 | k+1,s3,s4,s5,s6=>
  aQ (decide (s6 < ((a4.gl.length:Int)))) λx7=>
  cond x7 (
   aa (aa (eF N a0 a1 a2 a3 s6 s3) λr9=>
   aa (cond (decide (s5 < 0)) (
    some true) (
    aa (xU N r9.1 s4) λr11=>
    some r11)) λp10=>
   cond (cond r9.2 p10 false) (some ((r9.1,r9.1,s6))) (some ((s4,r9.1,s5)))) λp8=>
   dZ N a4 a0 a1 a2 a3 k (aL.mk (jJ.mk (I64 (s3.gD8.gn+1))) s3.gA s3.gl) p8.1 p8.2.2 (I64 (s6+1))) (
   some ((s3,s4,s5)))
def iW(N:Nat)(a0 a1:aB)(a2 a3:Int)(a4:aL):Option (aL×Int×aR):=
 aa (jH N a4) λr1=>
 cond r1 (
  some ((a4,-1,aR.mk 0 0 0 0))) (
  aa (dZ N a4 a0 a1 a2 a3 N a4 (aR.mk 0 0 0 0) (-1) 0) λp2=>
  some ((p2.1,p2.2.2,p2.2.1)))
theorem aAn{N a0 a1 a2 a3 a4 r}(h:iW N a0 a1 a2 a3 a4=some r):FnM Tryz.prog 231 [.var (aL.enc a4)] [(.ref 0 [] 0),(aB.enc a0),(aB.enc a1),(k8 a2),(j64 a3)] (.tup [(j64 r.2.1),(aR.enc r.2.2)]) [.var (aL.enc r.1)]:=by
 unfold iW at h;refine At.f aBE hT hmo Tryz.func231 rfl h ?_;refine At.Y 6 [0] tV λr1=>?_;refine At.c 0 ?_ ?_
 ·refine At.D 0 [] ?_;refine DD.e hT hmo 4 ?_;apply rt;exact At.r 0
 ·refine At.M 6 [11] 2 (λp2=>([(10,(j64 p2.2.2))],[(0,.var (aL.enc p2.1)),(1,.var (aR.enc p2.2.1))],[])) [0,3,4,6,7,11,24] 2 (CU4 (dZ N a4 a0 a1 a2 a3)) (cu4 λ(s3:aL) (s4:aR) (s5:Int) (s6:Int)=>([(10,(j64 s5)),(25,(j64 s6))],[(0,.var (aL.enc s3)),(1,.var (aR.enc s4))],[])) (_,_,_,_) N (λp2 k=>un4 λs3 s4 s5 s6=>?_) λp2=>?_
  ·refine lx ?_;intro x7;refine At.c 1 ?_ ?_
   ·refine At.J 0 2 [0,3,4,6,7,11,24,25] 2 (λp8=>([(10,(j64 p8.2.2))],[(0,.var (.st 3 [(.st 1 [(j64 (I64 (s3.gD8.gn+1)))]),(eB s3.gA),(eL 19 aJ.enc s3.gl)])),(1,.var (aR.enc p8.1))],[.var (aR.enc p8.2.1)])) (λp8=>?_) λp8=>?_
    ·refine At.Y 8 [0] tZ λr9=>?_;refine At.J 6 0 [0,3,4,6,7,10,11,12,13,14,24,25] 3 (λp10=>([(15,(eB p10))],[],[])) (λp10=>?_) λp10=>?_
     ·refine At.s 40 3 ?_ ?_
      ·refine At.g [40] 5 ?_;apply rt;exact At.jn 0
      ·refine At.g [40] 2 ?_;refine At.y 0 aD4 λr11=>?_;refine At.g [40] 2 ?_;apply rt;exact At.jn 0
     ·refine At.c 4 ?_ ?_
      ·refine At.D 0 [] ?_;refine DD.e hT hmo 4 ?_;apply rt;exact At.jn 0
      ·apply rt;exact At.jn 0
    ·exact λh=>At.v 2 (_,_,_,_) h
   ·apply rt;exact At.x 0
  ·refine At.D 0 [] ?_;refine DD.e hT hmo 4 ?_;apply rt;exact At.r 0
def pJ(N:Nat)(a0:Int):Option (Int):=
 aQ (eP (jZ a0 (-1073741824)) 1073741824) λx1=>
 some x1
theorem aAh{N a0 r}(h:pJ N a0=some r):FnM Tryz.prog 175 [] [(j64 a0)] (j64 r) []:=by
 unfold pJ at h;refine At.f bO hT hmo Tryz.func175 rfl h ?_;refine lx ?_;intro x1;apply rt;exact At.r 5
def aNX : Nat->Bool:=imL [1]
def rT(N:Nat)(a0:aT):Nat->Int->Int->Option (Int)
 | 0,_,_=>none
 | k+1,s2,s3=>
  cond (decide (s3 < 64)) (
   aa (aa (aLm .u64 1 (I64 (63 - s3))) λx5=>
   aa (lT N (bor .u64 s2 x5) (bor .u64 s2 x5)) λr6=>
   aa (aQ (decide (r6.1 < (U64 a0.gHi))) λx8=>
   cond x8 (
    some ((bor .u64 s2 x5,true))) (
    aQ (cond (r6.1==(U64 a0.gHi)) (decide (r6.2<=a0.gLo)) false) λx9=>
    some ((bor .u64 s2 x5,x9)))) λp7=>
   cond p7.2 (some p7.1) (some s2)) λp4=>
   rT N a0 k p4 (I64 (s3+1))) (
   some s2)
def vE(N:Nat)(a0:aT):Option (Int):=
 cond (decide (a0.gHi < 0)) (
  some 0) (
  aa (rT N a0 N 0 0) λp1=>
  some p1)
theorem aF2{N a0 r}(h:vE N a0=some r):FnM Tryz.prog 152 [] [(aT.enc a0)] (k64 r) []:=by
 unfold vE at h;refine At.f aNX hT hmo Tryz.func152 rfl h ?_;refine At.c 5 ?_ ?_
 ·apply rt;exact At.r 1
 ·refine At.M 2 [] 0 (λp1=>([(3,(k64 p1))],[],[])) [1] 0 (CU2 (rT N a0)) (cu2 λ(s2:Int) (s3:Int)=>([(3,(k64 s2)),(11,(j64 s3))],[],[])) (_,_) N (λp1 k=>un2 λs2 s3=>?_) λp1=>?_
  ·refine At.c 1 ?_ ?_
   ·refine At.J 0 2 [1,11] 0 (λp4=>([(3,(k64 p4))],[],[])) (λp4=>?_) λp4=>?_
    ·refine At.b 5 (λ_ e=>aEk hT (k' := .i64) e (by kernel_rfl) (by kernel_rfl)) λx5=>?_;refine At.y 4 aBc λr6=>?_;refine At.J 5 0 [1,3,11] 0 (λp7=>([(5,(k64 p7.1)),(42,(eB p7.2))],[],[])) (λp7=>?_) λp7=>?_
     ·refine lx ?_;intro x8;refine At.s 30 6 ?_ ?_
      ·refine At.g [30,36] 12 ?_;apply rt;exact At.jn 0
      ·refine lx ?_;intro x9;refine At.g [30] 12 ?_;apply rt;exact At.jn 0
     ·refine At.c 0 ?_ ?_
      ·apply rt;exact At.jn 2
      ·apply rt;exact At.jn 0
    ·exact λh=>At.v 2 (_,_) h
   ·apply rt;exact At.x 0
  ·apply rt;exact At.r 2
def lY(N:Nat)(a0 a1:Int):Option (Int):=
 aa (rA N (aT.mk a0 0) a1) λr1=>
 aa (rD N r1.1) λr2=>
 some r2.1
theorem xT{N a0 a1 r}(h:lY N a0 a1=some r):FnM Tryz.prog 176 [] [(j64 a0),(.im (j64 a1))] (j64 r) []:=by
 unfold lY at h;refine At.f bO hT hmo Tryz.func176 rfl h ?_;refine At.y 4 aCK λr1=>?_;refine At.y 9 aAd λr2=>?_;apply rt;exact At.r 7
def aLJ : Nat->Bool:=imL [1]
def iX(N:Nat)(a0:aB):Option (aA):=
 aa (pJ N a0.gX) λr1=>
 aa (pJ N a0.gY) λr2=>
 aa (pJ N a0.gZ) λr3=>
 aQ (I64 ((I64 (r1*r1))+(I64 (r2*r2)))) λx4=>
 aQ (I64 (x4+(I64 (r3*r3)))) λx5=>
 aa (vE N (aT.mk x5 0)) λr6=>
 cond ((I64 r6)==0) (
  some (aA.mk 0 0 0)) (
  aa (lY N r1 (I64 r6)) λr7=>
  aa (lY N r2 (I64 r6)) λr8=>
  aa (lY N r3 (I64 r6)) λr9=>
  some (aA.mk r7 r8 r9))
theorem nH{N a0 r}(h:iX N a0=some r):FnM Tryz.prog 128 [] [(aB.enc a0)] (aA.enc r) []:=by
 unfold iX at h;refine At.f aLJ hT hmo Tryz.func128 rfl h ?_;refine At.D 3 [] ?_;refine DD.y 3 aAh λr1=>?_;refine DD.y 3 aAh λr2=>?_;refine DD.y 3 aAh λr3=>?_;refine DD.e hT hmo 3 ?_;refine lx ?_;intro x4;refine lx ?_;intro x5;refine At.y 12 aF2 λr6=>?_;refine At.c 5 ?_ ?_
 ·apply rt;exact At.r 2
 ·refine At.gz 0 1 ((j64 (I64 r6))) ?_;refine At.o 0 (qT (x:=(.fn (.func 176) [] [(.im (j64 (I64 r6)))])) (by kernel_rfl) (by kernel_rfl)) ?_;refine At.y 3 xT λr7=>?_;refine At.y 2 xT λr8=>?_;refine At.y 2 xT λr9=>?_;apply rt;exact At.r 2
def tE(N:Nat)(a0:(List aT)):Nat->aT->Int->Option (Sum (aT) (aT×Bool))
 | 0,_,_=>none
 | k+1,s2,s3=>
  aQ (decide (s3 < ((a0.length:Int)))) λx4=>
  cond x4 (
   aa (idx a0 s3) λe5=>
   aa (aBC s2.gLo e5.gLo 0) λr6=>
   aa (aBC (U64 s2.gHi) (U64 e5.gHi) r6.2) λr7=>
   aQ ((decide (s2.gHi < 0))==(decide (e5.gHi < 0))) λx8=>
   aQ (decide ((I64 r7.1) < 0)) λx9=>
   aQ (!(x9==(decide (e5.gHi < 0)))) λx10=>
   cond (cond x8 x10 false) (
    some (Sum.inr ((aT.mk 0 0,false)))) (
    tE N a0 k (aT.mk (I64 r7.1) r6.1) (I64 (s3+1)))) (
   some (Sum.inl s2))
def xO(N:Nat)(a0:(List aT)):Option (aT×Bool):=
 aa (tE N a0 N (aT.mk 0 0) 0) λo=>jY o (λp1=>
  some ((p1,true))) (λr=>some r)
theorem aDt{N a0 r}(h:xO N a0=some r):FnM Tryz.prog 151 [] [(eL 2 aT.enc a0)] (.tup [(aT.enc r.1),(eB r.2)]) []:=by
 unfold xO at h;refine At.f bO hT hmo Tryz.func151 rfl h ?_;refine At.MS 5 [2] 1 (λp1=>([],[(0,.var (aT.enc p1))],[])) [2,11,12] 1 (CU2 (tE N a0)) (cu2 λ(s2:aT) (s3:Int)=>([(13,(j64 s3))],[(0,.var (aT.enc s2))],[])) (_,_) N (λop1 g1 k=>un2 λs2 s3=>?_) λp1=>?_
 ·refine lx ?_;intro x4;refine At.c 1 ?_ ?_
  ·refine At.i hT 0 aT.enc λe5=>?_;refine At.b 7 (λ_ e=>aGb (aL3 e) (λ_=>aFq)) λr6=>?_;refine At.b 12 (λ_ e=>aGb (aL3 e) (λ_=>aFq)) λr7=>?_;refine lx ?_;intro x8;refine lx ?_;intro x9;refine lx ?_;intro x10;refine At.c 23 ?_ ?_
   ·intro e;apply aBq g1 e;exact At.r 3
   ·exact λh=>At.v 6 (_,_) h
  ·apply rt;exact At.xs 0
 ·apply rt;exact At.r 3
def aAB(N:Nat)(a0 a1:Int):Option (Int):=
 aa (vR N a0) λr1=>
 aa (vR N a1) λr2=>
 aa (xO N ([r1,r2])) λr3=>
 aa (vR N (-65536)) λr4=>
 aa (vR N 65536) λr5=>
 aa (uW N r3.1 r4) λr6=>
 cond (decide (r6 < 0)) (
  some (-65536)) (
  aa (uW N r3.1 r5) λr7=>
  cond (decide (r7 > 0)) (
   some 65536) (
   aa (rD N r3.1) λr8=>
   some r8.1))
theorem aHn{N a0 a1 r}(h:aAB N a0 a1=some r):FnM Tryz.prog 178 [] [(j64 a0),(j64 a1)] (j64 r) []:=by
 unfold aAB at h;refine At.f bO hT hmo Tryz.func178 rfl h ?_;refine At.y 2 aBo λr1=>?_;refine At.y 1 aBo λr2=>?_;refine At.o 0 (bH hT (x:=(.sl 2 2 [(aT.enc r1),(aT.enc r2)]))) ?_;refine At.y 0 aDt λr3=>?_;refine At.y 6 aBo λr4=>?_;refine At.y 0 aBo λr5=>?_;refine At.y 6 aCB λr6=>?_;refine At.c 2 ?_ ?_
 ·apply rt;exact At.r 1
 ·refine At.y 2 aCB λr7=>?_;refine At.c 2 ?_ ?_
  ·apply rt;exact At.r 1
  ·refine At.y 1 aAd λr8=>?_;apply rt;exact At.r 7
def lZ(N:Nat)(a0 a1:Int)(a2:aR):Option (Int):=
 cond (decide (a2.gB9 < 1)) (
  aa (aAB N a0 0) λr1=>
  some r1) (
  aa (kI N a1 a2.gC3 a2.gB9) λr2=>
  aa (aAB N a0 r2) λr3=>
  some r3)
theorem xP{N a0 a1 a2 r}(h:lZ N a0 a1 a2=some r):FnM Tryz.prog 177 [] [(j64 a0),(j64 a1),(.im (aR.enc a2))] (j64 r) []:=by
 unfold lZ at h;refine At.f bO hT hmo Tryz.func177 rfl h ?_;refine At.c 4 ?_ ?_
 ·refine At.y 1 aHn λr1=>?_;apply rt;exact At.r 1
 ·refine At.y 6 uU λr2=>?_;refine At.y 0 aHn λr3=>?_;apply rt;exact At.r 1
def aN1 : Nat->Bool:=imL [3,4,5]
def uZ(N:Nat)(a0 a1:aB)(a2:aR):Option (aB):=
 aa (lZ N a0.gX a1.gX a2) λr1=>
 aa (lZ N a0.gY a1.gY a2) λr2=>
 aa (lZ N a0.gZ a1.gZ a2) λr3=>
 some (aB.mk r1 r2 r3)
theorem aFs{N a0 a1 a2 r}(h:uZ N a0 a1 a2=some r):FnM Tryz.prog 131 [] [(aB.enc a0),(aB.enc a1),(aR.enc a2)] (aB.enc r) []:=by
 unfold uZ at h;refine At.f aN1 hT hmo Tryz.func131 rfl h ?_;refine At.o 4 (qT (x:=(.fn (.func 177) [] [(.im (aR.enc a2))])) (by kernel_rfl) (by kernel_rfl)) ?_;refine At.D 1 [] ?_;refine DD.y 5 xP λr1=>?_;refine DD.y 5 xP λr2=>?_;refine DD.y 5 xP λr3=>?_;refine DD.e hT hmo 2 ?_;apply rt;exact At.r 0
def aQo : Nat->Bool:=imL [2,3]
def tK(N:Nat)(a0 a1:aA):Option (Int):=
 aa (kA N ([a0,a1])) λr1=>
 aa (lB N ([r1.gX,r1.gY,r1.gZ])) λr2=>
 some r2
theorem zV{N a0 a1 r}(h:tK N a0 a1=some r):FnM Tryz.prog 138 [] [(aA.enc a0),(aA.enc a1)] (j64 r) []:=by
 unfold tK at h;refine At.f aQo hT hmo Tryz.func138 rfl h ?_;refine At.o 5 (bH hT (x:=(.sl 3 2 [(aA.enc a0),(aA.enc a1)]))) ?_;refine At.y 0 sU λr1=>?_;refine At.o 8 (bH hT (x:=(.sl 1 3 [(j64 r1.gX),(j64 r1.gY),(j64 r1.gZ)]))) ?_;refine At.y 0 rB λr2=>?_;apply rt;exact At.r 1
def aHA : Nat->Bool:=imL [2,3]
def nC(N:Nat)(a0:aA)(a1:aB):Option (aA):=
 aa (iX N a1) λr1=>
 aa (tK N a0 r1) λr2=>
 cond (decide (r2<=0)) (
  some a0) (
  aa (hK N a0 (-4294967296)) λr3=>
  some r3)
theorem aCE{N a0 a1 r}(h:nC N a0 a1=some r):FnM Tryz.prog 132 [] [(aA.enc a0),(aB.enc a1)] (aA.enc r) []:=by
 unfold nC at h;refine At.f aHA hT hmo Tryz.func132 rfl h ?_;refine At.D 3 [] ?_;refine DD.y 2 nH λr1=>?_;refine DD.y 0 zV λr2=>?_;refine DD.e hT hmo 1 ?_;refine At.c 0 ?_ ?_
 ·apply rt;exact At.r 2
 ·refine At.y 1 kN λr3=>?_;apply rt;exact At.r 1
def zJ(N:Nat)(a0:(List aC))(a1:Int):Option (aC×Bool):=
 aQ (((a0.length:Int))==0) λx1=>
 cond x1 (
  some ((aC.mk 0 [],false))) (
  aQ (I64 (((a0.length:Int)) - 1)) λx2=>
  aa (idx a0 (eP (jZ a1 0) x2)) λe3=>
  some ((e3,true)))
theorem aKD{N a0 a1 r}(h:zJ N a0 a1=some r):FnM Tryz.prog 179 [] [(eL 2 aC.enc a0),(j64 a1)] (.tup [(aC.enc r.1),(eB r.2)]) []:=by
 unfold zJ at h;refine At.f bO hT hmo Tryz.func179 rfl h ?_;refine lx ?_;intro x1;refine At.c 5 ?_ ?_
 ·apply rt;exact At.r 3
 ·refine lx ?_;intro x2;refine At.i hT 7 aC.enc λe3=>?_;apply rt;exact At.r 3
def nE(N:Nat)(a0:Int)(a1:aR)(a2:(Vector (Vector Int 2) 3)):Option (Int):=
 aQ (I64 ((I64 (a1.gB9 - a1.gU)) - a1.gV)) λx1=>
 aa (idx a2.toList 0) λe2=>
 aa (idx e2.toList a0) λe3=>
 aa (jI N x1 e3) λr4=>
 aa (idx a2.toList 1) λe5=>
 aa (idx e5.toList a0) λe6=>
 aa (jI N a1.gU e6) λr7=>
 aa (idx a2.toList 2) λe8=>
 aa (idx e8.toList a0) λe9=>
 aa (jI N a1.gV e9) λr10=>
 aa (xO N ([r4,r7,r10])) λr11=>
 cond (!r11.2) (
  some 0) (
  aa (rA N r11.1 a1.gB9) λr12=>
  aa (rD N r12.1) λr13=>
  aQ (cond (!r13.2) (decide (r12.1.gHi < 0)) false) λx14=>
  cond x14 (
   some (-2147483648)) (
   cond (!r13.2) (
    some 2147483647) (
    aQ (jZ r13.1 (-2147483648)) λx15=>
    some (eP x15 2147483647))))
theorem aAw{N a0 a1 a2 r}(h:nE N a0 a1 a2=some r):FnM Tryz.prog 198 [] [(j64 a0),(.im (aR.enc a1)),(.im (eA 6 2 (eA 2 1 j64) a2))] (j64 r) []:=by
 unfold nE at h;refine At.f bO hT hmo Tryz.func198 rfl h ?_;refine lx ?_;intro x1;refine At.D 10 [] ?_;refine DD.b 2 (λe _=>dC hT (N:=6) (k:=2) (eA 2 1 j64) a2 e) λe2=>?_;refine DD.b 0 (λe _=>dC hT (N:=2) (k:=1) j64 e2 e) λe3=>?_;refine DD.y 1 mF λr4=>?_;refine DD.b 3 (λe _=>dC hT (N:=6) (k:=2) (eA 2 1 j64) a2 e) λe5=>?_;refine DD.b 0 (λe _=>dC hT (N:=2) (k:=1) j64 e5 e) λe6=>?_;refine DD.y 1 mF λr7=>?_;refine DD.b 3 (λe _=>dC hT (N:=6) (k:=2) (eA 2 1 j64) a2 e) λe8=>?_;refine DD.b 0 (λe _=>dC hT (N:=2) (k:=1) j64 e8 e) λe9=>?_;refine DD.y 1 mF λr10=>?_;refine DD.o 0 (λ_=>bH hT (x:=(.sl 2 3 [(aT.enc r4),(aT.enc r7),(aT.enc r10)]))) ?_;refine DD.y 0 aDt λr11=>?_;refine DD.e hT hmo 6 ?_;refine At.c 2 ?_ ?_
 ·apply rt;exact At.r 1
 ·refine At.y 3 aCK λr12=>?_;refine At.y 9 aAd λr13=>?_;refine lx ?_;intro x14;refine At.c 13 ?_ ?_
  ·apply rt;exact At.r 1
  ·refine At.c 3 ?_ ?_
   ·apply rt;exact At.r 1
   ·refine lx ?_;intro x15;apply rt;exact At.r 4
def aL7 : Nat->Bool:=imL [2,3]
def zI(N:Nat)(a0:aR)(a1:(Vector (Vector Int 2) 3)):Option (Int×Int):=
 aa (cond (decide (a0.gB9 < 1)) (
  some true) (
  aQ (decide ((jZ (jZ (jZ a0.gC3 a0.gB9) a0.gU) a0.gV) > 1152921504606846976)) λx2=>
  cond x2 (
   some true) (
   aQ (decide ((eP (eP a0.gC3 a0.gU) a0.gV) < (-1152921504606846976))) λx3=>
   some x3))) λp1=>
 cond p1 (
  some ((0,0))) (
  aa (nE N 0 a0 a1) λr4=>
  aa (nE N 1 a0 a1) λr5=>
  some ((r4,r5)))
theorem aJ8{N a0 a1 r}(h:zI N a0 a1=some r):FnM Tryz.prog 180 [] [(aR.enc a0),(eA 6 2 (eA 2 1 j64) a1)] (.tup [(j64 r.1),(j64 r.2)]) []:=by
 unfold zI at h;refine At.f aL7 hT hmo Tryz.func180 rfl h ?_;refine At.J 4 0 [2,3] 0 (λp1=>([(31,(eB p1))],[],[])) (λp1=>?_) λp1=>?_
 ·refine At.s 10 4 ?_ ?_
  ·refine At.g [10,22] 21 ?_;apply rt;exact At.jn 0
  ·refine At.g [10] 8 ?_;refine At.o 0 (aSs (k := .i64) (i:=a0.gC3) (j:=a0.gB9) (l:=a0.gU) (m:=a0.gV) (by kernel_rfl) (by kernel_rfl)) ?_;refine lx ?_;intro x2;refine At.g [10] 3 ?_;refine At.s 22 0 ?_ ?_
   ·refine At.g [22] 9 ?_;apply rt;exact At.jn 0
   ·refine At.g [22] 6 ?_;refine At.o 0 (aBt (k := .i64) (i:=a0.gC3) (j:=a0.gU) (l:=a0.gV) (by kernel_rfl) (by kernel_rfl)) ?_;refine lx ?_;intro x3;refine At.g [22] 2 ?_;apply rt;exact At.jn 0
 ·refine At.c 0 ?_ ?_
  ·apply rt;exact At.r 2
  ·refine At.o 0 (qT (x:=(.fn (.func 198) [] [(.im (aR.enc a0)),(.im (eA 6 2 (eA 2 1 j64) a1))])) (by kernel_rfl) (by kernel_rfl)) ?_;refine At.y 2 aAw λr4=>?_;refine At.y 1 aAw λr5=>?_;apply rt;exact At.r 2
def aMg : Nat->Bool:=imL [3]
def yR(N:Nat)(a0:aC)(a1 a2:Int):Option ((Vector Int 3)×Int):=
 aa (kP N a0) λr1=>
 cond (r1 != 0) (
  some ((#v[0,0,0],r1))) (
  aa (oY N a0 a1 a2) λr2=>
  some ((r2,0)))
theorem aKR{N a0 a1 a2 r}(h:yR N a0 a1 a2=some r):FnM Tryz.prog 200 [] [(aC.enc a0),(j64 a1),(j64 a2)] (.tup [(eA 3 1 j64 r.1),(j64 r.2)]) []:=by
 unfold yR at h;refine At.f aMg hT hmo Tryz.func200 rfl h ?_;refine At.y 4 vM λr1=>?_;refine At.c 3 ?_ ?_
 ·apply rt;exact At.r 4
 ·refine At.y 3 wR λr2=>?_;apply rt;exact At.r 2
def fF(N:Nat)(a0 a1:Int)(a2:aC)(a3 a4:Int):Option ((Vector Int 3)):=
 aQ (I64 ((shr .i64 a3 16)+a0)) λx1=>
 aQ (I64 ((shr .i64 a4 16)+a1)) λx2=>
 aa (yR N a2 x1 x2) λr3=>
 some r3.1
theorem oC{N a0 a1 a2 a3 a4 r}(h:fF N a0 a1 a2 a3 a4=some r):FnM Tryz.prog 199 [] [(j64 a0),(j64 a1),(.im (aC.enc a2)),(.im (j64 a3)),(.im (j64 a4))] (eA 3 1 j64 r) []:=by
 unfold fF at h;refine At.f bO hT hmo Tryz.func199 rfl h ?_;refine lx ?_;intro x1;refine lx ?_;intro x2;refine At.y 10 aKR λr3=>?_;apply rt;exact At.r 8
def aJt : Nat->Bool:=imL [3]
def nY(N:Nat)(e20:(Vector Int 3))(s19 x4 x5:Int):Nat->(Vector Int 3)->Int->Option ((Vector Int 3))
 | 0,_,_=>none
 | k+1,s22,s23=>
  cond (decide (s23 < 3)) (
   aa (eY s23 3) λ_=>
   aa (s22.toList[s23.toNat]?) λe25=>
   aa (eY s23 3) λ_=>
   aa (e20.toList[s23.toNat]?) λe27=>
   aa (eY s19 4) λ_=>
   aa ((#v[I64 ((I64 (65536 - (lE .i64 x4 65535)))*(I64 (65536 - (lE .i64 x5 65535)))),(I64 ((lE .i64 x4 65535)*(I64 (65536 - (lE .i64 x5 65535))))),(I64 ((I64 (65536 - (lE .i64 x4 65535)))*(lE .i64 x5 65535))),(I64 ((lE .i64 x4 65535)*(lE .i64 x5 65535)))]).toList[s19.toNat]?) λe29=>
   aQ (I64 (e25+(I64 (e27*e29)))) λx30=>
   aa (eY s23 3) λ_=>
   aa (s22.toList[s23.toNat]?) λe32=>
   nY N e20 s19 x4 x5 k (s22.setIfInBounds s23.toNat x30) (I64 (s23+1))) (
   some s22)
def oA(N:Nat)(r13 r14 r15 r16:(Vector Int 3))(x4 x5:Int):Nat->(Vector Int 3)->Int->Option ((Vector Int 3))
 | 0,_,_=>none
 | k+1,s18,s19=>
  cond (decide (s19 < 4)) (
   aa (idx (#v[r13,r14,r15,r16]).toList s19) λe20=>
   aa (nY N e20 s19 x4 x5 N s18 0) λp21=>
   oA N r13 r14 r15 r16 x4 x5 k p21 (I64 (s19+1))) (
   some s18)
def uM(N:Nat)(a0:aC)(a1 a2:Int):Option (aA×Int):=
 aa (kP N a0) λr1=>
 cond (r1 != 0) (
  some ((aA.mk 0 0 0,r1))) (
  aQ (decide ((eP a1 a2) < 0)) λx2=>
  aQ (decide ((jZ a1 a2) > 65535)) λx3=>
  cond (cond x2 true x3) (
   some ((aA.mk 0 0 0,2))) (
   aQ (I64 ((I64 (a1*a0.gF)) - 32768)) λx4=>
   aQ (I64 ((I64 (a2*a0.gF)) - 32768)) λx5=>
   aQ (I64 (65536 - (lE .i64 x4 65535))) λx6=>
   aQ (I64 (65536 - (lE .i64 x5 65535))) λx7=>
   aQ (I64 (65536 - (lE .i64 x5 65535))) λx8=>
   aQ (I64 ((lE .i64 x4 65535)*x8)) λx9=>
   aQ (I64 (65536 - (lE .i64 x4 65535))) λx10=>
   aQ (I64 (x10*(lE .i64 x5 65535))) λx11=>
   aQ (I64 ((lE .i64 x4 65535)*(lE .i64 x5 65535))) λx12=>
   aa (fF N 0 0 a0 x4 x5) λr13=>
   aa (fF N 1 0 a0 x4 x5) λr14=>
   aa (fF N 0 1 a0 x4 x5) λr15=>
   aa (fF N 1 1 a0 x4 x5) λr16=>
   aa (oA N r13 r14 r15 r16 x4 x5 N (#v[0,0,0]) 0) λp17=>
   aa (eY 0 3) λ_=>
   aa (p17.toList[(bg 0)]?) λe34=>
   aa (eY 1 3) λ_=>
   aa (p17.toList[(bg 1)]?) λe36=>
   aa (eY 2 3) λ_=>
   aa (p17.toList[(bg 2)]?) λe38=>
   some ((aA.mk (I64 (d6 e34 255)) (I64 (d6 e36 255)) (I64 (d6 e38 255)),0))))
theorem aHt{N a0 a1 a2 r}(h:uM N a0 a1 a2=some r):FnM Tryz.prog 181 [] [(aC.enc a0),(j64 a1),(j64 a2)] (.tup [(aA.enc r.1),(j64 r.2)]) []:=by
 unfold uM at h;refine At.f aJt hT hmo Tryz.func181 rfl h ?_;refine At.y 4 vM λr1=>?_;refine At.c 3 ?_ ?_
 ·apply rt;exact At.r 4
 ·refine lx ?_;intro x2;refine lx ?_;intro x3;refine At.c 10 ?_ ?_
  ·apply rt;exact At.r 3
  ·refine At.D 0 [false,false] ?_;refine lx ?_;intro x4;refine lx ?_;intro x5;refine DD.e hT hmo 14 ?_;refine At.D 0 [] ?_;refine DD.e hT hmo 6 ?_;refine At.gz 0 1 ((j64 x4)) ?_;refine At.gz 0 2 ((j64 x5)) ?_;refine At.o 0 (qT (x:=(.fn (.func 199) [] [(.im (aC.enc a0)),(.im (j64 x4)),(.im (j64 x5))])) (by kernel_rfl) (by kernel_rfl)) ?_;refine lx ?_;intro x6;refine lx ?_;intro x7;refine lx ?_;intro x8;refine lx ?_;intro x9;refine lx ?_;intro x10;refine lx ?_;intro x11;refine lx ?_;intro x12;refine At.y 21 oC λr13=>?_;refine At.y 1 oC λr14=>?_;refine At.y 1 oC λr15=>?_;refine At.y 1 oC λr16=>?_;refine At.M 6 [6,16] 6 (λp17=>([],[(5,.var (eA 3 1 j64 p17))],[])) [6,14,16,78] 6 (CU2 (oA N r13 r14 r15 r16 x4 x5)) (cu2 λ(s18:(Vector Int 3)) (s19:Int)=>([(79,(j64 s19))],[(5,.var (eA 3 1 j64 s18))],[])) (_,_) N (λp17 k=>un2 λs18 s19=>?_) λp17=>?_
   ·refine At.c 1 ?_ ?_
    ·refine At.b 1 (λ_ e=>aA2 hT (eA 3 1 j64) (#v[r13,r14,r15,r16]) e (by kernel_rfl) (by kernel_rfl)) λe20=>?_;refine At.M 4 [6,14,16,78,79] 7 (λp21=>([],[(5,.var (eA 3 1 j64 p21))],[])) [6,14,16,17,18,78,79] 7 (CU2 (nY N e20 s19 x4 x5)) (cu2 λ(s22:(Vector Int 3)) (s23:Int)=>([(83,(j64 s23))],[(5,.var (eA 3 1 j64 s22))],[])) (_,_) N (λp21 k=>un2 λs22 s23=>?_) λp21=>?_
     ·refine At.c 1 ?_ ?_
      ·refine At.D 2 [] ?_;refine DD.b 1 (λe _=>bF hT (k:=1) 5 [] 0 e) λu24=>?_;refine DD.l hT 0 j64 j64 0 λe25=>?_;refine DD.b 1 (λe _=>bF hT (k:=1) 6 [] 0 e) λu26=>?_;refine DD.l hT 0 j64 j64 0 λe27=>?_;refine DD.b 1 (λe _=>bF hT (k:=1) 3 [] 0 e) λu28=>?_;refine DD.l hT 0 j64 j64 0 λe29=>?_;refine lx ?_;intro x30;refine DD.b 2 (λe _=>bF hT (k:=1) 5 [] 0 e) λu31=>?_;refine bi λe32 he32=>?_;refine DD.w 0 (.v (.bool false)) ⟨[(5,.var (eA 3 1 j64 (s22.setIfInBounds s23.toNat x30)))],[]⟩ (λ_ e=>pP hT j64 0 s22 he32 x30 (pj1 e) (pj1 (pj2 e)) (pj2 (pj2 e))) ?_;refine DD.e hT hmo 0 ?_;exact λh=>At.v 2 (_,_) h
      ·apply rt;exact At.x 0
     ·exact λh=>At.v 2 (_,_) h
    ·apply rt;exact At.x 0
   ·refine At.b 0 (λ_ e=>bF hT (k:=1) 5 [] 0 e) λu33=>?_;refine At.b 0 (λ_ e=>qG hT j64 0 e) λe34=>?_;refine At.b 1 (λ_ e=>bF hT (k:=1) 5 [] 0 e) λu35=>?_;refine At.b 0 (λ_ e=>qG hT j64 0 e) λe36=>?_;refine At.b 1 (λ_ e=>bF hT (k:=1) 5 [] 0 e) λu37=>?_;refine At.b 0 (λ_ e=>qG hT j64 0 e) λe38=>?_;apply rt;exact At.r 4
def aH5 : Nat->Bool:=imL [5,7,8]
def oJ(N:Nat)(a0:(Vector Int 3))(a1:(List aC))(a2:(Vector (Vector Int 2) 3))(a3:aR)(a4:Int):Option (aA):=
 aa (tQ N a0 65535) λr1=>
 aa (zJ N a1 a4) λr2=>
 cond (!r2.2) (
  some r1) (
  aa (zI N a3 a2) λr3=>
  aQ (eP (jZ r3.1 0) 65535) λx4=>
  aQ (eP (jZ r3.2 0) 65535) λx5=>
  aa (uM N r2.1 x4 x5) λr6=>
  cond (r6.2 != 0) (
   some r1) (
   aa (kA N ([r1,r6.1])) λr7=>
   some r7))
theorem aCl{N a0 a1 a2 a3 a4 r}(h:oJ N a0 a1 a2 a3 a4=some r):FnM Tryz.prog 133 [] [(eA 3 1 j64 a0),(eL 2 aC.enc a1),(eA 6 2 (eA 2 1 j64) a2),(aR.enc a3),(j64 a4)] (aA.enc r) []:=by
 unfold oJ at h;refine At.f aH5 hT hmo Tryz.func133 rfl h ?_;refine At.y 5 aEG λr1=>?_;refine At.y 4 aKD λr2=>?_;refine At.c 8 ?_ ?_
 ·apply rt;exact At.r 2
 ·refine At.y 2 aJ8 λr3=>?_;refine lx ?_;intro x4;refine lx ?_;intro x5;refine At.y 12 aHt λr6=>?_;refine At.c 8 ?_ ?_
  ·apply rt;exact At.r 2
  ·refine At.o 2 (bH hT (x:=(.sl 3 2 [(aA.enc r1),(aA.enc r6.1)]))) ?_;refine At.y 0 sU λr7=>?_;apply rt;exact At.r 1
def pI(N:Nat)(a0:Int):Option (aT):=
 aa (jI N a0 a0) λr1=>
 some r1
theorem aAo{N a0 r}(h:pI N a0=some r):FnM Tryz.prog 150 [] [(j64 a0)] (aT.enc r) []:=by
 unfold pI at h;refine At.f bO hT hmo Tryz.func150 rfl h ?_;refine At.y 3 mF λr1=>?_;apply rt;exact At.r 1
def aLu : Nat->Bool:=imL [1]
def qP(N:Nat)(a0:aA):Option (Int):=
 aa (pI N a0.gX) λr1=>
 aa (pI N a0.gY) λr2=>
 aa (pI N a0.gZ) λr3=>
 aa (xO N ([r1,r2,r3])) λr4=>
 cond (!r4.2) (
  some 9223372036854775807) (
  aa (vE N r4.1) λr5=>
  aQ (eP r5 9223372036854775807) λx6=>
  some (I64 x6))
theorem aCb{N a0 r}(h:qP N a0=some r):FnM Tryz.prog 100 [] [(aA.enc a0)] (j64 r) []:=by
 unfold qP at h;refine At.f aLu hT hmo Tryz.func100 rfl h ?_;refine At.D 3 [] ?_;refine DD.y 3 aAo λr1=>?_;refine DD.y 3 aAo λr2=>?_;refine DD.y 3 aAo λr3=>?_;refine DD.o 0 (λ_=>bH hT (x:=(.sl 2 3 [(aT.enc r1),(aT.enc r2),(aT.enc r3)]))) ?_;refine DD.y 0 aDt λr4=>?_;refine DD.e hT hmo 6 ?_;refine At.c 2 ?_ ?_
 ·apply rt;exact At.r 1
 ·refine At.y 1 aF2 λr5=>?_;refine lx ?_;intro x6;apply rt;exact At.r 3
def mQ(N:Nat)(b4:(List (List aC)))(a1:aN)(a2 a3:aA)(a4:Int)(a5:Bool)(a6:aG)(a7:aE)(a8:aF)(a9:aA)(a10:aH)(a11:aD)(a12:aL):Option (aG×Int×aL×bC×Bool):=
 aa (cond (a4==0) (some 9) (some 4)) λp1=>
 aa (iW N a1.go a1.gd p1 a1.gE8 a12) λr2=>
 aa (cond a8.gA4 (some (I64 (a10.gN+4))) (some a10.gN)) λp3=>
 cond (decide (r2.2.1 < 0)) (
  some ((a6,p3,r2.1,bC.mk 0 (aB.mk 0 0 0) (aA.mk 0 0 0) (aA.mk 0 0 0) (aO.mk 0 (#v[0,0,0]) 0) false,false))) (
  aa (idx a7.gQ r2.2.1) λe4=>
  aa (eY 1 3) λ_=>
  aa (e4.gP.toList[(bg 1)]?) λe6=>
  aa (eY 0 3) λ_=>
  aa (e4.gP.toList[(bg 0)]?) λe8=>
  aa (sD N e6 e8) λr9=>
  aa (eY 2 3) λ_=>
  aa (e4.gP.toList[(bg 2)]?) λe11=>
  aa (eY 0 3) λ_=>
  aa (e4.gP.toList[(bg 0)]?) λe13=>
  aa (sD N e11 e13) λr14=>
  aa (uC N r9 r14) λr15=>
  aa (iX N r15) λr16=>
  aa (aa (uZ N a1.go a1.gd r2.2.2) λr18=>
  aa (nC N r16 a1.gd) λr19=>
  aa (idx a7.gB0 e4.gC5) λe20=>
  cond (a4==0) (
   aQ ((lE .u8 e4.gD4 8) != 0) λx21=>
   some (bC.mk r2.2.1 r18 r19 (aA.mk 0 0 0) e20 x21)) (
   some (bC.mk r2.2.1 r18 r19 (aA.mk 0 0 0) e20 false))) λp17=>
  aa (cond (decide (e4.gB7>=0)) (
   aa (idx b4 e4.gB7) λe23=>
   cond (!a8.gA4) (some ((I64 (p3+4),e23))) (some ((p3,e23)))) (
   some ((p3,[])))) λp22=>
  aa (oJ N p17.gB2.gA7 p22.2 e4.gUv r2.2.2 a4) λr24=>
  aa (aQ (cond (a4==0) (!a5) false) λx26=>
  cond x26 (
   aa (qH N p17.gat) λr27=>
   aa (qH N a1.go) λr28=>
   aa (xY N r27 r28) λr29=>
   aa (qP N r29) λr30=>
   cond p17.gC0 (
    some (aG.mk (aA.mk 0 0 0) 0 r30 p17.gn e4.gA2)) (
    some (aG.mk (aA.mk 0 0 0) 1 r30 p17.gn e4.gA2))) (
   some a6)) λp25=>
  some ((p25,p22.1,r2.1,bC.mk p17.gi p17.gat p17.gn r24 p17.gB2 p17.gC0,true)))
theorem aC9{N b4 a1 a2 a3 a4 a5 a6 a7 a8 a9 a10 a11 a12 r}(h:mQ N b4 a1 a2 a3 a4 a5 a6 a7 a8 a9 a10 a11 a12=some r):FnM Tryz.prog 86 [.var (.st 26 [(aN.enc a1),(.ref 1 [] 0),(.ref 2 [] 0),(aA.enc a2),(aA.enc a3),(j64 a4),(eB a5),(aG.enc a6)]),.var (.st 38 [(aE.enc a7),(aF.enc a8),(.ifc 112 (.ref 3 [] 0)),(eO 4 1 (eL 2 aC.enc) b4),(aA.enc a9),(aH.enc a10)]),.var (aD.enc a11),.var (aL.enc a12),.tail (b4.length*1)] [(.ref 0 [] 0)] (.tup [(bC.enc r.2.2.2.1),(eB r.2.2.2.2)]) [.var (.st 26 [(aN.enc a1),(.ref 1 [] 0),(.ref 2 [] 0),(aA.enc a2),(aA.enc a3),(j64 a4),(eB a5),(aG.enc r.1)]),.var (.st 38 [(aE.enc a7),(aF.enc a8),(.ifc 112 (.ref 3 [] 0)),(eO 4 1 (eL 2 aC.enc) b4),(aA.enc a9),(.st 3 [(j64 a10.gL),(j64 r.2.1),(j64 (I64 (a10.gI+1)))])]),.var (aD.enc a11),.var (aL.enc r.2.2.1),.tail (b4.length*1)]:=by
 unfold mQ at h;refine At.f bO hT hmo Tryz.func86 rfl h ?_;refine At.J 3 1 [0,2] 6 (λp1=>([(4,(k8 p1))],[],[])) (λp1=>?_) λp1=>?_
 ·refine At.c 5 ?_ ?_
  ·apply rt;exact At.jn 1
  ·apply rt;exact At.jn 0
 ·refine At.D 0 [] ?_;refine DD.Y 25 [3] aAn λr2=>?_;refine DD.e hT hmo 6 ?_;refine At.J 13 1 [0,2,5,6] 7 (λp3=>([],[(1,.var (.st 38 [(aE.enc a7),(aF.enc a8),(.ifc 112 (.ref 3 [] 0)),(eO 4 1 (eL 2 aC.enc) b4),(aA.enc a9),(.st 3 [(j64 a10.gL),(j64 p3),(j64 (I64 (a10.gI+1)))])]))],[])) (λp3=>?_) λp3=>?_
  ·refine At.c 8 ?_ ?_
   ·apply rt;exact At.jn 13
   ·apply rt;exact At.jn 0
  ·refine At.c 2 ?_ ?_
   ·apply rt;exact At.r 3
   ·refine At.i hT 9 aJ.enc λe4=>?_;refine At.D 3 [] ?_;refine DD.b 1 (λe _=>bF hT (k:=3) 7 [0] 0 e) λu5=>?_;refine DD.l hT 0 aB.enc aB.enc 1 λe6=>?_;refine DD.b 1 (λe _=>bF hT (k:=3) 7 [0] 0 e) λu7=>?_;refine DD.l hT 0 aB.enc aB.enc 1 λe8=>?_;refine DD.y 0 uJ λr9=>?_;refine DD.b 1 (λe _=>bF hT (k:=3) 7 [0] 0 e) λu10=>?_;refine DD.l hT 0 aB.enc aB.enc 1 λe11=>?_;refine DD.b 1 (λe _=>bF hT (k:=3) 7 [0] 0 e) λu12=>?_;refine DD.l hT 0 aB.enc aB.enc 1 λe13=>?_;refine DD.y 0 uJ λr14=>?_;refine DD.y 0 aBG λr15=>?_;refine DD.y 0 nH λr16=>?_;refine DD.e hT hmo 2 ?_;refine At.J 0 0 [0,2,6,7] 9 (λp17=>([],[(5,.var (bC.enc p17))],[])) (λp17=>?_) λp17=>?_
    ·refine At.D 0 [] ?_;refine DD.y 12 aFs λr18=>?_;refine DD.y 6 aCE λr19=>?_;refine DD.i hT 10 aO.enc λe20=>?_;refine DD.s hT 7 ?_ ?_
     ·refine lx ?_;intro x21;refine DD.e hT hmo 7 ?_;apply rt;exact At.jn 0
     ·refine DD.e hT hmo 7 ?_;apply rt;exact At.jn 0
    ·refine At.J 1 1 [0,2,6,7] 9 (λp22=>([(9,(eL 2 aC.enc p22.2))],[(1,.var (.st 38 [(aE.enc a7),(aF.enc a8),(.ifc 112 (.ref 3 [] 0)),(eO 4 1 (eL 2 aC.enc) b4),(aA.enc a9),(.st 3 [(j64 a10.gL),(j64 p22.1),(j64 (I64 (a10.gI+1)))])]))],[])) (λp22=>?_) λp22=>?_
     ·refine At.c 3 ?_ ?_
      ·refine At.D 0 [] ?_;refine DD.i hT 9 (eL 2 aC.enc) λe23=>?_;refine DD.e hT hmo 2 ?_;refine At.c 9 ?_ ?_
       ·apply rt;exact At.jn 13
       ·apply rt;exact At.jn 0
      ·apply rt;exact At.jn 0
     ·refine At.D 0 [] ?_;refine DD.y 11 aCl λr24=>?_;refine DD.e hT hmo 2 ?_;refine At.J 0 1 [2] 9 (λp25=>([],[(0,.var (.st 26 [(aN.enc a1),(.ref 1 [] 0),(.ref 2 [] 0),(aA.enc a2),(aA.enc a3),(j64 a4),(eB a5),(aG.enc p25)]))],[])) (λp25=>?_) λp25=>?_
      ·refine lx ?_;intro x26;refine At.c 12 ?_ ?_
       ·refine At.D 0 [] ?_;refine DD.y 3 tN λr27=>?_;refine DD.y 5 tN λr28=>?_;refine DD.y 0 aC4 λr29=>?_;refine DD.y 0 aCb λr30=>?_;refine DD.e hT hmo 8 ?_;refine At.c 2 ?_ ?_
        ·apply rt;exact At.jn 5
        ·apply rt;exact At.jn 0
       ·apply rt;exact At.jn 0
      ·apply rt;exact At.r 3
def iQ(N:Nat)(b4:(List (List aC)))(a1:(List aA))(a2:aN)(a3 a4:aA)(a5:Int)(a6:Bool)(a7:aG)(a8:aE)(a9:aF)(a10:aA)(a11:aH)(a12:aD)(a13:aL):Option (aA):=
 cond (!a6) (
  aa (tU 24 (([a3]:List aA)) a1) λz1=>
  aa (kA N z1) λr2=>
  aa (mC N ([a4,r2])) λr3=>
  some r3) (
  some a4)
theorem sM{N b4 a1 a2 a3 a4 a5 a6 a7 a8 a9 a10 a11 a12 a13 r}(h:iQ N b4 a1 a2 a3 a4 a5 a6 a7 a8 a9 a10 a11 a12 a13=some r):FnM Tryz.prog 87 [.var (.st 26 [(aN.enc a2),(.ref 1 [] 0),(.ref 2 [] 0),(aA.enc a3),(aA.enc a4),(j64 a5),(eB a6),(aG.enc a7)]),.var (.st 38 [(aE.enc a8),(aF.enc a9),(.ifc 112 (.ref 3 [] 0)),(eO 4 1 (eL 2 aC.enc) b4),(aA.enc a10),(aH.enc a11)]),.var (aD.enc a12),.var (aL.enc a13),.tail (b4.length*1)] [(.ref 0 [] 0),(eL 3 aA.enc a1)] (.tup []) [.var (.st 26 [(aN.enc a2),(.ref 1 [] 0),(.ref 2 [] 0),(aA.enc a3),(aA.enc r),(j64 a5),(eB a6),(aG.enc a7)]),.var (.st 38 [(aE.enc a8),(aF.enc a9),(.ifc 112 (.ref 3 [] 0)),(eO 4 1 (eL 2 aC.enc) b4),(aA.enc a10),(aH.enc a11)]),.var (aD.enc a12),.var (aL.enc a13),.tail (b4.length*1)]:=by
 unfold iQ at h;refine At.f bO hT hmo Tryz.func87 rfl h ?_;refine At.c 5 ?_ ?_
 ·refine At.D 0 [] ?_;refine DD.N 9 5 (λι=>(eO ι 3 aA.enc (([a3]:List aA)))) _ (λ_=>sZ hT aA.enc (k:=3) ([a3]:List aA) (by kernel_rfl) (by kernel_rfl)) ?_;refine bi λz1 hz1=>?_;refine DD.w 1 (eO 5 3 aA.enc z1) ⟨[(5,.tail (z1.length*3))],[]⟩ (λ_ e=>kB hT aA.enc (id:=5) (k:=3) hz1 (pj1 e) (pj2 e)) ?_;refine DD.y 0 sU λr2=>?_;refine DD.o 0 (λ_=>bH hT (x:=(.sl 3 2 [(aA.enc a4),(aA.enc r2)]))) ?_;refine DD.y 0 vC λr3=>?_;refine DD.e hT hmo 3 ?_;apply rt;exact At.z 0
 ·apply rt;exact At.z 0
def eG(N:Nat)(b4:(List (List aC)))(a1:Bool)(a2:aN)(a3 a4:aA)(a5:Int)(a6:Bool)(a7:aG)(a8:aE)(a9:aF)(a10:aA)(a11:aH)(a12:aD)(a13:aL):Option (Unit):=
 some (())
theorem jO{N b4 a1 a2 a3 a4 a5 a6 a7 a8 a9 a10 a11 a12 a13 r}(h:eG N b4 a1 a2 a3 a4 a5 a6 a7 a8 a9 a10 a11 a12 a13=some r):FnM Tryz.prog 88 [.var (.st 26 [(aN.enc a2),(.ref 1 [] 0),(.ref 2 [] 0),(aA.enc a3),(aA.enc a4),(j64 a5),(eB a6),(aG.enc a7)]),.var (.st 38 [(aE.enc a8),(aF.enc a9),(.ifc 112 (.ref 3 [] 0)),(eO 4 1 (eL 2 aC.enc) b4),(aA.enc a10),(aH.enc a11)]),.var (aD.enc a12),.var (aL.enc a13),.tail (b4.length*1)] [(.ref 0 [] 0),(eB a1)] (.tup []) [.var (.st 26 [(aN.enc a2),(.ref 1 [] 0),(.ref 2 [] 0),(aA.enc a3),(aA.enc a4),(j64 a5),(eB (cond a6 true a1)),(aG.enc a7)]),.var (.st 38 [(aE.enc a8),(aF.enc a9),(.ifc 112 (.ref 3 [] 0)),(eO 4 1 (eL 2 aC.enc) b4),(aA.enc a10),(aH.enc a11)]),.var (aD.enc a12),.var (aL.enc a13),.tail (b4.length*1)]:=by
 unfold eG at h;refine At.f bO hT hmo Tryz.func88 rfl h ?_;apply rt;exact At.z 11
def jV(N:Nat)(a0 a1 a2:Int)(a3:(Vector Int 2)):Option (Int):=
 aa (idx a3.toList 0) λe1=>
 aa (kI N a1 (I64 e1) 4294967296) λr2=>
 aa (idx a3.toList 1) λe3=>
 aa (kI N a2 (I64 e3) 4294967296) λr4=>
 aQ (I64 ((I64 (a0+r2))+r4)) λx5=>
 some x5
theorem uN{N a0 a1 a2 a3 r}(h:jV N a0 a1 a2 a3=some r):FnM Tryz.prog 201 [] [(j64 a0),(j64 a1),(j64 a2),(.im (eA 2 1 k32 a3))] (j64 r) []:=by
 unfold jV at h;refine At.f bO hT hmo Tryz.func201 rfl h ?_;refine At.D 1 [] ?_;refine DD.b 2 (λe _=>dC hT (N:=2) (k:=1) k32 a3 e) λe1=>?_;refine DD.y 2 uU λr2=>?_;refine DD.b 2 (λe _=>dC hT (N:=2) (k:=1) k32 a3 e) λe3=>?_;refine DD.y 2 uU λr4=>?_;refine lx ?_;intro x5;refine DD.e hT hmo 2 ?_;apply rt;exact At.r 0
def aMO : Nat->Bool:=imL [2,3]
def yP(N:Nat)(a0:aS)(a1:(Vector Int 2)):Option (aB):=
 cond (a0.gA9 != 1) (
  some a0.gAt) (
  aa (jV N a0.gAt.gX a0.gU.gX a0.gV.gX a1) λr1=>
  aa (jV N a0.gAt.gY a0.gU.gY a0.gV.gY a1) λr2=>
  aa (jV N a0.gAt.gZ a0.gU.gZ a0.gV.gZ a1) λr3=>
  some (aB.mk r1 r2 r3))
theorem aKa{N a0 a1 r}(h:yP N a0 a1=some r):FnM Tryz.prog 182 [] [(aS.enc a0),(eA 2 1 k32 a1)] (aB.enc r) []:=by
 unfold yP at h;refine At.f aMO hT hmo Tryz.func182 rfl h ?_;refine At.c 6 ?_ ?_
 ·apply rt;exact At.r 3
 ·refine At.o 0 (qT (x:=(.fn (.func 201) [] [(.im (eA 2 1 k32 a1))])) (by kernel_rfl) (by kernel_rfl)) ?_;refine At.D 1 [] ?_;refine DD.y 10 uN λr1=>?_;refine DD.y 10 uN λr2=>?_;refine DD.y 10 uN λr3=>?_;refine DD.e hT hmo 2 ?_;apply rt;exact At.r 0
def xE(N:Nat)(a0:Int):Option (Int):=
 aQ (shr .u32 (U32 (a0*32769)) 16) λx1=>
 some x1
theorem aEN{N a0 r}(h:xE N a0=some r):FnM Tryz.prog 184 [] [(k32 a0)] (k32 r) []:=by
 unfold xE at h;refine At.f bO hT hmo Tryz.func184 rfl h ?_;refine lx ?_;intro x1;apply rt;exact At.r 5
def qA(N:Nat)(a0:Int):Option (Int):=
 aQ (I64 ((eP (I64 a0) 32768) - 16384)) λx1=>
 some x1
theorem aCd{N a0 r}(h:qA N a0=some r):FnM Tryz.prog 202 [] [(k32 a0)] (j64 r) []:=by
 unfold qA at h;refine At.f bO hT hmo Tryz.func202 rfl h ?_;refine lx ?_;intro x1;apply rt;exact At.r 6
def nM(N:Nat)(a0:Int):Option (Int):=
 cond (decide (a0 < 0)) (some (I64 (0 - a0))) (some a0)
theorem xJ{N a0 r}(h:nM N a0=some r):FnM Tryz.prog 203 [] [(j64 a0)] (j64 r) []:=by
 unfold nM at h;refine At.f bO hT hmo Tryz.func203 rfl h ?_;refine At.c 3 ?_ ?_
 ·apply rt;exact At.r 3
 ·apply rt;exact At.r 2
def tD(N:Nat)(a0 a1:Int):Option (Int):=
 cond (decide (a1 < 0)) (some (I64 (0 - a0))) (some a0)
theorem aEJ{N a0 a1 r}(h:tD N a0 a1=some r):FnM Tryz.prog 211 [] [(j64 a0),(j64 a1)] (j64 r) []:=by
 unfold tD at h;refine At.f bO hT hmo Tryz.func211 rfl h ?_;refine At.c 3 ?_ ?_
 ·apply rt;exact At.r 3
 ·apply rt;exact At.r 2
def aAb(N:Nat)(a0 a1:Int):Option (Int×Int):=
 aa (nM N a1) λr1=>
 aa (tD N (I64 (16384 - r1)) a0) λr2=>
 aa (nM N a0) λr3=>
 aa (tD N (I64 (16384 - r3)) a1) λr4=>
 some ((r2,r4))
theorem aLz{N a0 a1 r}(h:aAb N a0 a1=some r):FnM Tryz.prog 204 [] [(j64 a0),(j64 a1)] (.tup [(j64 r.1),(j64 r.2)]) []:=by
 unfold aAb at h;refine At.f bO hT hmo Tryz.func204 rfl h ?_;refine At.y 5 xJ λr1=>?_;refine At.y 2 aEJ λr2=>?_;refine At.y 2 xJ λr3=>?_;refine At.y 2 aEJ λr4=>?_;apply rt;exact At.r 2
def wP(N:Nat)(a0:Int):Option (aB):=
 aa (qA N (shr .u32 a0 16)) λr1=>
 aa (qA N (lE .u32 a0 65535)) λr2=>
 aa (nM N r1) λr3=>
 aa (nM N r2) λr4=>
 aQ (I64 ((I64 (16384 - r3)) - r4)) λx5=>
 aa (cond (decide (x5 < 0)) (
  aa (aAb N r1 r2) λr7=>
  some ((r7.1,r7.2))) (
  some ((r1,r2)))) λp6=>
 some (aB.mk p6.1 p6.2 x5)
theorem aJZ{N a0 r}(h:wP N a0=some r):FnM Tryz.prog 185 [] [(k32 a0)] (aB.enc r) []:=by
 unfold wP at h;refine At.f bO hT hmo Tryz.func185 rfl h ?_;refine At.y 5 aCd λr1=>?_;refine At.y 3 aCd λr2=>?_;refine At.y 3 xJ λr3=>?_;refine At.y 2 xJ λr4=>?_;refine lx ?_;intro x5;refine At.J 2 1 [2,6] 1 (λp6=>([(4,(j64 p6.1)),(5,(j64 p6.2))],[],[])) (λp6=>?_) λp6=>?_
 ·refine At.c 2 ?_ ?_
  ·refine At.y 2 aLz λr7=>?_;apply rt;exact At.jn 5
  ·apply rt;exact At.jn 0
 ·apply rt;exact At.r 5
def vA(N:Nat)(a0:Int):Option (aB):=
 aa (xE N (shr .u32 a0 16)) λr1=>
 aa (xE N (lE .u32 a0 65535)) λr2=>
 aQ (bor .u32 (shl .u32 r1 16) r2) λx3=>
 aa (wP N x3) λr4=>
 some r4
theorem aDD{N a0 r}(h:vA N a0=some r):FnM Tryz.prog 137 [] [(k32 a0)] (aB.enc r) []:=by
 unfold vA at h;refine At.f bO hT hmo Tryz.func137 rfl h ?_;refine At.y 5 aEN λr1=>?_;refine At.y 4 aEN λr2=>?_;refine lx ?_;intro x3;refine At.y 1 aJZ λr4=>?_;apply rt;exact At.r 1
def aGp : Nat->Bool:=imL [3,4,5]
def rP(N:Nat)(a0:xL)(a1:aB)(a2:aA):Option (aB×Int):=
 aa (iX N a0.gE0) λr1=>
 aa (tK N a2 r1) λr2=>
 cond (decide (r2 < 0)) (
  aa (vT N r2) λr3=>
  aa (vT N r2) λr4=>
  aa (lB N ([r3,r4])) λr5=>
  some ((aB.mk (I64 (0 - a0.gE0.gX)) (I64 (0 - a0.gE0.gY)) (I64 (0 - a0.gE0.gZ)),r5))) (
  aa (lB N ([r2,r2])) λr6=>
  some ((a0.gE0,r6)))
theorem aGP{N a0 a1 a2 r}(h:rP N a0 a1 a2=some r):FnM Tryz.prog 250 [] [(xL.enc a0),(aB.enc a1),(aA.enc a2)] (.tup [(aB.enc r.1),(j64 r.2)]) []:=by
 unfold rP at h;refine At.f aGp hT hmo Tryz.func250 rfl h ?_;refine At.D 5 [] ?_;refine DD.y 3 nH λr1=>?_;refine DD.y 0 zV λr2=>?_;refine DD.e hT hmo 1 ?_;refine At.c 2 ?_ ?_
 ·refine At.D 0 [] ?_;refine DD.y 14 aDK λr3=>?_;refine DD.y 1 aDK λr4=>?_;refine DD.o 0 (λ_=>bH hT (x:=(.sl 1 2 [(j64 r3),(j64 r4)]))) ?_;refine DD.y 0 rB λr5=>?_;refine DD.e hT hmo 2 ?_;apply rt;exact At.r 0
 ·refine At.D 0 [] ?_;refine DD.o 4 (λ_=>bH hT (x:=(.sl 1 2 [(j64 r2),(j64 r2)]))) ?_;refine DD.y 0 rB λr6=>?_;refine DD.e hT hmo 2 ?_;apply rt;exact At.r 0
def aGX : Nat->Bool:=imL [3,4,5]
def qB(N:Nat)(a0:yE)(a1:aB)(a2:aA):Option (aB×Int):=
 aa (sD N a0.gF4 a1) λr1=>
 aa (iX N r1) λr2=>
 aa (tK N a2 r2) λr3=>
 aQ (aB.eq r1 (aB.mk 0 0 0)) λx4=>
 aQ (cond x4 true (decide (r3<=0))) λx5=>
 cond x5 (
  some ((aB.mk 0 0 0,0))) (
  aa (yH N r1 r1) λr6=>
  aa (kI N r3 1048576 r6) λr7=>
  some ((r1,r7)))
theorem aFU{N a0 a1 a2 r}(h:qB N a0 a1 a2=some r):FnM Tryz.prog 249 [] [(yE.enc a0),(aB.enc a1),(aA.enc a2)] (.tup [(aB.enc r.1),(j64 r.2)]) []:=by
 unfold qB at h;refine At.f aGX hT hmo Tryz.func249 rfl h ?_;refine At.y 8 uJ λr1=>?_;refine At.D 1 [] ?_;refine DD.y 2 nH λr2=>?_;refine DD.y 0 zV λr3=>?_;refine DD.e hT hmo 1 ?_;refine At.o 2 (aBF aDB (r1:aB) (aB.mk 0 0 0:aB) (by kernel_rfl) (by kernel_rfl) (λ_=>rfl) (λ_=>rfl) (by kernel_rfl) (by kernel_rfl)) ?_;refine lx ?_;intro x4;refine lx ?_;intro x5;refine At.c 4 ?_ ?_
 ·apply rt;exact At.r 3
 ·refine At.D 0 [] ?_;refine DD.y 4 aBj λr6=>?_;refine DD.y 0 uU λr7=>?_;refine DD.e hT hmo 2 ?_;apply rt;exact At.r 0
def aKP : Nat->Bool:=imL [4,5,6,7]
def qW(N:Nat)(a0:aS)(a1:aB)(a2:aA)(a3:(Vector Int 2)):Option (mR):=
 aa (aa (qU N a0) λr2=>
 cond (r2 != 0) (
  some true) (
  aa (vX N a1 (aB.mk 1 0 0)) λr3=>
  some (!r3))) λp1=>
 cond p1 (
  some (mR.mk (aB.mk 0 0 0) false true (aA.mk 0 0 0))) (
  aa (yP N a0 a3) λr4=>
  cond (a0.gA9==2) (
   aa (idx a3.toList 0) λe5=>
   aa (vA N e5) λr6=>
   aa (rP N (xL.mk r6) a1 a2) λr7=>
   cond (r7.2==0) (
    some (mR.mk (aB.mk 0 0 0) false true (aA.mk 0 0 0))) (
    aa (qY N a0) λr8=>
    aa (hK N r8 r7.2) λr9=>
    some (mR.mk r7.1 true false r9))) (
   aa (qB N (yE.mk r4) a1 a2) λr10=>
   cond (aB.eq r10.1 (aB.mk 0 0 0)) (
    some (mR.mk (aB.mk 0 0 0) false true (aA.mk 0 0 0))) (
    aa (qY N a0) λr11=>
    aa (hK N r11 r10.2) λr12=>
    some (mR.mk r10.1 false false r12))))
theorem aD7{N a0 a1 a2 a3 r}(h:qW N a0 a1 a2 a3=some r):FnM Tryz.prog 134 [] [(aS.enc a0),(aB.enc a1),(aA.enc a2),(eA 2 1 k32 a3)] (mR.enc r) []:=by
 unfold qW at h;refine At.f aKP hT hmo Tryz.func134 rfl h ?_;refine At.J 8 0 [4,5,6,7,8,9] 2 (λp1=>([(24,(eB p1))],[],[])) (λp1=>?_) λp1=>?_
 ·refine At.y 1 aEA λr2=>?_;refine At.s 19 2 ?_ ?_
  ·refine At.g [19] 5 ?_;apply rt;exact At.jn 0
  ·refine At.g [19] 2 ?_;refine At.y 0 aBW λr3=>?_;refine At.g [19] 2 ?_;apply rt;exact At.jn 0
 ·refine At.c 0 ?_ ?_
  ·apply rt;exact At.r 2
  ·refine At.y 2 aKa λr4=>?_;refine At.o 1 (aEe hT (t:=317) (x:=(.st 3 [(aB.enc r4)])) (by kernel_rfl) (by kernel_rfl)) ?_;refine At.c 4 ?_ ?_
   ·refine At.b 0 (λ_ e=>dC hT (N:=2) (k:=1) k32 a3 e) λe5=>?_;refine At.y 1 aDD λr6=>?_;refine At.o 1 (aEe hT (t:=321) (x:=(.st 3 [(aB.enc r6)])) (by kernel_rfl) (by kernel_rfl)) ?_;refine At.y 4 aGP λr7=>?_;refine At.o 7 (aPx hT (t:=321) (u:=321) (x:=(.st 3 [(aB.enc r6)])) (y:=(.tup [(.st 3 [(aB.enc r6)]),(eB true)])) (by kernel_rfl) (by kernel_rfl)) ?_;refine At.c 10 ?_ ?_
    ·apply rt;exact At.r 2
    ·refine At.D 0 [] ?_;refine DD.y 2 aBx λr8=>?_;refine DD.y 1 kN λr9=>?_;refine DD.e hT hmo 2 ?_;apply rt;exact At.r 0
   ·refine At.y 3 aFU λr10=>?_;refine At.o 7 (aPx hT (t:=317) (u:=321) (x:=(.st 3 [(aB.enc r4)])) (y:=(.tup [(.st 3 [(.st 3 [(j64 0),(j64 0),(j64 0)])]),(eB false)])) (by kernel_rfl) (by kernel_rfl)) ?_;refine At.o 10 (aBF aDB (r10.1:aB) (aB.mk 0 0 0:aB) (by kernel_rfl) (by kernel_rfl) (λ_=>rfl) (λ_=>rfl) (by kernel_rfl) (by kernel_rfl)) ?_;refine At.c 0 ?_ ?_
    ·apply rt;exact At.r 2
    ·refine At.D 0 [] ?_;refine DD.y 2 aBx λr11=>?_;refine DD.y 1 kN λr12=>?_;refine DD.e hT hmo 2 ?_;apply rt;exact At.r 0
def aCX : Nat->Bool:=imL [7,8]
def dP(N:Nat)(a5:aL)(a0 a1:aB)(a2 a3:Int)(a4:Bool):Nat->aL->Bool->Int->Option (aL×Bool)
 | 0,_,_,_=>none
 | k+1,s3,s4,s5=>
  aQ (decide (s5 < ((a5.gl.length:Int)))) λx6=>
  cond x6 (
   aa (eF N a0 a1 a2 a3 s5 s3) λr7=>
   cond r7.2 (
    aQ (decide (r7.1.gC3 < r7.1.gB9)) λx8=>
    aQ (cond (cond (!a4) true x8) true s4) λx9=>
    dP N a5 a0 a1 a2 a3 a4 k (aL.mk (jJ.mk (I64 (s3.gD8.gn+1))) s3.gA s3.gl) x9 (I64 (s5+1))) (
    dP N a5 a0 a1 a2 a3 a4 k (aL.mk (jJ.mk (I64 (s3.gD8.gn+1))) s3.gA s3.gl) s4 (I64 (s5+1)))) (
   some ((s3,s4)))
def iH(N:Nat)(a0 a1:aB)(a2 a3:Int)(a4:Bool)(a5:aL):Option (aL×Bool):=
 aa (jH N a5) λr1=>
 cond r1 (
  some ((a5,false))) (
  aa (dP N a5 a0 a1 a2 a3 a4 N a5 false 0) λp2=>
  some ((p2.1,p2.2)))
theorem wF{N a0 a1 a2 a3 a4 a5 r}(h:iH N a0 a1 a2 a3 a4 a5=some r):FnM Tryz.prog 230 [.var (aL.enc a5)] [(.ref 0 [] 0),(aB.enc a0),(aB.enc a1),(k8 a2),(j64 a3),(eB a4)] (eB r.2) [.var (aL.enc r.1)]:=by
 unfold iH at h;refine At.f aCX hT hmo Tryz.func230 rfl h ?_;refine At.Y 4 [0] tV λr1=>?_;refine At.c 0 ?_ ?_
 ·apply rt;exact At.r 1
 ·refine At.M 7 [] 1 (λp2=>([(13,(eB p2.2))],[(0,.var (aL.enc p2.1))],[])) [0,3,4,5,7,8,23] 1 (CU3 (dP N a5 a0 a1 a2 a3 a4)) (cu3 λ(s3:aL) (s4:Bool) (s5:Int)=>([(13,(eB s4)),(24,(j64 s5))],[(0,.var (aL.enc s3))],[])) (_,_,_) N (λp2 k=>un3 λs3 s4 s5=>?_) λp2=>?_
  ·refine lx ?_;intro x6;refine At.c 1 ?_ ?_
   ·refine At.Y 8 [0] tZ λr7=>?_;refine At.s 38 8 ?_ ?_
    ·refine lx ?_;intro x8;refine lx ?_;intro x9;refine At.g [38] 16 ?_;exact λh=>At.v 0 (_,_,_) h
    ·refine At.g [38,41,49] 16 ?_;exact λh=>At.v 0 (_,_,_) h
   ·apply rt;exact At.x 0
  ·apply rt;exact At.r 2
def aDo : Nat->Bool:=imL [3]
def fQ(N:Nat)(x1:Int)(a8:aE)(b4:(List (List aC)))(a2:aN)(a3:aA)(a5:Int)(a6:Bool)(a7:aG)(a9:aF)(a10:aA)(a11:aH)(a1:bC):Nat->aA->aD->aL->Int->Option (aA×aD×aL)
 | 0,_,_,_,_=>none
 | k+1,s3,s4,s5,s6=>
  cond (decide (s6 < x1)) (
   aa (aa (idx a8.gM s6) λe8=>
   aQ (I64 (8+(I64 (2*s6)))) λx9=>
   aa (dD N b4 x9 a2 a3 s3 a5 a6 a7 a8 a9 a10 a11 s4 s5) λr10=>
   aQ (I64 (9+(I64 (2*s6)))) λx11=>
   aa (dD N b4 x11 a2 a3 s3 a5 a6 a7 a8 a9 a10 a11 (aD.mk r10.1 s4.gA s4.gD s4.gC s4.gE) s5) λr12=>
   aa (qW N e8 a1.gat a1.gn (#v[r10.2,r12.2])) λr13=>
   aQ (cond r13.gE7 (!a9.gA4) false) λx14=>
   cond x14 (
    some ((s3,aD.mk r12.1 ((aD.mk r10.1 s4.gA s4.gD s4.gC s4.gE).gA) ((aD.mk r10.1 s4.gA s4.gD s4.gC s4.gE).gD) ((aD.mk r10.1 s4.gA s4.gD s4.gC s4.gE).gC) ((aD.mk r10.1 s4.gA s4.gD s4.gC s4.gE).gE),s5,e8,r13))) (
    aa (aa (iH N a1.gat r13.gE9 2 a1.gi (!r13.gF0) s5) λr16=>
    cond (!r16.2) (
     cond (!r13.gE7) (
      some ((r16.1,a1.gB2.gA9==0))) (
      some ((r16.1,false)))) (
     some ((r16.1,false)))) λp15=>
    cond p15.2 (
     aa (iQ N b4 ([a1.gc,r13.gC4]) a2 a3 s3 a5 a6 a7 a8 a9 a10 a11 (aD.mk r12.1 ((aD.mk r10.1 s4.gA s4.gD s4.gC s4.gE).gA) ((aD.mk r10.1 s4.gA s4.gD s4.gC s4.gE).gD) ((aD.mk r10.1 s4.gA s4.gD s4.gC s4.gE).gC) ((aD.mk r10.1 s4.gA s4.gD s4.gC s4.gE).gE)) p15.1) λr17=>
     some ((r17,aD.mk r12.1 ((aD.mk r10.1 s4.gA s4.gD s4.gC s4.gE).gA) ((aD.mk r10.1 s4.gA s4.gD s4.gC s4.gE).gD) ((aD.mk r10.1 s4.gA s4.gD s4.gC s4.gE).gC) ((aD.mk r10.1 s4.gA s4.gD s4.gC s4.gE).gE),p15.1,e8,r13))) (
     some ((s3,aD.mk r12.1 ((aD.mk r10.1 s4.gA s4.gD s4.gC s4.gE).gA) ((aD.mk r10.1 s4.gA s4.gD s4.gC s4.gE).gD) ((aD.mk r10.1 s4.gA s4.gD s4.gC s4.gE).gC) ((aD.mk r10.1 s4.gA s4.gD s4.gC s4.gE).gE),p15.1,e8,r13))))) λp7=>
   fQ N x1 a8 b4 a2 a3 a5 a6 a7 a9 a10 a11 a1 k p7.1 p7.2.1 p7.2.2.1 (I64 (s6+1))) (
   some ((s3,s4,s5)))
def fT(N:Nat)(r18:Int×Int)(x19:Int)(a1:bC):Nat->aL->Int->Option (aL)
 | 0,_,_=>none
 | k+1,s21,s22=>
  aQ (decide (s22 < (I64 (r18.2 - x19)))) λx23=>
  cond x23 (
   aa (iH N a1.gat (aB.mk 0 0 0) 2 a1.gi false s21) λr24=>
   fT N r18 x19 a1 k r24.1 (I64 (s22+1))) (
   some s21)
def lC(N:Nat)(b4:(List (List aC)))(a1:bC)(a2:aN)(a3 a4:aA)(a5:Int)(a6:Bool)(a7:aG)(a8:aE)(a9:aF)(a10:aA)(a11:aH)(a12:aD)(a13:aL):Option (aA×aD×aL):=
 aQ ((a8.gM.length:Int)) λx1=>
 aa (fQ N x1 a8 b4 a2 a3 a5 a6 a7 a9 a10 a11 a1 N a4 a12 a13 0) λp2=>
 cond (!a9.gA4) (
  some ((p2.1,p2.2.1,p2.2.2))) (
  aa (kM N a9.gK) λr18=>
  aQ ((a8.gM.length:Int)) λx19=>
  aa (fT N r18 x19 a1 N p2.2.2 0) λp20=>
  some ((p2.1,p2.2.1,p20)))
theorem aCR{N b4 a1 a2 a3 a4 a5 a6 a7 a8 a9 a10 a11 a12 a13 r}(h:lC N b4 a1 a2 a3 a4 a5 a6 a7 a8 a9 a10 a11 a12 a13=some r):FnM Tryz.prog 89 [.var (.st 26 [(aN.enc a2),(.ref 1 [] 0),(.ref 2 [] 0),(aA.enc a3),(aA.enc a4),(j64 a5),(eB a6),(aG.enc a7)]),.var (.st 38 [(aE.enc a8),(aF.enc a9),(.ifc 112 (.ref 3 [] 0)),(eO 4 1 (eL 2 aC.enc) b4),(aA.enc a10),(aH.enc a11)]),.var (aD.enc a12),.var (aL.enc a13),.tail (b4.length*1)] [(.ref 0 [] 0),(bC.enc a1)] (.tup []) [.var (.st 26 [(aN.enc a2),(.ref 1 [] 0),(.ref 2 [] 0),(aA.enc a3),(aA.enc r.1),(j64 a5),(eB a6),(aG.enc a7)]),.var (.st 38 [(aE.enc a8),(aF.enc a9),(.ifc 112 (.ref 3 [] 0)),(eO 4 1 (eL 2 aC.enc) b4),(aA.enc a10),(aH.enc a11)]),.var (aD.enc r.2.1),.var (aL.enc r.2.2),.tail (b4.length*1)]:=by
 unfold lC at h;refine At.f aDo hT hmo Tryz.func89 rfl h ?_;refine lx ?_;intro x1;refine At.M 11 [0,3] 5 (λp2=>([],[(0,.var (.st 26 [(aN.enc a2),(.ref 1 [] 0),(.ref 2 [] 0),(aA.enc a3),(aA.enc p2.1),(j64 a5),(eB a6),(aG.enc a7)])),(2,.var (aD.enc p2.2.1)),(3,.var (aL.enc p2.2.2))],[])) [0,3,16,17] 5 (CU4 (fQ N x1 a8 b4 a2 a3 a5 a6 a7 a9 a10 a11 a1)) (cu4 λ(s3:aA) (s4:aD) (s5:aL) (s6:Int)=>([(18,(j64 s6))],[(0,.var (.st 26 [(aN.enc a2),(.ref 1 [] 0),(.ref 2 [] 0),(aA.enc a3),(aA.enc s3),(j64 a5),(eB a6),(aG.enc a7)])),(2,.var (aD.enc s4)),(3,.var (aL.enc s5))],[])) (_,_,_,_) N (λp2 k=>un4 λs3 s4 s5 s6=>?_) λp2=>?_
 ·refine At.c 1 ?_ ?_
  ·refine At.J 0 2 [0,3,16,17,18] 5 (λp7=>([],[(0,.var (.st 26 [(aN.enc a2),(.ref 1 [] 0),(.ref 2 [] 0),(aA.enc a3),(aA.enc p7.1),(j64 a5),(eB a6),(aG.enc a7)])),(2,.var (aD.enc p7.2.1)),(3,.var (aL.enc p7.2.2.1))],[.var (aS.enc p7.2.2.2.1),.var (mR.enc p7.2.2.2.2)])) (λp7=>?_) λp7=>?_
   ·refine At.i hT 1 aS.enc λe8=>?_;refine At.D 4 [] ?_;refine lx ?_;intro x9;refine DD.Y 9 [0,1,2,3,4] iY λr10=>?_;refine lx ?_;intro x11;refine DD.Y 4 [0,1,2,3,4] iY λr12=>?_;refine DD.y 1 aD7 λr13=>?_;refine DD.e hT hmo 2 ?_;refine lx ?_;intro x14;refine At.c 13 ?_ ?_
    ·apply rt;exact At.jn 0
    ·refine At.J 0 0 [0,3,6,16,17,18] 7 (λp15=>([(81,(eB p15.2))],[(3,.var (aL.enc p15.1))],[])) (λp15=>?_) λp15=>?_
     ·refine At.D 0 [] ?_;refine DD.Y 16 [3] wF λr16=>?_;refine DD.s hT 2 ?_ ?_
      ·refine DD.s hT 5 ?_ ?_
       ·refine DD.e hT hmo 5 ?_;apply rt;exact At.jn 0
       ·refine DD.e hT hmo 5 ?_;apply rt;exact At.jn 0
      ·refine DD.e hT hmo 10 ?_;apply rt;exact At.jn 0
     ·refine At.c 0 ?_ ?_
      ·refine At.o 5 (bH hT (x:=(.sl 3 2 [(aA.enc a1.gc),(aA.enc r13.gC4)]))) ?_;refine At.Y 0 [0,1,2,3,4] sM λr17=>?_;apply rt;exact At.jn 0
      ·apply rt;exact At.jn 0
   ·exact λh=>At.v 2 (_,_,_,_) h
  ·apply rt;exact At.x 0
 ·refine At.c 9 ?_ ?_
  ·apply rt;exact At.r 0
  ·refine At.y 8 vN λr18=>?_;refine lx ?_;intro x19;refine At.M 17 [] 5 (λp20=>([],[(3,.var (aL.enc p20))],[])) [0,3,121] 5 (CU2 (fT N r18 x19 a1)) (cu2 λ(s21:aL) (s22:Int)=>([(122,(j64 s22))],[(3,.var (aL.enc s21))],[])) (_,_) N (λp20 k=>un2 λs21 s22=>?_) λp20=>?_
   ·refine lx ?_;intro x23;refine At.c 1 ?_ ?_
    ·refine At.D 0 [] ?_;refine DD.Y 12 [3] wF λr24=>?_;refine DD.e hT hmo 0 ?_;exact λh=>At.v 2 (_,_) h
    ·apply rt;exact At.x 0
   ·apply rt;exact At.z 0
def aF7 : Nat->Bool:=imL [3,4]
def qC(N:Nat)(a0 a1:aA)(a2:Int):Option (jT):=
 aa (vA N a2) λr1=>
 aa (iX N r1) λr2=>
 aa (tK N a1 r2) λr3=>
 aa (cond (decide (r3 < 0)) (
  aa (vT N r3) λr5=>
  some ((aB.mk (I64 (0 - r1.gX)) (I64 (0 - r1.gY)) (I64 (0 - r1.gZ)),r5))) (
  some ((r1,r3)))) λp4=>
 cond (p4.2==0) (
  some (jT.mk (aB.mk 0 0 0) (aA.mk 0 0 0) true)) (
  aa (lB N ([p4.2,p4.2])) λr6=>
  aa (hK N a0 r6) λr7=>
  some (jT.mk p4.1 r7 false))
theorem aFE{N a0 a1 a2 r}(h:qC N a0 a1 a2=some r):FnM Tryz.prog 135 [] [(aA.enc a0),(aA.enc a1),(k32 a2)] (jT.enc r) []:=by
 unfold qC at h;refine At.f aF7 hT hmo Tryz.func135 rfl h ?_;refine At.y 4 aDD λr1=>?_;refine At.D 2 [] ?_;refine DD.y 2 nH λr2=>?_;refine DD.y 0 zV λr3=>?_;refine DD.e hT hmo 1 ?_;refine At.J 0 1 [3,6,7] 2 (λp4=>([(8,(j64 p4.2))],[(1,.var (aB.enc p4.1))],[])) (λp4=>?_) λp4=>?_
 ·refine At.c 2 ?_ ?_
  ·refine At.D 0 [] ?_;refine DD.y 11 aDK λr5=>?_;refine DD.e hT hmo 2 ?_;apply rt;exact At.jn 0
  ·apply rt;exact At.jn 0
 ·refine At.c 2 ?_ ?_
  ·apply rt;exact At.r 2
  ·refine At.D 0 [] ?_;refine DD.o 4 (λ_=>bH hT (x:=(.sl 1 2 [(j64 p4.2),(j64 p4.2)]))) ?_;refine DD.y 0 rB λr6=>?_;refine DD.y 0 kN λr7=>?_;refine DD.e hT hmo 2 ?_;apply rt;exact At.r 0
def aHD : Nat->Bool:=imL [2,3]
def mT(N:Nat)(a0:aA)(a1:aB):Option (aA):=
 aa (iX N a1) λr1=>
 aa (tK N a0 r1) λr2=>
 aa (lB N ([r2,r2])) λr3=>
 aa (hK N a0 r3) λr4=>
 aa (xY N r1 r4) λr5=>
 some r5
theorem yY{N a0 a1 r}(h:mT N a0 a1=some r):FnM Tryz.prog 136 [] [(aA.enc a0),(aB.enc a1)] (aA.enc r) []:=by
 unfold mT at h;refine At.f aHD hT hmo Tryz.func136 rfl h ?_;refine At.y 4 nH λr1=>?_;refine At.y 4 zV λr2=>?_;refine At.D 1 [] ?_;refine DD.o 4 (λ_=>bH hT (x:=(.sl 1 2 [(j64 r2),(j64 r2)]))) ?_;refine DD.y 0 rB λr3=>?_;refine DD.y 0 kN λr4=>?_;refine DD.y 0 aC4 λr5=>?_;refine DD.e hT hmo 1 ?_;apply rt;exact At.r 0
def aIA : Nat->Bool:=imL [2,3]
def mG(N:Nat)(a0 a1:aA):Option (jT):=
 aa (vV N a0) λr1=>
 cond (r1.2 != 0) (
  some (jT.mk (aB.mk 0 0 0) (aA.mk 0 0 0) true)) (
  some (jT.mk r1.1 a1 false))
theorem vU{N a0 a1 r}(h:mG N a0 a1=some r):FnM Tryz.prog 139 [] [(aA.enc a0),(aA.enc a1)] (jT.enc r) []:=by
 unfold mG at h;refine At.f aIA hT hmo Tryz.func139 rfl h ?_;refine At.y 4 aE0 λr1=>?_;refine At.c 8 ?_ ?_
 ·apply rt;exact At.r 2
 ·apply rt;exact At.r 4
def aF3 : Nat->Bool:=imL [5,6,7,8,9]
def lP(N:Nat)(a0:aO)(a1 a2:aA)(a3:aB)(a4:(Vector Int 2)):Option (jT):=
 cond (a0.gA9==0) (
  aa (idx a4.toList 0) λe1=>
  aa (qC N a1 a2 e1) λr2=>
  some r2) (
  cond (a0.gA9==2) (
   aa (jE N a0.gD5) λr3=>
   aa (jE N 65535) λr4=>
   aa (jM N r3 r4) λr5=>
   aa (mT N a2 a3) λr6=>
   aa (idx a4.toList 0) λe7=>
   aa (vA N e7) λr8=>
   aa (iX N r8) λr9=>
   aa (hK N r9 r5) λr10=>
   aa (mC N ([r6,r10])) λr11=>
   aa (tK N a2 r11) λr12=>
   cond (decide (r12<=0)) (
    some (jT.mk (aB.mk 0 0 0) (aA.mk 0 0 0) true)) (
    aa (mG N r11 a1) λr13=>
    some r13)) (
   cond (a0.gA9==3) (
    aa (idx a4.toList 1) λe14=>
    aa (rN N e14 65536) λr15=>
    aQ (decide (r15>=a0.gD5)) λx16=>
    cond x16 (
     aa (iX N a3) λr17=>
     aa (mG N r17 a1) λr18=>
     some r18) (
     aa (mT N a2 a3) λr19=>
     aa (mG N r19 a1) λr20=>
     some r20)) (
    cond (a0.gA9==1) (
     aa (mT N a2 a3) λr21=>
     aa (mG N r21 a1) λr22=>
     some r22) (
     some (jT.mk (aB.mk 0 0 0) (aA.mk 0 0 0) true)))))
theorem aBl{N a0 a1 a2 a3 a4 r}(h:lP N a0 a1 a2 a3 a4=some r):FnM Tryz.prog 90 [] [(aO.enc a0),(aA.enc a1),(aA.enc a2),(aB.enc a3),(eA 2 1 k32 a4)] (jT.enc r) []:=by
 unfold lP at h;refine At.f aF3 hT hmo Tryz.func90 rfl h ?_;refine At.c 10 ?_ ?_
 ·refine At.b 2 (λ_ e=>dC hT (N:=2) (k:=1) k32 a4 e) λe1=>?_;refine At.y 1 aFE λr2=>?_;apply rt;exact At.r 1
 ·refine At.c 2 ?_ ?_
  ·refine At.y 2 jP λr3=>?_;refine At.y 0 jP λr4=>?_;refine At.y 0 nD λr5=>?_;refine At.D 1 [] ?_;refine DD.y 2 yY λr6=>?_;refine DD.b 0 (λe _=>dC hT (N:=2) (k:=1) k32 a4 e) λe7=>?_;refine DD.y 1 aDD λr8=>?_;refine DD.y 0 nH λr9=>?_;refine DD.y 1 kN λr10=>?_;refine DD.o 0 (λ_=>bH hT (x:=(.sl 3 2 [(aA.enc r6),(aA.enc r10)]))) ?_;refine DD.y 0 vC λr11=>?_;refine DD.e hT hmo 2 ?_;refine At.y 2 zV λr12=>?_;refine At.c 1 ?_ ?_
   ·apply rt;exact At.r 2
   ·refine At.y 2 vU λr13=>?_;apply rt;exact At.r 1
  ·refine At.c 2 ?_ ?_
   ·refine At.D 0 [] ?_;refine DD.b 0 (λe _=>dC hT (N:=2) (k:=1) k32 a4 e) λe14=>?_;refine DD.y 1 aDg λr15=>?_;refine lx ?_;intro x16;refine DD.e hT hmo 3 ?_;refine At.c 0 ?_ ?_
    ·refine At.D 0 [] ?_;refine DD.y 1 nH λr17=>?_;refine DD.y 1 vU λr18=>?_;refine DD.e hT hmo 1 ?_;apply rt;exact At.r 0
    ·refine At.D 0 [] ?_;refine DD.y 2 yY λr19=>?_;refine DD.y 1 vU λr20=>?_;refine DD.e hT hmo 1 ?_;apply rt;exact At.r 0
   ·refine At.c 2 ?_ ?_
    ·refine At.D 0 [] ?_;refine DD.y 2 yY λr21=>?_;refine DD.y 1 vU λr22=>?_;refine DD.e hT hmo 1 ?_;apply rt;exact At.r 0
    ·apply rt;exact At.r 2
def xZ(N:Nat)(a0 a1 a2:Int):Option (Int):=
 some (eP (jZ a0 a1) a2)
theorem aFn{N a0 a1 a2 r}(h:xZ N a0 a1 a2=some r):FnM Tryz.prog 101 [] [(j64 a0),(j64 a1),(j64 a2)] (j64 r) []:=by
 unfold xZ at h;refine At.f bO hT hmo Tryz.func101 rfl h ?_;apply rt;exact At.r 7
def jA(N:Nat)(a0 a1:Int):Option (Int):=
 aa (jM N a0 a1) λr1=>
 some r1
theorem qX{N a0 a1 r}(h:jA N a0 a1=some r):FnM Tryz.prog 141 [] [(j64 a0),(.im (j64 a1))] (j64 r) []:=by
 unfold jA at h;refine At.f bO hT hmo Tryz.func141 rfl h ?_;refine At.y 3 nD λr1=>?_;apply rt;exact At.r 1
def aFa : Nat->Bool:=imL [2]
def kX(N:Nat)(a0:aA)(a1:Int):Option (aA×Bool):=
 aa (aAC N a0) λr1=>
 aa (xZ N r1 268435456 4294967296) λr2=>
 aa (rE N a1) λr3=>
 cond (decide (r3>=r2)) (
  some ((aA.mk 0 0 0,false))) (
  aa (jA N a0.gX r2) λr4=>
  aa (jA N a0.gY r2) λr5=>
  aa (jA N a0.gZ r2) λr6=>
  some ((aA.mk r4 r5 r6,true)))
theorem aAu{N a0 a1 r}(h:kX N a0 a1=some r):FnM Tryz.prog 92 [] [(aA.enc a0),(k32 a1)] (.tup [(aA.enc r.1),(eB r.2)]) []:=by
 unfold kX at h;refine At.f aFa hT hmo Tryz.func92 rfl h ?_;refine At.y 4 aHN λr1=>?_;refine At.y 0 aFn λr2=>?_;refine At.D 2 [] ?_;refine DD.y 1 aBa λr3=>?_;refine DD.e hT hmo 2 ?_;refine At.c 0 ?_ ?_
 ·apply rt;exact At.r 3
 ·refine At.gz 0 1 ((j64 r2)) ?_;refine At.o 0 (qT (x:=(.fn (.func 141) [] [(.im (j64 r2))])) (by kernel_rfl) (by kernel_rfl)) ?_;refine At.D 1 [] ?_;refine DD.y 3 qX λr4=>?_;refine DD.y 3 qX λr5=>?_;refine DD.y 3 qX λr6=>?_;refine DD.e hT hmo 3 ?_;apply rt;exact At.r 0
def mM(N:Nat)(b4:(List (List aC)))(a1:aN)(a2 a3:aA)(a4:Int)(a5:Bool)(a6:aG)(a7:aE)(a8:aF)(a9:aA)(a10:aH)(a11:aD)(a12:aL):Option (aN×aA×aA×Bool×aG×Int×aD×aL):=
 aa (mQ N b4 a1 a2 a3 a4 a5 a6 a7 a8 a9 a10 a11 a12) λr1=>
 aa (cond (!r1.2.2.2.2) (
  aa (iQ N b4 ([a9]) a1 a2 a3 a4 a5 r1.1 a7 a8 a9 (aH.mk a10.gL r1.2.1 (I64 (a10.gI+1))) a11 r1.2.2.1) λr3=>
  aa (eG N b4 true a1 a2 r3 a4 a5 r1.1 a7 a8 a9 (aH.mk a10.gL r1.2.1 (I64 (a10.gI+1))) a11 r1.2.2.1) λr4=>
  some ((r3,cond a5 true true))) (
  some ((a3,a5)))) λp2=>
 aa (eG N b4 r1.2.2.2.1.gC0 a1 a2 p2.1 a4 p2.2 r1.1 a7 a8 a9 (aH.mk a10.gL r1.2.1 (I64 (a10.gI+1))) a11 r1.2.2.1) λr5=>
 aa (aQ (r1.2.2.2.1.gB2.gA9==4) λx7=>
 cond x7 (
  aa (iQ N b4 ([r1.2.2.2.1.gc]) a1 a2 p2.1 a4 (cond p2.2 true r1.2.2.2.1.gC0) r1.1 a7 a8 a9 (aH.mk a10.gL r1.2.1 (I64 (a10.gI+1))) a11 r1.2.2.1) λr8=>
  aa (eG N b4 true a1 a2 r8 a4 ((cond p2.2 true r1.2.2.2.1.gC0)) r1.1 a7 a8 a9 (aH.mk a10.gL r1.2.1 (I64 (a10.gI+1))) a11 r1.2.2.1) λr9=>
  some ((r8,cond ((cond p2.2 true r1.2.2.2.1.gC0)) true true))) (
  some ((p2.1,cond p2.2 true r1.2.2.2.1.gC0)))) λp6=>
 aa (aa (cond a8.gA4 (
  some true) (
  aQ (r1.2.2.2.1.gB2.gA9==0) λx12=>
  some (cond (!p6.2) x12 false))) λp11=>
 cond p11 (
  aa (lC N b4 r1.2.2.2.1 a1 a2 p6.1 a4 p6.2 r1.1 a7 a8 a9 (aH.mk a10.gL r1.2.1 (I64 (a10.gI+1))) a11 r1.2.2.1) λr13=>
  some ((r13.1,r13.2.1,r13.2.2))) (
  some ((p6.1,a11,r1.2.2.1)))) λp10=>
 aa (cond p6.2 (
  some true) (
  some (a4==a8.gG))) λp14=>
 cond p14 (
  aa (eG N b4 true a1 a2 p10.1 a4 p6.2 r1.1 a7 a8 a9 (aH.mk a10.gL r1.2.1 (I64 (a10.gI+1))) p10.2.1 p10.2.2) λr15=>
  some ((a1,a2,p10.1,cond p6.2 true true,r1.1,r1.2.1,p10.2.1,p10.2.2))) (
  aa (dD N b4 4 a1 a2 p10.1 a4 p6.2 r1.1 a7 a8 a9 (aH.mk a10.gL r1.2.1 (I64 (a10.gI+1))) p10.2.1 p10.2.2) λr16=>
  aa (dD N b4 5 a1 a2 p10.1 a4 p6.2 r1.1 a7 a8 a9 (aH.mk a10.gL r1.2.1 (I64 (a10.gI+1))) (aD.mk r16.1 p10.2.1.gA p10.2.1.gD p10.2.1.gC p10.2.1.gE) p10.2.2) λr17=>
  aa (lP N r1.2.2.2.1.gB2 r1.2.2.2.1.gc r1.2.2.2.1.gn a1.gd (#v[r16.2,r17.2])) λr18=>
  aa (kA N ([a2,r18.gC4])) λr19=>
  aa (eG N b4 r18.gC8 a1 r19 p10.1 a4 p6.2 r1.1 a7 a8 a9 (aH.mk a10.gL r1.2.1 (I64 (a10.gI+1))) (aD.mk r17.1 ((aD.mk r16.1 p10.2.1.gA p10.2.1.gD p10.2.1.gC p10.2.1.gE).gA) ((aD.mk r16.1 p10.2.1.gA p10.2.1.gD p10.2.1.gC p10.2.1.gE).gD) ((aD.mk r16.1 p10.2.1.gA p10.2.1.gD p10.2.1.gC p10.2.1.gE).gC) ((aD.mk r16.1 p10.2.1.gA p10.2.1.gD p10.2.1.gC p10.2.1.gE).gE)) p10.2.2) λr20=>
  aa (cond (decide (a4>=2)) (
   aa (dD N b4 7 a1 r19 p10.1 a4 (cond p6.2 true r18.gC8) r1.1 a7 a8 a9 (aH.mk a10.gL r1.2.1 (I64 (a10.gI+1))) (aD.mk r17.1 ((aD.mk r16.1 p10.2.1.gA p10.2.1.gD p10.2.1.gC p10.2.1.gE).gA) ((aD.mk r16.1 p10.2.1.gA p10.2.1.gD p10.2.1.gC p10.2.1.gE).gD) ((aD.mk r16.1 p10.2.1.gA p10.2.1.gD p10.2.1.gC p10.2.1.gE).gC) ((aD.mk r16.1 p10.2.1.gA p10.2.1.gD p10.2.1.gC p10.2.1.gE).gE)) p10.2.2) λr22=>
   aa (kX N r19 r22.2) λr23=>
   aa (eG N b4 (!r23.2) a1 r23.1 p10.1 a4 (cond p6.2 true r18.gC8) r1.1 a7 a8 a9 (aH.mk a10.gL r1.2.1 (I64 (a10.gI+1))) (aD.mk r22.1 ((aD.mk r17.1 ((aD.mk r16.1 p10.2.1.gA p10.2.1.gD p10.2.1.gC p10.2.1.gE).gA) ((aD.mk r16.1 p10.2.1.gA p10.2.1.gD p10.2.1.gC p10.2.1.gE).gD) ((aD.mk r16.1 p10.2.1.gA p10.2.1.gD p10.2.1.gC p10.2.1.gE).gC) ((aD.mk r16.1 p10.2.1.gA p10.2.1.gD p10.2.1.gC p10.2.1.gE).gE)).gA) ((aD.mk r17.1 ((aD.mk r16.1 p10.2.1.gA p10.2.1.gD p10.2.1.gC p10.2.1.gE).gA) ((aD.mk r16.1 p10.2.1.gA p10.2.1.gD p10.2.1.gC p10.2.1.gE).gD) ((aD.mk r16.1 p10.2.1.gA p10.2.1.gD p10.2.1.gC p10.2.1.gE).gC) ((aD.mk r16.1 p10.2.1.gA p10.2.1.gD p10.2.1.gC p10.2.1.gE).gE)).gD) ((aD.mk r17.1 ((aD.mk r16.1 p10.2.1.gA p10.2.1.gD p10.2.1.gC p10.2.1.gE).gA) ((aD.mk r16.1 p10.2.1.gA p10.2.1.gD p10.2.1.gC p10.2.1.gE).gD) ((aD.mk r16.1 p10.2.1.gA p10.2.1.gD p10.2.1.gC p10.2.1.gE).gC) ((aD.mk r16.1 p10.2.1.gA p10.2.1.gD p10.2.1.gC p10.2.1.gE).gE)).gC) ((aD.mk r17.1 ((aD.mk r16.1 p10.2.1.gA p10.2.1.gD p10.2.1.gC p10.2.1.gE).gA) ((aD.mk r16.1 p10.2.1.gA p10.2.1.gD p10.2.1.gC p10.2.1.gE).gD) ((aD.mk r16.1 p10.2.1.gA p10.2.1.gD p10.2.1.gC p10.2.1.gE).gC) ((aD.mk r16.1 p10.2.1.gA p10.2.1.gD p10.2.1.gC p10.2.1.gE).gE)).gE)) p10.2.2) λr24=>
   some ((r23.1,cond (cond p6.2 true r18.gC8) true (!r23.2),aD.mk r22.1 ((aD.mk r17.1 ((aD.mk r16.1 p10.2.1.gA p10.2.1.gD p10.2.1.gC p10.2.1.gE).gA) ((aD.mk r16.1 p10.2.1.gA p10.2.1.gD p10.2.1.gC p10.2.1.gE).gD) ((aD.mk r16.1 p10.2.1.gA p10.2.1.gD p10.2.1.gC p10.2.1.gE).gC) ((aD.mk r16.1 p10.2.1.gA p10.2.1.gD p10.2.1.gC p10.2.1.gE).gE)).gA) ((aD.mk r17.1 ((aD.mk r16.1 p10.2.1.gA p10.2.1.gD p10.2.1.gC p10.2.1.gE).gA) ((aD.mk r16.1 p10.2.1.gA p10.2.1.gD p10.2.1.gC p10.2.1.gE).gD) ((aD.mk r16.1 p10.2.1.gA p10.2.1.gD p10.2.1.gC p10.2.1.gE).gC) ((aD.mk r16.1 p10.2.1.gA p10.2.1.gD p10.2.1.gC p10.2.1.gE).gE)).gD) ((aD.mk r17.1 ((aD.mk r16.1 p10.2.1.gA p10.2.1.gD p10.2.1.gC p10.2.1.gE).gA) ((aD.mk r16.1 p10.2.1.gA p10.2.1.gD p10.2.1.gC p10.2.1.gE).gD) ((aD.mk r16.1 p10.2.1.gA p10.2.1.gD p10.2.1.gC p10.2.1.gE).gC) ((aD.mk r16.1 p10.2.1.gA p10.2.1.gD p10.2.1.gC p10.2.1.gE).gE)).gC) ((aD.mk r17.1 ((aD.mk r16.1 p10.2.1.gA p10.2.1.gD p10.2.1.gC p10.2.1.gE).gA) ((aD.mk r16.1 p10.2.1.gA p10.2.1.gD p10.2.1.gC p10.2.1.gE).gD) ((aD.mk r16.1 p10.2.1.gA p10.2.1.gD p10.2.1.gC p10.2.1.gE).gC) ((aD.mk r16.1 p10.2.1.gA p10.2.1.gD p10.2.1.gC p10.2.1.gE).gE)).gE)))) (
   some ((r19,cond p6.2 true r18.gC8,aD.mk r17.1 ((aD.mk r16.1 p10.2.1.gA p10.2.1.gD p10.2.1.gC p10.2.1.gE).gA) ((aD.mk r16.1 p10.2.1.gA p10.2.1.gD p10.2.1.gC p10.2.1.gE).gD) ((aD.mk r16.1 p10.2.1.gA p10.2.1.gD p10.2.1.gC p10.2.1.gE).gC) ((aD.mk r16.1 p10.2.1.gA p10.2.1.gD p10.2.1.gC p10.2.1.gE).gE))))) λp21=>
  some ((aN.mk r1.2.2.2.1.gat r18.gF1 r1.2.2.2.1.gi,p21.1,p10.1,p21.2.1,r1.1,r1.2.1,p21.2.2,p10.2.2)))
theorem aCz{N b4 a1 a2 a3 a4 a5 a6 a7 a8 a9 a10 a11 a12 r}(h:mM N b4 a1 a2 a3 a4 a5 a6 a7 a8 a9 a10 a11 a12=some r):FnM Tryz.prog 49 [.var (.st 26 [(aN.enc a1),(.ref 1 [] 0),(.ref 2 [] 0),(aA.enc a2),(aA.enc a3),(j64 a4),(eB a5),(aG.enc a6)]),.var (.st 38 [(aE.enc a7),(aF.enc a8),(.ifc 112 (.ref 3 [] 0)),(eO 4 1 (eL 2 aC.enc) b4),(aA.enc a9),(aH.enc a10)]),.var (aD.enc a11),.var (aL.enc a12),.tail (b4.length*1)] [(.ref 0 [] 0)] (.tup []) [.var (.st 26 [(aN.enc r.1),(.ref 1 [] 0),(.ref 2 [] 0),(aA.enc r.2.1),(aA.enc r.2.2.1),(j64 a4),(eB r.2.2.2.1),(aG.enc r.2.2.2.2.1)]),.var (.st 38 [(aE.enc a7),(aF.enc a8),(.ifc 112 (.ref 3 [] 0)),(eO 4 1 (eL 2 aC.enc) b4),(aA.enc a9),(.st 3 [(j64 a10.gL),(j64 r.2.2.2.2.2.1),(j64 (I64 (a10.gI+1)))])]),.var (aD.enc r.2.2.2.2.2.2.1),.var (aL.enc r.2.2.2.2.2.2.2),.tail (b4.length*1)]:=by
 unfold mM at h;refine At.f bO hT hmo Tryz.func49 rfl h ?_;refine At.Y 1 [0,1,2,3,4] aC9 λr1=>?_;refine At.J 6 1 [0,2] 6 (λp2=>([],[(0,.var (.st 26 [(aN.enc a1),(.ref 1 [] 0),(.ref 2 [] 0),(aA.enc a2),(aA.enc p2.1),(j64 a4),(eB p2.2),(aG.enc r1.1)]))],[])) (λp2=>?_) λp2=>?_
 ·refine At.c 2 ?_ ?_
  ·refine At.o 8 (bH hT (x:=(.sl 3 1 [(aA.enc a9)]))) ?_;refine At.Y 0 [0,1,2,3,4] sM λr3=>?_;refine At.Y 1 [0,1,2,3,4] jO λr4=>?_;apply rt;exact At.jn 0
  ·apply rt;exact At.jn 0
 ·refine At.Y 3 [0,1,2,3,4] jO λr5=>?_;refine At.J 0 1 [0,2] 6 (λp6=>([],[(0,.var (.st 26 [(aN.enc a1),(.ref 1 [] 0),(.ref 2 [] 0),(aA.enc a2),(aA.enc p6.1),(j64 a4),(eB p6.2),(aG.enc r1.1)]))],[])) (λp6=>?_) λp6=>?_
  ·refine lx ?_;intro x7;refine At.c 4 ?_ ?_
   ·refine At.o 3 (bH hT (x:=(.sl 3 1 [(aA.enc r1.2.2.2.1.gc)]))) ?_;refine At.Y 0 [0,1,2,3,4] sM λr8=>?_;refine At.Y 1 [0,1,2,3,4] jO λr9=>?_;apply rt;exact At.jn 0
   ·apply rt;exact At.jn 0
  ·refine At.J 0 1 [0,2] 6 (λp10=>([],[(0,.var (.st 26 [(aN.enc a1),(.ref 1 [] 0),(.ref 2 [] 0),(aA.enc a2),(aA.enc p10.1),(j64 a4),(eB p6.2),(aG.enc r1.1)])),(2,.var (aD.enc p10.2.1)),(3,.var (aL.enc p10.2.2))],[])) (λp10=>?_) λp10=>?_
   ·refine At.J 0 0 [0,2] 6 (λp11=>([(61,(eB p11))],[],[])) (λp11=>?_) λp11=>?_
    ·refine At.s 49 9 ?_ ?_
     ·refine At.g [49,55] 12 ?_;apply rt;exact At.jn 0
     ·refine lx ?_;intro x12;refine At.g [49] 12 ?_;apply rt;exact At.jn 0
    ·refine At.c 0 ?_ ?_
     ·refine At.Y 2 [0,1,2,3,4] aCR λr13=>?_;apply rt;exact At.jn 0
     ·apply rt;exact At.jn 0
   ·refine At.J 0 0 [0,2] 6 (λp14=>([(83,(eB p14))],[],[])) (λp14=>?_) λp14=>?_
    ·refine At.D 0 [] ?_;refine DD.s hT 5 ?_ ?_
     ·refine DD.e hT hmo 14 ?_;apply rt;exact At.jn 0
     ·refine DD.e hT hmo 14 ?_;apply rt;exact At.jn 0
    ·refine At.c 0 ?_ ?_
     ·refine At.Y 1 [0,1,2,3,4] jO λr15=>?_;apply rt;exact At.r 0
     ·refine At.D 0 [] ?_;refine DD.Y 12 [0,1,2,3,4] iY λr16=>?_;refine DD.Y 1 [0,1,2,3,4] iY λr17=>?_;refine DD.y 1 aBl λr18=>?_;refine DD.e hT hmo 2 ?_;refine At.D 0 [] ?_;refine DD.o 7 (λ_=>bH hT (x:=(.sl 3 2 [(aA.enc a2),(aA.enc r18.gC4)]))) ?_;refine DD.y 0 sU λr19=>?_;refine DD.e hT hmo 3 ?_;refine At.Y 3 [0,1,2,3,4] jO λr20=>?_;refine At.J 0 1 [0,2,4] 7 (λp21=>([],[(0,.var (.st 26 [(aN.enc a1),(.ref 1 [] 0),(.ref 2 [] 0),(aA.enc p21.1),(aA.enc p10.1),(j64 a4),(eB p21.2.1),(aG.enc r1.1)])),(2,.var (aD.enc p21.2.2))],[])) (λp21=>?_) λp21=>?_
      ·refine At.c 5 ?_ ?_
       ·refine At.D 0 [] ?_;refine DD.Y 5 [0,1,2,3,4] iY λr22=>?_;refine DD.y 0 aAu λr23=>?_;refine DD.e hT hmo 6 ?_;refine At.Y 8 [0,1,2,3,4] jO λr24=>?_;apply rt;exact At.jn 0
       ·apply rt;exact At.jn 0
      ·apply rt;exact At.z 11
def fZ(N:Nat)(b2:(List (List aC)))(a4:aE)(a5:aF)(a6:aA)(a7:aH)(a8:aL):Nat->aD->(Vector Int 4)->Int->Option (aD×(Vector Int 4))
 | 0,_,_,_=>none
 | k+1,s9,s10,s11=>
  cond (decide (s11 < 4)) (
   aa (dD N b2 s11 (aN.mk (aB.mk 0 0 0) (aB.mk 0 0 0) 0) (aA.mk 4294967296 4294967296 4294967296) (aA.mk 0 0 0) 0 false (aG.mk (aA.mk 0 0 0) 0 0 (aA.mk 0 0 0) (-1)) a4 a5 a6 a7 s9 a8) λr12=>
   aa (eY s11 4) λ_=>
   aa (s10.toList[s11.toNat]?) λe14=>
   fZ N b2 a4 a5 a6 a7 a8 k (aD.mk r12.1 s9.gA s9.gD s9.gC s9.gE) (s10.setIfInBounds s11.toNat r12.2) (I64 (s11+1))) (
   some ((s9,s10)))
def eK(N:Nat)(a5:aF)(b2:(List (List aC)))(a4:aE)(a6:aA):Nat->aH->aL->aD->aN->aA->aA->Int->Bool->aG->Option (aH×aL×aD×aN×aA×aA×Int×Bool×aG)
 | 0,_,_,_,_,_,_,_,_,_=>none
 | k+1,s17,s18,s19,s20,s21,s22,s23,s24,s25=>
  aa (aQ (decide (s23<=a5.gG)) λx27=>
  cond x27 (
   cond (!s24) (
    some true) (
    some a5.gA4)) (
   some false)) λp26=>
  cond p26 (
   aa (mM N b2 s20 s21 s22 s23 s24 s25 a4 a5 a6 s17 s19 s18) λr28=>
   eK N a5 b2 a4 a6 k (aH.mk s17.gL r28.2.2.2.2.2.1 (I64 (s17.gI+1))) r28.2.2.2.2.2.2.2 r28.2.2.2.2.2.2.1 r28.1 r28.2.1 r28.2.2.1 (I64 (s23+1)) r28.2.2.2.1 r28.2.2.2.2.1) (
   some ((s17,s18,s19,s20,s21,s22,s23,s24,s25)))
def fS(N:Nat)(b2:(List (List aC)))(a1 a2 a3:Int)(a4:aE)(a5:aF)(a6:aA)(a7:aH)(a8:aL):Option (aH×aL×aG×Int):=
 aQ (cond (decide (a1 < 0)) true (decide (a1>=a5.gW))) λx1=>
 aQ (cond x1 true (decide (a2 < 0))) λx2=>
 aQ (cond x2 true (decide (a2>=a5.gH))) λx3=>
 aQ (cond x3 true (decide (a3 < 0))) λx4=>
 aQ (decide (a3>=a5.gB5)) λx5=>
 cond (cond x4 true x5) (
  some ((a7,a8,aG.mk (aA.mk 0 0 0) 0 0 (aA.mk 0 0 0) 0,2))) (
  aQ (I64 ((I64 (a2*a5.gW))+a1)) λx6=>
  aa (wC N a5.gD6 x6 a3) λr7=>
  aa (fZ N b2 a4 a5 a6 a7 a8 N (aD.mk (eM.mk (bV.mk 0 0 0) false (Vector.replicate 64 0)) true a5.gD6 x6 a3) (#v[0,0,0,0]) 0) λp8=>
  aa (xS N a5.gD7 a5.gW a5.gH a1 a2 p8.2) λr15=>
  aa (eK N a5 b2 a4 a6 N a7 a8 p8.1 (aN.mk r15.1 r15.2.1 (-1)) (aA.mk 4294967296 4294967296 4294967296) (aA.mk 0 0 0) 0 false (aG.mk (aA.mk 0 0 0) 0 0 (aA.mk 0 0 0) (-1))) λp16=>
  some ((p16.1,p16.2.1,aG.mk p16.2.2.2.2.2.1 p16.2.2.2.2.2.2.2.2.gA0 p16.2.2.2.2.2.2.2.2.gG p16.2.2.2.2.2.2.2.2.gB6 p16.2.2.2.2.2.2.2.2.gA2,0)))
theorem aBB{N b2 a1 a2 a3 a4 a5 a6 a7 a8 r}(h:fS N b2 a1 a2 a3 a4 a5 a6 a7 a8=some r):FnM Tryz.prog 23 [.var (.st 38 [(aE.enc a4),(aF.enc a5),(.ifc 112 (.ref 1 [] 0)),(eO 2 1 (eL 2 aC.enc) b2),(aA.enc a6),(aH.enc a7)]),.var (aL.enc a8),.tail (b2.length*1)] [(.ref 0 [] 0),(j64 a1),(j64 a2),(j64 a3)] (.tup [(aG.enc r.2.2.1),(j64 r.2.2.2)]) [.var (.st 38 [(aE.enc a4),(aF.enc a5),(.ifc 112 (.ref 1 [] 0)),(eO 2 1 (eL 2 aC.enc) b2),(aA.enc a6),(aH.enc r.1)]),.var (aL.enc r.2.1),.tail (b2.length*1)]:=by
 unfold fS at h;refine At.f bO hT hmo Tryz.func23 rfl h ?_;refine At.o 3 (nI hT (t:=64) (x:=(.ref 0 [] 0)) (b:=true) (by kernel_rfl) rfl rfl (by kernel_rfl)) ?_;refine At.g [16] 5 ?_;refine At.o 0 (aIa (t:=104) (u:=112) (x:=(.ref 1 [] 0)) (by kernel_rfl) rfl rfl .eql false (by decide) (by kernel_rfl)) ?_;refine lx ?_;intro x1;refine lx ?_;intro x2;refine lx ?_;intro x3;refine lx ?_;intro x4;refine lx ?_;intro x5;refine At.g [16] 41 ?_;refine At.c 0 ?_ ?_
 ·apply rt;exact At.r 3
 ·refine At.D 0 [] ?_;refine lx ?_;intro x6;refine DD.Z 16 [] 4 aEy λr7=>?_;refine DD.e hT hmo 5 ?_;refine At.M 2 [0,1,2,8,10,11] 7 (λp8=>([],[(4,.var (aD.enc p8.1)),(6,.var (eA 4 1 k32 p8.2))],[])) [0,1,2,8,10,11] 7 (CU3 (fZ N b2 a4 a5 a6 a7 a8)) (cu3 λ(s9:aD) (s10:(Vector Int 4)) (s11:Int)=>([(84,(j64 s11))],[(4,.var (aD.enc s9)),(6,.var (eA 4 1 k32 s10))],[])) (_,_,_) N (λp8 k=>un3 λs9 s10 s11=>?_) λp8=>?_
  ·refine At.c 1 ?_ ?_
   ·refine At.Y 5 [5,0,4,1,2] iY λr12=>?_;refine At.b 0 (λ_ e=>bF hT (k:=1) 6 [] 0 e) λu13=>?_;refine At.b 0 (λ_ e=>pP hT k32 0 s10 e r12.2 (by kernel_rfl) (by kernel_rfl) (H':=[.var (.st 38 [(aE.enc a4),(aF.enc a5),(.ifc 112 (.ref 1 [] 0)),(eO 2 1 (eL 2 aC.enc) b2),(aA.enc a6),(aH.enc a7)]),.var (aL.enc a8),.tail (b2.length*1),.var cv_2,.var (.st 72 [(eM.enc r12.1),(eB s9.gA),(k64 s9.gD),(j64 s9.gC),(j64 s9.gE)]),.var cv_3,.var (eA 4 1 k32 (s10.setIfInBounds s11.toNat r12.2))])) λe14=>?_;exact λh=>At.v 2 (_,_,_) h
   ·apply rt;exact At.x 0
  ·refine At.D 5 [] ?_;refine DD.y 20 aHo λr15=>?_;refine DD.e hT hmo 12 ?_;refine At.M 0 [8,10] 7 (λp16=>([],[(0,.var (.st 38 [(aE.enc a4),(aF.enc a5),(.ifc 112 (.ref 1 [] 0)),(eO 2 1 (eL 2 aC.enc) b2),(aA.enc a6),(aH.enc p16.1)])),(1,.var (aL.enc p16.2.1)),(4,.var (aD.enc p16.2.2.1)),(5,.var (.st 26 [(aN.enc p16.2.2.2.1),(.ref 0 [] 0),(.ref 4 [] 0),(aA.enc p16.2.2.2.2.1),(aA.enc p16.2.2.2.2.2.1),(j64 p16.2.2.2.2.2.2.1),(eB p16.2.2.2.2.2.2.2.1),(aG.enc p16.2.2.2.2.2.2.2.2)]))],[])) [0,8,10] 7 (CU9 (eK N a5 b2 a4 a6)) (cu9 λ(s17:aH) (s18:aL) (s19:aD) (s20:aN) (s21:aA) (s22:aA) (s23:Int) (s24:Bool) (s25:aG)=>([],[(0,.var (.st 38 [(aE.enc a4),(aF.enc a5),(.ifc 112 (.ref 1 [] 0)),(eO 2 1 (eL 2 aC.enc) b2),(aA.enc a6),(aH.enc s17)])),(1,.var (aL.enc s18)),(4,.var (aD.enc s19)),(5,.var (.st 26 [(aN.enc s20),(.ref 0 [] 0),(.ref 4 [] 0),(aA.enc s21),(aA.enc s22),(j64 s23),(eB s24),(aG.enc s25)]))],[])) (_,_,_,_,_,_,_,_,_) N (λp16 k=>un9 λs17 s18 s19 s20 s21 s22 s23 s24 s25=>?_) λp16=>?_
   ·refine At.J 0 0 [0,8,10] 7 (λp26=>([(151,(eB p26))],[],[])) (λp26=>?_) λp26=>?_
    ·refine At.D 0 [] ?_;refine lx ?_;intro x27;refine DD.s hT 11 ?_ ?_
     ·refine DD.s hT 6 ?_ ?_
      ·refine DD.e hT hmo 7 ?_;apply rt;exact At.jn 0
      ·refine DD.e hT hmo 7 ?_;apply rt;exact At.jn 0
     ·refine DD.e hT hmo 13 ?_;apply rt;exact At.jn 0
    ·refine At.c 0 ?_ ?_
     ·refine At.Y 1 [5,0,4,1,2] aCz λr28=>?_;exact λh=>At.v 8 (_,_,_,_,_,_,_,_,_) h
     ·apply rt;exact At.x 0
   ·apply rt;exact At.r 15
def aPC : Nat->Bool:=imL [3]
def tM(N:Nat)(a0:(List aG))(a1:aE):Nat->Int->Option (Sum (Unit) (Int))
 | 0,_=>none
 | k+1,s4=>
  aQ (decide (s4 < ((a0.length:Int)))) λx5=>
  cond x5 (
   aa (idx a0 s4) λe6=>
   aa (aQ (decide (e6.gA2 < (-1))) λx8=>
   aQ ((a1.gA3.length:Int)) λx9=>
   aQ (eP ((a1.gJ.length:Int)) x9) λx10=>
   aQ (cond x8 true (decide (e6.gA2>=x10))) λx11=>
   cond x11 (
    some true) (
    aQ (cond (e6.gA0 != 0) (e6.gA0 != 1) false) λx12=>
    some x12)) λp7=>
   cond p7 (some (Sum.inr 5)) (tM N a0 a1 k (I64 (s4+1)))) (
   some (Sum.inl (())))
def zZ(N:Nat)(a0:(List aG))(a1:aE):Option (Int):=
 aQ (((a0.length:Int))==0) λx1=>
 aQ (decide (((a0.length:Int)) > 16)) λx2=>
 cond (cond x1 true x2) (
  some 2) (
  aa (tM N a0 a1 N 0) λo=>jY o (λp3=>
   some 0) (λr=>some r))
theorem aMu{N a0 a1 r}(h:zZ N a0 a1=some r):FnM Tryz.prog 50 [] [(eL 9 aG.enc a0),(aE.enc a1)] (j64 r) []:=by
 unfold zZ at h;refine At.f aPC hT hmo Tryz.func50 rfl h ?_;refine lx ?_;intro x1;refine lx ?_;intro x2;refine At.c 10 ?_ ?_
 ·apply rt;exact At.r 1
 ·refine At.MS 3 [] 0 (λp3=>([],[],[])) [3,15,16] 0 (tM N a0 a1) (λ(s4:Int)=>([(17,(j64 s4))],[],[])) _ N (λop3 g3 k s4=>?_) λp3=>?_
  ·refine lx ?_;intro x5;refine At.c 1 ?_ ?_
   ·refine At.i hT 0 aG.enc λe6=>?_;refine At.J 3 0 [3,15,16,17] 1 (λp7=>([(45,(eB p7))],[],[])) (λp7=>?_) λp7=>?_
    ·refine lx ?_;intro x8;refine lx ?_;intro x9;refine lx ?_;intro x10;refine lx ?_;intro x11;refine At.s 36 16 ?_ ?_
     ·refine At.g [36,40] 9 ?_;apply rt;exact At.jn 0
     ·refine lx ?_;intro x12;refine At.g [36] 9 ?_;apply rt;exact At.jn 0
    ·refine At.c 0 ?_ ?_
     ·intro e;apply aBq g3 e;exact At.r 1
     ·exact λh=>At.v 2 _ h
   ·apply rt;exact At.xs 0
  ·apply rt;exact At.r 1
def uL(N:Nat)(a0:Int):Option (Int):=
 some (shr .i64 a0 32)
theorem aDR{N a0 r}(h:uL N a0=some r):FnM Tryz.prog 98 [] [(j64 a0)] (j64 r) []:=by
 unfold uL at h;refine At.f bO hT hmo Tryz.func98 rfl h ?_;apply rt;exact At.r 4
def uH(N:Nat)(a0:Int):Option (Int):=
 cond (decide (a0<=0)) (
  some 0) (
  aa (lB N ([a0,4294967296])) λr1=>
  aa (jM N a0 r1) λr2=>
  aa (jE N 65535) λr3=>
  aa (aAD N ([r2,r3])) λr4=>
  aa (uL N r4) λr5=>
  some r5)
theorem aDS{N a0 r}(h:uH N a0=some r):FnM Tryz.prog 57 [] [(j64 a0)] (j64 r) []:=by
 unfold uH at h;refine At.f bO hT hmo Tryz.func57 rfl h ?_;refine At.c 3 ?_ ?_
 ·apply rt;exact At.r 1
 ·refine At.o 2 (bH hT (x:=(.sl 1 2 [(j64 a0),(j64 4294967296)]))) ?_;refine At.y 0 rB λr1=>?_;refine At.y 0 nD λr2=>?_;refine At.y 0 jP λr3=>?_;refine At.o 0 (bH hT (x:=(.sl 1 2 [(j64 r2),(j64 r3)]))) ?_;refine At.y 0 aFd λr4=>?_;refine At.y 0 aDR λr5=>?_;apply rt;exact At.r 1
def aGW : Nat->Bool:=imL [2]
def qR(N:Nat)(a0:aA):Option ((Vector Int 3)):=
 aa (uH N a0.gX) λr1=>
 aa (uH N a0.gY) λr2=>
 aa (uH N a0.gZ) λr3=>
 some (#v[r1,r2,r3])
theorem aFY{N a0 r}(h:qR N a0=some r):FnM Tryz.prog 55 [] [(aA.enc a0),(.fn (.func 57) [] [])] (eA 3 1 j64 r) []:=by
 unfold qR at h;refine At.f aGW hT hmo Tryz.func55 rfl h ?_;refine At.D 2 [] ?_;refine DD.y 3 aDS λr1=>?_;refine DD.y 3 aDS λr2=>?_;refine DD.y 3 aDS λr3=>?_;refine DD.e hT hmo 2 ?_;apply rt;exact At.r 0
def aJY : Nat->Bool:=imL [3,4]
def yS(N:Nat)(a0 a1:aA):Option (aA):=
 aa (jM N a0.gX a1.gX) λr1=>
 aa (jM N a0.gY a1.gY) λr2=>
 aa (jM N a0.gZ a1.gZ) λr3=>
 some (aA.mk r1 r2 r3)
theorem aHs{N a0 a1 r}(h:yS N a0 a1=some r):FnM Tryz.prog 93 [] [(aA.enc a0),(aA.enc a1),(.fn (.func 53) [] [])] (aA.enc r) []:=by
 unfold yS at h;refine At.f aJY hT hmo Tryz.func93 rfl h ?_;refine At.D 3 [] ?_;refine DD.y 5 nD λr1=>?_;refine DD.y 5 nD λr2=>?_;refine DD.y 5 nD λr3=>?_;refine DD.e hT hmo 2 ?_;apply rt;exact At.r 0
def aOG : Nat->Bool:=imL [1]
def aBb(N:Nat)(a0:aA):Option (aA):=
 cond (aA.eq a0 (aA.mk 0 0 0)) (
  some a0) (
  aa (qP N a0) λr1=>
  aa (yS N a0 (aA.mk r1 r1 r1)) λr2=>
  some r2)
theorem aNK{N a0 r}(h:aBb N a0=some r):FnM Tryz.prog 58 [] [(aA.enc a0)] (aA.enc r) []:=by
 unfold aBb at h;refine At.f aOG hT hmo Tryz.func58 rfl h ?_;refine At.o 4 (aBF aWA (a0:aA) (aA.mk 0 0 0:aA) (by kernel_rfl) (by kernel_rfl) (λ_=>rfl) (λ_=>rfl) (by kernel_rfl) (by kernel_rfl)) ?_;refine At.c 0 ?_ ?_
 ·apply rt;exact At.r 2
 ·refine At.y 1 aCb λr1=>?_;refine At.y 6 aHs λr2=>?_;apply rt;exact At.r 1
def uV(N:Nat)(a0:Int):Option (Int):=
 aa (jE N 32767) λr1=>
 aa (xZ N a0 (-4294967296) 4294967296) λr2=>
 aa (lB N ([4294967296,r2])) λr3=>
 aa (aAD N ([r1,r3])) λr4=>
 aa (uL N r4) λr5=>
 some r5
theorem aC3{N a0 r}(h:uV N a0=some r):FnM Tryz.prog 59 [] [(j64 a0)] (j64 r) []:=by
 unfold uV at h;refine At.f bO hT hmo Tryz.func59 rfl h ?_;refine At.y 1 jP λr1=>?_;refine At.y 1 aFn λr2=>?_;refine At.o 0 (bH hT (x:=(.sl 1 2 [(j64 4294967296),(j64 r2)]))) ?_;refine At.y 0 rB λr3=>?_;refine At.o 0 (bH hT (x:=(.sl 1 2 [(j64 r1),(j64 r3)]))) ?_;refine At.y 0 aFd λr4=>?_;refine At.y 0 aDR λr5=>?_;apply rt;exact At.r 1
def aGO : Nat->Bool:=imL [2]
def qI(N:Nat)(a0:aA):Option ((Vector Int 3)):=
 aa (uV N a0.gX) λr1=>
 aa (uV N a0.gY) λr2=>
 aa (uV N a0.gZ) λr3=>
 some (#v[r1,r2,r3])
theorem aFG{N a0 r}(h:qI N a0=some r):FnM Tryz.prog 55 [] [(aA.enc a0),(.fn (.func 59) [] [])] (eA 3 1 j64 r) []:=by
 unfold qI at h;refine At.f aGO hT hmo Tryz.func55 rfl h ?_;refine At.D 2 [] ?_;refine DD.y 3 aC3 λr1=>?_;refine DD.y 3 aC3 λr2=>?_;refine DD.y 3 aC3 λr3=>?_;refine DD.e hT hmo 2 ?_;apply rt;exact At.r 0
def aBS(N:Nat)(a0:Int):Option (Int):=
 aa (uL N a0) λr1=>
 some (eP (jZ r1 0) 65535)
theorem aNk{N a0 r}(h:aBS N a0=some r):FnM Tryz.prog 60 [] [(j64 a0)] (j64 r) []:=by
 unfold aBS at h;refine At.f bO hT hmo Tryz.func60 rfl h ?_;refine At.y 2 aDR λr1=>?_;apply rt;exact At.r 3
def aLP : Nat->Bool:=imL [3]
def pX(N:Nat)(a0:(List aG)):Nat->aA->aA->Int->Int->Int->Int->Int->Option (aA×aA×Int×Int×Int×Int)
 | 0,_,_,_,_,_,_,_=>none
 | k+1,s3,s4,s5,s6,s7,s8,s9=>
  aQ (decide (s9 < ((a0.length:Int)))) λx10=>
  cond x10 (
   aa (aa (idx a0 s9) λe12=>
   aa (mC N ([s3,e12.gA7])) λr13=>
   aa (mC N ([s4,e12.gB6])) λr14=>
   aa (lB N ([s5,e12.gG])) λr15=>
   cond (decide (e12.gA2>=0)) (
    cond (decide (s8 < 0)) (
     some ((r13,r14,e12,r15,I64 (s6+e12.gA0),I64 (s7+1),e12.gA2))) (
     some ((r13,r14,e12,r15,I64 (s6+e12.gA0),I64 (s7+1),s8)))) (
    some ((r13,r14,e12,r15,I64 (s6+e12.gA0),s7,s8)))) λp11=>
   pX N a0 k p11.1 p11.2.1 p11.2.2.2.1 p11.2.2.2.2.1 p11.2.2.2.2.2.1 p11.2.2.2.2.2.2 (I64 (s9+1))) (
   some ((s3,s4,s5,s6,s7,s8)))
def qE(N:Nat)(a0:(List aG))(a1:aE):Option (aI×Int):=
 aa (zZ N a0 a1) λr1=>
 cond (r1 != 0) (
  some ((aI.mk 0 0 [] [] [] [] [] [],r1))) (
  aa (pX N a0 N (aA.mk 0 0 0) (aA.mk 0 0 0) 0 0 0 (-1) 0) λp2=>
  aa (jE N ((a0.length:Int))) λr16=>
  aa (jM N 4294967296 r16) λr17=>
  aa (hK N p2.1 r17) λr18=>
  aa (qR N r18) λr19=>
  aQ (I64 (65535*p2.2.2.2.1)) λx20=>
  aa (aDm .i64 x20 ((a0.length:Int))) λx21=>
  aa (aBb N p2.2.1) λr22=>
  aa (qI N r22) λr23=>
  aa (aQ (decide (p2.2.2.2.2.1 > 0)) λx25=>
  cond x25 (
   aa (jE N p2.2.2.2.2.1) λr26=>
   aa (jM N p2.2.2.1 r26) λr27=>
   aa (aBS N r27) λr28=>
   aa (eY 0 1) λ_=>
   aa ((([0]:List Int))[(bg 0)]?) λe30=>
   aQ (eP (I64 (p2.2.2.2.2.2+1)) 65535) λx31=>
   aa (idx a1.gA3 p2.2.2.2.2.2) λe32=>
   aQ (I64 (lE .u32 e32 65535)) λx33=>
   aa (eY 0 1) λ_=>
   aa ((([0]:List Int))[(bg 0)]?) λe35=>
   aa (eY 0 1) λ_=>
   aa ((([0]:List Int))[(bg 0)]?) λe37=>
   some (((([0]:List Int)).set ((bg 0)) r28,(([0]:List Int)).set ((bg 0)) x31,(([0]:List Int)).set ((bg 0)) x33))) (
   some ((([0]:List Int),([0]:List Int),([0]:List Int))))) λp24=>
  aa (zQ p24.1 1) λ_=>
  aa (zQ p24.2.1 1) λ_=>
  aa (zQ p24.2.2 1) λ_=>
  some ((aI.mk 1 1 ([r19]) ([x21]) p24.1 ([r23]) p24.2.1 p24.2.2,0)))
theorem aE7{N a0 a1 r}(h:qE N a0 a1=some r):FnM Tryz.prog 24 [] [(eL 9 aG.enc a0),(aE.enc a1)] (.tup [(aI.enc r.1),(j64 r.2)]) []:=by
 unfold qE at h;refine At.f aLP hT hmo Tryz.func24 rfl h ?_;refine At.y 5 aMu λr1=>?_;refine At.c 3 ?_ ?_
 ·apply rt;exact At.r 4
 ·refine At.M 9 [0,3,4,7,8] 3 (λp2=>([(9,(j64 p2.2.2.1)),(10,(j64 p2.2.2.2.1)),(11,(j64 p2.2.2.2.2.1)),(12,(j64 p2.2.2.2.2.2))],[(1,.var (aA.enc p2.1)),(2,.var (aA.enc p2.2.1))],[])) [0,3,4,7,8,24,25] 3 (CU7 (pX N a0)) (cu7 λ(s3:aA) (s4:aA) (s5:Int) (s6:Int) (s7:Int) (s8:Int) (s9:Int)=>([(9,(j64 s5)),(10,(j64 s6)),(11,(j64 s7)),(12,(j64 s8)),(26,(j64 s9))],[(1,.var (aA.enc s3)),(2,.var (aA.enc s4))],[])) (_,_,_,_,_,_,_) N (λp2 k=>un7 λs3 s4 s5 s6 s7 s8 s9=>?_) λp2=>?_
  ·refine lx ?_;intro x10;refine At.c 1 ?_ ?_
   ·refine At.J 0 2 [0,3,4,7,8,24,25,26] 3 (λp11=>([(9,(j64 p11.2.2.2.1)),(10,(j64 p11.2.2.2.2.1)),(11,(j64 p11.2.2.2.2.2.1)),(12,(j64 p11.2.2.2.2.2.2))],[(1,.var (aA.enc p11.1)),(2,.var (aA.enc p11.2.1))],[.var (aG.enc p11.2.2.1)])) (λp11=>?_) λp11=>?_
    ·refine At.i hT 0 aG.enc λe12=>?_;refine At.D 3 [] ?_;refine DD.o 3 (λ_=>bH hT (x:=(.sl 3 2 [(aA.enc s3),(aA.enc e12.gA7)]))) ?_;refine DD.y 0 vC λr13=>?_;refine DD.o 3 (λ_=>bH hT (x:=(.sl 3 2 [(aA.enc s4),(aA.enc e12.gB6)]))) ?_;refine DD.y 0 vC λr14=>?_;refine DD.o 3 (λ_=>bH hT (x:=(.sl 1 2 [(j64 s5),(j64 e12.gG)]))) ?_;refine DD.y 0 rB λr15=>?_;refine DD.e hT hmo 3 ?_;refine At.c 8 ?_ ?_
     ·refine At.c 5 ?_ ?_
      ·apply rt;exact At.jn 3
      ·apply rt;exact At.jn 0
     ·apply rt;exact At.jn 0
    ·exact λh=>At.v 2 (_,_,_,_,_,_,_) h
   ·apply rt;exact At.x 0
  ·refine At.y 2 jP λr16=>?_;refine At.y 0 nD λr17=>?_;refine At.D 1 [false,false,false,false] ?_;refine DD.y 2 kN λr18=>?_;refine DD.y 0 aFY λr19=>?_;refine DD.o 0 (λ_=>bH hT (x:=(.sl 3 1 [(eA 3 1 j64 r19)]))) ?_;refine lx ?_;intro x20;refine DD.b 4 (λe _=>yX hT e (by kernel_rfl) (by kernel_rfl)) λx21=>?_;refine DD.o 0 (λ_=>bH hT (x:=(.sl 1 1 [(j64 x21)]))) ?_;refine DD.w 0 (.bsl 3 [] 0 1 0 1) ⟨[(3,.var (.arr 1 1 (aj j64 (([0]:List Int)))))],[]⟩ (λ_ e=>dsR hT j64 (k:=1) (N:=1) ([0]:List Int) e) ?_;refine DD.y 1 aNK λr22=>?_;refine DD.y 0 aFG λr23=>?_;refine DD.o 0 (λ_=>bH hT (x:=(.sl 3 1 [(eA 3 1 j64 r23)]))) ?_;refine DD.w 0 (.bsl 4 [] 0 1 0 1) ⟨[(4,.var (.arr 1 1 (aj j64 (([0]:List Int)))))],[]⟩ (λ_ e=>dsR hT j64 (k:=1) (N:=1) ([0]:List Int) e) ?_;refine DD.w 0 (.bsl 5 [] 0 1 0 1) ⟨[(5,.var (.arr 1 1 (aj j64 (([0]:List Int)))))],[]⟩ (λ_ e=>dsR hT j64 (k:=1) (N:=1) ([0]:List Int) e) ?_;refine DD.e hT hmo 3 ?_;refine At.J 0 1 [4,16] 7 (λp24=>([],[(3,.var (.arr 1 1 (aj j64 p24.1))),(4,.var (.arr 1 1 (aj j64 p24.2.1))),(5,.var (.arr 1 1 (aj j64 p24.2.2)))],[])) (λp24=>?_) λp24=>?_
   ·refine lx ?_;intro x25;refine At.c 2 ?_ ?_
    ·refine At.D 0 [] ?_;refine DD.y 4 jP λr26=>?_;refine DD.y 0 nD λr27=>?_;refine DD.y 0 aNk λr28=>?_;refine DD.b 0 (λe _=>aIH hT 3 [] 0 0 1 (k:=1) e (by kernel_rfl) (by kernel_rfl)) λu29=>?_;refine bi λe30 he30=>?_;refine DD.w 0 (.v (.bool false)) ⟨[(3,.var (.arr 1 1 (aj j64 ((([0]:List Int)).set ((bg 0)) r28))))],[]⟩ (λ_ e=>zY (aIR hT j64 0 he30 r28 (pj1 e) (pj1 (pj2 e)) (pj1 (pj2 (pj2 e)))) (pj2 (pj2 (pj2 e)))) ?_;refine DD.e hT hmo 0 ?_;refine At.D 0 [] ?_;refine lx ?_;intro x31;refine DD.i hT 10 k32 λe32=>?_;refine lx ?_;intro x33;refine DD.b 3 (λe _=>aIH hT 4 [] 0 0 1 (k:=1) e (by kernel_rfl) (by kernel_rfl)) λu34=>?_;refine bi λe35 he35=>?_;refine DD.w 0 (.v (.bool false)) ⟨[(4,.var (.arr 1 1 (aj j64 ((([0]:List Int)).set ((bg 0)) x31))))],[]⟩ (λ_ e=>zY (aIR hT j64 0 he35 x31 (pj1 e) (pj1 (pj2 e)) (pj1 (pj2 (pj2 e)))) (pj2 (pj2 (pj2 e)))) ?_;refine DD.b 0 (λe _=>aIH hT 5 [] 0 0 1 (k:=1) e (by kernel_rfl) (by kernel_rfl)) λu36=>?_;refine bi λe37 he37=>?_;refine DD.w 0 (.v (.bool false)) ⟨[(5,.var (.arr 1 1 (aj j64 ((([0]:List Int)).set ((bg 0)) x33))))],[]⟩ (λ_ e=>zY (aIR hT j64 0 he37 x33 (pj1 e) (pj1 (pj2 e)) (pj1 (pj2 (pj2 e)))) (pj2 (pj2 (pj2 e)))) ?_;refine DD.e hT hmo 0 ?_;apply rt;exact At.jn 0
    ·apply rt;exact At.jn 0
   ·refine bi λu38 hu38=>?_;refine At.fz 3 3 1 1 _ (aj j64 p24.1) (ak _) (aOI j64 hu38) ?_;refine bi λu39 hu39=>?_;refine At.fz 0 4 1 1 _ (aj j64 p24.2.1) (ak _) (aOI j64 hu39) ?_;refine bi λu40 hu40=>?_;refine At.fz 0 5 1 1 _ (aj j64 p24.2.2) (ak _) (aOI j64 hu40) ?_;apply rt;exact At.r 0
def tJ(N:Nat)(a0:(List (Vector Int 3))):Nat->(List Int)->Int->Option ((List Int))
 | 0,_,_=>none
 | k+1,s2,s3=>
  aQ (decide (s3 < ((a0.length:Int)))) λx4=>
  cond x4 (
   aa (idx a0 s3) λe5=>
   aa (yN e5.toList 0 3) λs7=>
   aa (tU 8 s2 s7) λz8=>
   tJ N a0 k z8 (I64 (s3+1))) (
   some s2)
def aAA(N:Nat)(a0:(List (Vector Int 3))):Option ((List Int)):=
 aa (tJ N a0 N [] 0) λp1=>
 some p1
theorem aHY{N a0 r}(h:aAA N a0=some r):FnM Tryz.prog 153 [] [(eL 3 (eA 3 1 j64) a0)] (eL 1 j64 r) []:=by
 unfold aAA at h;refine At.f bO hT hmo Tryz.func153 rfl h ?_;refine At.ownn 5 3 1 ?_;refine At.M 0 [] 1 (λp1=>([(3,(eO 0 1 j64 p1))],[(0,.tail (p1.length*1))],[])) [6,7] 1 (CU2 (tJ N a0)) (cu2 λ(s2:(List Int)) (s3:Int)=>([(3,(eO 0 1 j64 s2)),(8,(j64 s3))],[(0,.tail (s2.length*1))],[])) (_,_) N (λp1 k=>un2 λs2 s3=>?_) λp1=>?_
 ·refine lx ?_;intro x4;refine At.c 1 ?_ ?_
  ·refine At.i hT 0 (eA 3 1 j64) λe5=>?_;refine At.gz 4 1 ((eA 3 1 j64 e5)) ?_;refine At.b 0 (λ_ e=>aCN hT (N:=3) (k:=1) j64 e5 e) λs7=>?_;refine At.b 0 (λ_ e=>kB hT j64 (id:=0) (k:=1) e) λz8=>?_;exact λh=>At.v 3 (_,_) h
  ·apply rt;exact At.x 0
 ·apply rt;exact At.r 2
def aCJ(N:Nat):Option ((Vector aU 6)):=
 some (#v[aU.mk 0 0 3 aMv [],aU.mk 0 0 1 (ByteArray.mk #[65,76,80,72,65]) [],aU.mk 0 0 1 (ByteArray.mk #[68,69,80,84,72]) [],aU.mk 0 0 3 aNy [],aU.mk 0 0 1 (ByteArray.mk #[65,83,83,69,84]) [],aU.mk 0 0 1 (ByteArray.mk #[76,65,66,69,76]) []])
theorem aLx{N r}(h:aCJ N=some r):FnM Tryz.prog 154 [] [] (eA 30 5 aU.enc r) []:=by
 unfold aCJ at h;refine At.f bO hT hmo Tryz.func154 rfl h ?_;refine At.wa 8 7 [(aU.enc (aU.mk 0 0 3 aMv [])),(aU.enc (aU.mk 0 0 1 (ByteArray.mk #[65,76,80,72,65]) [])),(aU.enc (aU.mk 0 0 1 (ByteArray.mk #[68,69,80,84,72]) [])),(aU.enc (aU.mk 0 0 3 aNy [])),(aU.enc (aU.mk 0 0 1 (ByteArray.mk #[65,83,83,69,84]) [])),(aU.enc (aU.mk 0 0 1 (ByteArray.mk #[76,65,66,69,76]) []))] ?_;apply rt;exact At.r 1
def nJ(N:Nat)(a0 a1 a2:Int):Option (Bool):=
 aQ (cond (decide (a0>=a1)) (decide (a0<=a2)) false) λx1=>
 some x1
theorem uQ{N a0 a1 a2 r}(h:nJ N a0 a1 a2=some r):FnM Tryz.prog 189 [] [(j64 a0),(j64 a1),(j64 a2)] (eB r) []:=by
 unfold nJ at h;refine At.f bO hT hmo Tryz.func189 rfl h ?_;refine lx ?_;intro x1;apply rt;exact At.r 10
def aBm(N:Nat)(x1:Int)(a0:ByteArray):Nat->Int->Option (Sum (Unit) (Bool))
 | 0,_=>none
 | k+1,s3=>
  cond (decide (s3 < x1)) (
   aa (idx (aDY a0) s3) λe4=>
   aQ (cond (decide (e4 < 65)) true (decide (e4 > 90))) λx5=>
   cond x5 (some (Sum.inr false)) (aBm N x1 a0 k (I64 (s3+1)))) (
   some (Sum.inl (())))
def nP(N:Nat)(a0:ByteArray):Option (Bool):=
 aQ (((aDY a0).length:Int)) λx1=>
 aa (aBm N x1 a0 N 0) λo=>jY o (λp2=>
  aQ ((ByteArray.size a0:Int)) λx6=>
  aa (nJ N x6 1 16) λr7=>
  some r7) (λr=>some r)
theorem aLf{N a0 r}(h:nP N a0=some r):FnM Tryz.prog 190 [] [(eS a0)] (eB r) []:=by
 unfold nP at h;refine At.f bO hT hmo Tryz.func190 rfl h ?_;refine At.o 2 (aTj hT a0 (e:=5) (by kernel_rfl) (by kernel_rfl)) ?_;refine lx ?_;intro x1;refine At.MS 2 [0] 0 (λp2=>([],[],[])) [0,6,7] 0 (aBm N x1 a0) (λ(s3:Int)=>([(8,(j64 s3))],[],[])) _ N (λop2 g2 k s3=>?_) λp2=>?_
 ·refine At.c 1 ?_ ?_
  ·refine At.i hT 0 k8 λe4=>?_;refine lx ?_;intro x5;refine At.c 8 ?_ ?_
   ·intro e;apply aBq g2 e;exact At.r 1
   ·exact λh=>At.v 2 _ h
  ·apply rt;exact At.xs 0
 ·refine lx ?_;intro x6;refine At.y 2 uQ λr7=>?_;apply rt;exact At.r 1
def aNN : Nat->Bool:=imL [1]
def pO(N:Nat)(x9:Int)(a0:aU):Nat->Int->Option (Sum (Unit) (Int))
 | 0,_=>none
 | k+1,s11=>
  cond (decide (s11 < x9)) (
   aa (idx a0.gE1 s11) λe12=>
   aa (nJ N e12 0 65535) λr13=>
   cond (!r13) (some (Sum.inr 5)) (pO N x9 a0 k (I64 (s11+1)))) (
   some (Sum.inl (())))
def aAa(N:Nat)(a0:aU):Option (Int):=
 aa (aa (nJ N a0.gW 1 64) λr2=>
 cond (!r2) (
  some true) (
  aa (nJ N a0.gH 1 64) λr3=>
  cond (!r3) (
   some true) (
   aa (nJ N a0.gC9 1 4) λr4=>
   some (!r4)))) λp1=>
 cond p1 (
  some 2) (
  aa (nP N a0.gD0) λr5=>
  aQ ((a0.gE1.length:Int)) λx6=>
  aQ (I64 ((I64 (a0.gW*a0.gH))*a0.gC9)) λx7=>
  aQ (cond (!r5) true (x6 != x7)) λx8=>
  cond x8 (
   some 5) (
   aQ ((a0.gE1.length:Int)) λx9=>
   aa (pO N x9 a0 N 0) λo=>jY o (λp10=>
    some 0) (λr=>some r)))
theorem aL2{N a0 r}(h:aAa N a0=some r):FnM Tryz.prog 155 [] [(aU.enc a0)] (j64 r) []:=by
 unfold aAa at h;refine At.f aNN hT hmo Tryz.func155 rfl h ?_;refine At.J 2 0 [1] 0 (λp1=>([(20,(eB p1))],[],[])) (λp1=>?_) λp1=>?_
 ·refine At.y 2 uQ λr2=>?_;refine At.s 9 2 ?_ ?_
  ·refine At.g [9,15] 11 ?_;apply rt;exact At.jn 0
  ·refine At.g [9] 2 ?_;refine At.y 0 uQ λr3=>?_;refine At.g [9] 3 ?_;refine At.s 15 0 ?_ ?_
   ·refine At.g [15] 5 ?_;apply rt;exact At.jn 0
   ·refine At.g [15] 2 ?_;refine At.y 0 uQ λr4=>?_;refine At.g [15] 2 ?_;apply rt;exact At.jn 0
 ·refine At.c 0 ?_ ?_
  ·apply rt;exact At.r 1
  ·refine At.y 2 aLf λr5=>?_;refine lx ?_;intro x6;refine lx ?_;intro x7;refine lx ?_;intro x8;refine At.c 15 ?_ ?_
   ·apply rt;exact At.r 1
   ·refine lx ?_;intro x9;refine At.MS 4 [] 0 (λp10=>([],[],[])) [40,41] 0 (pO N x9 a0) (λ(s11:Int)=>([(42,(j64 s11))],[],[])) _ N (λop10 g10 k s11=>?_) λp10=>?_
    ·refine At.c 1 ?_ ?_
     ·refine At.i hT 0 j64 λe12=>?_;refine At.y 3 uQ λr13=>?_;refine At.c 1 ?_ ?_
      ·intro e;apply aBq g10 e;exact At.r 1
      ·exact λh=>At.v 2 _ h
     ·apply rt;exact At.xs 0
    ·apply rt;exact At.r 1
def aLo : Nat->Bool:=imL [1]
def oG(N:Nat)(r3:(Vector aU 6))(r1:(List Int))(a0:aI)(r2:(List Int)):Nat->(List aU)->Int->Option (Sum ((List aU)) ((List aU)×Int))
 | 0,_,_=>none
 | k+1,s5,s6=>
  cond (decide (s6 < 6)) (
   aa (idx r3.toList s6) λe7=>
   aa (eY s6 6) λ_=>
   aa ((#v[r1,a0.gA0,a0.gG,r2,a0.gB8,a0.gR]).toList[s6.toNat]?) λe9=>
   aa (tU 8 (([]:List Int)) e9) λz10=>
   aa (aAa N (aU.mk a0.gW a0.gH e7.gC9 e7.gD0 z10)) λr11=>
   cond (r11 != 0) (
    some (Sum.inr (([],r11)))) (
    aa (tU 64 s5 (([aU.mk a0.gW a0.gH e7.gC9 e7.gD0 z10]:List aU))) λz12=>
    oG N r3 r1 a0 r2 k z12 (I64 (s6+1)))) (
   some (Sum.inl s5))
def yZ(N:Nat)(a0:aI):Option ((List aU)×Int):=
 aa (aAA N a0.gC1) λr1=>
 aa (aAA N a0.gB6) λr2=>
 aa (aCJ N ) λr3=>
 aa (oG N r3 r1 a0 r2 N [] 0) λo=>jY o (λp4=>
  some ((p4,0))) (λr=>some r)
theorem aKV{N a0 r}(h:yZ N a0=some r):FnM Tryz.prog 102 [] [(aI.enc a0)] (.tup [(eL 5 aU.enc r.1),(j64 r.2)]) []:=by
 unfold yZ at h;refine At.f aLo hT hmo Tryz.func102 rfl h ?_;refine At.D 3 [] ?_;refine DD.y 2 aHY λr1=>?_;refine DD.y 6 aHY λr2=>?_;refine DD.e hT hmo 7 ?_;refine At.y 1 aLx λr3=>?_;refine At.ownn 1 5 5 ?_;refine At.MS 0 [] 2 (λp4=>([(5,(eO 1 5 aU.enc p4))],[(1,.tail (p4.length*5))],[])) [1,4,24] 2 (CU2 (oG N r3 r1 a0 r2)) (cu2 λ(s5:(List aU)) (s6:Int)=>([(5,(eO 1 5 aU.enc s5)),(25,(j64 s6))],[(1,.tail (s5.length*5))],[])) (_,_) N (λop4 g4 k=>un2 λs5 s6=>?_) λp4=>?_
 ·refine At.c 1 ?_ ?_
  ·refine At.b 1 (λ_ e=>aA2 hT aU.enc r3 e (by kernel_rfl) (by kernel_rfl)) λe7=>?_;refine At.D 3 [] ?_;refine DD.e hT hmo 8 ?_;refine At.o 0 (sZ hT j64 (k:=1) ([]:List Int) (by kernel_rfl) (by kernel_rfl)) ?_;refine At.b 1 (λ_ e=>bF hT (k:=1) 0 [] 0 e) λu8=>?_;refine At.b 0 (λ_ e=>qG hT (eL 1 j64) 0 e) λe9=>?_;refine At.b 0 (λ_ e=>kB hT j64 (id:=3) (k:=1) e) λz10=>?_;refine At.y 3 aL2 λr11=>?_;refine At.c 3 ?_ ?_
   ·intro e;apply aBq g4 e;exact At.r 3
   ·refine At.wk 2 47 ((.st 5 [(j64 a0.gW),(j64 a0.gH),(j64 e7.gC9),(eS e7.gD0),(eL 1 j64 z10)])) ?_;refine At.o 0 (bH hT (x:=(.sl 5 1 [(.st 5 [(j64 a0.gW),(j64 a0.gH),(j64 e7.gC9),(eS e7.gD0),(eL 1 j64 z10)])]))) ?_;refine At.b 0 (λ_ e=>kB hT aU.enc (id:=1) (k:=5) e) λz12=>?_;exact λh=>At.v 3 (_,_) h
  ·apply rt;exact At.xs 0
 ·apply rt;exact At.r 3
def mE(N:Nat)(a0:(List aI)):Nat->Int->Option (Sum (Unit) (Int))
 | 0,_=>none
 | k+1,s2=>
  aQ (decide (s2 < ((a0.length:Int)))) λx3=>
  cond x3 (
   aa (idx a0 s2) λe4=>
   aa (yZ N e4) λr5=>
   cond (r5.2 != 0) (some (Sum.inr r5.2)) (mE N a0 k (I64 (s2+1)))) (
   some (Sum.inl (())))
def oW(N:Nat)(a0:(List aI)):Option (Int):=
 aa (mE N a0 N 0) λo=>jY o (λp1=>
  some 0) (λr=>some r)
theorem aEx{N a0 r}(h:oW N a0=some r):FnM Tryz.prog 61 [] [(eL 8 aI.enc a0)] (j64 r) []:=by
 unfold oW at h;refine At.f bO hT hmo Tryz.func61 rfl h ?_;refine At.MS 4 [] 0 (λp1=>([],[],[])) [7,8] 0 (mE N a0) (λ(s2:Int)=>([(9,(j64 s2))],[],[])) _ N (λop1 g1 k s2=>?_) λp1=>?_
 ·refine lx ?_;intro x3;refine At.c 1 ?_ ?_
  ·refine At.i hT 0 aI.enc λe4=>?_;refine At.y 4 aKV λr5=>?_;refine At.c 7 ?_ ?_
   ·intro e;apply aBq g1 e;exact At.r 2
   ·exact λh=>At.v 2 _ h
  ·apply rt;exact At.xs 0
 ·apply rt;exact At.r 1
def aKO : Nat->Bool:=imL [5]
def wV(N:Nat)(a0:aI)(a1 a2 a3 a4:Int):Option (Bool):=
 aQ (decide ((eP a1 a2)>=0)) λx1=>
 aQ (decide ((eP a3 a4)>=1)) λx2=>
 aQ (cond (cond x1 x2 false) (decide (a3<=a0.gW)) false) λx3=>
 aQ (cond x3 (decide (a4<=a0.gH)) false) λx4=>
 aQ (decide (a1<=(I64 (a0.gW - a3)))) λx5=>
 aQ (decide (a2<=(I64 (a0.gH - a4)))) λx6=>
 aQ (cond (cond x4 x5 false) x6 false) λx7=>
 some x7
theorem aI8{N a0 a1 a2 a3 a4 r}(h:wV N a0 a1 a2 a3 a4=some r):FnM Tryz.prog 62 [] [(aI.enc a0),(j64 a1),(j64 a2),(j64 a3),(j64 a4)] (eB r) []:=by
 unfold wV at h;refine At.f aKO hT hmo Tryz.func62 rfl h ?_;refine lx ?_;intro x1;refine lx ?_;intro x2;refine lx ?_;intro x3;refine lx ?_;intro x4;refine lx ?_;intro x5;refine lx ?_;intro x6;refine lx ?_;intro x7;apply rt;exact At.r 41
def cK(N:Nat)(a0:(List (Vector Int 3))):Option ((List (Vector Int 3))):=
 aa (tU 24 (([]:List (Vector Int 3))) a0) λz1=>
 some z1
theorem jK{N a0 r}(h:cK N a0=some r):FnM Tryz.prog 43 [] [(eL 3 (eA 3 1 j64) a0)] (.gro 0 3 r.length .all) [.gro 3 (aj (eA 3 1 j64) r)]:=by
 unfold cK at h;refine At.f bO hT hmo Tryz.func43 rfl h ?_;refine At.q hT 2 (d:=4) (t:=49) (e:=97) (z:=3) (x:=(eL 3 (eA 3 1 j64) a0)) (es:=aj (eA 3 1 j64) a0) rfl ?_ (λhe=>?_)
 ·refine At.o 1 (aCh hT (eA 3 1 j64) (k:=3) ([]:List (Vector Int 3)) (by kernel_rfl) (by kernel_rfl)) ?_;refine At.b 1 (λz1 e=>aEm hT (eA 3 1 j64) (id:=0) (k:=3) e (by kernel_rfl) (by kernel_rfl) (H':=[.gro 3 (aj (eA 3 1 j64) z1)]) (by kernel_rfl)) λz1=>?_;apply rt;exact At.r 1
 ·have h0:a0=[]:=ct.1 he;subst h0;change some []=_->_;refine At.gron 2 2 3 ?_;apply rt;exact At.r 0
def bR(N:Nat)(a0:(List Int)):Option ((List Int)):=
 aa (tU 8 (([]:List Int)) a0) λz1=>
 some z1
theorem dF{N a0 r}(h:bR N a0=some r):FnM Tryz.prog 103 [] [(eL 1 j64 a0)] (.gro 0 1 r.length .all) [.gro 1 (aj j64 r)]:=by
 unfold bR at h;refine At.f bO hT hmo Tryz.func103 rfl h ?_;refine At.q hT 2 (d:=4) (t:=50) (e:=3) (z:=1) (x:=(eL 1 j64 a0)) (es:=aj j64 a0) rfl ?_ (λhe=>?_)
 ·refine At.o 1 (aCh hT j64 (k:=1) ([]:List Int) (by kernel_rfl) (by kernel_rfl)) ?_;refine At.b 1 (λz1 e=>aEm hT j64 (id:=0) (k:=1) e (by kernel_rfl) (by kernel_rfl) (H':=[.gro 1 (aj j64 z1)]) (by kernel_rfl)) λz1=>?_;apply rt;exact At.r 1
 ·have h0:a0=[]:=ct.1 he;subst h0;change some []=_->_;refine At.gron 2 2 1 ?_;apply rt;exact At.r 0
def aG8 : Nat->Bool:=imL [1]
def rV(N:Nat)(a0:aI):Option ((List (Vector Int 3))×(List Int)×(List Int)×(List (Vector Int 3))×(List Int)×(List Int)):=
 aa (cK N a0.gC1) λr1=>
 aa (bR N a0.gA0) λr2=>
 aa (bR N a0.gG) λr3=>
 aa (cK N a0.gB6) λr4=>
 aa (bR N a0.gB8) λr5=>
 aa (bR N a0.gR) λr6=>
 some ((r1,r2,r3,r4,r5,r6))
theorem aFt{N a0 r}(h:rV N a0=some r):FnM Tryz.prog 63 [] [(aI.enc a0)] (.st 8 [(j64 a0.gW),(j64 a0.gH),(.gro 0 3 r.1.length .all),(.gro 1 1 r.2.1.length .all),(.gro 2 1 r.2.2.1.length .all),(.gro 3 3 r.2.2.2.1.length .all),(.gro 4 1 r.2.2.2.2.1.length .all),(.gro 5 1 r.2.2.2.2.2.length .all)]) [.gro 3 (aj (eA 3 1 j64) r.1),.gro 1 (aj j64 r.2.1),.gro 1 (aj j64 r.2.2.1),.gro 3 (aj (eA 3 1 j64) r.2.2.2.1),.gro 1 (aj j64 r.2.2.2.2.1),.gro 1 (aj j64 r.2.2.2.2.2)]:=by
 unfold rV at h;refine At.f aG8 hT hmo Tryz.func63 rfl h ?_;refine At.D 2 [] ?_;refine DD.Z 6 [] 1 jK λr1=>?_;refine DD.Z 2 [] 2 dF λr2=>?_;refine DD.Z 2 [] 3 dF λr3=>?_;refine DD.Z 2 [] 4 jK λr4=>?_;refine DD.Z 2 [] 5 dF λr5=>?_;refine DD.Z 2 [] 6 dF λr6=>?_;refine DD.e hT hmo 2 ?_;refine At.sw 0 1 0 ?_;refine At.sw 0 2 1 ?_;refine At.sw 0 3 2 ?_;refine At.sw 0 4 3 ?_;refine At.sw 0 5 4 ?_;refine At.sw 0 6 5 ?_;apply rt;exact At.r 0
def aGk : Nat->Bool:=imL [6]
def sF(N:Nat)(b1:(List (Vector Int 3)))(b2 b3:(List Int))(b4:(List (Vector Int 3)))(b5 b6:(List Int))(a6:Int)(a7:aI)(a8 a9 a10:Int):Option ((List (Vector Int 3))×(List Int)×(List Int)×(List (Vector Int 3))×(List Int)×(List Int)):=
 aa (idx a7.gC1 a8) λe1=>
 aa (idx a7.gA0 a8) λe2=>
 aa (idx a7.gG a8) λe3=>
 aa (eY a6 b1.length) λ_=>
 aa (aC7 b1 a6.toNat e1) λz5=>
 aa (eY a6 b2.length) λ_=>
 aa (aC7 b2 a6.toNat e2) λz7=>
 aa (eY a6 b3.length) λ_=>
 aa (aC7 b3 a6.toNat e3) λz9=>
 aa (idx a7.gB6 a8) λe10=>
 aa (idx a7.gB8 a8) λe11=>
 aa (idx a7.gR a8) λe12=>
 aa (eY a6 b4.length) λ_=>
 aa (aC7 b4 a6.toNat e10) λz14=>
 aa (eY a6 b5.length) λ_=>
 aa (aC7 b5 a6.toNat e11) λz16=>
 aa (eY a6 b6.length) λ_=>
 aa (aC7 b6 a6.toNat e12) λz18=>
 some ((z5,z7,z9,z14,z16,z18))
theorem aF9{N b1 b2 b3 b4 b5 b6 a6 a7 a8 a9 a10 r}(h:sF N b1 b2 b3 b4 b5 b6 a6 a7 a8 a9 a10=some r):FnM Tryz.prog 64 [.var (.st 8 [(j64 a9),(j64 a10),(.gro 1 3 b1.length .all),(.gro 2 1 b2.length .all),(.gro 3 1 b3.length .all),(.gro 4 3 b4.length .all),(.gro 5 1 b5.length .all),(.gro 6 1 b6.length .all)]),.gro 3 (aj (eA 3 1 j64) b1),.gro 1 (aj j64 b2),.gro 1 (aj j64 b3),.gro 3 (aj (eA 3 1 j64) b4),.gro 1 (aj j64 b5),.gro 1 (aj j64 b6)] [(.ref 0 [] 0),(j64 a6),(aI.enc a7),(j64 a8)] (.tup []) [.var (.st 8 [(j64 a9),(j64 a10),(.gro 1 3 r.1.length .all),(.gro 2 1 r.2.1.length .all),(.gro 3 1 r.2.2.1.length .all),(.gro 4 3 r.2.2.2.1.length .all),(.gro 5 1 r.2.2.2.2.1.length .all),(.gro 6 1 r.2.2.2.2.2.length .all)]),.gro 3 (aj (eA 3 1 j64) r.1),.gro 1 (aj j64 r.2.1),.gro 1 (aj j64 r.2.2.1),.gro 3 (aj (eA 3 1 j64) r.2.2.2.1),.gro 1 (aj j64 r.2.2.2.2.1),.gro 1 (aj j64 r.2.2.2.2.2)]:=by
 unfold sF at h;refine At.f aGk hT hmo Tryz.func64 rfl h ?_;refine At.D 1 [] ?_;refine DD.i hT 18 (eA 3 1 j64) λe1=>?_;refine DD.i hT 4 j64 λe2=>?_;refine DD.i hT 4 j64 λe3=>?_;refine DD.b 1 (λe _=>aDV hT (id:=1) (k:=3) e (by kernel_rfl) (by kernel_rfl)) λu4=>?_;refine bi λz5 hz5=>?_;refine DD.w 0 (.v (.bool false)) ⟨[(1,.gro 3 (aj (eA 3 1 j64) z5))],[]⟩ (λ_ e=>uX hT (eA 3 1 j64) (k:=3) e1 hz5 rfl (pj1 e) (congrFun (pj1 (pj2 e))) (pj1 (pj2 (pj2 e))) (pj2 (pj2 (pj2 e)))) ?_;refine DD.b 0 (λe _=>aDV hT (id:=2) (k:=1) e (by kernel_rfl) (by kernel_rfl)) λu6=>?_;refine bi λz7 hz7=>?_;refine DD.w 0 (.v (.bool false)) ⟨[(2,.gro 1 (aj j64 z7))],[]⟩ (λ_ e=>uX hT j64 (k:=1) e2 hz7 rfl (pj1 e) (congrFun (pj1 (pj2 e))) (pj1 (pj2 (pj2 e))) (pj2 (pj2 (pj2 e)))) ?_;refine DD.b 0 (λe _=>aDV hT (id:=3) (k:=1) e (by kernel_rfl) (by kernel_rfl)) λu8=>?_;refine bi λz9 hz9=>?_;refine DD.w 0 (.v (.bool false)) ⟨[(3,.gro 1 (aj j64 z9))],[]⟩ (λ_ e=>uX hT j64 (k:=1) e3 hz9 rfl (pj1 e) (congrFun (pj1 (pj2 e))) (pj1 (pj2 (pj2 e))) (pj2 (pj2 (pj2 e)))) ?_;refine DD.e hT hmo 0 ?_;refine At.gp [] [0] 3 b3.length z9.length ((zN hz9).2.2) ?_;refine At.gp [] [0] 2 b2.length z7.length ((zN hz7).2.2) ?_;refine At.gp [] [0] 1 b1.length z5.length ((zN hz5).2.2) ?_;refine At.D 0 [] ?_;refine DD.i hT 18 (eA 3 1 j64) λe10=>?_;refine DD.i hT 4 j64 λe11=>?_;refine DD.i hT 4 j64 λe12=>?_;refine DD.b 1 (λe _=>aDV hT (id:=4) (k:=3) e (by kernel_rfl) (by kernel_rfl)) λu13=>?_;refine bi λz14 hz14=>?_;refine DD.w 0 (.v (.bool false)) ⟨[(4,.gro 3 (aj (eA 3 1 j64) z14))],[]⟩ (λ_ e=>uX hT (eA 3 1 j64) (k:=3) e10 hz14 rfl (pj1 e) (congrFun (pj1 (pj2 e))) (pj1 (pj2 (pj2 e))) (pj2 (pj2 (pj2 e)))) ?_;refine DD.b 0 (λe _=>aDV hT (id:=5) (k:=1) e (by kernel_rfl) (by kernel_rfl)) λu15=>?_;refine bi λz16 hz16=>?_;refine DD.w 0 (.v (.bool false)) ⟨[(5,.gro 1 (aj j64 z16))],[]⟩ (λ_ e=>uX hT j64 (k:=1) e11 hz16 rfl (pj1 e) (congrFun (pj1 (pj2 e))) (pj1 (pj2 (pj2 e))) (pj2 (pj2 (pj2 e)))) ?_;refine DD.b 0 (λe _=>aDV hT (id:=6) (k:=1) e (by kernel_rfl) (by kernel_rfl)) λu17=>?_;refine bi λz18 hz18=>?_;refine DD.w 0 (.v (.bool false)) ⟨[(6,.gro 1 (aj j64 z18))],[]⟩ (λ_ e=>uX hT j64 (k:=1) e12 hz18 rfl (pj1 e) (congrFun (pj1 (pj2 e))) (pj1 (pj2 (pj2 e))) (pj2 (pj2 (pj2 e)))) ?_;refine DD.e hT hmo 0 ?_;refine At.gp [] [0] 6 b6.length z18.length ((zN hz18).2.2) ?_;refine At.gp [] [0] 5 b5.length z16.length ((zN hz16).2.2) ?_;refine At.gp [] [0] 4 b4.length z14.length ((zN hz14).2.2) ?_;apply rt;exact At.z 0
def aOw : Nat->Bool:=imL [4,5]
def xF(N:Nat)(a1:aI)(a3:Int)(a0:aI)(a2:Int):Nat->(List (Vector Int 3))->(List Int)->(List Int)->(List (Vector Int 3))->(List Int)->(List Int)->Int->Option ((List (Vector Int 3))×(List Int)×(List Int)×(List (Vector Int 3))×(List Int)×(List Int))
 | 0,_,_,_,_,_,_,_=>none
 | k+1,s5,s6,s7,s8,s9,s10,s11=>
  aQ (decide (s11 < (I64 (a1.gW*a1.gH)))) λx12=>
  cond x12 (
   aa (aDm .i64 s11 a1.gW) λx13=>
   aQ (I64 ((I64 (a3+x13))*a0.gW)) λx14=>
   aa (aG6 .i64 s11 a1.gW) λx15=>
   aQ (I64 ((I64 (x14+a2))+x15)) λx16=>
   aa (sF N s5 s6 s7 s8 s9 s10 x16 a1 s11 a0.gW a0.gH) λr17=>
   xF N a1 a3 a0 a2 k r17.1 r17.2.1 r17.2.2.1 r17.2.2.2.1 r17.2.2.2.2.1 r17.2.2.2.2.2 (I64 (s11+1))) (
   some ((s5,s6,s7,s8,s9,s10)))
def aAQ(N:Nat)(a0 a1:aI)(a2 a3:Int):Option (aI×Int):=
 aa (oW N ([a0,a1])) λr1=>
 cond (r1 != 0) (
  some ((aI.mk 0 0 [] [] [] [] [] [],r1))) (
  aa (wV N a0 a2 a3 a1.gW a1.gH) λr2=>
  cond (!r2) (
   some ((aI.mk 0 0 [] [] [] [] [] [],2))) (
   aa (rV N a0) λr3=>
   aa (xF N a1 a3 a0 a2 N r3.1 r3.2.1 r3.2.2.1 r3.2.2.2.1 r3.2.2.2.2.1 r3.2.2.2.2.2 0) λp4=>
   some ((aI.mk a0.gW a0.gH p4.1 p4.2.1 p4.2.2.1 p4.2.2.2.1 p4.2.2.2.2.1 p4.2.2.2.2.2,0))))
theorem aHK{N a0 a1 a2 a3 r}(h:aAQ N a0 a1 a2 a3=some r):FnM Tryz.prog 25 [] [(aI.enc a0),(aI.enc a1),(j64 a2),(j64 a3)] (.tup [(aI.enc r.1),(j64 r.2)]) []:=by
 unfold aAQ at h;refine At.f aOw hT hmo Tryz.func25 rfl h ?_;refine At.o 6 (bH hT (x:=(.sl 8 2 [(aI.enc a0),(aI.enc a1)]))) ?_;refine At.y 0 aEx λr1=>?_;refine At.c 3 ?_ ?_
 ·apply rt;exact At.r 4
 ·refine At.y 7 aI8 λr2=>?_;refine At.c 1 ?_ ?_
  ·apply rt;exact At.r 3
  ·refine At.Y 1 [] aFt λr3=>?_;refine At.M 8 [8,11] 8 (λp4=>([],[(1,.gro 3 (aj (eA 3 1 j64) p4.1)),(2,.gro 1 (aj j64 p4.2.1)),(3,.gro 1 (aj j64 p4.2.2.1)),(4,.gro 3 (aj (eA 3 1 j64) p4.2.2.2.1)),(5,.gro 1 (aj j64 p4.2.2.2.2.1)),(6,.gro 1 (aj j64 p4.2.2.2.2.2)),(7,.var (.st 8 [(j64 a0.gW),(j64 a0.gH),(.gro 1 3 p4.1.length .all),(.gro 2 1 p4.2.1.length .all),(.gro 3 1 p4.2.2.1.length .all),(.gro 4 3 p4.2.2.2.1.length .all),(.gro 5 1 p4.2.2.2.2.1.length .all),(.gro 6 1 p4.2.2.2.2.2.length .all)]))],[])) [2,3,4,5,8,11,37] 8 (CU7 (xF N a1 a3 a0 a2)) (cu7 λ(s5:(List (Vector Int 3))) (s6:(List Int)) (s7:(List Int)) (s8:(List (Vector Int 3))) (s9:(List Int)) (s10:(List Int)) (s11:Int)=>([(38,(j64 s11))],[(1,.gro 3 (aj (eA 3 1 j64) s5)),(2,.gro 1 (aj j64 s6)),(3,.gro 1 (aj j64 s7)),(4,.gro 3 (aj (eA 3 1 j64) s8)),(5,.gro 1 (aj j64 s9)),(6,.gro 1 (aj j64 s10)),(7,.var (.st 8 [(j64 a0.gW),(j64 a0.gH),(.gro 1 3 s5.length .all),(.gro 2 1 s6.length .all),(.gro 3 1 s7.length .all),(.gro 4 3 s8.length .all),(.gro 5 1 s9.length .all),(.gro 6 1 s10.length .all)]))],[])) (_,_,_,_,_,_,_) N (λp4 k=>un7 λs5 s6 s7 s8 s9 s10 s11=>?_) λp4=>?_
   ·refine lx ?_;intro x12;refine At.c 1 ?_ ?_
    ·refine At.D 2 [] ?_;refine DD.b 4 (λe _=>yX hT e (by kernel_rfl) (by kernel_rfl)) λx13=>?_;refine lx ?_;intro x14;refine DD.b 9 (λe _=>aDA hT e (by kernel_rfl) (by kernel_rfl)) λx15=>?_;refine lx ?_;intro x16;refine DD.Y 3 [7,1,2,3,4,5,6] aF9 λr17=>?_;refine DD.e hT hmo 0 ?_;exact λh=>At.v 2 (_,_,_,_,_,_,_) h
    ·apply rt;exact At.x 0
   ·refine At.fz 3 1 3 p4.1.length _ (aj (eA 3 1 j64) p4.1) (ak _) (ak _) ?_;refine At.fz 0 2 1 p4.2.1.length _ (aj j64 p4.2.1) (ak _) (ak _) ?_;refine At.fz 0 3 1 p4.2.2.1.length _ (aj j64 p4.2.2.1) (ak _) (ak _) ?_;refine At.fz 0 4 3 p4.2.2.2.1.length _ (aj (eA 3 1 j64) p4.2.2.2.1) (ak _) (ak _) ?_;refine At.fz 0 5 1 p4.2.2.2.2.1.length _ (aj j64 p4.2.2.2.2.1) (ak _) (ak _) ?_;refine At.fz 0 6 1 p4.2.2.2.2.2.length _ (aj j64 p4.2.2.2.2.2) (ak _) (ak _) ?_;apply rt;exact At.r 0
def jF(N:Nat)(a2:Int)(b4:(List (List aC)))(a3:aE)(a4:aF)(a5:Int)(a6:(List aK))(a9:aE)(a10:aF)(a11:aA):Nat->(List aG)->Int->aI->aH->aL->Int->Option ((List aG)×Int×aI×aH×aL×Int)
 | 0,_,_,_,_,_,_=>none
 | k+1,s3,s4,s5,s6,s7,s8=>
  aa (cond (decide (s8 < a2)) (
   aa (bT N s3 b4 a3 a4 a5 a6 s4 s5 a9 a10 a11 s6 s7) λr10=>
   some (decide (r10 > 0))) (
   some false)) λp9=>
  cond p9 (
   aa (aDm .i64 s4 a4.gB5) λx11=>
   aa (idx a6 x11) λe12=>
   aa (aG6 .i64 s4 a4.gB5) λx13=>
   aa (fS N b4 e12.gx e12.gy x13 a9 a10 a11 s6 s7) λr14=>
   aa (tU 72 s3 (([r14.2.2.1]:List aG))) λz15=>
   aQ ((I64 (x13+1))==a4.gB5) λx16=>
   cond x16 (
    aa (qE N z15 a3) λr17=>
    aa (aAQ N s5 r17.1 e12.gx e12.gy) λr18=>
    jF N a2 b4 a3 a4 a5 a6 a9 a10 a11 k [] (I64 (s4+1)) r18.1 r14.1 r14.2.1 (I64 (s8+1))) (
    jF N a2 b4 a3 a4 a5 a6 a9 a10 a11 k z15 (I64 (s4+1)) s5 r14.1 r14.2.1 (I64 (s8+1)))) (
   some ((s3,s4,s5,s6,s7,s8)))
def cN(N:Nat)(b2:(List aG))(b4:(List (List aC)))(a2:Int)(a3:aE)(a4:aF)(a5:Int)(a6:(List aK))(a7:Int)(a8:aI)(a9:aE)(a10:aF)(a11:aA)(a12:aH)(a13:aL):Option ((List aG)×Int×aI×aH×aL×Int):=
 aa (dN N b2 b4 a3 a4 a5 a6 a7 a8 a9 a10 a11 a12 a13) λr1=>
 aa (jF N a2 b4 a3 a4 a5 a6 a9 a10 a11 N b2 a7 a8 a12 a13 0) λp2=>
 some ((p2.1,p2.2.1,p2.2.2.1,p2.2.2.2.1,p2.2.2.2.2.1,p2.2.2.2.2.2))
theorem hP{N b2 b4 a2 a3 a4 a5 a6 a7 a8 a9 a10 a11 a12 a13 r}(h:cN N b2 b4 a2 a3 a4 a5 a6 a7 a8 a9 a10 a11 a12 a13=some r):FnM Tryz.prog 9 [.var (.st 43 [(.ref 1 [] 0),(aE.enc a3),(aF.enc a4),(j64 a5),(eL 6 aK.enc a6),(j64 a7),(eO 2 9 aG.enc b2),(aI.enc a8)]),.var (.st 38 [(aE.enc a9),(aF.enc a10),(.ifc 112 (.ref 3 [] 0)),(eO 4 1 (eL 2 aC.enc) b4),(aA.enc a11),(aH.enc a12)]),.tail (b2.length*9),.var (aL.enc a13),.tail (b4.length*1)] [(.ref 0 [] 0),(j64 a2)] (j64 r.2.2.2.2.2) [.var (.st 43 [(.ref 1 [] 0),(aE.enc a3),(aF.enc a4),(j64 a5),(eL 6 aK.enc a6),(j64 r.2.1),(eO 5 9 aG.enc r.1),(aI.enc r.2.2.1)]),.var (.st 38 [(aE.enc a9),(aF.enc a10),(.ifc 112 (.ref 3 [] 0)),(eO 4 1 (eL 2 aC.enc) b4),(aA.enc a11),(aH.enc r.2.2.2.1)]),.dead,.var (aL.enc r.2.2.2.2.1),.tail (b4.length*1),.tail (r.1.length*9)]:=by
 unfold cN at h;refine At.f bO hT hmo Tryz.func9 rfl h ?_;refine At.mv 0 2 ?_;refine At.Y 2 [0,1,5,3,4] oN λr1=>?_;refine At.M 1 [] 6 (λp2=>([(4,(j64 p2.2.2.2.2.2))],[(0,.var (.st 43 [(.ref 1 [] 0),(aE.enc a3),(aF.enc a4),(j64 a5),(eL 6 aK.enc a6),(j64 p2.2.1),(eO 5 9 aG.enc p2.1),(aI.enc p2.2.2.1)])),(1,.var (.st 38 [(aE.enc a9),(aF.enc a10),(.ifc 112 (.ref 3 [] 0)),(eO 4 1 (eL 2 aC.enc) b4),(aA.enc a11),(aH.enc p2.2.2.2.1)])),(3,.var (aL.enc p2.2.2.2.2.1)),(5,.tail (p2.1.length*9))],[])) [0,1] 6 (CU6 (jF N a2 b4 a3 a4 a5 a6 a9 a10 a11)) (cu6 λ(s3:(List aG)) (s4:Int) (s5:aI) (s6:aH) (s7:aL) (s8:Int)=>([(4,(j64 s8))],[(0,.var (.st 43 [(.ref 1 [] 0),(aE.enc a3),(aF.enc a4),(j64 a5),(eL 6 aK.enc a6),(j64 s4),(eO 5 9 aG.enc s3),(aI.enc s5)])),(1,.var (.st 38 [(aE.enc a9),(aF.enc a10),(.ifc 112 (.ref 3 [] 0)),(eO 4 1 (eL 2 aC.enc) b4),(aA.enc a11),(aH.enc s6)])),(3,.var (aL.enc s7)),(5,.tail (s3.length*9))],[])) (_,_,_,_,_,_) N (λp2 k=>un6 λs3 s4 s5 s6 s7 s8=>?_) λp2=>?_
 ·refine At.J 0 0 [0,1,4] 6 (λp9=>([(20,(eB p9))],[],[])) (λp9=>?_) λp9=>?_
  ·refine At.s 16 4 ?_ ?_
   ·refine At.g [16] 1 ?_;refine At.Y 0 [0,1,5,3,4] dA λr10=>?_;refine At.g [16] 2 ?_;apply rt;exact At.jn 0
   ·refine At.g [16] 4 ?_;apply rt;exact At.jn 0
  ·refine At.c 0 ?_ ?_
   ·refine At.D 0 [] ?_;refine DD.b 13 (λe _=>yX hT e (by kernel_rfl) (by kernel_rfl)) λx11=>?_;refine DD.i hT 0 aK.enc λe12=>?_;refine DD.b 10 (λe _=>aDA hT e (by kernel_rfl) (by kernel_rfl)) λx13=>?_;refine DD.e hT hmo 3 ?_;refine At.D 0 [] ?_;refine DD.Y 9 [1,3,4] aBB λr14=>?_;refine DD.e hT hmo 6 ?_;refine At.D 0 [] ?_;refine DD.o 6 (λ_=>bH hT (x:=(.sl 9 1 [(aG.enc r14.2.2.1)]))) ?_;refine bi λz15 hz15=>?_;refine DD.w 0 (eO 5 9 aG.enc z15) ⟨[(5,.tail (z15.length*9))],[]⟩ (λ_ e=>kB hT aG.enc (id:=5) (k:=9) hz15 (pj1 e) (pj2 e)) ?_;refine DD.e hT hmo 3 ?_;refine lx ?_;intro x16;refine At.c 19 ?_ ?_
    ·refine At.D 0 [] ?_;refine DD.y 8 aE7 λr17=>?_;refine DD.e hT hmo 6 ?_;refine At.D 0 [] ?_;refine DD.y 10 aHK λr18=>?_;refine DD.e hT hmo 6 ?_;exact λh=>At.vw 4 (_,_,_,_,_,_) (aPO 0 9 [6] (aVI 9 5 (by kernel_rfl) jr)) h
    ·exact λh=>At.v 0 (_,_,_,_,_,_) h
   ·apply rt;exact At.x 0
 ·apply rt;exact At.r 2
def xW(N:Nat):Option (Unit):=
 some (())
theorem aEo{N r}(h:xW N=some r):FnM Tryz.prog 22 [] [(.v (.pointer none))] (eB true) []:=by
 unfold xW at h;refine At.f bO hT hmo Tryz.func22 rfl h ?_;refine At.o 2 (nI hT (t:=41) (x:=(.v (.pointer none))) (b:=false) (by kernel_rfl) rfl rfl (by kernel_rfl)) ?_;refine At.g [5] 8 ?_;apply rt;exact At.r 0
def tY(N:Nat)(a0:Int):Option (Int):=
 aa (xW N ) λr1=>
 some 0
theorem aBh{N a0 r}(h:tY N a0=some r):FnM Tryz.prog 9 [] [(.v (.pointer none)),(j64 a0)] (j64 r) []:=by
 unfold tY at h;refine At.f bO hT hmo Tryz.func9 rfl h ?_;refine At.y 2 aEo λr1=>?_;apply rt;exact At.r 2
def cR(N:Nat)(b2:(List aG))(b4:(List (List aC)))(a2:aE)(a3:aF)(a4:Int)(a5:(List aK))(a6:Int)(a7:aI)(a8:aE)(a9:aF)(a10:aA)(a11:aH)(a12:aM):Option (Unit):=
 some (())
theorem mP{N b2 b4 a2 a3 a4 a5 a6 a7 a8 a9 a10 a11 a12 r}(h:cR N b2 b4 a2 a3 a4 a5 a6 a7 a8 a9 a10 a11 a12=some r):FnM Tryz.prog 22 [.var (.st 43 [(.ref 1 [] 0),(aE.enc a2),(aF.enc a3),(j64 a4),(eL 6 aK.enc a5),(j64 a6),(eO 2 9 aG.enc b2),(aI.enc a7)]),.var (.st 38 [(aE.enc a8),(aF.enc a9),(.ifc 115 (.ref 3 [] 0)),(eO 4 1 (eL 2 aC.enc) b4),(aA.enc a10),(aH.enc a11)]),.tail (b2.length*9),.var (aM.enc a12),.tail (b4.length*1)] [(.ref 0 [] 0)] (eB false) [.var (.st 43 [(.ref 1 [] 0),(aE.enc a2),(aF.enc a3),(j64 a4),(eL 6 aK.enc a5),(j64 a6),(eO 2 9 aG.enc b2),(aI.enc a7)]),.var (.st 38 [(aE.enc a8),(aF.enc a9),(.ifc 115 (.ref 3 [] 0)),(eO 4 1 (eL 2 aC.enc) b4),(aA.enc a10),(aH.enc a11)]),.tail (b2.length*9),.var (aM.enc a12),.tail (b4.length*1)]:=by
 unfold cR at h;refine At.f bO hT hmo Tryz.func22 rfl h ?_;refine At.o 2 (nI hT (t:=41) (x:=(.ref 0 [] 0)) (b:=true) (by kernel_rfl) rfl rfl (by kernel_rfl)) ?_;refine At.g [5] 5 ?_;refine At.o 0 (nI hT (t:=64) (x:=(.ref 1 [] 0)) (b:=true) (by kernel_rfl) rfl rfl (by kernel_rfl)) ?_;refine At.g [5] 2 ?_;apply rt;exact At.r 0
def bK(N:Nat)(b2:(List aG))(b4:(List (List aC)))(a2:aE)(a3:aF)(a4:Int)(a5:(List aK))(a6:Int)(a7:aI)(a8:aE)(a9:aF)(a10:aA)(a11:aH)(a12:aM):Option (Int):=
 aa (cR N b2 b4 a2 a3 a4 a5 a6 a7 a8 a9 a10 a11 a12) λr1=>
 aQ (I64 (((a5.length:Int))*a3.gB5)) λx2=>
 some (I64 (x2 - a6))
theorem cI{N b2 b4 a2 a3 a4 a5 a6 a7 a8 a9 a10 a11 a12 r}(h:bK N b2 b4 a2 a3 a4 a5 a6 a7 a8 a9 a10 a11 a12=some r):FnM Tryz.prog 11 [.var (.st 43 [(.ref 1 [] 0),(aE.enc a2),(aF.enc a3),(j64 a4),(eL 6 aK.enc a5),(j64 a6),(eO 2 9 aG.enc b2),(aI.enc a7)]),.var (.st 38 [(aE.enc a8),(aF.enc a9),(.ifc 115 (.ref 3 [] 0)),(eO 4 1 (eL 2 aC.enc) b4),(aA.enc a10),(aH.enc a11)]),.tail (b2.length*9),.var (aM.enc a12),.tail (b4.length*1)] [(.ref 0 [] 0)] (j64 r) [.var (.st 43 [(.ref 1 [] 0),(aE.enc a2),(aF.enc a3),(j64 a4),(eL 6 aK.enc a5),(j64 a6),(eO 2 9 aG.enc b2),(aI.enc a7)]),.var (.st 38 [(aE.enc a8),(aF.enc a9),(.ifc 115 (.ref 3 [] 0)),(eO 4 1 (eL 2 aC.enc) b4),(aA.enc a10),(aH.enc a11)]),.tail (b2.length*9),.var (aM.enc a12),.tail (b4.length*1)]:=by
 unfold bK at h;refine At.f bO hT hmo Tryz.func11 rfl h ?_;refine At.Y 2 [0,1,2,3,4] mP λr1=>?_;refine At.D 1 [] ?_;refine lx ?_;intro x2;refine DD.e hT hmo 17 ?_;apply rt;exact At.r 0
def dU(N:Nat)(b4:(List (List aC)))(a1:Int)(a2:aN)(a3 a4:aA)(a5:Int)(a6:Bool)(a7:aG)(a8:aE)(a9:aF)(a10:aA)(a11:aH)(a12:aD)(a13:aM):Option (eM×Int):=
 aa (iJ N a5 a1 a12) λr1=>
 some ((r1.1,r1.2))
theorem kD{N b4 a1 a2 a3 a4 a5 a6 a7 a8 a9 a10 a11 a12 a13 r}(h:dU N b4 a1 a2 a3 a4 a5 a6 a7 a8 a9 a10 a11 a12 a13=some r):FnM Tryz.prog 47 [.var (.st 26 [(aN.enc a2),(.ref 1 [] 0),(.ref 2 [] 0),(aA.enc a3),(aA.enc a4),(j64 a5),(eB a6),(aG.enc a7)]),.var (.st 38 [(aE.enc a8),(aF.enc a9),(.ifc 115 (.ref 3 [] 0)),(eO 4 1 (eL 2 aC.enc) b4),(aA.enc a10),(aH.enc a11)]),.var (aD.enc a12),.var (aM.enc a13),.tail (b4.length*1)] [(.ref 0 [] 0),(j64 a1)] (k32 r.2) [.var (.st 26 [(aN.enc a2),(.ref 1 [] 0),(.ref 2 [] 0),(aA.enc a3),(aA.enc a4),(j64 a5),(eB a6),(aG.enc a7)]),.var (.st 38 [(aE.enc a8),(aF.enc a9),(.ifc 115 (.ref 3 [] 0)),(eO 4 1 (eL 2 aC.enc) b4),(aA.enc a10),(aH.enc a11)]),.var (.st 72 [(eM.enc r.1),(eB a12.gA),(k64 a12.gD),(j64 a12.gC),(j64 a12.gE)]),.var (aM.enc a13),.tail (b4.length*1)]:=by
 unfold dU at h;refine At.f bO hT hmo Tryz.func47 rfl h ?_;refine At.D 1 [] ?_;refine DD.Y 9 [2] wH λr1=>?_;refine DD.e hT hmo 1 ?_;apply rt;exact At.r 0
def kY(N:Nat)(a0:aM):Option (Bool):=
 some (!a0.gA)
theorem wO{N a0 r}(h:kY N a0=some r):FnM Tryz.prog 245 [.var (aM.enc a0)] [(.ref 0 [] 0)] (eB r) [.var (aM.enc a0)]:=by
 unfold kY at h;refine At.f bO hT hmo Tryz.func245 rfl h ?_;refine At.o 2 (nI hT (t:=115) (x:=(.ref 0 [] 0)) (b:=true) (by kernel_rfl) rfl rfl (by kernel_rfl)) ?_;refine At.g [5] 8 ?_;apply rt;exact At.r 0
def aF8 : Nat->Bool:=imL [2,3]
def fU(N:Nat)(a0 a1:aY):Option (Bool):=
 aa (jI N a0.gn a1.gd) λr1=>
 aa (jI N a1.gn a0.gd) λr2=>
 aa (uW N r1 r2) λr3=>
 some (decide (r3 < 0))
theorem nF{N a0 a1 r}(h:fU N a0 a1=some r):FnM Tryz.prog 248 [] [(aY.enc a0),(aY.enc a1)] (eB r) []:=by
 unfold fU at h;refine At.f aF8 hT hmo Tryz.func248 rfl h ?_;refine At.D 3 [] ?_;refine DD.y 4 mF λr1=>?_;refine DD.y 4 mF λr2=>?_;refine DD.y 0 aCB λr3=>?_;refine DD.e hT hmo 2 ?_;apply rt;exact At.r 0
def aMz : Nat->Bool:=imL [4,5,6,7]
def rM(N:Nat)(a0 a1 a2 a3:aB):Nat->aY->aY->Bool->Int->Option (Sum (aY×aY×Bool) (aY×Bool))
 | 0,_,_,_,_=>none
 | k+1,s2,s3,s4,s5=>
  cond (decide (s5 < 3)) (
   aa (aa (idx (#v[#v[a0.gX,a1.gX,a2.gX,a3.gX],#v[a0.gY,a1.gY,a2.gY,a3.gY],#v[a0.gZ,a1.gZ,a2.gZ,a3.gZ]]).toList s5) λe7=>
   aa (eY 0 4) λ_=>
   aa (e7.toList[(bg 0)]?) λe9=>
   aa (eY 2 4) λ_=>
   aa (e7.toList[(bg 2)]?) λe11=>
   aa (eY 1 4) λ_=>
   aa (e7.toList[(bg 1)]?) λe13=>
   aa (eY 2 4) λ_=>
   aa (e7.toList[(bg 2)]?) λe15=>
   aa (eY 3 4) λ_=>
   aa (e7.toList[(bg 3)]?) λe17=>
   aQ (decide ((I64 (e9 - e11)) > (I64 (e13 - e15)))) λx18=>
   cond x18 (
    some (Sum.inr ((s2,false)))) (
    aa (cond (e17==0) (
     aQ (decide ((I64 (e9 - e11)) > 0)) λx20=>
     aQ (decide ((I64 (e13 - e15)) < 0)) λx21=>
     some (cond x20 true x21)) (
     some false)) λp19=>
    cond p19 (
     some (Sum.inr ((s2,false)))) (
     cond (e17==0) (
      some (Sum.inl ((s2,s3,e7,s4)))) (
      cond (decide (e17 < 0)) (
       aQ (I64 (0 - (I64 (e13 - e15)))) λx22=>
       aQ (I64 (0 - (I64 (e9 - e11)))) λx23=>
       aa (aa (fU N s2 (aY.mk x22 (I64 (0 - e17)))) λr25=>
       cond r25 (some (aY.mk x22 (I64 (0 - e17)))) (some s2)) λp24=>
       aa (cond (!s4) (
        some true) (
        aa (fU N (aY.mk x23 (I64 (0 - e17))) s3) λr27=>
        some r27)) λp26=>
       cond p26 (
        some (Sum.inl ((p24,aY.mk x23 (I64 (0 - e17)),e7,true)))) (
        some (Sum.inl ((p24,s3,e7,s4))))) (
       aa (aa (fU N s2 (aY.mk (I64 (e9 - e11)) e17)) λr29=>
       cond r29 (some (aY.mk (I64 (e9 - e11)) e17)) (some s2)) λp28=>
       aa (cond (!s4) (
        some true) (
        aa (fU N (aY.mk (I64 (e13 - e15)) e17) s3) λr31=>
        some r31)) λp30=>
       cond p30 (
        some (Sum.inl ((p28,aY.mk (I64 (e13 - e15)) e17,e7,true)))) (
        some (Sum.inl ((p28,s3,e7,s4))))))))) λo=>jY o (λp6=>
    rM N a0 a1 a2 a3 k p6.1 p6.2.1 p6.2.2.2 (I64 (s5+1))) (λr=>some (Sum.inr r))) (
   some (Sum.inl ((s2,s3,s4))))
def yD(N:Nat)(a0 a1 a2 a3:aB):Option (aY×Bool):=
 aa (rM N a0 a1 a2 a3 N (aY.mk 0 1) (aY.mk 0 0) false 0) λo=>jY o (λp1=>
  aa (cond (!p1.2.2) (
   some true) (
   aa (fU N p1.2.1 p1.1) λr33=>
   some (!r33))) λp32=>
  some ((p1.1,p32))) (λr=>some r)
theorem aF1{N a0 a1 a2 a3 r}(h:yD N a0 a1 a2 a3=some r):FnM Tryz.prog 246 [] [(aB.enc a0),(aB.enc a1),(aB.enc a2),(aB.enc a3)] (.tup [(aY.enc r.1),(eB r.2)]) []:=by
 unfold yD at h;refine At.f aMz hT hmo Tryz.func246 rfl h ?_;refine At.MS 41 [8,10] 2 (λp1=>([(11,(eB p1.2.2))],[(0,.var (aY.enc p1.1)),(1,.var (aY.enc p1.2.1))],[])) [8,10,48] 2 (CU4 (rM N a0 a1 a2 a3)) (cu4 λ(s2:aY) (s3:aY) (s4:Bool) (s5:Int)=>([(11,(eB s4)),(49,(j64 s5))],[(0,.var (aY.enc s2)),(1,.var (aY.enc s3))],[])) (_,_,_,_) N (λop1 g1 k=>un4 λs2 s3 s4 s5=>?_) λp1=>?_
 ·refine At.c 1 ?_ ?_
  ·refine At.JS 0 2 [8,10,48,49] 2 (λp6=>([(11,(eB p6.2.2.2))],[(0,.var (aY.enc p6.1)),(1,.var (aY.enc p6.2.1))],[.var (eA 4 1 j64 p6.2.2.1)])) (λop6 g6=>?_) λp6=>?_
   ·refine At.b 0 (λ_ e=>aA2 hT (eA 4 1 j64) (#v[#v[a0.gX,a1.gX,a2.gX,a3.gX],#v[a0.gY,a1.gY,a2.gY,a3.gY],#v[a0.gZ,a1.gZ,a2.gZ,a3.gZ]]) e (by kernel_rfl) (by kernel_rfl)) λe7=>?_;refine At.D 2 [] ?_;refine DD.b 0 (λe _=>bF hT (k:=1) 2 [] 0 e) λu8=>?_;refine DD.l hT 0 j64 j64 0 λe9=>?_;refine DD.b 0 (λe _=>bF hT (k:=1) 2 [] 0 e) λu10=>?_;refine DD.l hT 0 j64 j64 0 λe11=>?_;refine DD.b 1 (λe _=>bF hT (k:=1) 2 [] 0 e) λu12=>?_;refine DD.l hT 0 j64 j64 0 λe13=>?_;refine DD.b 0 (λe _=>bF hT (k:=1) 2 [] 0 e) λu14=>?_;refine DD.l hT 0 j64 j64 0 λe15=>?_;refine DD.b 1 (λe _=>bF hT (k:=1) 2 [] 0 e) λu16=>?_;refine DD.l hT 0 j64 j64 0 λe17=>?_;refine DD.e hT hmo 3 ?_;refine lx ?_;intro x18;refine At.c 4 ?_ ?_
    ·intro e;apply rtS2 g6 g1 e;exact At.r 3
    ·refine At.J 0 0 [8,10,11,14,15,16,48,49] 3 (λp19=>([(69,(eB p19))],[],[])) (λp19=>?_) λp19=>?_
     ·refine At.s 72 3 ?_ ?_
      ·refine lx ?_;intro x20;refine lx ?_;intro x21;refine At.g [72] 8 ?_;apply rt;exact At.jn 0
      ·refine At.g [72,75] 8 ?_;apply rt;exact At.jn 0
     ·refine At.c 0 ?_ ?_
      ·intro e;apply rtS2 g6 g1 e;exact At.r 3
      ·refine At.c 3 ?_ ?_
       ·apply rt;exact At.jsn 0
       ·refine At.c 3 ?_ ?_
        ·refine lx ?_;intro x22;refine lx ?_;intro x23;refine At.J 9 1 [8,10,11,15,16,48,49] 3 (λp24=>([],[(0,.var (aY.enc p24))],[.var (.st 2 [(j64 x22),(j64 (I64 (0 - e17)))])])) (λp24=>?_) λp24=>?_
         ·refine At.y 7 nF λr25=>?_;refine At.c 0 ?_ ?_
          ·apply rt;exact At.jn 2
          ·apply rt;exact At.jn 0
         ·refine At.J 5 0 [8,10,11,18,48,49] 5 (λp26=>([(109,(eB p26))],[],[])) (λp26=>?_) λp26=>?_
          ·refine At.s 105 3 ?_ ?_
           ·refine At.g [105] 4 ?_;apply rt;exact At.jn 0
           ·refine At.g [105] 2 ?_;refine At.y 0 nF λr27=>?_;refine At.g [105] 1 ?_;apply rt;exact At.jn 0
          ·refine At.c 0 ?_ ?_
           ·apply rt;exact At.jsn 3
           ·apply rt;exact At.jsn 0
        ·refine At.J 0 1 [8,10,11,15,16,48,49] 3 (λp28=>([],[(0,.var (aY.enc p28))],[.var (.st 2 [(j64 (I64 (e9 - e11))),(j64 e17)])])) (λp28=>?_) λp28=>?_
         ·refine At.y 7 nF λr29=>?_;refine At.c 0 ?_ ?_
          ·apply rt;exact At.jn 2
          ·apply rt;exact At.jn 0
         ·refine At.J 5 0 [8,10,11,18,48,49] 5 (λp30=>([(109,(eB p30))],[],[])) (λp30=>?_) λp30=>?_
          ·refine At.s 105 3 ?_ ?_
           ·refine At.g [105] 4 ?_;apply rt;exact At.jn 0
           ·refine At.g [105] 2 ?_;refine At.y 0 nF λr31=>?_;refine At.g [105] 1 ?_;apply rt;exact At.jn 0
          ·refine At.c 0 ?_ ?_
           ·apply rt;exact At.jsn 3
           ·apply rt;exact At.jsn 0
   ·exact λh=>At.v 2 (_,_,_,_) h
  ·apply rt;exact At.xs 0
 ·refine At.J 0 0 [8] 2 (λp32=>([(9,(eB p32))],[],[])) (λp32=>?_) λp32=>?_
  ·refine At.D 0 [] ?_;refine DD.s hT 4 ?_ ?_
   ·refine DD.e hT hmo 7 ?_;apply rt;exact At.jn 0
   ·refine DD.y 2 nF λr33=>?_;refine DD.e hT hmo 4 ?_;apply rt;exact At.jn 0
  ·apply rt;exact At.r 0
def aCa : Nat->Bool:=imL [7,8]
def dE(N:Nat)(a0 a1:aB)(a2 a3 a4:Int)(a5:aM):Option (aR×Bool):=
 aa (idx a5.gl a4) λe1=>
 aQ ((lE .u8 e1.gD4 a2)==0) λx2=>
 aQ (cond x2 true (a4==a3)) λx3=>
 cond x3 (
  some ((aR.mk 0 0 0 0,false))) (
  aa (idx a5.gl a4) λe4=>
  aa (aBM N a0 a1 e4.gP) λr5=>
  some ((r5.1,r5.2)))
theorem wE{N a0 a1 a2 a3 a4 a5 r}(h:dE N a0 a1 a2 a3 a4 a5=some r):FnM Tryz.prog 247 [.var (aM.enc a5)] [(.ref 0 [] 0),(aB.enc a0),(aB.enc a1),(k8 a2),(j64 a3),(j64 a4)] (.tup [(aR.enc r.1),(eB r.2)]) [.var (aM.enc a5)]:=by
 unfold dE at h;refine At.f aCa hT hmo Tryz.func247 rfl h ?_;refine At.i hT 9 aJ.enc λe1=>?_;refine lx ?_;intro x2;refine lx ?_;intro x3;refine At.c 10 ?_ ?_
 ·apply rt;exact At.r 3
 ·refine At.D 0 [] ?_;refine DD.i hT 7 aJ.enc λe4=>?_;refine DD.y 2 aJI λr5=>?_;refine DD.e hT hmo 4 ?_;apply rt;exact At.r 0
def aB1 : Nat->Bool:=imL [6,7]
def dM(N:Nat)(s23:(List Int))(a0 a1:aB)(a2 a3:Int)(a4:aM):Nat->Int->aR->Int->Int->Option (Int×aR×Int)
 | 0,_,_,_,_=>none
 | k+1,s25,s26,s27,s28=>
  aQ (decide (s28 < ((s23.length:Int)))) λx29=>
  cond x29 (
   aa (aa (idx s23 s28) λe31=>
   aa (dE N a0 a1 a2 a3 e31 (aM.mk a4.gT a4.gA a4.gl (I64 (s25+1)))) λr32=>
   aa (cond r32.2 (
    cond (decide (s27 < 0)) (
     some true) (
     aa (xU N r32.1 s26) λr34=>
     cond r34 (
      some true) (
      cond (decide (e31 < s27)) (
       aa (xU N s26 r32.1) λr35=>
       some (!r35)) (
       some false)))) (
    some false)) λp33=>
   cond p33 (some ((r32.1,r32.1,e31))) (some ((s26,r32.1,s27)))) λp30=>
   dM N s23 a0 a1 a2 a3 a4 k (I64 (s25+1)) p30.1 p30.2.2 (I64 (s28+1))) (
   some ((s25,s26,s27)))
def dO(N:Nat)(a4:aM)(a0 a1:aB)(a2 a3:Int):Nat->(List Int)->Int->aR->Int->Nat->Option ((List Int)×Int×aR×Int)
 | 0,_,_,_,_,_=>none
 | k+1,s6,s7,s8,s9,s10=>
  aQ (decide (((s10:Int)) > 0)) λx11=>
  cond x11 (
   aQ (I64 (((s10:Int)) - 1)) λx12=>
   aa (aAk s6.length 0 s10 x12) λ_=>
   aa (s6[x12.toNat]?) λe14=>
   aa (idx a4.gT.gA8 e14) λe15=>
   aQ (I64 (((s10:Int)) - 1)) λx16=>
   aa (aLY s6.length 0 s10 0 x16) λ_=>
   aa (yD N e15.gLo e15.gHi a0 a1) λr18=>
   aa (cond (!r18.2) (
    some true) (
    cond (decide (s9>=0)) (
     aa (fU N (aY.mk s8.gC3 s8.gB9) r18.1) λr20=>
     some r20) (
     some false))) λp19=>
   cond p19 (
    dO N a4 a0 a1 a2 a3 k s6 (I64 (s7+1)) s8 s9 x16.toNat) (
    cond (decide (e15.gB1>=0)) (
     aa (aNE 8 s6 x16.toNat (([e15.gB3,e15.gB1]:List Int))) λz21=>
     dO N a4 a0 a1 a2 a3 k z21 (I64 (s7+1)) s8 s9 (x16.toNat+2)) (
     aQ (I64 (e15.gC7+e15.gC2)) λx22=>
     aa (yN a4.gT.gD2 e15.gC7 x22) λs23=>
     aa (dM N s23 a0 a1 a2 a3 a4 N (I64 (s7+1)) s8 s9 0) λp24=>
     dO N a4 a0 a1 a2 a3 k s6 p24.1 p24.2.1 p24.2.2 x16.toNat))) (
   some ((s6,s7,s8,s9)))
def jR(N:Nat)(a0 a1:aB)(a2 a3:Int)(a4:aM):Option (Int×Int×aR):=
 aa (aa (kY N a4) λr2=>
 aQ ((a4.gT.gA8.length:Int)) λx3=>
 cond (cond r2 true (x3==0)) (
  some true) (
  aa (vX N a0 a1) λr4=>
  some (!r4))) λp1=>
 cond p1 (
  some ((a4.gD3,-1,aR.mk 0 0 0 0))) (
  aa (dO N a4 a0 a1 a2 a3 N (([0]:List Int)) a4.gD3 (aR.mk 0 0 0 0) (-1) ((([0]:List Int)).length)) λp5=>
  some ((p5.2.1,p5.2.2.2,p5.2.2.1)))
theorem aBg{N a0 a1 a2 a3 a4 r}(h:jR N a0 a1 a2 a3 a4=some r):FnM Tryz.prog 243 [.var (aM.enc a4)] [(.ref 0 [] 0),(aB.enc a0),(aB.enc a1),(k8 a2),(j64 a3)] (.tup [(j64 r.2.1),(aR.enc r.2.2)]) [.var (.st 5 [(bD.enc a4.gT),(eB a4.gA),(eL 19 aJ.enc a4.gl),(j64 r.1)])]:=by
 unfold jR at h;refine At.f aB1 hT hmo Tryz.func243 rfl h ?_;refine At.J 5 0 [0,3,4,6,7,10,11] 2 (λp1=>([(36,(eB p1))],[],[])) (λp1=>?_) λp1=>?_
 ·refine At.Y 1 [0] wO λr2=>?_;refine lx ?_;intro x3;refine At.s 31 10 ?_ ?_
  ·refine At.g [31] 5 ?_;apply rt;exact At.jn 0
  ·refine At.g [31] 2 ?_;refine At.y 0 aBW λr4=>?_;refine At.g [31] 2 ?_;apply rt;exact At.jn 0
 ·refine At.c 0 ?_ ?_
  ·refine At.D 0 [] ?_;refine DD.e hT hmo 4 ?_;apply rt;exact At.r 0
  ·refine At.o 0 (aCh hT j64 (k:=1) ([0]:List Int) (by kernel_rfl) (by kernel_rfl)) ?_;refine At.gsub 1 12 ?_;refine At.M 0 [11] 3 (λp5=>([(10,(j64 p5.2.2.2))],[(0,.var (.st 5 [(bD.enc a4.gT),(eB a4.gA),(eL 19 aJ.enc a4.gl),(j64 p5.2.1)])),(1,.var (aR.enc p5.2.2.1)),(2,.gro 1 (aj j64 p5.1))],[])) [0,3,4,6,7,11] 3 (CU5 (dO N a4 a0 a1 a2 a3)) (cu5 λ(s6:(List Int)) (s7:Int) (s8:aR) (s9:Int) (s10:Nat)=>([(10,(j64 s9)),(12,(.gro 2 1 s6.length (.sub 0 s10)))],[(0,.var (.st 5 [(bD.enc a4.gT),(eB a4.gA),(eL 19 aJ.enc a4.gl),(j64 s7)])),(1,.var (aR.enc s8)),(2,.gro 1 (aj j64 s6))],[])) (_,_,_,_,_) N (λp5 k=>un5 λs6 s7 s8 s9 s10=>?_) λp5=>?_
   ·refine lx ?_;intro x11;refine At.c 3 ?_ ?_
    ·refine At.D 0 [] ?_;refine lx ?_;intro x12;refine DD.b 9 (λe _=>lS hT (id:=2) (k:=1) e (by kernel_rfl) (by kernel_rfl)) λu13=>?_;refine bi λe14 he14=>?_;refine DD.w 0 (j64 e14) ⟨[],[]⟩ (λ_ e=>zY (sR hT j64 [] he14 rfl (pj1 e) (pj1 (pj2 e))) (pj2 (pj2 e))) ?_;refine DD.i hT 0 aX.enc λe15=>?_;refine DD.e hT hmo 3 ?_;refine lx ?_;intro x16;refine At.b 4 (λ_ e=>aIM hT (id:=2) (k:=1) (L:=s6.length) (lo0:=0) (m:=s10) e (by kernel_rfl) (by kernel_rfl)) λs17=>?_;refine At.y 15 aF1 λr18=>?_;refine At.J 6 0 [0,3,4,6,7,10,11,12,13] 5 (λp19=>([(92,(eB p19))],[],[])) (λp19=>?_) λp19=>?_
     ·refine At.s 80 3 ?_ ?_
      ·refine At.g [80,83] 12 ?_;apply rt;exact At.jn 0
      ·refine At.g [80] 3 ?_;refine At.s 83 0 ?_ ?_
       ·refine At.g [83] 6 ?_;refine At.y 0 nF λr20=>?_;refine At.g [80,83] 2 ?_;apply rt;exact At.jn 0
       ·refine At.g [83,80] 9 ?_;apply rt;exact At.jn 0
     ·refine At.c 0 ?_ ?_
      ·exact λh=>At.v 0 (_,_,_,_,_) h
      ·refine At.c 3 ?_ ?_
       ·refine At.o 5 (bH hT (x:=(.sl 1 2 [(j64 e15.gB3),(j64 e15.gB1)]))) ?_;refine At.b 0 (λz21 e=>aGq hT j64 (id:=2) (k:=1) e (by kernel_rfl) (by kernel_rfl) (H':=[.var (.st 5 [(bD.enc a4.gT),(eB a4.gA),(eL 19 aJ.enc a4.gl),(j64 (I64 (s7+1)))]),.var (aR.enc s8),.gro 1 (aj j64 z21),.var (aX.enc e15),.var (aY.enc r18.1)]) (by kernel_rfl)) λz21=>?_;exact λh=>At.v 1 (_,_,_,_,_) h
       ·refine At.D 0 [] ?_;refine lx ?_;intro x22;refine DD.b 12 (λe _=>aA7 hT (k:=1) j64 e) λs23=>?_;refine DD.e hT hmo 2 ?_;refine At.M 0 [0,3,4,6,7,11,12] 5 (λp24=>([(10,(j64 p24.2.2))],[(0,.var (.st 5 [(bD.enc a4.gT),(eB a4.gA),(eL 19 aJ.enc a4.gl),(j64 p24.1)])),(1,.var (aR.enc p24.2.1))],[])) [0,3,4,6,7,11,12,115,116] 5 (CU4 (dM N s23 a0 a1 a2 a3 a4)) (cu4 λ(s25:Int) (s26:aR) (s27:Int) (s28:Int)=>([(10,(j64 s27)),(117,(j64 s28))],[(0,.var (.st 5 [(bD.enc a4.gT),(eB a4.gA),(eL 19 aJ.enc a4.gl),(j64 s25)])),(1,.var (aR.enc s26))],[])) (_,_,_,_) N (λp24 k=>un4 λs25 s26 s27 s28=>?_) λp24=>?_
        ·refine lx ?_;intro x29;refine At.c 1 ?_ ?_
         ·refine At.J 0 2 [0,3,4,6,7,11,12,115,116,117] 5 (λp30=>([(10,(j64 p30.2.2))],[(0,.var (.st 5 [(bD.enc a4.gT),(eB a4.gA),(eL 19 aJ.enc a4.gl),(j64 (I64 (s25+1)))])),(1,.var (aR.enc p30.1))],[.var (aR.enc p30.2.1)])) (λp30=>?_) λp30=>?_
          ·refine At.i hT 0 j64 λe31=>?_;refine At.Y 16 [0] wE λr32=>?_;refine At.J 6 0 [0,3,4,6,7,10,11,12,17,18,115,116,117] 6 (λp33=>([(158,(eB p33))],[],[])) (λp33=>?_) λp33=>?_
           ·refine At.s 139 2 ?_ ?_
            ·refine At.g [139] 3 ?_;refine At.s 142 0 ?_ ?_
             ·refine At.g [142,139,147,151] 16 ?_;apply rt;exact At.jn 0
             ·refine At.g [142] 2 ?_;refine At.y 0 aD4 λr34=>?_;refine At.g [139,142] 2 ?_;refine At.s 147 0 ?_ ?_
              ·refine At.g [147,151,139] 11 ?_;apply rt;exact At.jn 0
              ·refine At.g [147] 4 ?_;refine At.s 151 0 ?_ ?_
               ·refine At.g [151] 2 ?_;refine At.y 0 aD4 λr35=>?_;refine At.g [151,147,139] 4 ?_;apply rt;exact At.jn 0
               ·refine At.g [151,147,139] 7 ?_;apply rt;exact At.jn 0
            ·refine At.g [139,142,147,151] 19 ?_;apply rt;exact At.jn 0
           ·refine At.c 0 ?_ ?_
            ·refine At.D 0 [] ?_;refine DD.e hT hmo 4 ?_;apply rt;exact At.jn 0
            ·apply rt;exact At.jn 0
          ·exact λh=>At.v 2 (_,_,_,_) h
         ·apply rt;exact At.x 0
        ·exact λh=>At.v 0 (_,_,_,_,_) h
    ·apply rt;exact At.x 0
   ·refine At.D 0 [] ?_;refine DD.e hT hmo 4 ?_;apply rt;exact At.r 0
def oL(N:Nat)(b4:(List (List aC)))(a1:aN)(a2 a3:aA)(a4:Int)(a5:Bool)(a6:aG)(a7:aE)(a8:aF)(a9:aA)(a10:aH)(a11:aD)(a12:aM):Option (aG×Int×Int×bC×Bool):=
 aa (cond (a4==0) (some 9) (some 4)) λp1=>
 aa (jR N a1.go a1.gd p1 a1.gE8 a12) λr2=>
 aa (cond a8.gA4 (some (I64 (a10.gN+4))) (some a10.gN)) λp3=>
 cond (decide (r2.2.1 < 0)) (
  some ((a6,p3,r2.1,bC.mk 0 (aB.mk 0 0 0) (aA.mk 0 0 0) (aA.mk 0 0 0) (aO.mk 0 (#v[0,0,0]) 0) false,false))) (
  aa (idx a7.gQ r2.2.1) λe4=>
  aa (eY 1 3) λ_=>
  aa (e4.gP.toList[(bg 1)]?) λe6=>
  aa (eY 0 3) λ_=>
  aa (e4.gP.toList[(bg 0)]?) λe8=>
  aa (sD N e6 e8) λr9=>
  aa (eY 2 3) λ_=>
  aa (e4.gP.toList[(bg 2)]?) λe11=>
  aa (eY 0 3) λ_=>
  aa (e4.gP.toList[(bg 0)]?) λe13=>
  aa (sD N e11 e13) λr14=>
  aa (uC N r9 r14) λr15=>
  aa (iX N r15) λr16=>
  aa (aa (uZ N a1.go a1.gd r2.2.2) λr18=>
  aa (nC N r16 a1.gd) λr19=>
  aa (idx a7.gB0 e4.gC5) λe20=>
  cond (a4==0) (
   aQ ((lE .u8 e4.gD4 8) != 0) λx21=>
   some (bC.mk r2.2.1 r18 r19 (aA.mk 0 0 0) e20 x21)) (
   some (bC.mk r2.2.1 r18 r19 (aA.mk 0 0 0) e20 false))) λp17=>
  aa (cond (decide (e4.gB7>=0)) (
   aa (idx b4 e4.gB7) λe23=>
   cond (!a8.gA4) (some ((I64 (p3+4),e23))) (some ((p3,e23)))) (
   some ((p3,[])))) λp22=>
  aa (oJ N p17.gB2.gA7 p22.2 e4.gUv r2.2.2 a4) λr24=>
  aa (aQ (cond (a4==0) (!a5) false) λx26=>
  cond x26 (
   aa (qH N p17.gat) λr27=>
   aa (qH N a1.go) λr28=>
   aa (xY N r27 r28) λr29=>
   aa (qP N r29) λr30=>
   cond p17.gC0 (
    some (aG.mk (aA.mk 0 0 0) 0 r30 p17.gn e4.gA2)) (
    some (aG.mk (aA.mk 0 0 0) 1 r30 p17.gn e4.gA2))) (
   some a6)) λp25=>
  some ((p25,p22.1,r2.1,bC.mk p17.gi p17.gat p17.gn r24 p17.gB2 p17.gC0,true)))
theorem aD3{N b4 a1 a2 a3 a4 a5 a6 a7 a8 a9 a10 a11 a12 r}(h:oL N b4 a1 a2 a3 a4 a5 a6 a7 a8 a9 a10 a11 a12=some r):FnM Tryz.prog 86 [.var (.st 26 [(aN.enc a1),(.ref 1 [] 0),(.ref 2 [] 0),(aA.enc a2),(aA.enc a3),(j64 a4),(eB a5),(aG.enc a6)]),.var (.st 38 [(aE.enc a7),(aF.enc a8),(.ifc 115 (.ref 3 [] 0)),(eO 4 1 (eL 2 aC.enc) b4),(aA.enc a9),(aH.enc a10)]),.var (aD.enc a11),.var (aM.enc a12),.tail (b4.length*1)] [(.ref 0 [] 0)] (.tup [(bC.enc r.2.2.2.1),(eB r.2.2.2.2)]) [.var (.st 26 [(aN.enc a1),(.ref 1 [] 0),(.ref 2 [] 0),(aA.enc a2),(aA.enc a3),(j64 a4),(eB a5),(aG.enc r.1)]),.var (.st 38 [(aE.enc a7),(aF.enc a8),(.ifc 115 (.ref 3 [] 0)),(eO 4 1 (eL 2 aC.enc) b4),(aA.enc a9),(.st 3 [(j64 a10.gL),(j64 r.2.1),(j64 (I64 (a10.gI+1)))])]),.var (aD.enc a11),.var (.st 5 [(bD.enc a12.gT),(eB a12.gA),(eL 19 aJ.enc a12.gl),(j64 r.2.2.1)]),.tail (b4.length*1)]:=by
 unfold oL at h;refine At.f bO hT hmo Tryz.func86 rfl h ?_;refine At.J 3 1 [0,2] 6 (λp1=>([(4,(k8 p1))],[],[])) (λp1=>?_) λp1=>?_
 ·refine At.c 5 ?_ ?_
  ·apply rt;exact At.jn 1
  ·apply rt;exact At.jn 0
 ·refine At.D 0 [] ?_;refine DD.Y 25 [3] aBg λr2=>?_;refine DD.e hT hmo 6 ?_;refine At.J 13 1 [0,2,5,6] 7 (λp3=>([],[(1,.var (.st 38 [(aE.enc a7),(aF.enc a8),(.ifc 115 (.ref 3 [] 0)),(eO 4 1 (eL 2 aC.enc) b4),(aA.enc a9),(.st 3 [(j64 a10.gL),(j64 p3),(j64 (I64 (a10.gI+1)))])]))],[])) (λp3=>?_) λp3=>?_
  ·refine At.c 8 ?_ ?_
   ·apply rt;exact At.jn 13
   ·apply rt;exact At.jn 0
  ·refine At.c 2 ?_ ?_
   ·apply rt;exact At.r 3
   ·refine At.i hT 9 aJ.enc λe4=>?_;refine At.D 3 [] ?_;refine DD.b 1 (λe _=>bF hT (k:=3) 7 [0] 0 e) λu5=>?_;refine DD.l hT 0 aB.enc aB.enc 1 λe6=>?_;refine DD.b 1 (λe _=>bF hT (k:=3) 7 [0] 0 e) λu7=>?_;refine DD.l hT 0 aB.enc aB.enc 1 λe8=>?_;refine DD.y 0 uJ λr9=>?_;refine DD.b 1 (λe _=>bF hT (k:=3) 7 [0] 0 e) λu10=>?_;refine DD.l hT 0 aB.enc aB.enc 1 λe11=>?_;refine DD.b 1 (λe _=>bF hT (k:=3) 7 [0] 0 e) λu12=>?_;refine DD.l hT 0 aB.enc aB.enc 1 λe13=>?_;refine DD.y 0 uJ λr14=>?_;refine DD.y 0 aBG λr15=>?_;refine DD.y 0 nH λr16=>?_;refine DD.e hT hmo 2 ?_;refine At.J 0 0 [0,2,6,7] 9 (λp17=>([],[(5,.var (bC.enc p17))],[])) (λp17=>?_) λp17=>?_
    ·refine At.D 0 [] ?_;refine DD.y 12 aFs λr18=>?_;refine DD.y 6 aCE λr19=>?_;refine DD.i hT 10 aO.enc λe20=>?_;refine DD.s hT 7 ?_ ?_
     ·refine lx ?_;intro x21;refine DD.e hT hmo 7 ?_;apply rt;exact At.jn 0
     ·refine DD.e hT hmo 7 ?_;apply rt;exact At.jn 0
    ·refine At.J 1 1 [0,2,6,7] 9 (λp22=>([(9,(eL 2 aC.enc p22.2))],[(1,.var (.st 38 [(aE.enc a7),(aF.enc a8),(.ifc 115 (.ref 3 [] 0)),(eO 4 1 (eL 2 aC.enc) b4),(aA.enc a9),(.st 3 [(j64 a10.gL),(j64 p22.1),(j64 (I64 (a10.gI+1)))])]))],[])) (λp22=>?_) λp22=>?_
     ·refine At.c 3 ?_ ?_
      ·refine At.D 0 [] ?_;refine DD.i hT 9 (eL 2 aC.enc) λe23=>?_;refine DD.e hT hmo 2 ?_;refine At.c 9 ?_ ?_
       ·apply rt;exact At.jn 13
       ·apply rt;exact At.jn 0
      ·apply rt;exact At.jn 0
     ·refine At.D 0 [] ?_;refine DD.y 11 aCl λr24=>?_;refine DD.e hT hmo 2 ?_;refine At.J 0 1 [2] 9 (λp25=>([],[(0,.var (.st 26 [(aN.enc a1),(.ref 1 [] 0),(.ref 2 [] 0),(aA.enc a2),(aA.enc a3),(j64 a4),(eB a5),(aG.enc p25)]))],[])) (λp25=>?_) λp25=>?_
      ·refine lx ?_;intro x26;refine At.c 12 ?_ ?_
       ·refine At.D 0 [] ?_;refine DD.y 3 tN λr27=>?_;refine DD.y 5 tN λr28=>?_;refine DD.y 0 aC4 λr29=>?_;refine DD.y 0 aCb λr30=>?_;refine DD.e hT hmo 8 ?_;refine At.c 2 ?_ ?_
        ·apply rt;exact At.jn 5
        ·apply rt;exact At.jn 0
       ·apply rt;exact At.jn 0
      ·apply rt;exact At.r 3
def jU(N:Nat)(b4:(List (List aC)))(a1:(List aA))(a2:aN)(a3 a4:aA)(a5:Int)(a6:Bool)(a7:aG)(a8:aE)(a9:aF)(a10:aA)(a11:aH)(a12:aD)(a13:aM):Option (aA):=
 cond (!a6) (
  aa (tU 24 (([a3]:List aA)) a1) λz1=>
  aa (kA N z1) λr2=>
  aa (mC N ([a4,r2])) λr3=>
  some r3) (
  some a4)
theorem uK{N b4 a1 a2 a3 a4 a5 a6 a7 a8 a9 a10 a11 a12 a13 r}(h:jU N b4 a1 a2 a3 a4 a5 a6 a7 a8 a9 a10 a11 a12 a13=some r):FnM Tryz.prog 87 [.var (.st 26 [(aN.enc a2),(.ref 1 [] 0),(.ref 2 [] 0),(aA.enc a3),(aA.enc a4),(j64 a5),(eB a6),(aG.enc a7)]),.var (.st 38 [(aE.enc a8),(aF.enc a9),(.ifc 115 (.ref 3 [] 0)),(eO 4 1 (eL 2 aC.enc) b4),(aA.enc a10),(aH.enc a11)]),.var (aD.enc a12),.var (aM.enc a13),.tail (b4.length*1)] [(.ref 0 [] 0),(eL 3 aA.enc a1)] (.tup []) [.var (.st 26 [(aN.enc a2),(.ref 1 [] 0),(.ref 2 [] 0),(aA.enc a3),(aA.enc r),(j64 a5),(eB a6),(aG.enc a7)]),.var (.st 38 [(aE.enc a8),(aF.enc a9),(.ifc 115 (.ref 3 [] 0)),(eO 4 1 (eL 2 aC.enc) b4),(aA.enc a10),(aH.enc a11)]),.var (aD.enc a12),.var (aM.enc a13),.tail (b4.length*1)]:=by
 unfold jU at h;refine At.f bO hT hmo Tryz.func87 rfl h ?_;refine At.c 5 ?_ ?_
 ·refine At.D 0 [] ?_;refine DD.N 9 5 (λι=>(eO ι 3 aA.enc (([a3]:List aA)))) _ (λ_=>sZ hT aA.enc (k:=3) ([a3]:List aA) (by kernel_rfl) (by kernel_rfl)) ?_;refine bi λz1 hz1=>?_;refine DD.w 1 (eO 5 3 aA.enc z1) ⟨[(5,.tail (z1.length*3))],[]⟩ (λ_ e=>kB hT aA.enc (id:=5) (k:=3) hz1 (pj1 e) (pj2 e)) ?_;refine DD.y 0 sU λr2=>?_;refine DD.o 0 (λ_=>bH hT (x:=(.sl 3 2 [(aA.enc a4),(aA.enc r2)]))) ?_;refine DD.y 0 vC λr3=>?_;refine DD.e hT hmo 3 ?_;apply rt;exact At.z 0
 ·apply rt;exact At.z 0
def fP(N:Nat)(b4:(List (List aC)))(a1:Bool)(a2:aN)(a3 a4:aA)(a5:Int)(a6:Bool)(a7:aG)(a8:aE)(a9:aF)(a10:aA)(a11:aH)(a12:aD)(a13:aM):Option (Unit):=
 some (())
theorem kZ{N b4 a1 a2 a3 a4 a5 a6 a7 a8 a9 a10 a11 a12 a13 r}(h:fP N b4 a1 a2 a3 a4 a5 a6 a7 a8 a9 a10 a11 a12 a13=some r):FnM Tryz.prog 88 [.var (.st 26 [(aN.enc a2),(.ref 1 [] 0),(.ref 2 [] 0),(aA.enc a3),(aA.enc a4),(j64 a5),(eB a6),(aG.enc a7)]),.var (.st 38 [(aE.enc a8),(aF.enc a9),(.ifc 115 (.ref 3 [] 0)),(eO 4 1 (eL 2 aC.enc) b4),(aA.enc a10),(aH.enc a11)]),.var (aD.enc a12),.var (aM.enc a13),.tail (b4.length*1)] [(.ref 0 [] 0),(eB a1)] (.tup []) [.var (.st 26 [(aN.enc a2),(.ref 1 [] 0),(.ref 2 [] 0),(aA.enc a3),(aA.enc a4),(j64 a5),(eB (cond a6 true a1)),(aG.enc a7)]),.var (.st 38 [(aE.enc a8),(aF.enc a9),(.ifc 115 (.ref 3 [] 0)),(eO 4 1 (eL 2 aC.enc) b4),(aA.enc a10),(aH.enc a11)]),.var (aD.enc a12),.var (aM.enc a13),.tail (b4.length*1)]:=by
 unfold fP at h;refine At.f bO hT hmo Tryz.func88 rfl h ?_;apply rt;exact At.z 11
def aDT : Nat->Bool:=imL [7,8]
def eU(N:Nat)(s17:(List Int))(a0 a1:aB)(a2 a3:Int)(a5:aM)(a4:Bool):Nat->Int->Int->Option (Sum (Int) (Int×Bool))
 | 0,_,_=>none
 | k+1,s19,s20=>
  aQ (decide (s20 < ((s17.length:Int)))) λx21=>
  cond x21 (
   aa (idx s17 s20) λe22=>
   aa (dE N a0 a1 a2 a3 e22 (aM.mk a5.gT a5.gA a5.gl (I64 (s19+1)))) λr23=>
   aa (cond r23.2 (
    aQ (decide (r23.1.gC3 < r23.1.gB9)) λx25=>
    some (cond (!a4) true x25)) (
    some false)) λp24=>
   cond p24 (
    some (Sum.inr ((I64 (s19+1),true)))) (
    eU N s17 a0 a1 a2 a3 a5 a4 k (I64 (s19+1)) (I64 (s20+1)))) (
   some (Sum.inl s19))
def eX(N:Nat)(a5:aM)(a0 a1:aB)(a2 a3:Int)(a4:Bool):Nat->(List Int)->Int->Nat->Option (Sum ((List Int)×Int) (Int×Bool))
 | 0,_,_,_=>none
 | k+1,s6,s7,s8=>
  aQ (decide (((s8:Int)) > 0)) λx9=>
  cond x9 (
   aa (aAk s6.length 0 s8 (I64 (((s8:Int)) - 1))) λ_=>
   aa (s6[((I64 (((s8:Int)) - 1)).toNat)]?) λe11=>
   aa (idx a5.gT.gA8 e11) λe12=>
   aa (aLY s6.length 0 s8 0 (I64 (((s8:Int)) - 1))) λ_=>
   aa (yD N e12.gLo e12.gHi a0 a1) λr14=>
   cond (!r14.2) (
    eX N a5 a0 a1 a2 a3 a4 k s6 (I64 (s7+1)) ((I64 (((s8:Int)) - 1)).toNat)) (
    cond (decide (e12.gB1>=0)) (
     aa (aNE 8 s6 ((I64 (((s8:Int)) - 1)).toNat) (([e12.gB3,e12.gB1]:List Int))) λz15=>
     eX N a5 a0 a1 a2 a3 a4 k z15 (I64 (s7+1)) ((I64 (((s8:Int)) - 1)).toNat+2)) (
     aQ (I64 (e12.gC7+e12.gC2)) λx16=>
     aa (yN a5.gT.gD2 e12.gC7 x16) λs17=>
     aa (eU N s17 a0 a1 a2 a3 a5 a4 N (I64 (s7+1)) 0) λo=>jY o (λp18=>
      eX N a5 a0 a1 a2 a3 a4 k s6 p18 ((I64 (((s8:Int)) - 1)).toNat)) (λr=>some (Sum.inr r))))) (
   some (Sum.inl ((s6,s7))))
def jN(N:Nat)(a0 a1:aB)(a2 a3:Int)(a4:Bool)(a5:aM):Option (Int×Bool):=
 aa (aa (kY N a5) λr2=>
 aQ ((a5.gT.gA8.length:Int)) λx3=>
 cond (cond r2 true (x3==0)) (
  some true) (
  aa (vX N a0 a1) λr4=>
  some (!r4))) λp1=>
 cond p1 (
  some ((a5.gD3,false))) (
  aa (eX N a5 a0 a1 a2 a3 a4 N (([0]:List Int)) a5.gD3 ((([0]:List Int)).length)) λo=>jY o (λp5=>
   some ((p5.2,false))) (λr=>some r))
theorem xX{N a0 a1 a2 a3 a4 a5 r}(h:jN N a0 a1 a2 a3 a4 a5=some r):FnM Tryz.prog 242 [.var (aM.enc a5)] [(.ref 0 [] 0),(aB.enc a0),(aB.enc a1),(k8 a2),(j64 a3),(eB a4)] (eB r.2) [.var (.st 5 [(bD.enc a5.gT),(eB a5.gA),(eL 19 aJ.enc a5.gl),(j64 r.1)])]:=by
 unfold jN at h;refine At.f aDT hT hmo Tryz.func242 rfl h ?_;refine At.J 3 0 [0,3,4,5,7,8] 1 (λp1=>([(37,(eB p1))],[],[])) (λp1=>?_) λp1=>?_
 ·refine At.Y 1 [0] wO λr2=>?_;refine lx ?_;intro x3;refine At.s 32 10 ?_ ?_
  ·refine At.g [32] 5 ?_;apply rt;exact At.jn 0
  ·refine At.g [32] 2 ?_;refine At.y 0 aBW λr4=>?_;refine At.g [32] 2 ?_;apply rt;exact At.jn 0
 ·refine At.c 0 ?_ ?_
  ·apply rt;exact At.r 1
  ·refine At.o 0 (aCh hT j64 (k:=1) ([0]:List Int) (by kernel_rfl) (by kernel_rfl)) ?_;refine At.gsub 1 13 ?_;refine At.MS 0 [] 2 (λp5=>([],[(0,.var (.st 5 [(bD.enc a5.gT),(eB a5.gA),(eL 19 aJ.enc a5.gl),(j64 p5.2)])),(1,.gro 1 (aj j64 p5.1))],[])) [0,3,4,5,7,8] 2 (CU3 (eX N a5 a0 a1 a2 a3 a4)) (cu3 λ(s6:(List Int)) (s7:Int) (s8:Nat)=>([(13,(.gro 1 1 s6.length (.sub 0 s8)))],[(0,.var (.st 5 [(bD.enc a5.gT),(eB a5.gA),(eL 19 aJ.enc a5.gl),(j64 s7)])),(1,.gro 1 (aj j64 s6))],[])) (_,_,_) N (λop5 g5 k=>un3 λs6 s7 s8=>?_) λp5=>?_
   ·refine lx ?_;intro x9;refine At.c 3 ?_ ?_
    ·refine At.D 0 [] ?_;refine DD.b 9 (λe _=>lS hT (id:=1) (k:=1) e (by kernel_rfl) (by kernel_rfl)) λu10=>?_;refine bi λe11 he11=>?_;refine DD.w 0 (j64 e11) ⟨[],[]⟩ (λ_ e=>zY (sR hT j64 [] he11 rfl (pj1 e) (pj1 (pj2 e))) (pj2 (pj2 e))) ?_;refine DD.i hT 0 aX.enc λe12=>?_;refine DD.e hT hmo 3 ?_;refine At.b 4 (λ_ e=>aIM hT (id:=1) (k:=1) (L:=s6.length) (lo0:=0) (m:=s8) e (by kernel_rfl) (by kernel_rfl)) λs13=>?_;refine At.y 15 aF1 λr14=>?_;refine At.c 8 ?_ ?_
     ·exact λh=>At.v 0 (_,_,_) h
     ·refine At.c 3 ?_ ?_
      ·refine At.o 5 (bH hT (x:=(.sl 1 2 [(j64 e12.gB3),(j64 e12.gB1)]))) ?_;refine At.b 0 (λz15 e=>aGq hT j64 (id:=1) (k:=1) e (by kernel_rfl) (by kernel_rfl) (H':=[.var (.st 5 [(bD.enc a5.gT),(eB a5.gA),(eL 19 aJ.enc a5.gl),(j64 (I64 (s7+1)))]),.gro 1 (aj j64 z15),.var (aX.enc e12),.var (aY.enc r14.1)]) (by kernel_rfl)) λz15=>?_;exact λh=>At.v 1 (_,_,_) h
      ·refine At.D 0 [] ?_;refine lx ?_;intro x16;refine DD.b 12 (λe _=>aA7 hT (k:=1) j64 e) λs17=>?_;refine DD.e hT hmo 2 ?_;refine At.MS 0 [0,3,4,5,7,8,13] 4 (λp18=>([],[(0,.var (.st 5 [(bD.enc a5.gT),(eB a5.gA),(eL 19 aJ.enc a5.gl),(j64 p18)]))],[])) [0,3,4,5,7,8,13,101,102] 4 (CU2 (eU N s17 a0 a1 a2 a3 a5 a4)) (cu2 λ(s19:Int) (s20:Int)=>([(103,(j64 s20))],[(0,.var (.st 5 [(bD.enc a5.gT),(eB a5.gA),(eL 19 aJ.enc a5.gl),(j64 s19)]))],[])) (_,_) N (λop18 g18 k=>un2 λs19 s20=>?_) λp18=>?_
       ·refine lx ?_;intro x21;refine At.c 1 ?_ ?_
        ·refine At.i hT 0 j64 λe22=>?_;refine At.Y 16 [0] wE λr23=>?_;refine At.J 6 0 [0,3,4,5,7,8,13,101,102,103] 5 (λp24=>([(135,(eB p24))],[],[])) (λp24=>?_) λp24=>?_
         ·refine At.s 125 2 ?_ ?_
          ·refine lx ?_;intro x25;refine At.g [125] 10 ?_;apply rt;exact At.jn 0
          ·refine At.g [125,128] 10 ?_;apply rt;exact At.jn 0
         ·refine At.c 0 ?_ ?_
          ·intro e;apply rtS2 g18 g5 e;exact At.r 1
          ·exact λh=>At.v 2 (_,_) h
        ·apply rt;exact At.xs 0
       ·exact λh=>At.v 0 (_,_,_) h
    ·apply rt;exact At.xs 0
   ·apply rt;exact At.r 1
def aCk : Nat->Bool:=imL [3]
def iK(N:Nat)(x1:Int)(a8:aE)(b4:(List (List aC)))(a2:aN)(a3:aA)(a5:Int)(a6:Bool)(a7:aG)(a9:aF)(a10:aA)(a11:aH)(a1:bC):Nat->aA->aD->aM->Int->Option (aA×aD×aM)
 | 0,_,_,_,_=>none
 | k+1,s3,s4,s5,s6=>
  cond (decide (s6 < x1)) (
   aa (aa (idx a8.gM s6) λe8=>
   aQ (I64 (8+(I64 (2*s6)))) λx9=>
   aa (dU N b4 x9 a2 a3 s3 a5 a6 a7 a8 a9 a10 a11 s4 s5) λr10=>
   aQ (I64 (9+(I64 (2*s6)))) λx11=>
   aa (dU N b4 x11 a2 a3 s3 a5 a6 a7 a8 a9 a10 a11 (aD.mk r10.1 s4.gA s4.gD s4.gC s4.gE) s5) λr12=>
   aa (qW N e8 a1.gat a1.gn (#v[r10.2,r12.2])) λr13=>
   aQ (cond r13.gE7 (!a9.gA4) false) λx14=>
   cond x14 (
    some ((s3,aD.mk r12.1 ((aD.mk r10.1 s4.gA s4.gD s4.gC s4.gE).gA) ((aD.mk r10.1 s4.gA s4.gD s4.gC s4.gE).gD) ((aD.mk r10.1 s4.gA s4.gD s4.gC s4.gE).gC) ((aD.mk r10.1 s4.gA s4.gD s4.gC s4.gE).gE),s5.gD3,e8,r13))) (
    aa (aa (jN N a1.gat r13.gE9 2 a1.gi (!r13.gF0) s5) λr16=>
    cond (!r16.2) (
     cond (!r13.gE7) (
      some ((r16.1,a1.gB2.gA9==0))) (
      some ((r16.1,false)))) (
     some ((r16.1,false)))) λp15=>
    cond p15.2 (
     aa (jU N b4 ([a1.gc,r13.gC4]) a2 a3 s3 a5 a6 a7 a8 a9 a10 a11 (aD.mk r12.1 ((aD.mk r10.1 s4.gA s4.gD s4.gC s4.gE).gA) ((aD.mk r10.1 s4.gA s4.gD s4.gC s4.gE).gD) ((aD.mk r10.1 s4.gA s4.gD s4.gC s4.gE).gC) ((aD.mk r10.1 s4.gA s4.gD s4.gC s4.gE).gE)) (aM.mk s5.gT s5.gA s5.gl p15.1)) λr17=>
     some ((r17,aD.mk r12.1 ((aD.mk r10.1 s4.gA s4.gD s4.gC s4.gE).gA) ((aD.mk r10.1 s4.gA s4.gD s4.gC s4.gE).gD) ((aD.mk r10.1 s4.gA s4.gD s4.gC s4.gE).gC) ((aD.mk r10.1 s4.gA s4.gD s4.gC s4.gE).gE),p15.1,e8,r13))) (
     some ((s3,aD.mk r12.1 ((aD.mk r10.1 s4.gA s4.gD s4.gC s4.gE).gA) ((aD.mk r10.1 s4.gA s4.gD s4.gC s4.gE).gD) ((aD.mk r10.1 s4.gA s4.gD s4.gC s4.gE).gC) ((aD.mk r10.1 s4.gA s4.gD s4.gC s4.gE).gE),p15.1,e8,r13))))) λp7=>
   iK N x1 a8 b4 a2 a3 a5 a6 a7 a9 a10 a11 a1 k p7.1 p7.2.1 (aM.mk s5.gT s5.gA s5.gl p7.2.2.1) (I64 (s6+1))) (
   some ((s3,s4,s5)))
def rF(N:Nat)(r18:Int×Int)(x19:Int)(a1:bC):Nat->aM->Int->Option (aM)
 | 0,_,_=>none
 | k+1,s21,s22=>
  aQ (decide (s22 < (I64 (r18.2 - x19)))) λx23=>
  cond x23 (
   aa (jN N a1.gat (aB.mk 0 0 0) 2 a1.gi false s21) λr24=>
   rF N r18 x19 a1 k (aM.mk s21.gT s21.gA s21.gl r24.1) (I64 (s22+1))) (
   some s21)
def mN(N:Nat)(b4:(List (List aC)))(a1:bC)(a2:aN)(a3 a4:aA)(a5:Int)(a6:Bool)(a7:aG)(a8:aE)(a9:aF)(a10:aA)(a11:aH)(a12:aD)(a13:aM):Option (aA×aD×aM):=
 aQ ((a8.gM.length:Int)) λx1=>
 aa (iK N x1 a8 b4 a2 a3 a5 a6 a7 a9 a10 a11 a1 N a4 a12 a13 0) λp2=>
 cond (!a9.gA4) (
  some ((p2.1,p2.2.1,p2.2.2))) (
  aa (kM N a9.gK) λr18=>
  aQ ((a8.gM.length:Int)) λx19=>
  aa (rF N r18 x19 a1 N p2.2.2 0) λp20=>
  some ((p2.1,p2.2.1,p20)))
theorem aDF{N b4 a1 a2 a3 a4 a5 a6 a7 a8 a9 a10 a11 a12 a13 r}(h:mN N b4 a1 a2 a3 a4 a5 a6 a7 a8 a9 a10 a11 a12 a13=some r):FnM Tryz.prog 89 [.var (.st 26 [(aN.enc a2),(.ref 1 [] 0),(.ref 2 [] 0),(aA.enc a3),(aA.enc a4),(j64 a5),(eB a6),(aG.enc a7)]),.var (.st 38 [(aE.enc a8),(aF.enc a9),(.ifc 115 (.ref 3 [] 0)),(eO 4 1 (eL 2 aC.enc) b4),(aA.enc a10),(aH.enc a11)]),.var (aD.enc a12),.var (aM.enc a13),.tail (b4.length*1)] [(.ref 0 [] 0),(bC.enc a1)] (.tup []) [.var (.st 26 [(aN.enc a2),(.ref 1 [] 0),(.ref 2 [] 0),(aA.enc a3),(aA.enc r.1),(j64 a5),(eB a6),(aG.enc a7)]),.var (.st 38 [(aE.enc a8),(aF.enc a9),(.ifc 115 (.ref 3 [] 0)),(eO 4 1 (eL 2 aC.enc) b4),(aA.enc a10),(aH.enc a11)]),.var (aD.enc r.2.1),.var (aM.enc r.2.2),.tail (b4.length*1)]:=by
 unfold mN at h;refine At.f aCk hT hmo Tryz.func89 rfl h ?_;refine lx ?_;intro x1;refine At.M 11 [0,3] 5 (λp2=>([],[(0,.var (.st 26 [(aN.enc a2),(.ref 1 [] 0),(.ref 2 [] 0),(aA.enc a3),(aA.enc p2.1),(j64 a5),(eB a6),(aG.enc a7)])),(2,.var (aD.enc p2.2.1)),(3,.var (aM.enc p2.2.2))],[])) [0,3,16,17] 5 (CU4 (iK N x1 a8 b4 a2 a3 a5 a6 a7 a9 a10 a11 a1)) (cu4 λ(s3:aA) (s4:aD) (s5:aM) (s6:Int)=>([(18,(j64 s6))],[(0,.var (.st 26 [(aN.enc a2),(.ref 1 [] 0),(.ref 2 [] 0),(aA.enc a3),(aA.enc s3),(j64 a5),(eB a6),(aG.enc a7)])),(2,.var (aD.enc s4)),(3,.var (aM.enc s5))],[])) (_,_,_,_) N (λp2 k=>un4 λs3 s4 s5 s6=>?_) λp2=>?_
 ·refine At.c 1 ?_ ?_
  ·refine At.J 0 2 [0,3,16,17,18] 5 (λp7=>([],[(0,.var (.st 26 [(aN.enc a2),(.ref 1 [] 0),(.ref 2 [] 0),(aA.enc a3),(aA.enc p7.1),(j64 a5),(eB a6),(aG.enc a7)])),(2,.var (aD.enc p7.2.1)),(3,.var (.st 5 [(bD.enc s5.gT),(eB s5.gA),(eL 19 aJ.enc s5.gl),(j64 p7.2.2.1)]))],[.var (aS.enc p7.2.2.2.1),.var (mR.enc p7.2.2.2.2)])) (λp7=>?_) λp7=>?_
   ·refine At.i hT 1 aS.enc λe8=>?_;refine At.D 4 [] ?_;refine lx ?_;intro x9;refine DD.Y 9 [0,1,2,3,4] kD λr10=>?_;refine lx ?_;intro x11;refine DD.Y 4 [0,1,2,3,4] kD λr12=>?_;refine DD.y 1 aD7 λr13=>?_;refine DD.e hT hmo 2 ?_;refine lx ?_;intro x14;refine At.c 13 ?_ ?_
    ·apply rt;exact At.jn 0
    ·refine At.J 0 0 [0,3,6,16,17,18] 7 (λp15=>([(81,(eB p15.2))],[(3,.var (.st 5 [(bD.enc s5.gT),(eB s5.gA),(eL 19 aJ.enc s5.gl),(j64 p15.1)]))],[])) (λp15=>?_) λp15=>?_
     ·refine At.D 0 [] ?_;refine DD.Y 16 [3] xX λr16=>?_;refine DD.s hT 2 ?_ ?_
      ·refine DD.s hT 5 ?_ ?_
       ·refine DD.e hT hmo 5 ?_;apply rt;exact At.jn 0
       ·refine DD.e hT hmo 5 ?_;apply rt;exact At.jn 0
      ·refine DD.e hT hmo 10 ?_;apply rt;exact At.jn 0
     ·refine At.c 0 ?_ ?_
      ·refine At.o 5 (bH hT (x:=(.sl 3 2 [(aA.enc a1.gc),(aA.enc r13.gC4)]))) ?_;refine At.Y 0 [0,1,2,3,4] uK λr17=>?_;apply rt;exact At.jn 0
      ·apply rt;exact At.jn 0
   ·exact λh=>At.v 2 (_,_,_,_) h
  ·apply rt;exact At.x 0
 ·refine At.c 9 ?_ ?_
  ·apply rt;exact At.r 0
  ·refine At.y 8 vN λr18=>?_;refine lx ?_;intro x19;refine At.M 17 [] 5 (λp20=>([],[(3,.var (aM.enc p20))],[])) [0,3,121] 5 (CU2 (rF N r18 x19 a1)) (cu2 λ(s21:aM) (s22:Int)=>([(122,(j64 s22))],[(3,.var (aM.enc s21))],[])) (_,_) N (λp20 k=>un2 λs21 s22=>?_) λp20=>?_
   ·refine lx ?_;intro x23;refine At.c 1 ?_ ?_
    ·refine At.D 0 [] ?_;refine DD.Y 12 [3] xX λr24=>?_;refine DD.e hT hmo 0 ?_;exact λh=>At.v 2 (_,_) h
    ·apply rt;exact At.x 0
   ·apply rt;exact At.z 0
def oM(N:Nat)(b4:(List (List aC)))(a1:aN)(a2 a3:aA)(a4:Int)(a5:Bool)(a6:aG)(a7:aE)(a8:aF)(a9:aA)(a10:aH)(a11:aD)(a12:aM):Option (aN×aA×aA×Bool×aG×Int×aD×aM):=
 aa (oL N b4 a1 a2 a3 a4 a5 a6 a7 a8 a9 a10 a11 a12) λr1=>
 aa (cond (!r1.2.2.2.2) (
  aa (jU N b4 ([a9]) a1 a2 a3 a4 a5 r1.1 a7 a8 a9 (aH.mk a10.gL r1.2.1 (I64 (a10.gI+1))) a11 (aM.mk a12.gT a12.gA a12.gl r1.2.2.1)) λr3=>
  aa (fP N b4 true a1 a2 r3 a4 a5 r1.1 a7 a8 a9 (aH.mk a10.gL r1.2.1 (I64 (a10.gI+1))) a11 (aM.mk a12.gT a12.gA a12.gl r1.2.2.1)) λr4=>
  some ((r3,cond a5 true true))) (
  some ((a3,a5)))) λp2=>
 aa (fP N b4 r1.2.2.2.1.gC0 a1 a2 p2.1 a4 p2.2 r1.1 a7 a8 a9 (aH.mk a10.gL r1.2.1 (I64 (a10.gI+1))) a11 (aM.mk a12.gT a12.gA a12.gl r1.2.2.1)) λr5=>
 aa (aQ (r1.2.2.2.1.gB2.gA9==4) λx7=>
 cond x7 (
  aa (jU N b4 ([r1.2.2.2.1.gc]) a1 a2 p2.1 a4 (cond p2.2 true r1.2.2.2.1.gC0) r1.1 a7 a8 a9 (aH.mk a10.gL r1.2.1 (I64 (a10.gI+1))) a11 (aM.mk a12.gT a12.gA a12.gl r1.2.2.1)) λr8=>
  aa (fP N b4 true a1 a2 r8 a4 ((cond p2.2 true r1.2.2.2.1.gC0)) r1.1 a7 a8 a9 (aH.mk a10.gL r1.2.1 (I64 (a10.gI+1))) a11 (aM.mk a12.gT a12.gA a12.gl r1.2.2.1)) λr9=>
  some ((r8,cond ((cond p2.2 true r1.2.2.2.1.gC0)) true true))) (
  some ((p2.1,cond p2.2 true r1.2.2.2.1.gC0)))) λp6=>
 aa (aa (cond a8.gA4 (
  some true) (
  aQ (r1.2.2.2.1.gB2.gA9==0) λx12=>
  some (cond (!p6.2) x12 false))) λp11=>
 cond p11 (
  aa (mN N b4 r1.2.2.2.1 a1 a2 p6.1 a4 p6.2 r1.1 a7 a8 a9 (aH.mk a10.gL r1.2.1 (I64 (a10.gI+1))) a11 (aM.mk a12.gT a12.gA a12.gl r1.2.2.1)) λr13=>
  some ((r13.1,r13.2.1,r13.2.2))) (
  some ((p6.1,a11,aM.mk a12.gT a12.gA a12.gl r1.2.2.1)))) λp10=>
 aa (cond p6.2 (
  some true) (
  some (a4==a8.gG))) λp14=>
 cond p14 (
  aa (fP N b4 true a1 a2 p10.1 a4 p6.2 r1.1 a7 a8 a9 (aH.mk a10.gL r1.2.1 (I64 (a10.gI+1))) p10.2.1 p10.2.2) λr15=>
  some ((a1,a2,p10.1,cond p6.2 true true,r1.1,r1.2.1,p10.2.1,p10.2.2))) (
  aa (dU N b4 4 a1 a2 p10.1 a4 p6.2 r1.1 a7 a8 a9 (aH.mk a10.gL r1.2.1 (I64 (a10.gI+1))) p10.2.1 p10.2.2) λr16=>
  aa (dU N b4 5 a1 a2 p10.1 a4 p6.2 r1.1 a7 a8 a9 (aH.mk a10.gL r1.2.1 (I64 (a10.gI+1))) (aD.mk r16.1 p10.2.1.gA p10.2.1.gD p10.2.1.gC p10.2.1.gE) p10.2.2) λr17=>
  aa (lP N r1.2.2.2.1.gB2 r1.2.2.2.1.gc r1.2.2.2.1.gn a1.gd (#v[r16.2,r17.2])) λr18=>
  aa (kA N ([a2,r18.gC4])) λr19=>
  aa (fP N b4 r18.gC8 a1 r19 p10.1 a4 p6.2 r1.1 a7 a8 a9 (aH.mk a10.gL r1.2.1 (I64 (a10.gI+1))) (aD.mk r17.1 ((aD.mk r16.1 p10.2.1.gA p10.2.1.gD p10.2.1.gC p10.2.1.gE).gA) ((aD.mk r16.1 p10.2.1.gA p10.2.1.gD p10.2.1.gC p10.2.1.gE).gD) ((aD.mk r16.1 p10.2.1.gA p10.2.1.gD p10.2.1.gC p10.2.1.gE).gC) ((aD.mk r16.1 p10.2.1.gA p10.2.1.gD p10.2.1.gC p10.2.1.gE).gE)) p10.2.2) λr20=>
  aa (cond (decide (a4>=2)) (
   aa (dU N b4 7 a1 r19 p10.1 a4 (cond p6.2 true r18.gC8) r1.1 a7 a8 a9 (aH.mk a10.gL r1.2.1 (I64 (a10.gI+1))) (aD.mk r17.1 ((aD.mk r16.1 p10.2.1.gA p10.2.1.gD p10.2.1.gC p10.2.1.gE).gA) ((aD.mk r16.1 p10.2.1.gA p10.2.1.gD p10.2.1.gC p10.2.1.gE).gD) ((aD.mk r16.1 p10.2.1.gA p10.2.1.gD p10.2.1.gC p10.2.1.gE).gC) ((aD.mk r16.1 p10.2.1.gA p10.2.1.gD p10.2.1.gC p10.2.1.gE).gE)) p10.2.2) λr22=>
   aa (kX N r19 r22.2) λr23=>
   aa (fP N b4 (!r23.2) a1 r23.1 p10.1 a4 (cond p6.2 true r18.gC8) r1.1 a7 a8 a9 (aH.mk a10.gL r1.2.1 (I64 (a10.gI+1))) (aD.mk r22.1 ((aD.mk r17.1 ((aD.mk r16.1 p10.2.1.gA p10.2.1.gD p10.2.1.gC p10.2.1.gE).gA) ((aD.mk r16.1 p10.2.1.gA p10.2.1.gD p10.2.1.gC p10.2.1.gE).gD) ((aD.mk r16.1 p10.2.1.gA p10.2.1.gD p10.2.1.gC p10.2.1.gE).gC) ((aD.mk r16.1 p10.2.1.gA p10.2.1.gD p10.2.1.gC p10.2.1.gE).gE)).gA) ((aD.mk r17.1 ((aD.mk r16.1 p10.2.1.gA p10.2.1.gD p10.2.1.gC p10.2.1.gE).gA) ((aD.mk r16.1 p10.2.1.gA p10.2.1.gD p10.2.1.gC p10.2.1.gE).gD) ((aD.mk r16.1 p10.2.1.gA p10.2.1.gD p10.2.1.gC p10.2.1.gE).gC) ((aD.mk r16.1 p10.2.1.gA p10.2.1.gD p10.2.1.gC p10.2.1.gE).gE)).gD) ((aD.mk r17.1 ((aD.mk r16.1 p10.2.1.gA p10.2.1.gD p10.2.1.gC p10.2.1.gE).gA) ((aD.mk r16.1 p10.2.1.gA p10.2.1.gD p10.2.1.gC p10.2.1.gE).gD) ((aD.mk r16.1 p10.2.1.gA p10.2.1.gD p10.2.1.gC p10.2.1.gE).gC) ((aD.mk r16.1 p10.2.1.gA p10.2.1.gD p10.2.1.gC p10.2.1.gE).gE)).gC) ((aD.mk r17.1 ((aD.mk r16.1 p10.2.1.gA p10.2.1.gD p10.2.1.gC p10.2.1.gE).gA) ((aD.mk r16.1 p10.2.1.gA p10.2.1.gD p10.2.1.gC p10.2.1.gE).gD) ((aD.mk r16.1 p10.2.1.gA p10.2.1.gD p10.2.1.gC p10.2.1.gE).gC) ((aD.mk r16.1 p10.2.1.gA p10.2.1.gD p10.2.1.gC p10.2.1.gE).gE)).gE)) p10.2.2) λr24=>
   some ((r23.1,cond (cond p6.2 true r18.gC8) true (!r23.2),aD.mk r22.1 ((aD.mk r17.1 ((aD.mk r16.1 p10.2.1.gA p10.2.1.gD p10.2.1.gC p10.2.1.gE).gA) ((aD.mk r16.1 p10.2.1.gA p10.2.1.gD p10.2.1.gC p10.2.1.gE).gD) ((aD.mk r16.1 p10.2.1.gA p10.2.1.gD p10.2.1.gC p10.2.1.gE).gC) ((aD.mk r16.1 p10.2.1.gA p10.2.1.gD p10.2.1.gC p10.2.1.gE).gE)).gA) ((aD.mk r17.1 ((aD.mk r16.1 p10.2.1.gA p10.2.1.gD p10.2.1.gC p10.2.1.gE).gA) ((aD.mk r16.1 p10.2.1.gA p10.2.1.gD p10.2.1.gC p10.2.1.gE).gD) ((aD.mk r16.1 p10.2.1.gA p10.2.1.gD p10.2.1.gC p10.2.1.gE).gC) ((aD.mk r16.1 p10.2.1.gA p10.2.1.gD p10.2.1.gC p10.2.1.gE).gE)).gD) ((aD.mk r17.1 ((aD.mk r16.1 p10.2.1.gA p10.2.1.gD p10.2.1.gC p10.2.1.gE).gA) ((aD.mk r16.1 p10.2.1.gA p10.2.1.gD p10.2.1.gC p10.2.1.gE).gD) ((aD.mk r16.1 p10.2.1.gA p10.2.1.gD p10.2.1.gC p10.2.1.gE).gC) ((aD.mk r16.1 p10.2.1.gA p10.2.1.gD p10.2.1.gC p10.2.1.gE).gE)).gC) ((aD.mk r17.1 ((aD.mk r16.1 p10.2.1.gA p10.2.1.gD p10.2.1.gC p10.2.1.gE).gA) ((aD.mk r16.1 p10.2.1.gA p10.2.1.gD p10.2.1.gC p10.2.1.gE).gD) ((aD.mk r16.1 p10.2.1.gA p10.2.1.gD p10.2.1.gC p10.2.1.gE).gC) ((aD.mk r16.1 p10.2.1.gA p10.2.1.gD p10.2.1.gC p10.2.1.gE).gE)).gE)))) (
   some ((r19,cond p6.2 true r18.gC8,aD.mk r17.1 ((aD.mk r16.1 p10.2.1.gA p10.2.1.gD p10.2.1.gC p10.2.1.gE).gA) ((aD.mk r16.1 p10.2.1.gA p10.2.1.gD p10.2.1.gC p10.2.1.gE).gD) ((aD.mk r16.1 p10.2.1.gA p10.2.1.gD p10.2.1.gC p10.2.1.gE).gC) ((aD.mk r16.1 p10.2.1.gA p10.2.1.gD p10.2.1.gC p10.2.1.gE).gE))))) λp21=>
  some ((aN.mk r1.2.2.2.1.gat r18.gF1 r1.2.2.2.1.gi,p21.1,p10.1,p21.2.1,r1.1,r1.2.1,p21.2.2,p10.2.2)))
theorem aEI{N b4 a1 a2 a3 a4 a5 a6 a7 a8 a9 a10 a11 a12 r}(h:oM N b4 a1 a2 a3 a4 a5 a6 a7 a8 a9 a10 a11 a12=some r):FnM Tryz.prog 49 [.var (.st 26 [(aN.enc a1),(.ref 1 [] 0),(.ref 2 [] 0),(aA.enc a2),(aA.enc a3),(j64 a4),(eB a5),(aG.enc a6)]),.var (.st 38 [(aE.enc a7),(aF.enc a8),(.ifc 115 (.ref 3 [] 0)),(eO 4 1 (eL 2 aC.enc) b4),(aA.enc a9),(aH.enc a10)]),.var (aD.enc a11),.var (aM.enc a12),.tail (b4.length*1)] [(.ref 0 [] 0)] (.tup []) [.var (.st 26 [(aN.enc r.1),(.ref 1 [] 0),(.ref 2 [] 0),(aA.enc r.2.1),(aA.enc r.2.2.1),(j64 a4),(eB r.2.2.2.1),(aG.enc r.2.2.2.2.1)]),.var (.st 38 [(aE.enc a7),(aF.enc a8),(.ifc 115 (.ref 3 [] 0)),(eO 4 1 (eL 2 aC.enc) b4),(aA.enc a9),(.st 3 [(j64 a10.gL),(j64 r.2.2.2.2.2.1),(j64 (I64 (a10.gI+1)))])]),.var (aD.enc r.2.2.2.2.2.2.1),.var (aM.enc r.2.2.2.2.2.2.2),.tail (b4.length*1)]:=by
 unfold oM at h;refine At.f bO hT hmo Tryz.func49 rfl h ?_;refine At.Y 1 [0,1,2,3,4] aD3 λr1=>?_;refine At.J 6 1 [0,2] 6 (λp2=>([],[(0,.var (.st 26 [(aN.enc a1),(.ref 1 [] 0),(.ref 2 [] 0),(aA.enc a2),(aA.enc p2.1),(j64 a4),(eB p2.2),(aG.enc r1.1)]))],[])) (λp2=>?_) λp2=>?_
 ·refine At.c 2 ?_ ?_
  ·refine At.o 8 (bH hT (x:=(.sl 3 1 [(aA.enc a9)]))) ?_;refine At.Y 0 [0,1,2,3,4] uK λr3=>?_;refine At.Y 1 [0,1,2,3,4] kZ λr4=>?_;apply rt;exact At.jn 0
  ·apply rt;exact At.jn 0
 ·refine At.Y 3 [0,1,2,3,4] kZ λr5=>?_;refine At.J 0 1 [0,2] 6 (λp6=>([],[(0,.var (.st 26 [(aN.enc a1),(.ref 1 [] 0),(.ref 2 [] 0),(aA.enc a2),(aA.enc p6.1),(j64 a4),(eB p6.2),(aG.enc r1.1)]))],[])) (λp6=>?_) λp6=>?_
  ·refine lx ?_;intro x7;refine At.c 4 ?_ ?_
   ·refine At.o 3 (bH hT (x:=(.sl 3 1 [(aA.enc r1.2.2.2.1.gc)]))) ?_;refine At.Y 0 [0,1,2,3,4] uK λr8=>?_;refine At.Y 1 [0,1,2,3,4] kZ λr9=>?_;apply rt;exact At.jn 0
   ·apply rt;exact At.jn 0
  ·refine At.J 0 1 [0,2] 6 (λp10=>([],[(0,.var (.st 26 [(aN.enc a1),(.ref 1 [] 0),(.ref 2 [] 0),(aA.enc a2),(aA.enc p10.1),(j64 a4),(eB p6.2),(aG.enc r1.1)])),(2,.var (aD.enc p10.2.1)),(3,.var (aM.enc p10.2.2))],[])) (λp10=>?_) λp10=>?_
   ·refine At.J 0 0 [0,2] 6 (λp11=>([(61,(eB p11))],[],[])) (λp11=>?_) λp11=>?_
    ·refine At.s 49 9 ?_ ?_
     ·refine At.g [49,55] 12 ?_;apply rt;exact At.jn 0
     ·refine lx ?_;intro x12;refine At.g [49] 12 ?_;apply rt;exact At.jn 0
    ·refine At.c 0 ?_ ?_
     ·refine At.Y 2 [0,1,2,3,4] aDF λr13=>?_;apply rt;exact At.jn 0
     ·apply rt;exact At.jn 0
   ·refine At.J 0 0 [0,2] 6 (λp14=>([(83,(eB p14))],[],[])) (λp14=>?_) λp14=>?_
    ·refine At.D 0 [] ?_;refine DD.s hT 5 ?_ ?_
     ·refine DD.e hT hmo 14 ?_;apply rt;exact At.jn 0
     ·refine DD.e hT hmo 14 ?_;apply rt;exact At.jn 0
    ·refine At.c 0 ?_ ?_
     ·refine At.Y 1 [0,1,2,3,4] kZ λr15=>?_;apply rt;exact At.r 0
     ·refine At.D 0 [] ?_;refine DD.Y 12 [0,1,2,3,4] kD λr16=>?_;refine DD.Y 1 [0,1,2,3,4] kD λr17=>?_;refine DD.y 1 aBl λr18=>?_;refine DD.e hT hmo 2 ?_;refine At.D 0 [] ?_;refine DD.o 7 (λ_=>bH hT (x:=(.sl 3 2 [(aA.enc a2),(aA.enc r18.gC4)]))) ?_;refine DD.y 0 sU λr19=>?_;refine DD.e hT hmo 3 ?_;refine At.Y 3 [0,1,2,3,4] kZ λr20=>?_;refine At.J 0 1 [0,2,4] 7 (λp21=>([],[(0,.var (.st 26 [(aN.enc a1),(.ref 1 [] 0),(.ref 2 [] 0),(aA.enc p21.1),(aA.enc p10.1),(j64 a4),(eB p21.2.1),(aG.enc r1.1)])),(2,.var (aD.enc p21.2.2))],[])) (λp21=>?_) λp21=>?_
      ·refine At.c 5 ?_ ?_
       ·refine At.D 0 [] ?_;refine DD.Y 5 [0,1,2,3,4] kD λr22=>?_;refine DD.y 0 aAu λr23=>?_;refine DD.e hT hmo 6 ?_;refine At.Y 8 [0,1,2,3,4] kZ λr24=>?_;apply rt;exact At.jn 0
       ·apply rt;exact At.jn 0
      ·apply rt;exact At.z 11
def iT(N:Nat)(b2:(List (List aC)))(a4:aE)(a5:aF)(a6:aA)(a7:aH)(a8:aM):Nat->aD->(Vector Int 4)->Int->Option (aD×(Vector Int 4))
 | 0,_,_,_=>none
 | k+1,s9,s10,s11=>
  cond (decide (s11 < 4)) (
   aa (dU N b2 s11 (aN.mk (aB.mk 0 0 0) (aB.mk 0 0 0) 0) (aA.mk 4294967296 4294967296 4294967296) (aA.mk 0 0 0) 0 false (aG.mk (aA.mk 0 0 0) 0 0 (aA.mk 0 0 0) (-1)) a4 a5 a6 a7 s9 a8) λr12=>
   aa (eY s11 4) λ_=>
   aa (s10.toList[s11.toNat]?) λe14=>
   iT N b2 a4 a5 a6 a7 a8 k (aD.mk r12.1 s9.gA s9.gD s9.gC s9.gE) (s10.setIfInBounds s11.toNat r12.2) (I64 (s11+1))) (
   some ((s9,s10)))
def fI(N:Nat)(a5:aF)(b2:(List (List aC)))(a4:aE)(a6:aA):Nat->aH->aM->aD->aN->aA->aA->Int->Bool->aG->Option (aH×aM×aD×aN×aA×aA×Int×Bool×aG)
 | 0,_,_,_,_,_,_,_,_,_=>none
 | k+1,s17,s18,s19,s20,s21,s22,s23,s24,s25=>
  aa (aQ (decide (s23<=a5.gG)) λx27=>
  cond x27 (
   cond (!s24) (
    some true) (
    some a5.gA4)) (
   some false)) λp26=>
  cond p26 (
   aa (oM N b2 s20 s21 s22 s23 s24 s25 a4 a5 a6 s17 s19 s18) λr28=>
   fI N a5 b2 a4 a6 k (aH.mk s17.gL r28.2.2.2.2.2.1 (I64 (s17.gI+1))) r28.2.2.2.2.2.2.2 r28.2.2.2.2.2.2.1 r28.1 r28.2.1 r28.2.2.1 (I64 (s23+1)) r28.2.2.2.1 r28.2.2.2.2.1) (
   some ((s17,s18,s19,s20,s21,s22,s23,s24,s25)))
def iI(N:Nat)(b2:(List (List aC)))(a1 a2 a3:Int)(a4:aE)(a5:aF)(a6:aA)(a7:aH)(a8:aM):Option (aH×aM×aG×Int):=
 aQ (cond (decide (a1 < 0)) true (decide (a1>=a5.gW))) λx1=>
 aQ (cond x1 true (decide (a2 < 0))) λx2=>
 aQ (cond x2 true (decide (a2>=a5.gH))) λx3=>
 aQ (cond x3 true (decide (a3 < 0))) λx4=>
 aQ (decide (a3>=a5.gB5)) λx5=>
 cond (cond x4 true x5) (
  some ((a7,a8,aG.mk (aA.mk 0 0 0) 0 0 (aA.mk 0 0 0) 0,2))) (
  aQ (I64 ((I64 (a2*a5.gW))+a1)) λx6=>
  aa (wC N a5.gD6 x6 a3) λr7=>
  aa (iT N b2 a4 a5 a6 a7 a8 N (aD.mk (eM.mk (bV.mk 0 0 0) false (Vector.replicate 64 0)) true a5.gD6 x6 a3) (#v[0,0,0,0]) 0) λp8=>
  aa (xS N a5.gD7 a5.gW a5.gH a1 a2 p8.2) λr15=>
  aa (fI N a5 b2 a4 a6 N a7 a8 p8.1 (aN.mk r15.1 r15.2.1 (-1)) (aA.mk 4294967296 4294967296 4294967296) (aA.mk 0 0 0) 0 false (aG.mk (aA.mk 0 0 0) 0 0 (aA.mk 0 0 0) (-1))) λp16=>
  some ((p16.1,p16.2.1,aG.mk p16.2.2.2.2.2.1 p16.2.2.2.2.2.2.2.2.gA0 p16.2.2.2.2.2.2.2.2.gG p16.2.2.2.2.2.2.2.2.gB6 p16.2.2.2.2.2.2.2.2.gA2,0)))
theorem aBz{N b2 a1 a2 a3 a4 a5 a6 a7 a8 r}(h:iI N b2 a1 a2 a3 a4 a5 a6 a7 a8=some r):FnM Tryz.prog 23 [.var (.st 38 [(aE.enc a4),(aF.enc a5),(.ifc 115 (.ref 1 [] 0)),(eO 2 1 (eL 2 aC.enc) b2),(aA.enc a6),(aH.enc a7)]),.var (aM.enc a8),.tail (b2.length*1)] [(.ref 0 [] 0),(j64 a1),(j64 a2),(j64 a3)] (.tup [(aG.enc r.2.2.1),(j64 r.2.2.2)]) [.var (.st 38 [(aE.enc a4),(aF.enc a5),(.ifc 115 (.ref 1 [] 0)),(eO 2 1 (eL 2 aC.enc) b2),(aA.enc a6),(aH.enc r.1)]),.var (aM.enc r.2.1),.tail (b2.length*1)]:=by
 unfold iI at h;refine At.f bO hT hmo Tryz.func23 rfl h ?_;refine At.o 3 (nI hT (t:=64) (x:=(.ref 0 [] 0)) (b:=true) (by kernel_rfl) rfl rfl (by kernel_rfl)) ?_;refine At.g [16] 5 ?_;refine At.o 0 (aIa (t:=104) (u:=115) (x:=(.ref 1 [] 0)) (by kernel_rfl) rfl rfl .eql false (by decide) (by kernel_rfl)) ?_;refine lx ?_;intro x1;refine lx ?_;intro x2;refine lx ?_;intro x3;refine lx ?_;intro x4;refine lx ?_;intro x5;refine At.g [16] 41 ?_;refine At.c 0 ?_ ?_
 ·apply rt;exact At.r 3
 ·refine At.D 0 [] ?_;refine lx ?_;intro x6;refine DD.Z 16 [] 4 aEy λr7=>?_;refine DD.e hT hmo 5 ?_;refine At.M 2 [0,1,2,8,10,11] 7 (λp8=>([],[(4,.var (aD.enc p8.1)),(6,.var (eA 4 1 k32 p8.2))],[])) [0,1,2,8,10,11] 7 (CU3 (iT N b2 a4 a5 a6 a7 a8)) (cu3 λ(s9:aD) (s10:(Vector Int 4)) (s11:Int)=>([(84,(j64 s11))],[(4,.var (aD.enc s9)),(6,.var (eA 4 1 k32 s10))],[])) (_,_,_) N (λp8 k=>un3 λs9 s10 s11=>?_) λp8=>?_
  ·refine At.c 1 ?_ ?_
   ·refine At.Y 5 [5,0,4,1,2] kD λr12=>?_;refine At.b 0 (λ_ e=>bF hT (k:=1) 6 [] 0 e) λu13=>?_;refine At.b 0 (λ_ e=>pP hT k32 0 s10 e r12.2 (by kernel_rfl) (by kernel_rfl) (H':=[.var (.st 38 [(aE.enc a4),(aF.enc a5),(.ifc 115 (.ref 1 [] 0)),(eO 2 1 (eL 2 aC.enc) b2),(aA.enc a6),(aH.enc a7)]),.var (aM.enc a8),.tail (b2.length*1),.var cv_2,.var (.st 72 [(eM.enc r12.1),(eB s9.gA),(k64 s9.gD),(j64 s9.gC),(j64 s9.gE)]),.var cv_3,.var (eA 4 1 k32 (s10.setIfInBounds s11.toNat r12.2))])) λe14=>?_;exact λh=>At.v 2 (_,_,_) h
   ·apply rt;exact At.x 0
  ·refine At.D 5 [] ?_;refine DD.y 20 aHo λr15=>?_;refine DD.e hT hmo 12 ?_;refine At.M 0 [8,10] 7 (λp16=>([],[(0,.var (.st 38 [(aE.enc a4),(aF.enc a5),(.ifc 115 (.ref 1 [] 0)),(eO 2 1 (eL 2 aC.enc) b2),(aA.enc a6),(aH.enc p16.1)])),(1,.var (aM.enc p16.2.1)),(4,.var (aD.enc p16.2.2.1)),(5,.var (.st 26 [(aN.enc p16.2.2.2.1),(.ref 0 [] 0),(.ref 4 [] 0),(aA.enc p16.2.2.2.2.1),(aA.enc p16.2.2.2.2.2.1),(j64 p16.2.2.2.2.2.2.1),(eB p16.2.2.2.2.2.2.2.1),(aG.enc p16.2.2.2.2.2.2.2.2)]))],[])) [0,8,10] 7 (CU9 (fI N a5 b2 a4 a6)) (cu9 λ(s17:aH) (s18:aM) (s19:aD) (s20:aN) (s21:aA) (s22:aA) (s23:Int) (s24:Bool) (s25:aG)=>([],[(0,.var (.st 38 [(aE.enc a4),(aF.enc a5),(.ifc 115 (.ref 1 [] 0)),(eO 2 1 (eL 2 aC.enc) b2),(aA.enc a6),(aH.enc s17)])),(1,.var (aM.enc s18)),(4,.var (aD.enc s19)),(5,.var (.st 26 [(aN.enc s20),(.ref 0 [] 0),(.ref 4 [] 0),(aA.enc s21),(aA.enc s22),(j64 s23),(eB s24),(aG.enc s25)]))],[])) (_,_,_,_,_,_,_,_,_) N (λp16 k=>un9 λs17 s18 s19 s20 s21 s22 s23 s24 s25=>?_) λp16=>?_
   ·refine At.J 0 0 [0,8,10] 7 (λp26=>([(151,(eB p26))],[],[])) (λp26=>?_) λp26=>?_
    ·refine At.D 0 [] ?_;refine lx ?_;intro x27;refine DD.s hT 11 ?_ ?_
     ·refine DD.s hT 6 ?_ ?_
      ·refine DD.e hT hmo 7 ?_;apply rt;exact At.jn 0
      ·refine DD.e hT hmo 7 ?_;apply rt;exact At.jn 0
     ·refine DD.e hT hmo 13 ?_;apply rt;exact At.jn 0
    ·refine At.c 0 ?_ ?_
     ·refine At.Y 1 [5,0,4,1,2] aEI λr28=>?_;exact λh=>At.v 8 (_,_,_,_,_,_,_,_,_) h
     ·apply rt;exact At.x 0
   ·apply rt;exact At.r 15
def iA(N:Nat)(a2:Int)(b4:(List (List aC)))(a3:aE)(a4:aF)(a5:Int)(a6:(List aK))(a9:aE)(a10:aF)(a11:aA):Nat->(List aG)->Int->aI->aH->aM->Int->Option ((List aG)×Int×aI×aH×aM×Int)
 | 0,_,_,_,_,_,_=>none
 | k+1,s3,s4,s5,s6,s7,s8=>
  aa (cond (decide (s8 < a2)) (
   aa (bK N s3 b4 a3 a4 a5 a6 s4 s5 a9 a10 a11 s6 s7) λr10=>
   some (decide (r10 > 0))) (
   some false)) λp9=>
  cond p9 (
   aa (aDm .i64 s4 a4.gB5) λx11=>
   aa (idx a6 x11) λe12=>
   aa (aG6 .i64 s4 a4.gB5) λx13=>
   aa (iI N b4 e12.gx e12.gy x13 a9 a10 a11 s6 s7) λr14=>
   aa (tU 72 s3 (([r14.2.2.1]:List aG))) λz15=>
   aQ ((I64 (x13+1))==a4.gB5) λx16=>
   cond x16 (
    aa (qE N z15 a3) λr17=>
    aa (aAQ N s5 r17.1 e12.gx e12.gy) λr18=>
    iA N a2 b4 a3 a4 a5 a6 a9 a10 a11 k [] (I64 (s4+1)) r18.1 r14.1 r14.2.1 (I64 (s8+1))) (
    iA N a2 b4 a3 a4 a5 a6 a9 a10 a11 k z15 (I64 (s4+1)) s5 r14.1 r14.2.1 (I64 (s8+1)))) (
   some ((s3,s4,s5,s6,s7,s8)))
def bZ(N:Nat)(b2:(List aG))(b4:(List (List aC)))(a2:Int)(a3:aE)(a4:aF)(a5:Int)(a6:(List aK))(a7:Int)(a8:aI)(a9:aE)(a10:aF)(a11:aA)(a12:aH)(a13:aM):Option ((List aG)×Int×aI×aH×aM×Int):=
 aa (cR N b2 b4 a3 a4 a5 a6 a7 a8 a9 a10 a11 a12 a13) λr1=>
 aa (iA N a2 b4 a3 a4 a5 a6 a9 a10 a11 N b2 a7 a8 a12 a13 0) λp2=>
 some ((p2.1,p2.2.1,p2.2.2.1,p2.2.2.2.1,p2.2.2.2.2.1,p2.2.2.2.2.2))
theorem fE{N b2 b4 a2 a3 a4 a5 a6 a7 a8 a9 a10 a11 a12 a13 r}(h:bZ N b2 b4 a2 a3 a4 a5 a6 a7 a8 a9 a10 a11 a12 a13=some r):FnM Tryz.prog 9 [.var (.st 43 [(.ref 1 [] 0),(aE.enc a3),(aF.enc a4),(j64 a5),(eL 6 aK.enc a6),(j64 a7),(eO 2 9 aG.enc b2),(aI.enc a8)]),.var (.st 38 [(aE.enc a9),(aF.enc a10),(.ifc 115 (.ref 3 [] 0)),(eO 4 1 (eL 2 aC.enc) b4),(aA.enc a11),(aH.enc a12)]),.tail (b2.length*9),.var (aM.enc a13),.tail (b4.length*1)] [(.ref 0 [] 0),(j64 a2)] (j64 r.2.2.2.2.2) [.var (.st 43 [(.ref 1 [] 0),(aE.enc a3),(aF.enc a4),(j64 a5),(eL 6 aK.enc a6),(j64 r.2.1),(eO 5 9 aG.enc r.1),(aI.enc r.2.2.1)]),.var (.st 38 [(aE.enc a9),(aF.enc a10),(.ifc 115 (.ref 3 [] 0)),(eO 4 1 (eL 2 aC.enc) b4),(aA.enc a11),(aH.enc r.2.2.2.1)]),.dead,.var (aM.enc r.2.2.2.2.1),.tail (b4.length*1),.tail (r.1.length*9)]:=by
 unfold bZ at h;refine At.f bO hT hmo Tryz.func9 rfl h ?_;refine At.mv 0 2 ?_;refine At.Y 2 [0,1,5,3,4] mP λr1=>?_;refine At.M 1 [] 6 (λp2=>([(4,(j64 p2.2.2.2.2.2))],[(0,.var (.st 43 [(.ref 1 [] 0),(aE.enc a3),(aF.enc a4),(j64 a5),(eL 6 aK.enc a6),(j64 p2.2.1),(eO 5 9 aG.enc p2.1),(aI.enc p2.2.2.1)])),(1,.var (.st 38 [(aE.enc a9),(aF.enc a10),(.ifc 115 (.ref 3 [] 0)),(eO 4 1 (eL 2 aC.enc) b4),(aA.enc a11),(aH.enc p2.2.2.2.1)])),(3,.var (aM.enc p2.2.2.2.2.1)),(5,.tail (p2.1.length*9))],[])) [0,1] 6 (CU6 (iA N a2 b4 a3 a4 a5 a6 a9 a10 a11)) (cu6 λ(s3:(List aG)) (s4:Int) (s5:aI) (s6:aH) (s7:aM) (s8:Int)=>([(4,(j64 s8))],[(0,.var (.st 43 [(.ref 1 [] 0),(aE.enc a3),(aF.enc a4),(j64 a5),(eL 6 aK.enc a6),(j64 s4),(eO 5 9 aG.enc s3),(aI.enc s5)])),(1,.var (.st 38 [(aE.enc a9),(aF.enc a10),(.ifc 115 (.ref 3 [] 0)),(eO 4 1 (eL 2 aC.enc) b4),(aA.enc a11),(aH.enc s6)])),(3,.var (aM.enc s7)),(5,.tail (s3.length*9))],[])) (_,_,_,_,_,_) N (λp2 k=>un6 λs3 s4 s5 s6 s7 s8=>?_) λp2=>?_
 ·refine At.J 0 0 [0,1,4] 6 (λp9=>([(20,(eB p9))],[],[])) (λp9=>?_) λp9=>?_
  ·refine At.s 16 4 ?_ ?_
   ·refine At.g [16] 1 ?_;refine At.Y 0 [0,1,5,3,4] cI λr10=>?_;refine At.g [16] 2 ?_;apply rt;exact At.jn 0
   ·refine At.g [16] 4 ?_;apply rt;exact At.jn 0
  ·refine At.c 0 ?_ ?_
   ·refine At.D 0 [] ?_;refine DD.b 13 (λe _=>yX hT e (by kernel_rfl) (by kernel_rfl)) λx11=>?_;refine DD.i hT 0 aK.enc λe12=>?_;refine DD.b 10 (λe _=>aDA hT e (by kernel_rfl) (by kernel_rfl)) λx13=>?_;refine DD.e hT hmo 3 ?_;refine At.D 0 [] ?_;refine DD.Y 9 [1,3,4] aBz λr14=>?_;refine DD.e hT hmo 6 ?_;refine At.D 0 [] ?_;refine DD.o 6 (λ_=>bH hT (x:=(.sl 9 1 [(aG.enc r14.2.2.1)]))) ?_;refine bi λz15 hz15=>?_;refine DD.w 0 (eO 5 9 aG.enc z15) ⟨[(5,.tail (z15.length*9))],[]⟩ (λ_ e=>kB hT aG.enc (id:=5) (k:=9) hz15 (pj1 e) (pj2 e)) ?_;refine DD.e hT hmo 3 ?_;refine lx ?_;intro x16;refine At.c 19 ?_ ?_
    ·refine At.D 0 [] ?_;refine DD.y 8 aE7 λr17=>?_;refine DD.e hT hmo 6 ?_;refine At.D 0 [] ?_;refine DD.y 10 aHK λr18=>?_;refine DD.e hT hmo 6 ?_;exact λh=>At.vw 4 (_,_,_,_,_,_) (aPO 0 9 [6] (aVI 9 5 (by kernel_rfl) jr)) h
    ·exact λh=>At.v 0 (_,_,_,_,_,_) h
   ·apply rt;exact At.x 0
 ·apply rt;exact At.r 2
def jG(N:Nat)(b2:(List aG))(b4:(List (List aC)))(a2:aE)(a3:aF)(a4:Int)(a5:(List aK))(a6:Int)(a7:aI)(a8:aE)(a9:aF)(a10:aA)(a11:aH)(a12:aL):Option (Sum (Unit) (Sum ((List (List aC))×(List aG)×aE×aA×aH×aL×aE×(List aK)×Int×aI) ((List (List aC))×(List aG)×aE×aA×aH×aM×aE×(List aK)×Int×aI))):=
 aa (dN N b2 b4 a2 a3 a4 a5 a6 a7 a8 a9 a10 a11 a12) λr1=>
 aa (fM N a2 a3 a4) λq=>
 jY q (λr3=>
  aa (tY N a6) λr6=>
  some (Sum.inl (()))) (λq=>
 jY q (λr4=>
  aa (cN N [] r4.1 a6 r4.2.2.2.2.1 a3 a4 r4.2.2.2.2.2.1 0 r4.2.2.2.2.2.2.1 r4.2.1 a3 r4.2.2.1 ((aH.mk 0 0 0)) r4.2.2.2.1) λr7=>
  some (Sum.inr (Sum.inl ((r4.1,r7.1,r4.2.1,r4.2.2.1,r7.2.2.2.1,r7.2.2.2.2.1,r4.2.2.2.2.1,r4.2.2.2.2.2.1,r7.2.1,r7.2.2.1))))) (λr5=>
  aa (bZ N [] r5.1 a6 r5.2.2.2.2.1 a3 a4 r5.2.2.2.2.2.1 0 r5.2.2.2.2.2.2.1 r5.2.1 a3 r5.2.2.1 ((aH.mk 0 0 0)) r5.2.2.2.1) λr8=>
  some (Sum.inr (Sum.inr ((r5.1,r8.1,r5.2.1,r5.2.2.1,r8.2.2.2.1,r8.2.2.2.2.1,r5.2.2.2.2.1,r5.2.2.2.2.2.1,r8.2.1,r8.2.2.1))))))
theorem wL{N b2 b4 a2 a3 a4 a5 a6 a7 a8 a9 a10 a11 a12 r}(h:jG N b2 b4 a2 a3 a4 a5 a6 a7 a8 a9 a10 a11 a12=some r):FnM Tryz.prog 10 [.var (.st 43 [(.ref 1 [] 0),(aE.enc a2),(aF.enc a3),(j64 a4),(eL 6 aK.enc a5),(j64 a6),(eO 2 9 aG.enc b2),(aI.enc a7)]),.var (.st 38 [(aE.enc a8),(aF.enc a9),(.ifc 112 (.ref 3 [] 0)),(eO 4 1 (eL 2 aC.enc) b4),(aA.enc a10),(aH.enc a11)]),.tail (b2.length*9),.var (aL.enc a12),.tail (b4.length*1)] [(.ref 0 [] 0)] (aAz r (λr=>(.v (.pointer none))) (λr=>aAz r (λr=>(.ref 12 [] 0)) (λr=>(.ref 12 [] 0)))) (aAz r (λr=>[.var (.st 43 [(.ref 1 [] 0),(aE.enc a2),(aF.enc a3),(j64 a4),(eL 6 aK.enc a5),(j64 a6),(eO 2 9 aG.enc b2),(aI.enc a7)]),.var (.st 38 [(aE.enc a8),(aF.enc a9),(.ifc 112 (.ref 3 [] 0)),(eO 4 1 (eL 2 aC.enc) b4),(aA.enc a10),(aH.enc a11)]),.tail (b2.length*9),.var (aL.enc a12),.tail (b4.length*1)]) (λr=>aAz r (λr=>[.var (.st 43 [(.ref 1 [] 0),(aE.enc a2),(aF.enc a3),(j64 a4),(eL 6 aK.enc a5),(j64 a6),(eO 2 9 aG.enc b2),(aI.enc a7)]),.var (.st 38 [(aE.enc a8),(aF.enc a9),(.ifc 112 (.ref 3 [] 0)),(eO 4 1 (eL 2 aC.enc) b4),(aA.enc a10),(aH.enc a11)]),.tail (b2.length*9),.var (aL.enc a12),.tail (b4.length*1),.var (.st 38 [(aE.enc r.2.2.1),(aF.enc a3),(.ifc 112 (.ref 11 [] 0)),(eO 9 1 (eL 2 aC.enc) r.1),(aA.enc r.2.2.2.1),(aH.enc r.2.2.2.2.1)]),.dead,.dead,.dead,.tail (r.1.length*1),.dead,.var (aL.enc r.2.2.2.2.2.1),.var (.st 43 [(.ref 5 [] 0),(aE.enc r.2.2.2.2.2.2.1),(aF.enc a3),(j64 a4),(eL 6 aK.enc r.2.2.2.2.2.2.2.1),(j64 r.2.2.2.2.2.2.2.2.1),(eO 15 9 aG.enc r.2.1),(aI.enc r.2.2.2.2.2.2.2.2.2)]),.dead,.dead,.tail (r.2.1.length*9)]) (λr=>[.var (.st 43 [(.ref 1 [] 0),(aE.enc a2),(aF.enc a3),(j64 a4),(eL 6 aK.enc a5),(j64 a6),(eO 2 9 aG.enc b2),(aI.enc a7)]),.var (.st 38 [(aE.enc a8),(aF.enc a9),(.ifc 112 (.ref 3 [] 0)),(eO 4 1 (eL 2 aC.enc) b4),(aA.enc a10),(aH.enc a11)]),.tail (b2.length*9),.var (aL.enc a12),.tail (b4.length*1),.var (.st 38 [(aE.enc r.2.2.1),(aF.enc a3),(.ifc 115 (.ref 11 [] 0)),(eO 9 1 (eL 2 aC.enc) r.1),(aA.enc r.2.2.2.1),(aH.enc r.2.2.2.2.1)]),.dead,.dead,.dead,.tail (r.1.length*1),.dead,.var (aM.enc r.2.2.2.2.2.1),.var (.st 43 [(.ref 5 [] 0),(aE.enc r.2.2.2.2.2.2.1),(aF.enc a3),(j64 a4),(eL 6 aK.enc r.2.2.2.2.2.2.2.1),(j64 r.2.2.2.2.2.2.2.2.1),(eO 15 9 aG.enc r.2.1),(aI.enc r.2.2.2.2.2.2.2.2.2)]),.dead,.dead,.tail (r.2.1.length*9)]))):=by
 unfold jG at h;refine At.f bO hT hmo Tryz.func10 rfl h ?_;refine At.Y 2 [0,1,2,3,4] oN λr1=>?_;refine At.D 1 [] ?_;refine aNo (λr3 hr3=>?_) (λq hq=>?_)
 ·refine DD.o (y:=(.tup [(.v (.pointer none)),(j64 r3)])) 12 (λ_=>aMJ (aBe hr3)) ?_;refine DD.e hT hmo 5 ?_;refine At.y 5 aBh λr6=>?_;apply rt;exact At.r 2
 ·refine aNu (λr4 e=>?_) (λr5 e=>?_)
  ·subst e;have hr4:=hq;refine DD.Zo 12 [] 5 (aBv hr4) ?_;refine DD.e hT hmo 5 ?_;refine At.Y 5 [12,5,14,11,9] hP λr7=>?_;apply rt;exact At.r 2
  ·subst e;have hr5:=hq;refine DD.Zo 12 [] 5 (aBk hr5) ?_;refine DD.e hT hmo 5 ?_;refine At.Y 5 [12,5,14,11,9] fE λr8=>?_;apply rt;exact At.r 2
theorem aDp{N b2 b4 a2 a3 a4 a5 a6 a7 a8 a9 a10 a11 a12 r}(h:jG N b2 b4 a2 a3 a4 a5 a6 a7 a8 a9 a10 a11 a12=some (Sum.inl r)):FnM Tryz.prog 10 [.var (.st 43 [(.ref 1 [] 0),(aE.enc a2),(aF.enc a3),(j64 a4),(eL 6 aK.enc a5),(j64 a6),(eO 2 9 aG.enc b2),(aI.enc a7)]),.var (.st 38 [(aE.enc a8),(aF.enc a9),(.ifc 112 (.ref 3 [] 0)),(eO 4 1 (eL 2 aC.enc) b4),(aA.enc a10),(aH.enc a11)]),.tail (b2.length*9),.var (aL.enc a12),.tail (b4.length*1)] [(.ref 0 [] 0)] (.v (.pointer none)) [.var (.st 43 [(.ref 1 [] 0),(aE.enc a2),(aF.enc a3),(j64 a4),(eL 6 aK.enc a5),(j64 a6),(eO 2 9 aG.enc b2),(aI.enc a7)]),.var (.st 38 [(aE.enc a8),(aF.enc a9),(.ifc 112 (.ref 3 [] 0)),(eO 4 1 (eL 2 aC.enc) b4),(aA.enc a10),(aH.enc a11)]),.tail (b2.length*9),.var (aL.enc a12),.tail (b4.length*1)]:=wL h
theorem aDj{N b2 b4 a2 a3 a4 a5 a6 a7 a8 a9 a10 a11 a12 r}(h:jG N b2 b4 a2 a3 a4 a5 a6 a7 a8 a9 a10 a11 a12=some (Sum.inr (Sum.inl r))):FnM Tryz.prog 10 [.var (.st 43 [(.ref 1 [] 0),(aE.enc a2),(aF.enc a3),(j64 a4),(eL 6 aK.enc a5),(j64 a6),(eO 2 9 aG.enc b2),(aI.enc a7)]),.var (.st 38 [(aE.enc a8),(aF.enc a9),(.ifc 112 (.ref 3 [] 0)),(eO 4 1 (eL 2 aC.enc) b4),(aA.enc a10),(aH.enc a11)]),.tail (b2.length*9),.var (aL.enc a12),.tail (b4.length*1)] [(.ref 0 [] 0)] (.ref 12 [] 0) [.var (.st 43 [(.ref 1 [] 0),(aE.enc a2),(aF.enc a3),(j64 a4),(eL 6 aK.enc a5),(j64 a6),(eO 2 9 aG.enc b2),(aI.enc a7)]),.var (.st 38 [(aE.enc a8),(aF.enc a9),(.ifc 112 (.ref 3 [] 0)),(eO 4 1 (eL 2 aC.enc) b4),(aA.enc a10),(aH.enc a11)]),.tail (b2.length*9),.var (aL.enc a12),.tail (b4.length*1),.var (.st 38 [(aE.enc r.2.2.1),(aF.enc a3),(.ifc 112 (.ref 11 [] 0)),(eO 9 1 (eL 2 aC.enc) r.1),(aA.enc r.2.2.2.1),(aH.enc r.2.2.2.2.1)]),.dead,.dead,.dead,.tail (r.1.length*1),.dead,.var (aL.enc r.2.2.2.2.2.1),.var (.st 43 [(.ref 5 [] 0),(aE.enc r.2.2.2.2.2.2.1),(aF.enc a3),(j64 a4),(eL 6 aK.enc r.2.2.2.2.2.2.2.1),(j64 r.2.2.2.2.2.2.2.2.1),(eO 15 9 aG.enc r.2.1),(aI.enc r.2.2.2.2.2.2.2.2.2)]),.dead,.dead,.tail (r.2.1.length*9)]:=wL h
theorem aDi{N b2 b4 a2 a3 a4 a5 a6 a7 a8 a9 a10 a11 a12 r}(h:jG N b2 b4 a2 a3 a4 a5 a6 a7 a8 a9 a10 a11 a12=some (Sum.inr (Sum.inr r))):FnM Tryz.prog 10 [.var (.st 43 [(.ref 1 [] 0),(aE.enc a2),(aF.enc a3),(j64 a4),(eL 6 aK.enc a5),(j64 a6),(eO 2 9 aG.enc b2),(aI.enc a7)]),.var (.st 38 [(aE.enc a8),(aF.enc a9),(.ifc 112 (.ref 3 [] 0)),(eO 4 1 (eL 2 aC.enc) b4),(aA.enc a10),(aH.enc a11)]),.tail (b2.length*9),.var (aL.enc a12),.tail (b4.length*1)] [(.ref 0 [] 0)] (.ref 12 [] 0) [.var (.st 43 [(.ref 1 [] 0),(aE.enc a2),(aF.enc a3),(j64 a4),(eL 6 aK.enc a5),(j64 a6),(eO 2 9 aG.enc b2),(aI.enc a7)]),.var (.st 38 [(aE.enc a8),(aF.enc a9),(.ifc 112 (.ref 3 [] 0)),(eO 4 1 (eL 2 aC.enc) b4),(aA.enc a10),(aH.enc a11)]),.tail (b2.length*9),.var (aL.enc a12),.tail (b4.length*1),.var (.st 38 [(aE.enc r.2.2.1),(aF.enc a3),(.ifc 115 (.ref 11 [] 0)),(eO 9 1 (eL 2 aC.enc) r.1),(aA.enc r.2.2.2.1),(aH.enc r.2.2.2.2.1)]),.dead,.dead,.dead,.tail (r.1.length*1),.dead,.var (aM.enc r.2.2.2.2.2.1),.var (.st 43 [(.ref 5 [] 0),(aE.enc r.2.2.2.2.2.2.1),(aF.enc a3),(j64 a4),(eL 6 aK.enc r.2.2.2.2.2.2.2.1),(j64 r.2.2.2.2.2.2.2.2.1),(eO 15 9 aG.enc r.2.1),(aI.enc r.2.2.2.2.2.2.2.2.2)]),.dead,.dead,.tail (r.2.1.length*9)]:=wL h
def aKS : Nat->Bool:=imL [1]
def tL(N:Nat)(a0:aI):Option (aI):=
 aa (cK N a0.gC1) λr1=>
 aa (bR N a0.gA0) λr2=>
 aa (bR N a0.gG) λr3=>
 aa (cK N a0.gB6) λr4=>
 aa (bR N a0.gB8) λr5=>
 aa (bR N a0.gR) λr6=>
 some (aI.mk a0.gW a0.gH r1 r2 r3 r4 r5 r6)
theorem aJa{N a0 r}(h:tL N a0=some r):FnM Tryz.prog 63 [] [(aI.enc a0)] (aI.enc r) []:=by
 unfold tL at h;refine At.f aKS hT hmo Tryz.func63 rfl h ?_;refine At.D 2 [] ?_;refine DD.Z 6 [] 1 jK λr1=>?_;refine DD.Z 2 [] 2 dF λr2=>?_;refine DD.Z 2 [] 3 dF λr3=>?_;refine DD.Z 2 [] 4 jK λr4=>?_;refine DD.Z 2 [] 5 dF λr5=>?_;refine DD.Z 2 [] 6 dF λr6=>?_;refine DD.e hT hmo 2 ?_;refine At.fz 0 1 3 r1.length _ (aj (eA 3 1 j64) r1) (ak _) (ak _) ?_;refine At.fz 0 2 1 r2.length _ (aj j64 r2) (ak _) (ak _) ?_;refine At.fz 0 3 1 r3.length _ (aj j64 r3) (ak _) (ak _) ?_;refine At.fz 0 4 3 r4.length _ (aj (eA 3 1 j64) r4) (ak _) (ak _) ?_;refine At.fz 0 5 1 r5.length _ (aj j64 r5) (ak _) (ak _) ?_;refine At.fz 0 6 1 r6.length _ (aj j64 r6) (ak _) (ak _) ?_;apply rt;exact At.r 0
def aBu(N:Nat)(rcu:Nat->(List aI)->Option (aI×Int))(a0:(List aI)):Option (aI×Int):=
 aQ (((a0.length:Int))==0) λx1=>
 cond x1 (
  some ((aI.mk 0 0 [] [] [] [] [] [],2))) (
  aQ (((a0.length:Int))==1) λx2=>
  cond x2 (
   aa (idx a0 0) λe3=>
   aa (oW N ([e3])) λr4=>
   cond (r4 != 0) (
    some ((aI.mk 0 0 [] [] [] [] [] [],r4))) (
    aa (idx a0 0) λe5=>
    aa (tL N e5) λr6=>
    some ((r6,0)))) (
   aa (yN a0 1 ((a0.length:Int))) λs7=>
   aa (rcu N s7) λr8=>
   cond (r8.2 != 0) (
    some ((aI.mk 0 0 [] [] [] [] [] [],r8.2))) (
    aa (idx a0 0) λe9=>
    none)))
def vB(N:Nat):Nat->(List aI)->Option (aI×Int)
 | 0,_=>none
 | k+1,a0=>aBu N (λ_=>vB N k) a0
def zP(N:Nat)(a0:(List aI)):Option (aI×Int):=vB N N a0
theorem aH2{N:Nat}:∀(k:Nat) {a0 r},vB N k a0=some r->FnM Tryz.prog 65 [] [(eL 8 aI.enc a0)] (.tup [(aI.enc r.1),(j64 r.2)]) []:=by
 intro k
 induction k with
 | zero=>intro a0 r h;cases h
 | succ k ihr=>
  intro a0 r h;rw[vB] at h;unfold aBu at h;refine At.f bO hT hmo Tryz.func65 rfl h ?_;refine lx ?_;intro x1;refine At.c 6 ?_ ?_
  ·apply rt;exact At.r 3
  ·refine lx ?_;intro x2;refine At.c 2 ?_ ?_
   ·refine At.i hT 1 aI.enc λe3=>?_;refine At.o 1 (bH hT (x:=(.sl 8 1 [(aI.enc e3)]))) ?_;refine At.y 0 aEx λr4=>?_;refine At.c 3 ?_ ?_
    ·apply rt;exact At.r 4
    ·refine At.i hT 1 aI.enc λe5=>?_;refine At.y 1 aJa λr6=>?_;apply rt;exact At.r 2
   ·refine At.b 1 (λ_ e=>aA7 hT (k:=8) aI.enc e) λs7=>?_;refine At.y 0 ihr λr8=>?_;refine At.c 8 ?_ ?_
    ·apply rt;exact At.r 4
    ·refine At.D 0 [] ?_;refine DD.i hT 1 aI.enc λe9=>?_;exact nn
theorem aE1{N a0 r}(h:zP N a0=some r):FnM Tryz.prog 65 [] [(eL 8 aI.enc a0)] (.tup [(aI.enc r.1),(j64 r.2)]) []:=aH2 N h
def pQ(N:Nat)(b2:(List aG))(b4:(List (List aC)))(a2:aE)(a3:aF)(a4:Int)(a5:(List aK))(a6:Int)(a7:aI)(a8:aE)(a9:aF)(a10:aA)(a11:aH)(a12:aL):Option (aI×Int):=
 aa (dN N b2 b4 a2 a3 a4 a5 a6 a7 a8 a9 a10 a11 a12) λr1=>
 aa (zP N ([a7])) λr2=>
 some ((r2.1,r2.2))
theorem aDX{N b2 b4 a2 a3 a4 a5 a6 a7 a8 a9 a10 a11 a12 r}(h:pQ N b2 b4 a2 a3 a4 a5 a6 a7 a8 a9 a10 a11 a12=some r):FnM Tryz.prog 26 [.var (.st 43 [(.ref 1 [] 0),(aE.enc a2),(aF.enc a3),(j64 a4),(eL 6 aK.enc a5),(j64 a6),(eO 2 9 aG.enc b2),(aI.enc a7)]),.var (.st 38 [(aE.enc a8),(aF.enc a9),(.ifc 112 (.ref 3 [] 0)),(eO 4 1 (eL 2 aC.enc) b4),(aA.enc a10),(aH.enc a11)]),.tail (b2.length*9),.var (aL.enc a12),.tail (b4.length*1)] [(.ref 0 [] 0)] (.tup [(aI.enc r.1),(j64 r.2)]) [.var (.st 43 [(.ref 1 [] 0),(aE.enc a2),(aF.enc a3),(j64 a4),(eL 6 aK.enc a5),(j64 a6),(eO 2 9 aG.enc b2),(aI.enc a7)]),.var (.st 38 [(aE.enc a8),(aF.enc a9),(.ifc 112 (.ref 3 [] 0)),(eO 4 1 (eL 2 aC.enc) b4),(aA.enc a10),(aH.enc a11)]),.tail (b2.length*9),.var (aL.enc a12),.tail (b4.length*1)]:=by
 unfold pQ at h;refine At.f bO hT hmo Tryz.func26 rfl h ?_;refine At.Y 3 [0,1,2,3,4] oN λr1=>?_;refine At.o 5 (bH hT (x:=(.sl 8 1 [(aI.enc a7)]))) ?_;refine At.y 0 aE1 λr2=>?_;apply rt;exact At.r 4
def tT(N:Nat)(a0:aL):Option (Int):=
 aa (jH N a0) λr1=>
 cond r1 (some 0) (some a0.gD8.gn)
theorem aDQ{N a0 r}(h:tT N a0=some r):FnM Tryz.prog 232 [.var (aL.enc a0)] [(.ref 0 [] 0)] (j64 r) [.var (aL.enc a0)]:=by
 unfold tT at h;refine At.f bO hT hmo Tryz.func232 rfl h ?_;refine At.Y 2 [0] tV λr1=>?_;refine At.c 0 ?_ ?_
 ·apply rt;exact At.r 1
 ·apply rt;exact At.r 6
def rC(N:Nat)(b2:(List (List aC)))(a1:aE)(a2:aF)(a3:aA)(a4:aH)(a5:aL):Option (aH):=
 aa (tT N a5) λr1=>
 some (aH.mk r1 a4.gN a4.gI)
theorem aB2{N b2 a1 a2 a3 a4 a5 r}(h:rC N b2 a1 a2 a3 a4 a5=some r):FnM Tryz.prog 27 [.var (.st 38 [(aE.enc a1),(aF.enc a2),(.ifc 112 (.ref 1 [] 0)),(eO 2 1 (eL 2 aC.enc) b2),(aA.enc a3),(aH.enc a4)]),.var (aL.enc a5),.tail (b2.length*1)] [(.ref 0 [] 0)] (aH.enc r) [.var (.st 38 [(aE.enc a1),(aF.enc a2),(.ifc 112 (.ref 1 [] 0)),(eO 2 1 (eL 2 aC.enc) b2),(aA.enc a3),(aH.enc a4)]),.var (aL.enc a5),.tail (b2.length*1)]:=by
 unfold rC at h;refine At.f bO hT hmo Tryz.func27 rfl h ?_;refine At.o 2 (nI hT (t:=64) (x:=(.ref 0 [] 0)) (b:=true) (by kernel_rfl) rfl rfl (by kernel_rfl)) ?_;refine At.g [6] 5 ?_;refine At.o 0 (aIa (t:=104) (u:=112) (x:=(.ref 1 [] 0)) (by kernel_rfl) rfl rfl .eql false (by decide) (by kernel_rfl)) ?_;refine At.g [6] 12 ?_;refine At.Y 0 [1] aDQ λr1=>?_;apply rt;exact At.r 4
def iO(N:Nat)(b2:(List aG))(b4:(List (List aC)))(a2:aE)(a3:aF)(a4:Int)(a5:(List aK))(a6:Int)(a7:aI)(a8:aE)(a9:aF)(a10:aA)(a11:aH)(a12:aL):Option (aI×aH×Int):=
 aa (dN N b2 b4 a2 a3 a4 a5 a6 a7 a8 a9 a10 a11 a12) λr1=>
 aa (bT N b2 b4 a2 a3 a4 a5 a6 a7 a8 a9 a10 a11 a12) λr2=>
 cond (decide (r2 > 0)) (
  some ((aI.mk 0 0 [] [] [] [] [] [],aH.mk 0 0 0,16))) (
  aa (pQ N b2 b4 a2 a3 a4 a5 a6 a7 a8 a9 a10 a11 a12) λr3=>
  aa (rC N b4 a8 a9 a10 a11 a12) λr4=>
  some ((r3.1,r4,0)))
theorem qL{N b2 b4 a2 a3 a4 a5 a6 a7 a8 a9 a10 a11 a12 r}(h:iO N b2 b4 a2 a3 a4 a5 a6 a7 a8 a9 a10 a11 a12=some r):FnM Tryz.prog 12 [.var (.st 43 [(.ref 1 [] 0),(aE.enc a2),(aF.enc a3),(j64 a4),(eL 6 aK.enc a5),(j64 a6),(eO 2 9 aG.enc b2),(aI.enc a7)]),.var (.st 38 [(aE.enc a8),(aF.enc a9),(.ifc 112 (.ref 3 [] 0)),(eO 4 1 (eL 2 aC.enc) b4),(aA.enc a10),(aH.enc a11)]),.tail (b2.length*9),.var (aL.enc a12),.tail (b4.length*1)] [(.ref 0 [] 0)] (.tup [(aI.enc r.1),(aH.enc r.2.1),(j64 r.2.2)]) [.var (.st 43 [(.ref 1 [] 0),(aE.enc a2),(aF.enc a3),(j64 a4),(eL 6 aK.enc a5),(j64 a6),(eO 2 9 aG.enc b2),(aI.enc a7)]),.var (.st 38 [(aE.enc a8),(aF.enc a9),(.ifc 112 (.ref 3 [] 0)),(eO 4 1 (eL 2 aC.enc) b4),(aA.enc a10),(aH.enc a11)]),.tail (b2.length*9),.var (aL.enc a12),.tail (b4.length*1)]:=by
 unfold iO at h;refine At.f bO hT hmo Tryz.func12 rfl h ?_;refine At.Y 4 [0,1,2,3,4] oN λr1=>?_;refine At.Y 3 [0,1,2,3,4] dA λr2=>?_;refine At.c 2 ?_ ?_
 ·apply rt;exact At.r 5
 ·refine At.Y 1 [0,1,2,3,4] aDX λr3=>?_;refine At.D 6 [] ?_;refine DD.Y 5 [1,3,4] aB2 λr4=>?_;refine DD.e hT hmo 3 ?_;apply rt;exact At.r 0
def iP(N:Nat)(a0 a1:(List (Vector Int 3))):Nat->Int->Option (Sum (Unit) (Bool))
 | 0,_=>none
 | k+1,s3=>
  aQ (decide (s3 < ((a0.length:Int)))) λx4=>
  cond x4 (
   aa (idx a0 s3) λe5=>
   aa (idx a1 s3) λe6=>
   cond (!((eqV (λa b=>a==b)) e5 e6)) (
    some (Sum.inr false)) (
    iP N a0 a1 k (I64 (s3+1)))) (
   some (Sum.inl (())))
def nA(N:Nat)(a0 a1:(List (Vector Int 3))):Option (Bool):=
 aQ (((a0.length:Int)) != ((a1.length:Int))) λx1=>
 cond x1 (
  some false) (
  aa (iP N a0 a1 N 0) λo=>jY o (λp2=>
   some true) (λr=>some r))
theorem aAv{N a0 a1 r}(h:nA N a0 a1=some r):FnM Tryz.prog 28 [] [(eL 3 (eA 3 1 j64) a0),(eL 3 (eA 3 1 j64) a1)] (eB r) []:=by
 unfold nA at h;refine At.f bO hT hmo Tryz.func28 rfl h ?_;refine lx ?_;intro x1;refine At.c 6 ?_ ?_
 ·apply rt;exact At.r 1
 ·refine At.MS 3 [] 0 (λp2=>([],[],[])) [0,1,12] 0 (iP N a0 a1) (λ(s3:Int)=>([(13,(j64 s3))],[],[])) _ N (λop2 g2 k s3=>?_) λp2=>?_
  ·refine lx ?_;intro x4;refine At.c 1 ?_ ?_
   ·refine At.D 2 [] ?_;refine DD.i hT 2 (eA 3 1 j64) λe5=>?_;refine DD.i hT 3 (eA 3 1 j64) λe6=>?_;refine DD.o 1 (λ_=>aA9 aVT (e5:(Vector Int 3)) (e6:(Vector Int 3)) (by kernel_rfl) (by kernel_rfl) (λ_=>rfl) (λ_=>rfl) (by kernel_rfl) (by kernel_rfl)) ?_;refine DD.e hT hmo 0 ?_;refine At.c 0 ?_ ?_
    ·intro e;apply aBq g2 e;exact At.r 1
    ·exact λh=>At.v 2 _ h
   ·apply rt;exact At.xs 0
  ·apply rt;exact At.r 1
def jW(N:Nat)(a0 a1:(List Int)):Nat->Int->Option (Sum (Unit) (Bool))
 | 0,_=>none
 | k+1,s3=>
  aQ (decide (s3 < ((a0.length:Int)))) λx4=>
  cond x4 (
   aa (idx a0 s3) λe5=>
   aa (idx a1 s3) λe6=>
   cond (e5 != e6) (
    some (Sum.inr false)) (
    jW N a0 a1 k (I64 (s3+1)))) (
   some (Sum.inl (())))
def lI(N:Nat)(a0 a1:(List Int)):Option (Bool):=
 aQ (((a0.length:Int)) != ((a1.length:Int))) λx1=>
 cond x1 (
  some false) (
  aa (jW N a0 a1 N 0) λo=>jY o (λp2=>
   some true) (λr=>some r))
theorem uA{N a0 a1 r}(h:lI N a0 a1=some r):FnM Tryz.prog 29 [] [(eL 1 j64 a0),(eL 1 j64 a1)] (eB r) []:=by
 unfold lI at h;refine At.f bO hT hmo Tryz.func29 rfl h ?_;refine lx ?_;intro x1;refine At.c 6 ?_ ?_
 ·apply rt;exact At.r 1
 ·refine At.MS 3 [] 0 (λp2=>([],[],[])) [0,1,12] 0 (jW N a0 a1) (λ(s3:Int)=>([(13,(j64 s3))],[],[])) _ N (λop2 g2 k s3=>?_) λp2=>?_
  ·refine lx ?_;intro x4;refine At.c 1 ?_ ?_
   ·refine At.D 2 [] ?_;refine DD.i hT 2 j64 λe5=>?_;refine DD.i hT 3 j64 λe6=>?_;refine DD.e hT hmo 2 ?_;refine At.c 0 ?_ ?_
    ·intro e;apply aBq g2 e;exact At.r 1
    ·exact λh=>At.v 2 _ h
   ·apply rt;exact At.xs 0
  ·apply rt;exact At.r 1
def aND : Nat->Bool:=imL [2,3]
def sL(N:Nat)(a0 a1:aI):Option (Bool):=
 aa (aQ (cond (a0.gW==a1.gW) (a0.gH==a1.gH) false) λx2=>
 cond x2 (
  aa (nA N a0.gC1 a1.gC1) λr3=>
  cond r3 (
   aa (lI N a0.gA0 a1.gA0) λr4=>
   cond r4 (
    aa (lI N a0.gG a1.gG) λr5=>
    cond r5 (
     aa (nA N a0.gB6 a1.gB6) λr6=>
     cond r6 (
      aa (lI N a0.gB8 a1.gB8) λr7=>
      cond r7 (
       aa (lI N a0.gR a1.gR) λr8=>
       some r8) (
       some false)) (
      some false)) (
     some false)) (
    some false)) (
   some false)) (
  some false)) λp1=>
 some p1
theorem aA4{N a0 a1 r}(h:sL N a0 a1=some r):FnM Tryz.prog 13 [] [(aI.enc a0),(aI.enc a1)] (eB r) []:=by
 unfold sL at h;refine At.f aND hT hmo Tryz.func13 rfl h ?_;refine At.J 3 0 [] 0 (λp1=>([(4,(eB p1))],[],[])) (λp1=>?_) λp1=>?_
 ·refine lx ?_;intro x2;refine At.s 17 13 ?_ ?_
  ·refine At.g [17] 4 ?_;refine At.y 0 aAv λr3=>?_;refine At.g [17] 2 ?_;refine At.s 24 0 ?_ ?_
   ·refine At.g [24] 4 ?_;refine At.y 0 uA λr4=>?_;refine At.g [24] 2 ?_;refine At.s 31 0 ?_ ?_
    ·refine At.g [31] 4 ?_;refine At.y 0 uA λr5=>?_;refine At.g [31] 2 ?_;refine At.s 38 0 ?_ ?_
     ·refine At.g [38] 4 ?_;refine At.y 0 aAv λr6=>?_;refine At.g [38] 2 ?_;refine At.s 45 0 ?_ ?_
      ·refine At.g [45] 4 ?_;refine At.y 0 uA λr7=>?_;refine At.g [45] 2 ?_;refine At.s 52 0 ?_ ?_
       ·refine At.g [52] 4 ?_;refine At.y 0 uA λr8=>?_;refine At.g [52] 2 ?_;apply rt;exact At.jn 0
       ·refine At.g [52] 7 ?_;apply rt;exact At.jn 0
      ·refine At.g [45,52] 14 ?_;apply rt;exact At.jn 0
     ·refine At.g [38,45,52] 21 ?_;apply rt;exact At.jn 0
    ·refine At.g [31,38,45,52] 28 ?_;apply rt;exact At.jn 0
   ·refine At.g [24,31,38,45,52] 35 ?_;apply rt;exact At.jn 0
  ·refine At.g [17,24,31,38,45,52] 42 ?_;apply rt;exact At.jn 0
 ·apply rt;exact At.r 0
def nV(N:Nat)(b2:(List aG))(b4:(List (List aC)))(a2:aE)(a3:aF)(a4:Int)(a5:(List aK))(a6:Int)(a7:aI)(a8:aE)(a9:aF)(a10:aA)(a11:aH)(a12:aM):Option (aI×Int):=
 aa (cR N b2 b4 a2 a3 a4 a5 a6 a7 a8 a9 a10 a11 a12) λr1=>
 aa (zP N ([a7])) λr2=>
 some ((r2.1,r2.2))
theorem aCT{N b2 b4 a2 a3 a4 a5 a6 a7 a8 a9 a10 a11 a12 r}(h:nV N b2 b4 a2 a3 a4 a5 a6 a7 a8 a9 a10 a11 a12=some r):FnM Tryz.prog 26 [.var (.st 43 [(.ref 1 [] 0),(aE.enc a2),(aF.enc a3),(j64 a4),(eL 6 aK.enc a5),(j64 a6),(eO 2 9 aG.enc b2),(aI.enc a7)]),.var (.st 38 [(aE.enc a8),(aF.enc a9),(.ifc 115 (.ref 3 [] 0)),(eO 4 1 (eL 2 aC.enc) b4),(aA.enc a10),(aH.enc a11)]),.tail (b2.length*9),.var (aM.enc a12),.tail (b4.length*1)] [(.ref 0 [] 0)] (.tup [(aI.enc r.1),(j64 r.2)]) [.var (.st 43 [(.ref 1 [] 0),(aE.enc a2),(aF.enc a3),(j64 a4),(eL 6 aK.enc a5),(j64 a6),(eO 2 9 aG.enc b2),(aI.enc a7)]),.var (.st 38 [(aE.enc a8),(aF.enc a9),(.ifc 115 (.ref 3 [] 0)),(eO 4 1 (eL 2 aC.enc) b4),(aA.enc a10),(aH.enc a11)]),.tail (b2.length*9),.var (aM.enc a12),.tail (b4.length*1)]:=by
 unfold nV at h;refine At.f bO hT hmo Tryz.func26 rfl h ?_;refine At.Y 3 [0,1,2,3,4] mP λr1=>?_;refine At.o 5 (bH hT (x:=(.sl 8 1 [(aI.enc a7)]))) ?_;refine At.y 0 aE1 λr2=>?_;apply rt;exact At.r 4
def wI(N:Nat)(a0:aM):Option (Int):=
 aa (kY N a0) λr1=>
 cond r1 (some 0) (some a0.gD3)
theorem aDr{N a0 r}(h:wI N a0=some r):FnM Tryz.prog 244 [.var (aM.enc a0)] [(.ref 0 [] 0)] (j64 r) [.var (aM.enc a0)]:=by
 unfold wI at h;refine At.f bO hT hmo Tryz.func244 rfl h ?_;refine At.Y 2 [0] wO λr1=>?_;refine At.c 0 ?_ ?_
 ·apply rt;exact At.r 1
 ·apply rt;exact At.r 5
def sS(N:Nat)(b2:(List (List aC)))(a1:aE)(a2:aF)(a3:aA)(a4:aH)(a5:aM):Option (aH):=
 aa (wI N a5) λr1=>
 some (aH.mk r1 a4.gN a4.gI)
theorem aCg{N b2 a1 a2 a3 a4 a5 r}(h:sS N b2 a1 a2 a3 a4 a5=some r):FnM Tryz.prog 27 [.var (.st 38 [(aE.enc a1),(aF.enc a2),(.ifc 115 (.ref 1 [] 0)),(eO 2 1 (eL 2 aC.enc) b2),(aA.enc a3),(aH.enc a4)]),.var (aM.enc a5),.tail (b2.length*1)] [(.ref 0 [] 0)] (aH.enc r) [.var (.st 38 [(aE.enc a1),(aF.enc a2),(.ifc 115 (.ref 1 [] 0)),(eO 2 1 (eL 2 aC.enc) b2),(aA.enc a3),(aH.enc a4)]),.var (aM.enc a5),.tail (b2.length*1)]:=by
 unfold sS at h;refine At.f bO hT hmo Tryz.func27 rfl h ?_;refine At.o 2 (nI hT (t:=64) (x:=(.ref 0 [] 0)) (b:=true) (by kernel_rfl) rfl rfl (by kernel_rfl)) ?_;refine At.g [6] 5 ?_;refine At.o 0 (aIa (t:=104) (u:=115) (x:=(.ref 1 [] 0)) (by kernel_rfl) rfl rfl .eql false (by decide) (by kernel_rfl)) ?_;refine At.g [6] 12 ?_;refine At.Y 0 [1] aDr λr1=>?_;apply rt;exact At.r 4
def fN(N:Nat)(b2:(List aG))(b4:(List (List aC)))(a2:aE)(a3:aF)(a4:Int)(a5:(List aK))(a6:Int)(a7:aI)(a8:aE)(a9:aF)(a10:aA)(a11:aH)(a12:aM):Option (aI×aH×Int):=
 aa (cR N b2 b4 a2 a3 a4 a5 a6 a7 a8 a9 a10 a11 a12) λr1=>
 aa (bK N b2 b4 a2 a3 a4 a5 a6 a7 a8 a9 a10 a11 a12) λr2=>
 cond (decide (r2 > 0)) (
  some ((aI.mk 0 0 [] [] [] [] [] [],aH.mk 0 0 0,16))) (
  aa (nV N b2 b4 a2 a3 a4 a5 a6 a7 a8 a9 a10 a11 a12) λr3=>
  aa (sS N b4 a8 a9 a10 a11 a12) λr4=>
  some ((r3.1,r4,0)))
theorem oU{N b2 b4 a2 a3 a4 a5 a6 a7 a8 a9 a10 a11 a12 r}(h:fN N b2 b4 a2 a3 a4 a5 a6 a7 a8 a9 a10 a11 a12=some r):FnM Tryz.prog 12 [.var (.st 43 [(.ref 1 [] 0),(aE.enc a2),(aF.enc a3),(j64 a4),(eL 6 aK.enc a5),(j64 a6),(eO 2 9 aG.enc b2),(aI.enc a7)]),.var (.st 38 [(aE.enc a8),(aF.enc a9),(.ifc 115 (.ref 3 [] 0)),(eO 4 1 (eL 2 aC.enc) b4),(aA.enc a10),(aH.enc a11)]),.tail (b2.length*9),.var (aM.enc a12),.tail (b4.length*1)] [(.ref 0 [] 0)] (.tup [(aI.enc r.1),(aH.enc r.2.1),(j64 r.2.2)]) [.var (.st 43 [(.ref 1 [] 0),(aE.enc a2),(aF.enc a3),(j64 a4),(eL 6 aK.enc a5),(j64 a6),(eO 2 9 aG.enc b2),(aI.enc a7)]),.var (.st 38 [(aE.enc a8),(aF.enc a9),(.ifc 115 (.ref 3 [] 0)),(eO 4 1 (eL 2 aC.enc) b4),(aA.enc a10),(aH.enc a11)]),.tail (b2.length*9),.var (aM.enc a12),.tail (b4.length*1)]:=by
 unfold fN at h;refine At.f bO hT hmo Tryz.func12 rfl h ?_;refine At.Y 4 [0,1,2,3,4] mP λr1=>?_;refine At.Y 3 [0,1,2,3,4] cI λr2=>?_;refine At.c 2 ?_ ?_
 ·apply rt;exact At.r 5
 ·refine At.Y 1 [0,1,2,3,4] aCT λr3=>?_;refine At.D 6 [] ?_;refine DD.Y 5 [1,3,4] aCg λr4=>?_;refine DD.e hT hmo 3 ?_;apply rt;exact At.r 0
def fY(N:Nat)(b2:(List aG))(b4:(List (List aC)))(a2:aE)(a3:aF)(a4:Int)(a5:(List aK))(a6:Int)(a7:aI)(a8:aE)(a9:aF)(a10:aA)(a11:aH)(a12:aM):Option (Sum (Unit) (Sum ((List (List aC))×(List aG)×aE×aA×aH×aL×aE×(List aK)×Int×aI) ((List (List aC))×(List aG)×aE×aA×aH×aM×aE×(List aK)×Int×aI))):=
 aa (cR N b2 b4 a2 a3 a4 a5 a6 a7 a8 a9 a10 a11 a12) λr1=>
 aa (fM N a2 a3 a4) λq=>
 jY q (λr3=>
  aa (tY N a6) λr6=>
  some (Sum.inl (()))) (λq=>
 jY q (λr4=>
  aa (cN N [] r4.1 a6 r4.2.2.2.2.1 a3 a4 r4.2.2.2.2.2.1 0 r4.2.2.2.2.2.2.1 r4.2.1 a3 r4.2.2.1 ((aH.mk 0 0 0)) r4.2.2.2.1) λr7=>
  some (Sum.inr (Sum.inl ((r4.1,r7.1,r4.2.1,r4.2.2.1,r7.2.2.2.1,r7.2.2.2.2.1,r4.2.2.2.2.1,r4.2.2.2.2.2.1,r7.2.1,r7.2.2.1))))) (λr5=>
  aa (bZ N [] r5.1 a6 r5.2.2.2.2.1 a3 a4 r5.2.2.2.2.2.1 0 r5.2.2.2.2.2.2.1 r5.2.1 a3 r5.2.2.1 ((aH.mk 0 0 0)) r5.2.2.2.1) λr8=>
  some (Sum.inr (Sum.inr ((r5.1,r8.1,r5.2.1,r5.2.2.1,r8.2.2.2.1,r8.2.2.2.2.1,r5.2.2.2.2.1,r5.2.2.2.2.2.1,r8.2.1,r8.2.2.1))))))
theorem tW{N b2 b4 a2 a3 a4 a5 a6 a7 a8 a9 a10 a11 a12 r}(h:fY N b2 b4 a2 a3 a4 a5 a6 a7 a8 a9 a10 a11 a12=some r):FnM Tryz.prog 10 [.var (.st 43 [(.ref 1 [] 0),(aE.enc a2),(aF.enc a3),(j64 a4),(eL 6 aK.enc a5),(j64 a6),(eO 2 9 aG.enc b2),(aI.enc a7)]),.var (.st 38 [(aE.enc a8),(aF.enc a9),(.ifc 115 (.ref 3 [] 0)),(eO 4 1 (eL 2 aC.enc) b4),(aA.enc a10),(aH.enc a11)]),.tail (b2.length*9),.var (aM.enc a12),.tail (b4.length*1)] [(.ref 0 [] 0)] (aAz r (λr=>(.v (.pointer none))) (λr=>aAz r (λr=>(.ref 12 [] 0)) (λr=>(.ref 12 [] 0)))) (aAz r (λr=>[.var (.st 43 [(.ref 1 [] 0),(aE.enc a2),(aF.enc a3),(j64 a4),(eL 6 aK.enc a5),(j64 a6),(eO 2 9 aG.enc b2),(aI.enc a7)]),.var (.st 38 [(aE.enc a8),(aF.enc a9),(.ifc 115 (.ref 3 [] 0)),(eO 4 1 (eL 2 aC.enc) b4),(aA.enc a10),(aH.enc a11)]),.tail (b2.length*9),.var (aM.enc a12),.tail (b4.length*1)]) (λr=>aAz r (λr=>[.var (.st 43 [(.ref 1 [] 0),(aE.enc a2),(aF.enc a3),(j64 a4),(eL 6 aK.enc a5),(j64 a6),(eO 2 9 aG.enc b2),(aI.enc a7)]),.var (.st 38 [(aE.enc a8),(aF.enc a9),(.ifc 115 (.ref 3 [] 0)),(eO 4 1 (eL 2 aC.enc) b4),(aA.enc a10),(aH.enc a11)]),.tail (b2.length*9),.var (aM.enc a12),.tail (b4.length*1),.var (.st 38 [(aE.enc r.2.2.1),(aF.enc a3),(.ifc 112 (.ref 11 [] 0)),(eO 9 1 (eL 2 aC.enc) r.1),(aA.enc r.2.2.2.1),(aH.enc r.2.2.2.2.1)]),.dead,.dead,.dead,.tail (r.1.length*1),.dead,.var (aL.enc r.2.2.2.2.2.1),.var (.st 43 [(.ref 5 [] 0),(aE.enc r.2.2.2.2.2.2.1),(aF.enc a3),(j64 a4),(eL 6 aK.enc r.2.2.2.2.2.2.2.1),(j64 r.2.2.2.2.2.2.2.2.1),(eO 15 9 aG.enc r.2.1),(aI.enc r.2.2.2.2.2.2.2.2.2)]),.dead,.dead,.tail (r.2.1.length*9)]) (λr=>[.var (.st 43 [(.ref 1 [] 0),(aE.enc a2),(aF.enc a3),(j64 a4),(eL 6 aK.enc a5),(j64 a6),(eO 2 9 aG.enc b2),(aI.enc a7)]),.var (.st 38 [(aE.enc a8),(aF.enc a9),(.ifc 115 (.ref 3 [] 0)),(eO 4 1 (eL 2 aC.enc) b4),(aA.enc a10),(aH.enc a11)]),.tail (b2.length*9),.var (aM.enc a12),.tail (b4.length*1),.var (.st 38 [(aE.enc r.2.2.1),(aF.enc a3),(.ifc 115 (.ref 11 [] 0)),(eO 9 1 (eL 2 aC.enc) r.1),(aA.enc r.2.2.2.1),(aH.enc r.2.2.2.2.1)]),.dead,.dead,.dead,.tail (r.1.length*1),.dead,.var (aM.enc r.2.2.2.2.2.1),.var (.st 43 [(.ref 5 [] 0),(aE.enc r.2.2.2.2.2.2.1),(aF.enc a3),(j64 a4),(eL 6 aK.enc r.2.2.2.2.2.2.2.1),(j64 r.2.2.2.2.2.2.2.2.1),(eO 15 9 aG.enc r.2.1),(aI.enc r.2.2.2.2.2.2.2.2.2)]),.dead,.dead,.tail (r.2.1.length*9)]))):=by
 unfold fY at h;refine At.f bO hT hmo Tryz.func10 rfl h ?_;refine At.Y 2 [0,1,2,3,4] mP λr1=>?_;refine At.D 1 [] ?_;refine aNo (λr3 hr3=>?_) (λq hq=>?_)
 ·refine DD.o (y:=(.tup [(.v (.pointer none)),(j64 r3)])) 12 (λ_=>aMJ (aBe hr3)) ?_;refine DD.e hT hmo 5 ?_;refine At.y 5 aBh λr6=>?_;apply rt;exact At.r 2
 ·refine aNu (λr4 e=>?_) (λr5 e=>?_)
  ·subst e;have hr4:=hq;refine DD.Zo 12 [] 5 (aBv hr4) ?_;refine DD.e hT hmo 5 ?_;refine At.Y 5 [12,5,14,11,9] hP λr7=>?_;apply rt;exact At.r 2
  ·subst e;have hr5:=hq;refine DD.Zo 12 [] 5 (aBk hr5) ?_;refine DD.e hT hmo 5 ?_;refine At.Y 5 [12,5,14,11,9] fE λr8=>?_;apply rt;exact At.r 2
theorem aCw{N b2 b4 a2 a3 a4 a5 a6 a7 a8 a9 a10 a11 a12 r}(h:fY N b2 b4 a2 a3 a4 a5 a6 a7 a8 a9 a10 a11 a12=some (Sum.inl r)):FnM Tryz.prog 10 [.var (.st 43 [(.ref 1 [] 0),(aE.enc a2),(aF.enc a3),(j64 a4),(eL 6 aK.enc a5),(j64 a6),(eO 2 9 aG.enc b2),(aI.enc a7)]),.var (.st 38 [(aE.enc a8),(aF.enc a9),(.ifc 115 (.ref 3 [] 0)),(eO 4 1 (eL 2 aC.enc) b4),(aA.enc a10),(aH.enc a11)]),.tail (b2.length*9),.var (aM.enc a12),.tail (b4.length*1)] [(.ref 0 [] 0)] (.v (.pointer none)) [.var (.st 43 [(.ref 1 [] 0),(aE.enc a2),(aF.enc a3),(j64 a4),(eL 6 aK.enc a5),(j64 a6),(eO 2 9 aG.enc b2),(aI.enc a7)]),.var (.st 38 [(aE.enc a8),(aF.enc a9),(.ifc 115 (.ref 3 [] 0)),(eO 4 1 (eL 2 aC.enc) b4),(aA.enc a10),(aH.enc a11)]),.tail (b2.length*9),.var (aM.enc a12),.tail (b4.length*1)]:=tW h
theorem aCx{N b2 b4 a2 a3 a4 a5 a6 a7 a8 a9 a10 a11 a12 r}(h:fY N b2 b4 a2 a3 a4 a5 a6 a7 a8 a9 a10 a11 a12=some (Sum.inr (Sum.inl r))):FnM Tryz.prog 10 [.var (.st 43 [(.ref 1 [] 0),(aE.enc a2),(aF.enc a3),(j64 a4),(eL 6 aK.enc a5),(j64 a6),(eO 2 9 aG.enc b2),(aI.enc a7)]),.var (.st 38 [(aE.enc a8),(aF.enc a9),(.ifc 115 (.ref 3 [] 0)),(eO 4 1 (eL 2 aC.enc) b4),(aA.enc a10),(aH.enc a11)]),.tail (b2.length*9),.var (aM.enc a12),.tail (b4.length*1)] [(.ref 0 [] 0)] (.ref 12 [] 0) [.var (.st 43 [(.ref 1 [] 0),(aE.enc a2),(aF.enc a3),(j64 a4),(eL 6 aK.enc a5),(j64 a6),(eO 2 9 aG.enc b2),(aI.enc a7)]),.var (.st 38 [(aE.enc a8),(aF.enc a9),(.ifc 115 (.ref 3 [] 0)),(eO 4 1 (eL 2 aC.enc) b4),(aA.enc a10),(aH.enc a11)]),.tail (b2.length*9),.var (aM.enc a12),.tail (b4.length*1),.var (.st 38 [(aE.enc r.2.2.1),(aF.enc a3),(.ifc 112 (.ref 11 [] 0)),(eO 9 1 (eL 2 aC.enc) r.1),(aA.enc r.2.2.2.1),(aH.enc r.2.2.2.2.1)]),.dead,.dead,.dead,.tail (r.1.length*1),.dead,.var (aL.enc r.2.2.2.2.2.1),.var (.st 43 [(.ref 5 [] 0),(aE.enc r.2.2.2.2.2.2.1),(aF.enc a3),(j64 a4),(eL 6 aK.enc r.2.2.2.2.2.2.2.1),(j64 r.2.2.2.2.2.2.2.2.1),(eO 15 9 aG.enc r.2.1),(aI.enc r.2.2.2.2.2.2.2.2.2)]),.dead,.dead,.tail (r.2.1.length*9)]:=tW h
theorem aCn{N b2 b4 a2 a3 a4 a5 a6 a7 a8 a9 a10 a11 a12 r}(h:fY N b2 b4 a2 a3 a4 a5 a6 a7 a8 a9 a10 a11 a12=some (Sum.inr (Sum.inr r))):FnM Tryz.prog 10 [.var (.st 43 [(.ref 1 [] 0),(aE.enc a2),(aF.enc a3),(j64 a4),(eL 6 aK.enc a5),(j64 a6),(eO 2 9 aG.enc b2),(aI.enc a7)]),.var (.st 38 [(aE.enc a8),(aF.enc a9),(.ifc 115 (.ref 3 [] 0)),(eO 4 1 (eL 2 aC.enc) b4),(aA.enc a10),(aH.enc a11)]),.tail (b2.length*9),.var (aM.enc a12),.tail (b4.length*1)] [(.ref 0 [] 0)] (.ref 12 [] 0) [.var (.st 43 [(.ref 1 [] 0),(aE.enc a2),(aF.enc a3),(j64 a4),(eL 6 aK.enc a5),(j64 a6),(eO 2 9 aG.enc b2),(aI.enc a7)]),.var (.st 38 [(aE.enc a8),(aF.enc a9),(.ifc 115 (.ref 3 [] 0)),(eO 4 1 (eL 2 aC.enc) b4),(aA.enc a10),(aH.enc a11)]),.tail (b2.length*9),.var (aM.enc a12),.tail (b4.length*1),.var (.st 38 [(aE.enc r.2.2.1),(aF.enc a3),(.ifc 115 (.ref 11 [] 0)),(eO 9 1 (eL 2 aC.enc) r.1),(aA.enc r.2.2.2.1),(aH.enc r.2.2.2.2.1)]),.dead,.dead,.dead,.tail (r.1.length*1),.dead,.var (aM.enc r.2.2.2.2.2.1),.var (.st 43 [(.ref 5 [] 0),(aE.enc r.2.2.2.2.2.2.1),(aF.enc a3),(j64 a4),(eL 6 aK.enc r.2.2.2.2.2.2.2.1),(j64 r.2.2.2.2.2.2.2.2.1),(eO 15 9 aG.enc r.2.1),(aI.enc r.2.2.2.2.2.2.2.2.2)]),.dead,.dead,.tail (r.2.1.length*9)]:=tW h
def aDI : Nat->Bool:=imL [5]
def fD(N:Nat)(a0:aE)(a1:aF)(a2:(Vector Int 2)):Option (Bool):=
 aa (mU N a0) λr1=>
 aa (mS N a1) λr2=>
 aa (fM N r1 r2 2) λq=>
 jY q (λr4=>
  aa (cond (r4 != 0) (
   some (())) (
   some (()))) λp7=>
  aa (cond (r4 != 0) (
   aa (cY N ) λr9=>
   some r9) (
   some false)) λp8=>
  some p8) (λq=>
 jY q (λr5=>
  aa (cond (r5.2.2.2.2.2.2.2 != 0) (
   some true) (
   some false)) λp10=>
  cond p10 (
   aa (cond (r5.2.2.2.2.2.2.2 != 0) (
    aa (cY N ) λr12=>
    some r12) (
    some false)) λp11=>
   some p11) (
   aa (idx a2.toList 0) λe13=>
   aa (cN N [] r5.1 (I64 (eg e13 8)) r5.2.2.2.2.1 r2 2 r5.2.2.2.2.2.1 0 r5.2.2.2.2.2.2.1 r5.2.1 r2 r5.2.2.1 ((aH.mk 0 0 0)) r5.2.2.2.1) λr14=>
   aa (jG N r14.1 r5.1 r5.2.2.2.2.1 r2 2 r5.2.2.2.2.2.1 r14.2.1 r14.2.2.1 r5.2.1 r2 r5.2.2.1 r14.2.2.2.1 r14.2.2.2.2.1) λq=>
   jY q (λr16=>
    some false) (λq=>
   jY q (λr17=>
    aa (bT N r17.2.1 r17.1 r17.2.2.2.2.2.2.1 r2 2 r17.2.2.2.2.2.2.2.1 r17.2.2.2.2.2.2.2.2.1 r17.2.2.2.2.2.2.2.2.2 r17.2.2.1 r2 r17.2.2.2.1 r17.2.2.2.2.1 r17.2.2.2.2.2.1) λr19=>
    aa (bT N r14.1 r5.1 r5.2.2.2.2.1 r2 2 r5.2.2.2.2.2.1 r14.2.1 r14.2.2.1 r5.2.1 r2 r5.2.2.1 r14.2.2.2.1 r14.2.2.2.2.1) λr20=>
    cond (r19 != r20) (
     some false) (
     aa (bT N r14.1 r5.1 r5.2.2.2.2.1 r2 2 r5.2.2.2.2.2.1 r14.2.1 r14.2.2.1 r5.2.1 r2 r5.2.2.1 r14.2.2.2.1 r14.2.2.2.2.1) λr21=>
     aa (cN N r17.2.1 r17.1 1048576 r17.2.2.2.2.2.2.1 r2 2 r17.2.2.2.2.2.2.2.1 r17.2.2.2.2.2.2.2.2.1 r17.2.2.2.2.2.2.2.2.2 r17.2.2.1 r2 r17.2.2.2.1 r17.2.2.2.2.1 r17.2.2.2.2.2.1) λr22=>
     aa (bT N r22.1 r17.1 r17.2.2.2.2.2.2.1 r2 2 r17.2.2.2.2.2.2.2.1 r22.2.1 r22.2.2.1 r17.2.2.1 r2 r17.2.2.2.1 r22.2.2.2.1 r22.2.2.2.2.1) λr23=>
     aa (bT N r14.1 r5.1 r5.2.2.2.2.1 r2 2 r5.2.2.2.2.2.1 r14.2.1 r14.2.2.1 r5.2.1 r2 r5.2.2.1 r14.2.2.2.1 r14.2.2.2.2.1) λr24=>
     aQ (cond (r24 != r21) true (r23 != 0)) λx25=>
     cond x25 (
      some false) (
      aa (idx a2.toList 1) λe26=>
      aa (cN N r14.1 r5.1 (I64 (eg e26 8)) r5.2.2.2.2.1 r2 2 r5.2.2.2.2.2.1 r14.2.1 r14.2.2.1 r5.2.1 r2 r5.2.2.1 r14.2.2.2.1 r14.2.2.2.2.1) λr27=>
      aa (cN N r27.1 r5.1 1048576 r5.2.2.2.2.1 r2 2 r5.2.2.2.2.2.1 r27.2.1 r27.2.2.1 r5.2.1 r2 r5.2.2.1 r27.2.2.2.1 r27.2.2.2.2.1) λr28=>
      aa (iO N r28.1 r5.1 r5.2.2.2.2.1 r2 2 r5.2.2.2.2.2.1 r28.2.1 r28.2.2.1 r5.2.1 r2 r5.2.2.1 r28.2.2.2.1 r28.2.2.2.2.1) λr29=>
      aa (iO N r22.1 r17.1 r17.2.2.2.2.2.2.1 r2 2 r17.2.2.2.2.2.2.2.1 r22.2.1 r22.2.2.1 r17.2.2.1 r2 r17.2.2.2.1 r22.2.2.2.1 r22.2.2.2.2.1) λr30=>
      aa (aQ (cond (r29.2.2==0) (r30.2.2==0) false) λx32=>
      cond x32 (
       aa (sL N r29.1 r30.1) λr33=>
       cond r33 (
        aQ (aH.eq r29.2.1 r30.2.1) λx34=>
        cond x34 (
         aa (cY N ) λr35=>
         some r35) (
         some false)) (
        some false)) (
       some false)) λp31=>
      some p31))) (λr18=>
    aa (bK N r18.2.1 r18.1 r18.2.2.2.2.2.2.1 r2 2 r18.2.2.2.2.2.2.2.1 r18.2.2.2.2.2.2.2.2.1 r18.2.2.2.2.2.2.2.2.2 r18.2.2.1 r2 r18.2.2.2.1 r18.2.2.2.2.1 r18.2.2.2.2.2.1) λr36=>
    aa (bT N r14.1 r5.1 r5.2.2.2.2.1 r2 2 r5.2.2.2.2.2.1 r14.2.1 r14.2.2.1 r5.2.1 r2 r5.2.2.1 r14.2.2.2.1 r14.2.2.2.2.1) λr37=>
    cond (r36 != r37) (
     some false) (
     aa (bT N r14.1 r5.1 r5.2.2.2.2.1 r2 2 r5.2.2.2.2.2.1 r14.2.1 r14.2.2.1 r5.2.1 r2 r5.2.2.1 r14.2.2.2.1 r14.2.2.2.2.1) λr38=>
     aa (bZ N r18.2.1 r18.1 1048576 r18.2.2.2.2.2.2.1 r2 2 r18.2.2.2.2.2.2.2.1 r18.2.2.2.2.2.2.2.2.1 r18.2.2.2.2.2.2.2.2.2 r18.2.2.1 r2 r18.2.2.2.1 r18.2.2.2.2.1 r18.2.2.2.2.2.1) λr39=>
     aa (bK N r39.1 r18.1 r18.2.2.2.2.2.2.1 r2 2 r18.2.2.2.2.2.2.2.1 r39.2.1 r39.2.2.1 r18.2.2.1 r2 r18.2.2.2.1 r39.2.2.2.1 r39.2.2.2.2.1) λr40=>
     aa (bT N r14.1 r5.1 r5.2.2.2.2.1 r2 2 r5.2.2.2.2.2.1 r14.2.1 r14.2.2.1 r5.2.1 r2 r5.2.2.1 r14.2.2.2.1 r14.2.2.2.2.1) λr41=>
     aQ (cond (r41 != r38) true (r40 != 0)) λx42=>
     cond x42 (
      some false) (
      aa (idx a2.toList 1) λe43=>
      aa (cN N r14.1 r5.1 (I64 (eg e43 8)) r5.2.2.2.2.1 r2 2 r5.2.2.2.2.2.1 r14.2.1 r14.2.2.1 r5.2.1 r2 r5.2.2.1 r14.2.2.2.1 r14.2.2.2.2.1) λr44=>
      aa (cN N r44.1 r5.1 1048576 r5.2.2.2.2.1 r2 2 r5.2.2.2.2.2.1 r44.2.1 r44.2.2.1 r5.2.1 r2 r5.2.2.1 r44.2.2.2.1 r44.2.2.2.2.1) λr45=>
      aa (iO N r45.1 r5.1 r5.2.2.2.2.1 r2 2 r5.2.2.2.2.2.1 r45.2.1 r45.2.2.1 r5.2.1 r2 r5.2.2.1 r45.2.2.2.1 r45.2.2.2.2.1) λr46=>
      aa (fN N r39.1 r18.1 r18.2.2.2.2.2.2.1 r2 2 r18.2.2.2.2.2.2.2.1 r39.2.1 r39.2.2.1 r18.2.2.1 r2 r18.2.2.2.1 r39.2.2.2.1 r39.2.2.2.2.1) λr47=>
      aa (aQ (cond (r46.2.2==0) (r47.2.2==0) false) λx49=>
      cond x49 (
       aa (sL N r46.1 r47.1) λr50=>
       cond r50 (
        aQ (aH.eq r46.2.1 r47.2.1) λx51=>
        cond x51 (
         aa (cY N ) λr52=>
         some r52) (
         some false)) (
        some false)) (
       some false)) λp48=>
      some p48)))))) (λr6=>
  aa (cond (r6.2.2.2.2.2.2.2 != 0) (
   some true) (
   some false)) λp53=>
  cond p53 (
   aa (cond (r6.2.2.2.2.2.2.2 != 0) (
    aa (cY N ) λr55=>
    some r55) (
    some false)) λp54=>
   some p54) (
   aa (idx a2.toList 0) λe56=>
   aa (bZ N [] r6.1 (I64 (eg e56 8)) r6.2.2.2.2.1 r2 2 r6.2.2.2.2.2.1 0 r6.2.2.2.2.2.2.1 r6.2.1 r2 r6.2.2.1 ((aH.mk 0 0 0)) r6.2.2.2.1) λr57=>
   aa (fY N r57.1 r6.1 r6.2.2.2.2.1 r2 2 r6.2.2.2.2.2.1 r57.2.1 r57.2.2.1 r6.2.1 r2 r6.2.2.1 r57.2.2.2.1 r57.2.2.2.2.1) λq=>
   jY q (λr59=>
    some false) (λq=>
   jY q (λr60=>
    aa (bT N r60.2.1 r60.1 r60.2.2.2.2.2.2.1 r2 2 r60.2.2.2.2.2.2.2.1 r60.2.2.2.2.2.2.2.2.1 r60.2.2.2.2.2.2.2.2.2 r60.2.2.1 r2 r60.2.2.2.1 r60.2.2.2.2.1 r60.2.2.2.2.2.1) λr62=>
    aa (bK N r57.1 r6.1 r6.2.2.2.2.1 r2 2 r6.2.2.2.2.2.1 r57.2.1 r57.2.2.1 r6.2.1 r2 r6.2.2.1 r57.2.2.2.1 r57.2.2.2.2.1) λr63=>
    cond (r62 != r63) (
     some false) (
     aa (bK N r57.1 r6.1 r6.2.2.2.2.1 r2 2 r6.2.2.2.2.2.1 r57.2.1 r57.2.2.1 r6.2.1 r2 r6.2.2.1 r57.2.2.2.1 r57.2.2.2.2.1) λr64=>
     aa (cN N r60.2.1 r60.1 1048576 r60.2.2.2.2.2.2.1 r2 2 r60.2.2.2.2.2.2.2.1 r60.2.2.2.2.2.2.2.2.1 r60.2.2.2.2.2.2.2.2.2 r60.2.2.1 r2 r60.2.2.2.1 r60.2.2.2.2.1 r60.2.2.2.2.2.1) λr65=>
     aa (bT N r65.1 r60.1 r60.2.2.2.2.2.2.1 r2 2 r60.2.2.2.2.2.2.2.1 r65.2.1 r65.2.2.1 r60.2.2.1 r2 r60.2.2.2.1 r65.2.2.2.1 r65.2.2.2.2.1) λr66=>
     aa (bK N r57.1 r6.1 r6.2.2.2.2.1 r2 2 r6.2.2.2.2.2.1 r57.2.1 r57.2.2.1 r6.2.1 r2 r6.2.2.1 r57.2.2.2.1 r57.2.2.2.2.1) λr67=>
     aQ (cond (r67 != r64) true (r66 != 0)) λx68=>
     cond x68 (
      some false) (
      aa (idx a2.toList 1) λe69=>
      aa (bZ N r57.1 r6.1 (I64 (eg e69 8)) r6.2.2.2.2.1 r2 2 r6.2.2.2.2.2.1 r57.2.1 r57.2.2.1 r6.2.1 r2 r6.2.2.1 r57.2.2.2.1 r57.2.2.2.2.1) λr70=>
      aa (bZ N r70.1 r6.1 1048576 r6.2.2.2.2.1 r2 2 r6.2.2.2.2.2.1 r70.2.1 r70.2.2.1 r6.2.1 r2 r6.2.2.1 r70.2.2.2.1 r70.2.2.2.2.1) λr71=>
      aa (fN N r71.1 r6.1 r6.2.2.2.2.1 r2 2 r6.2.2.2.2.2.1 r71.2.1 r71.2.2.1 r6.2.1 r2 r6.2.2.1 r71.2.2.2.1 r71.2.2.2.2.1) λr72=>
      aa (iO N r65.1 r60.1 r60.2.2.2.2.2.2.1 r2 2 r60.2.2.2.2.2.2.2.1 r65.2.1 r65.2.2.1 r60.2.2.1 r2 r60.2.2.2.1 r65.2.2.2.1 r65.2.2.2.2.1) λr73=>
      aa (aQ (cond (r72.2.2==0) (r73.2.2==0) false) λx75=>
      cond x75 (
       aa (sL N r72.1 r73.1) λr76=>
       cond r76 (
        aQ (aH.eq r72.2.1 r73.2.1) λx77=>
        cond x77 (
         aa (cY N ) λr78=>
         some r78) (
         some false)) (
        some false)) (
       some false)) λp74=>
      some p74))) (λr61=>
    aa (bK N r61.2.1 r61.1 r61.2.2.2.2.2.2.1 r2 2 r61.2.2.2.2.2.2.2.1 r61.2.2.2.2.2.2.2.2.1 r61.2.2.2.2.2.2.2.2.2 r61.2.2.1 r2 r61.2.2.2.1 r61.2.2.2.2.1 r61.2.2.2.2.2.1) λr79=>
    aa (bK N r57.1 r6.1 r6.2.2.2.2.1 r2 2 r6.2.2.2.2.2.1 r57.2.1 r57.2.2.1 r6.2.1 r2 r6.2.2.1 r57.2.2.2.1 r57.2.2.2.2.1) λr80=>
    cond (r79 != r80) (
     some false) (
     aa (bK N r57.1 r6.1 r6.2.2.2.2.1 r2 2 r6.2.2.2.2.2.1 r57.2.1 r57.2.2.1 r6.2.1 r2 r6.2.2.1 r57.2.2.2.1 r57.2.2.2.2.1) λr81=>
     aa (bZ N r61.2.1 r61.1 1048576 r61.2.2.2.2.2.2.1 r2 2 r61.2.2.2.2.2.2.2.1 r61.2.2.2.2.2.2.2.2.1 r61.2.2.2.2.2.2.2.2.2 r61.2.2.1 r2 r61.2.2.2.1 r61.2.2.2.2.1 r61.2.2.2.2.2.1) λr82=>
     aa (bK N r82.1 r61.1 r61.2.2.2.2.2.2.1 r2 2 r61.2.2.2.2.2.2.2.1 r82.2.1 r82.2.2.1 r61.2.2.1 r2 r61.2.2.2.1 r82.2.2.2.1 r82.2.2.2.2.1) λr83=>
     aa (bK N r57.1 r6.1 r6.2.2.2.2.1 r2 2 r6.2.2.2.2.2.1 r57.2.1 r57.2.2.1 r6.2.1 r2 r6.2.2.1 r57.2.2.2.1 r57.2.2.2.2.1) λr84=>
     aQ (cond (r84 != r81) true (r83 != 0)) λx85=>
     cond x85 (
      some false) (
      aa (idx a2.toList 1) λe86=>
      aa (bZ N r57.1 r6.1 (I64 (eg e86 8)) r6.2.2.2.2.1 r2 2 r6.2.2.2.2.2.1 r57.2.1 r57.2.2.1 r6.2.1 r2 r6.2.2.1 r57.2.2.2.1 r57.2.2.2.2.1) λr87=>
      aa (bZ N r87.1 r6.1 1048576 r6.2.2.2.2.1 r2 2 r6.2.2.2.2.2.1 r87.2.1 r87.2.2.1 r6.2.1 r2 r6.2.2.1 r87.2.2.2.1 r87.2.2.2.2.1) λr88=>
      aa (fN N r88.1 r6.1 r6.2.2.2.2.1 r2 2 r6.2.2.2.2.2.1 r88.2.1 r88.2.2.1 r6.2.1 r2 r6.2.2.1 r88.2.2.2.1 r88.2.2.2.2.1) λr89=>
      aa (fN N r82.1 r61.1 r61.2.2.2.2.2.2.1 r2 2 r61.2.2.2.2.2.2.2.1 r82.2.1 r82.2.2.1 r61.2.2.1 r2 r61.2.2.2.1 r82.2.2.2.1 r82.2.2.2.2.1) λr90=>
      aa (aQ (cond (r89.2.2==0) (r90.2.2==0) false) λx92=>
      cond x92 (
       aa (sL N r89.1 r90.1) λr93=>
       cond r93 (
        aQ (aH.eq r89.2.1 r90.2.1) λx94=>
        cond x94 (
         aa (cY N ) λr95=>
         some r95) (
         some false)) (
        some false)) (
       some false)) λp91=>
      some p91)))))))
theorem aCr{N a0 a1 a2 r}(h:fD N a0 a1 a2=some r):FnM Tryz.prog 3 [] [(aE.enc a0),(aF.enc a1),(eA 2 1 k8 a2)] (eB r) []:=by
 unfold fD at h;refine At.f aDI hT hmo Tryz.func3 rfl h ?_;refine At.D 4 [] ?_;refine DD.y 1 aFy λr1=>?_;refine DD.y 1 aEs λr2=>?_;refine DD.e hT hmo 2 ?_;refine aNo (λr4 hr4=>?_) (λq hq=>?_)
 ·refine At.o 2 (rI [] (aBe hr4)) ?_;refine At.J 5 0 [5,7,8] 2 (λp7=>([(33,(eB true))],[],[])) (λp7=>?_) λp7=>?_
  ·refine At.s 30 3 ?_ ?_
   ·refine At.g [30] 3 ?_;apply rt;exact At.jn 0
   ·refine At.g [30] 1 ?_;refine At.o 0 (nI hT (t:=41) (x:=(.v (.pointer none))) (b:=false) (by kernel_rfl) rfl rfl (by kernel_rfl)) ?_;refine At.g [30] 1 ?_;apply rt;exact At.jn 0
  ·refine At.J 1 0 [] 2 (λp8=>([(6,(eB p8))],[],[])) (λp8=>?_) λp8=>?_
   ·refine At.s 36 3 ?_ ?_
    ·refine At.y 0 jX λr9=>?_;refine At.g [36] 2 ?_;apply rt;exact At.jn 0
    ·refine At.g [36] 3 ?_;apply rt;exact At.jn 0
   ·apply rt;exact At.r 0
 ·refine aNu (λr5 e=>?_) (λr6 e=>?_)
  ·subst e;have hr5:=hq;refine At.o 2 (rI [] (aBv hr5)) ?_;refine At.J 5 0 [5,7,8] 12 (λp10=>([(33,(eB p10))],[],[])) (λp10=>?_) λp10=>?_
   ·refine At.s 30 3 ?_ ?_
    ·refine At.g [30] 3 ?_;apply rt;exact At.jn 0
    ·refine At.g [30] 1 ?_;refine At.o 0 (nI hT (t:=41) (x:=(.ref 9 [] 0)) (b:=true) (by kernel_rfl) rfl rfl (by kernel_rfl)) ?_;refine At.g [30] 1 ?_;apply rt;exact At.jn 0
   ·refine At.c 0 ?_ ?_
    ·refine At.J 0 0 [] 12 (λp11=>([(6,(eB p11))],[],[])) (λp11=>?_) λp11=>?_
     ·refine At.s 36 3 ?_ ?_
      ·refine At.y 0 jX λr12=>?_;refine At.g [36] 2 ?_;apply rt;exact At.jn 0
      ·refine At.g [36] 3 ?_;apply rt;exact At.jn 0
     ·apply rt;exact At.r 0
    ·refine At.b 1 (λ_ e=>dC hT (N:=2) (k:=1) k8 a2 e) λe13=>?_;refine At.Y 3 [9,2,11,8,6] hP λr14=>?_;refine aNo (λr16 hr16=>?_) (λq hq=>?_)
     ·refine At.o 1 (rI [9,2,12,8,6] (aDp hr16)) ?_;refine At.o 2 (nI hT (t:=41) (x:=(.v (.pointer none))) (b:=false) (by kernel_rfl) rfl rfl (by kernel_rfl)) ?_;refine At.g [49] 9 ?_;apply rt;exact At.r 0
     ·refine aNu (λr17 e=>?_) (λr18 e=>?_)
      ·subst e;have hr17:=hq;refine At.o 1 (rI [9,2,12,8,6] (aDj hr17)) ?_;refine At.o 2 (nI hT (t:=41) (x:=(.ref 20 [] 0)) (b:=true) (by kernel_rfl) rfl rfl (by kernel_rfl)) ?_;refine At.g [49] 2 ?_;refine At.Y 0 [20,13,23,19,17] dA λr19=>?_;refine At.g [49] 1 ?_;refine At.Y 0 [9,2,12,8,6] dA λr20=>?_;refine At.g [49] 2 ?_;refine At.c 0 ?_ ?_
       ·apply rt;exact At.r 1
       ·refine At.Y 1 [9,2,12,8,6] dA λr21=>?_;refine At.Y 3 [20,13,23,19,17] hP λr22=>?_;refine At.Y 1 [20,13,24,19,17] dA λr23=>?_;refine At.Y 2 [9,2,12,8,6] dA λr24=>?_;refine lx ?_;intro x25;refine At.c 6 ?_ ?_
        ·apply rt;exact At.r 1
        ·refine At.b 1 (λ_ e=>dC hT (N:=2) (k:=1) k8 a2 e) λe26=>?_;refine At.Y 3 [9,2,12,8,6] hP λr27=>?_;refine At.Y 1 [9,2,25,8,6] hP λr28=>?_;refine At.Y 1 [9,2,26,8,6] qL λr29=>?_;refine At.Y 10 [20,13,24,19,17] qL λr30=>?_;refine At.J 9 0 [] 31 (λp31=>([(6,(eB p31))],[],[])) (λp31=>?_) λp31=>?_
         ·refine lx ?_;intro x32;refine At.s 96 7 ?_ ?_
          ·refine At.g [96] 2 ?_;refine At.y 0 aA4 λr33=>?_;refine At.g [96] 2 ?_;refine At.s 101 0 ?_ ?_
           ·refine At.g [101] 2 ?_;refine At.o 0 (aBF aMh (r29.2.1:aH) (r30.2.1:aH) (by kernel_rfl) (by kernel_rfl) (λ_=>rfl) (λ_=>rfl) (by kernel_rfl) (by kernel_rfl)) ?_;refine lx ?_;intro x34;refine At.g [101] 2 ?_;refine At.s 106 0 ?_ ?_
            ·refine At.y 0 jX λr35=>?_;refine At.g [106] 2 ?_;apply rt;exact At.jn 0
            ·refine At.g [106] 3 ?_;apply rt;exact At.jn 0
           ·refine At.g [101,106] 8 ?_;apply rt;exact At.jn 0
          ·refine At.g [96,101,106] 13 ?_;apply rt;exact At.jn 0
         ·apply rt;exact At.r 0
      ·subst e;have hr18:=hq;refine At.o 1 (rI [9,2,12,8,6] (aDi hr18)) ?_;refine At.o 2 (nI hT (t:=41) (x:=(.ref 20 [] 0)) (b:=true) (by kernel_rfl) rfl rfl (by kernel_rfl)) ?_;refine At.g [49] 2 ?_;refine At.Y 0 [20,13,23,19,17] cI λr36=>?_;refine At.g [49] 1 ?_;refine At.Y 0 [9,2,12,8,6] dA λr37=>?_;refine At.g [49] 2 ?_;refine At.c 0 ?_ ?_
       ·apply rt;exact At.r 1
       ·refine At.Y 1 [9,2,12,8,6] dA λr38=>?_;refine At.Y 3 [20,13,23,19,17] fE λr39=>?_;refine At.Y 1 [20,13,24,19,17] cI λr40=>?_;refine At.Y 2 [9,2,12,8,6] dA λr41=>?_;refine lx ?_;intro x42;refine At.c 6 ?_ ?_
        ·apply rt;exact At.r 1
        ·refine At.b 1 (λ_ e=>dC hT (N:=2) (k:=1) k8 a2 e) λe43=>?_;refine At.Y 3 [9,2,12,8,6] hP λr44=>?_;refine At.Y 1 [9,2,25,8,6] hP λr45=>?_;refine At.Y 1 [9,2,26,8,6] qL λr46=>?_;refine At.Y 10 [20,13,24,19,17] oU λr47=>?_;refine At.J 9 0 [] 31 (λp48=>([(6,(eB p48))],[],[])) (λp48=>?_) λp48=>?_
         ·refine lx ?_;intro x49;refine At.s 96 7 ?_ ?_
          ·refine At.g [96] 2 ?_;refine At.y 0 aA4 λr50=>?_;refine At.g [96] 2 ?_;refine At.s 101 0 ?_ ?_
           ·refine At.g [101] 2 ?_;refine At.o 0 (aBF aMh (r46.2.1:aH) (r47.2.1:aH) (by kernel_rfl) (by kernel_rfl) (λ_=>rfl) (λ_=>rfl) (by kernel_rfl) (by kernel_rfl)) ?_;refine lx ?_;intro x51;refine At.g [101] 2 ?_;refine At.s 106 0 ?_ ?_
            ·refine At.y 0 jX λr52=>?_;refine At.g [106] 2 ?_;apply rt;exact At.jn 0
            ·refine At.g [106] 3 ?_;apply rt;exact At.jn 0
           ·refine At.g [101,106] 8 ?_;apply rt;exact At.jn 0
          ·refine At.g [96,101,106] 13 ?_;apply rt;exact At.jn 0
         ·apply rt;exact At.r 0
  ·subst e;have hr6:=hq;refine At.o 2 (rI [] (aBk hr6)) ?_;refine At.J 5 0 [5,7,8] 12 (λp53=>([(33,(eB p53))],[],[])) (λp53=>?_) λp53=>?_
   ·refine At.s 30 3 ?_ ?_
    ·refine At.g [30] 3 ?_;apply rt;exact At.jn 0
    ·refine At.g [30] 1 ?_;refine At.o 0 (nI hT (t:=41) (x:=(.ref 9 [] 0)) (b:=true) (by kernel_rfl) rfl rfl (by kernel_rfl)) ?_;refine At.g [30] 1 ?_;apply rt;exact At.jn 0
   ·refine At.c 0 ?_ ?_
    ·refine At.J 0 0 [] 12 (λp54=>([(6,(eB p54))],[],[])) (λp54=>?_) λp54=>?_
     ·refine At.s 36 3 ?_ ?_
      ·refine At.y 0 jX λr55=>?_;refine At.g [36] 2 ?_;apply rt;exact At.jn 0
      ·refine At.g [36] 3 ?_;apply rt;exact At.jn 0
     ·apply rt;exact At.r 0
    ·refine At.b 1 (λ_ e=>dC hT (N:=2) (k:=1) k8 a2 e) λe56=>?_;refine At.Y 3 [9,2,11,8,6] fE λr57=>?_;refine aNo (λr59 hr59=>?_) (λq hq=>?_)
     ·refine At.o 1 (rI [9,2,12,8,6] (aCw hr59)) ?_;refine At.o 2 (nI hT (t:=41) (x:=(.v (.pointer none))) (b:=false) (by kernel_rfl) rfl rfl (by kernel_rfl)) ?_;refine At.g [49] 9 ?_;apply rt;exact At.r 0
     ·refine aNu (λr60 e=>?_) (λr61 e=>?_)
      ·subst e;have hr60:=hq;refine At.o 1 (rI [9,2,12,8,6] (aCx hr60)) ?_;refine At.o 2 (nI hT (t:=41) (x:=(.ref 20 [] 0)) (b:=true) (by kernel_rfl) rfl rfl (by kernel_rfl)) ?_;refine At.g [49] 2 ?_;refine At.Y 0 [20,13,23,19,17] dA λr62=>?_;refine At.g [49] 1 ?_;refine At.Y 0 [9,2,12,8,6] cI λr63=>?_;refine At.g [49] 2 ?_;refine At.c 0 ?_ ?_
       ·apply rt;exact At.r 1
       ·refine At.Y 1 [9,2,12,8,6] cI λr64=>?_;refine At.Y 3 [20,13,23,19,17] hP λr65=>?_;refine At.Y 1 [20,13,24,19,17] dA λr66=>?_;refine At.Y 2 [9,2,12,8,6] cI λr67=>?_;refine lx ?_;intro x68;refine At.c 6 ?_ ?_
        ·apply rt;exact At.r 1
        ·refine At.b 1 (λ_ e=>dC hT (N:=2) (k:=1) k8 a2 e) λe69=>?_;refine At.Y 3 [9,2,12,8,6] fE λr70=>?_;refine At.Y 1 [9,2,25,8,6] fE λr71=>?_;refine At.Y 1 [9,2,26,8,6] oU λr72=>?_;refine At.Y 10 [20,13,24,19,17] qL λr73=>?_;refine At.J 9 0 [] 31 (λp74=>([(6,(eB p74))],[],[])) (λp74=>?_) λp74=>?_
         ·refine lx ?_;intro x75;refine At.s 96 7 ?_ ?_
          ·refine At.g [96] 2 ?_;refine At.y 0 aA4 λr76=>?_;refine At.g [96] 2 ?_;refine At.s 101 0 ?_ ?_
           ·refine At.g [101] 2 ?_;refine At.o 0 (aBF aMh (r72.2.1:aH) (r73.2.1:aH) (by kernel_rfl) (by kernel_rfl) (λ_=>rfl) (λ_=>rfl) (by kernel_rfl) (by kernel_rfl)) ?_;refine lx ?_;intro x77;refine At.g [101] 2 ?_;refine At.s 106 0 ?_ ?_
            ·refine At.y 0 jX λr78=>?_;refine At.g [106] 2 ?_;apply rt;exact At.jn 0
            ·refine At.g [106] 3 ?_;apply rt;exact At.jn 0
           ·refine At.g [101,106] 8 ?_;apply rt;exact At.jn 0
          ·refine At.g [96,101,106] 13 ?_;apply rt;exact At.jn 0
         ·apply rt;exact At.r 0
      ·subst e;have hr61:=hq;refine At.o 1 (rI [9,2,12,8,6] (aCn hr61)) ?_;refine At.o 2 (nI hT (t:=41) (x:=(.ref 20 [] 0)) (b:=true) (by kernel_rfl) rfl rfl (by kernel_rfl)) ?_;refine At.g [49] 2 ?_;refine At.Y 0 [20,13,23,19,17] cI λr79=>?_;refine At.g [49] 1 ?_;refine At.Y 0 [9,2,12,8,6] cI λr80=>?_;refine At.g [49] 2 ?_;refine At.c 0 ?_ ?_
       ·apply rt;exact At.r 1
       ·refine At.Y 1 [9,2,12,8,6] cI λr81=>?_;refine At.Y 3 [20,13,23,19,17] fE λr82=>?_;refine At.Y 1 [20,13,24,19,17] cI λr83=>?_;refine At.Y 2 [9,2,12,8,6] cI λr84=>?_;refine lx ?_;intro x85;refine At.c 6 ?_ ?_
        ·apply rt;exact At.r 1
        ·refine At.b 1 (λ_ e=>dC hT (N:=2) (k:=1) k8 a2 e) λe86=>?_;refine At.Y 3 [9,2,12,8,6] fE λr87=>?_;refine At.Y 1 [9,2,25,8,6] fE λr88=>?_;refine At.Y 1 [9,2,26,8,6] oU λr89=>?_;refine At.Y 10 [20,13,24,19,17] oU λr90=>?_;refine At.J 9 0 [] 31 (λp91=>([(6,(eB p91))],[],[])) (λp91=>?_) λp91=>?_
         ·refine lx ?_;intro x92;refine At.s 96 7 ?_ ?_
          ·refine At.g [96] 2 ?_;refine At.y 0 aA4 λr93=>?_;refine At.g [96] 2 ?_;refine At.s 101 0 ?_ ?_
           ·refine At.g [101] 2 ?_;refine At.o 0 (aBF aMh (r89.2.1:aH) (r90.2.1:aH) (by kernel_rfl) (by kernel_rfl) (λ_=>rfl) (λ_=>rfl) (by kernel_rfl) (by kernel_rfl)) ?_;refine lx ?_;intro x94;refine At.g [101] 2 ?_;refine At.s 106 0 ?_ ?_
            ·refine At.y 0 jX λr95=>?_;refine At.g [106] 2 ?_;apply rt;exact At.jn 0
            ·refine At.g [106] 3 ?_;apply rt;exact At.jn 0
           ·refine At.g [101,106] 8 ?_;apply rt;exact At.jn 0
          ·refine At.g [96,101,106] 13 ?_;apply rt;exact At.jn 0
         ·apply rt;exact At.r 0
end Go.UK
