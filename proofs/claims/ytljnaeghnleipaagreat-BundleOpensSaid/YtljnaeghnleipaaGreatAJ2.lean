/- A part of the proof: what the functions of the program compute. -/
import Derived.Test.YtljnaeghnleipaaGreatAJ1
open Int renaming tdiv→du,tmod→cu,toNat→af
open Option renaming bind→ae
open Vector renaming replicate→ah
namespace Go.UK
open Go Go.Proofs
set_option maxRecDepth 20000
set_option maxHeartbeats 40000000
set_option linter.all false
attribute [local irreducible] adv aJB aDt yT brPt aLN aFb rQ zQ aLA dZ pM fL aEq aIz aHw lPt owp awl aw FnM aJN opS Stab TOK Big
def dI(N:Nat)(a0:Int)(a1:aD):Option (Int×Int×(List Int)):=
 ae (aT (cond (a1.gE==0) (decide (a0 < 0)) false) λx2=>
 cond x2 (some 2) (some a1.gE)) λp1=>
 ae (ae (cond (p1==0) (
  aT (I64 (((a1.gB.length:Int)) - a1.gAt)) λx5=>
  some (decide (a0 > x5))) (
  some false)) λp4=>
 cond p4 (some 4) (some p1)) λp3=>
 cond (p3 != 0) (
  some ((a1.gAt,p3,[]))) (
  aT (I64 ((I64 (a1.gAt+a0)) - a0)) λx6=>
  ae (eD a1.gB x6 (I64 (a1.gAt+a0))) λs7=>
  some ((I64 (a1.gAt+a0),p3,s7)))
theorem wJ{N a0 a1 r}(h:dI N a0 a1=some r):FnM Tryz.prog 104 [.var (aD.enc a1)] [(.ref 0 [] 0),(j64 a0)] (eL 1 k8 r.2.2) [.var (.st 3 [(eL 1 k8 a1.gB),(j64 r.1),(j64 r.2.1)])]:=by
 unfold dI at h;refine At.f eX hT hmo Tryz.func104 rfl h ?_;refine At.J 1 1 [0,1] 1 (λp1=>([],[(0,.var (.st 3 [(eL 1 k8 a1.gB),(j64 a1.gAt),(j64 p1)]))],[])) (λp1=>?_) λp1=>?_
 ·refine lx ?_;intro x2;refine At.c 9 ?_ ?_
  ·apply rt;exact At.jn 4
  ·apply rt;exact At.jn 0
 ·refine At.J 0 1 [0,1] 1 (λp3=>([],[(0,.var (.st 3 [(eL 1 k8 a1.gB),(j64 a1.gAt),(j64 p3)]))],[])) (λp3=>?_) λp3=>?_
  ·refine At.J 0 0 [0,1] 1 (λp4=>([(35,(eB p4))],[],[])) (λp4=>?_) λp4=>?_
   ·refine boI (λhc5=>?_) (λhc5=>?_)
    ·refine lx ?_;intro x5;refine At.d 0 (dE1 5 (λ_=>xB hc5 rfl (uD hT (im:=false) (by kernel_rfl))) dE0) dF0 ?_;apply rt;exact At.jn 0
    ·refine At.d 0 (dE1 5 (λ_=>xB hc5 rfl (uD hT (im:=false) (by kernel_rfl))) dE0) dF0 ?_;apply rt;exact At.jn 0
   ·refine At.c 0 ?_ ?_
    ·apply rt;exact At.jn 4
    ·apply rt;exact At.jn 0
  ·refine At.c 5 ?_ ?_
   ·apply rt;exact At.r 1
   ·refine lx ?_;intro x6;refine bi λs7 hs7=>?_;refine At.d 10 (dE1 14 (λ_=>iQ hT (k:=1) k8 hs7) dE0) dF0 ?_;apply rt;exact At.r 0
def dU(N:Nat)(r4:Int×Int×(List Int)):Nat->Int->Int->Option (Int)
 | 0,_,_=>none
 | k+1,s7,s8=>
  cond (decide (s8>=0)) (
   ae (idx r4.2.2 s8) λe9=>
   aT (U64 ((U64 (s7*256))+(U64 e9))) λx10=>
   dU N r4 k x10 (I64 (s8 - 1))) (
   some s7)
def aF(N:Nat)(a0:Int)(a1:aD):Option ((List Int)×Int×Int×Int):=
 ae (ae (cond (a1.gE==0) (
  aT (cond (decide (a0 < 1)) true (decide (a0 > 8))) λx3=>
  some x3) (
  some false)) λp2=>
 cond p2 (some 2) (some a1.gE)) λp1=>
 ae (dI N (tQ a0 0) (aD.mk a1.gB a1.gAt p1)) λr4=>
 aT (I64 (((r4.2.2.length:Int)) - 1)) λx5=>
 ae (dU N r4 N 0 x5) λp6=>
 some (((aD.mk a1.gB a1.gAt p1).gB,r4.1,r4.2.1,p6))
theorem aQ{N a0 a1 r}(h:aF N a0 a1=some r):FnM Tryz.prog 64 [.var (aD.enc a1)] [(.ref 0 [] 0),(j64 a0)] (k64 r.2.2.2) [.var (.st 3 [(eL 1 k8 r.1),(j64 r.2.1),(j64 r.2.2.1)])]:=by
 unfold aF at h;refine At.f eX hT hmo Tryz.func64 rfl h ?_;refine At.J 1 1 [0,1] 1 (λp1=>([],[(0,.var (.st 3 [(eL 1 k8 a1.gB),(j64 a1.gAt),(j64 p1)]))],[])) (λp1=>?_) λp1=>?_
 ·refine At.J 0 0 [0,1] 1 (λp2=>([(20,(eB p2))],[],[])) (λp2=>?_) λp2=>?_
  ·refine At.s 13 6 ?_ ?_
   ·refine lx ?_;intro x3;refine At.g [13] 7 ?_;apply rt;exact At.jn 0
   ·refine At.g [13,16] 7 ?_;apply rt;exact At.jn 0
  ·refine At.c 0 ?_ ?_
   ·apply rt;exact At.jn 4
   ·apply rt;exact At.jn 0
 ·refine At.b 3 (λ_ e=>aM [0] (wJ e)) λr4=>?_;refine lx ?_;intro x5;refine At.L 6 [] 1 (λp6=>([(6,(k64 p6))],[],[])) (λp6 J k=>∃s7 s8,dU N r4 k s7 s8=some p6/\J [5] 1 [(6,(k64 s7)),(7,(j64 s8))] [] []) N (λ_ h=>⟨_,_,h,jr⟩) (λp6 k s hI=>?_) λp6=>?_
  ·obtain⟨s7,s8,h,hj⟩:=hI;cases k with
   | zero=>cases h
   | succ k=>
    refine At.jr hj ?_ h;refine At.c 2 ?_ ?_
    ·refine At.b 4 (λ_ e=>bB hT k8 e) λe9=>?_;refine lx ?_;intro x10;exact λh=>At.k 7 ⟨_,_,h,jr⟩
    ·apply rt;exact At.x 0
  ·apply rt;exact At.r 2
def iA(N:Nat)(a0:Int):Option (Int):=
 cond (a0==1) (
  some 2048) (
  cond (a0==2) (
   some 1024) (
   ae (cond (a0==3) (some (a0==3)) (some (a0==4))) λp1=>
   cond p1 (some 64) (some 0)))
theorem uW{N a0 r}(h:iA N a0=some r):FnM Tryz.prog 94 [] [(j64 a0)] (j64 r) []:=by
 unfold iA at h;refine At.f eX hT hmo Tryz.func94 rfl h ?_;refine At.c 4 ?_ ?_
 ·apply rt;exact At.r 1
 ·refine At.c 2 ?_ ?_
  ·apply rt;exact At.r 1
  ·refine At.J 0 1 [] 0 (λp1=>([(8,(eB p1))],[],[])) (λp1=>?_) λp1=>?_
   ·refine At.c 2 ?_ ?_
    ·apply rt;exact At.jn 0
    ·apply rt;exact At.jn 2
   ·refine At.c 0 ?_ ?_
    ·apply rt;exact At.r 1
    ·apply rt;exact At.r 1
def jK(N:Nat)(a0:Int):Nat->Int->Option (Int)
 | 0,_=>none
 | k+1,s2=>
  aT (decide (a0 > (I64 (256*s2)))) λx3=>
  aT (cond x3 (decide (s2 < 1000)) false) λx4=>
  cond x4 (jK N a0 k (I64 (s2+1))) (some s2)
def oE(N:Nat)(a0:Int):Option (Int):=
 ae (jK N a0 N 0) λp1=>
 ae (aT (decide (a0 > (I64 (256*p1)))) λx6=>
 cond x6 (
  aT (mU (cu a0 256) 1) λx7=>
  aT (I64 ((I64 (du a0 256))+x7)) λx8=>
  some x8) (
  some p1)) λp5=>
 some p5
theorem aAn{N a0 r}(h:oE N a0=some r):FnM Tryz.prog 26 [] [(j64 a0)] (j64 r) []:=by
 unfold oE at h;refine At.f eX hT hmo Tryz.func26 rfl h ?_;refine At.L 2 [0] 0 (λp1=>([(3,(j64 p1))],[],[])) (λp1 J k=>∃s2,jK N a0 k s2=some p1/\J [0] 0 [(3,(j64 s2))] [] []) N (λ_ h=>⟨_,h,jr⟩) (λp1 k s hI=>?_) λp1=>?_
 ·obtain⟨s2,h,hj⟩:=hI;cases k with
  | zero=>cases h
  | succ k=>
   refine At.jr hj ?_ h;refine lx ?_;intro x3;refine lx ?_;intro x4;refine At.c 8 ?_ ?_
   ·exact λh=>At.k 3 ⟨_,h,jr⟩
   ·apply rt;exact At.x 0
 ·refine At.J 0 1 [] 0 (λp5=>([(3,(j64 p5))],[],[])) (λp5=>?_) λp5=>?_
  ·refine lx ?_;intro x6;refine At.c 4 ?_ ?_
   ·refine lx ?_;intro x7;refine lx ?_;intro x8;apply rt;exact At.jn 7
   ·apply rt;exact At.jn 0
  ·apply rt;exact At.r 2
def aCG : Nat->Bool:=imL [1]
def iL(N:Nat)(a0:aE):Nat->Int->Option (Sum (Unit) (Int))
 | 0,_=>none
 | k+1,s3=>
  cond (decide (s3 < 8)) (
   ae (idx a0.gA1.toList s3) λe4=>
   cond (decide (e4>=16)) (
    some (Sum.inr 5)) (
    iL N a0 k (I64 (s3+1)))) (
   some (Sum.inl (())))
def pY(N:Nat)(a0:aE):Option (Int):=
 ae (iA N a0.gC) λr1=>
 cond (r1==0) (
  some 12) (
  ae (iL N a0 N 0) λo=>nQ o (λp2=>
   aT (decide (a0.gA2 > a0.gTo)) λx5=>
   aT (cond x5 true (decide (a0.gR < 1))) λx6=>
   cond x6 (
    some 5) (
    ae (iA N a0.gC) λr7=>
    cond (decide (a0.gR > r7)) (
     some 9) (
     ae (oE N a0.gR) λr8=>
     cond (a0.gA0 != r8) (some 5) (some 0)))) (λr=>some r))
theorem aBd{N a0 r}(h:pY N a0=some r):FnM Tryz.prog 54 [] [(aE.enc a0)] (j64 r) []:=by
 unfold pY at h;refine At.f aCG hT hmo Tryz.func54 rfl h ?_;refine At.b 4 (λ_ e=>aM [] (uW e)) λr1=>?_;refine At.c 1 ?_ ?_
 ·apply rt;exact At.r 1
 ·refine At.LS 1 [1] 0 (λp2=>([],[],[])) (λop2 J k=>∃s3,iL N a0 k s3=some op2/\J [1] 0 [(3,(j64 s3))] [] []) N (λ_ h=>⟨_,h,jr⟩) (λop2 g2 k s hI=>?_) λp2=>?_
  ·obtain⟨s3,h,hj⟩:=hI;cases k with
   | zero=>cases h
   | succ k=>
    refine At.jr hj ?_ h;refine At.c 2 ?_ ?_
    ·refine At.b 2 (λ_ e=>bW hT (N:=8) (k:=1) k8 a0.gA1 e) λe4=>?_;refine At.c 2 ?_ ?_
     ·intro e;apply uQ g2 e;exact At.r 1
     ·exact λh=>At.k 3 ⟨_,h,jr⟩
    ·apply rt;exact At.xs 0
  ·refine lx ?_;intro x5;refine lx ?_;intro x6;refine At.c 10 ?_ ?_
   ·apply rt;exact At.r 1
   ·refine bi λr7 hr7=>?_;refine At.d 0 (dE2 4 (j64 r7) (λ_=>dM (uW hr7)) dE0) dF0 ?_;refine At.c 0 ?_ ?_
    ·apply rt;exact At.r 1
    ·refine bi λr8 hr8=>?_;refine At.d 0 (dE2 4 (j64 r8) (λ_=>dM (aAn hr8)) dE0) dF0 ?_;refine At.c 0 ?_ ?_
     ·apply rt;exact At.r 1
     ·apply rt;exact At.r 1
def jV(N:Nat)  : Nat->(List Int)->Int->Int->(Vector Int 8)->Int->Option ((List Int)×Int×Int×(Vector Int 8))
 | 0,_,_,_,_,_=>none
 | k+1,s7,s8,s9,s10,s11=>
  cond (decide (s11 < 8)) (
   ae (aF N 1 (aD.mk s7 s8 s9)) λr12=>
   ae (aW s11 8) λ_=>
   ae (s10.toList[s11.toNat]?) λe14=>
   jV N k r12.1 r12.2.1 r12.2.2.1 (s10.setIfInBounds s11.toNat (U8 r12.2.2.2)) (I64 (s11+1))) (
   some ((s7,s8,s9,s10)))
def oH(N:Nat)(a0:(List Int)):Option (aE×Int):=
 aT (decide (((a0.length:Int)) < 35)) λx1=>
 cond x1 (
  some ((aE.mk 0 0 0 (ah 8 0) 0 0 0 0,4))) (
  aT (decide (((a0.length:Int)) > 35)) λx2=>
  cond x2 (
   some ((aE.mk 0 0 0 (ah 8 0) 0 0 0 0,5))) (
   ae (aF N 8 (aD.mk a0 0 0)) λr3=>
   ae (aF N 1 (aD.mk r3.1 r3.2.1 r3.2.2.1)) λr4=>
   ae (aF N 4 (aD.mk r4.1 r4.2.1 r4.2.2.1)) λr5=>
   ae (jV N N r5.1 r5.2.1 r5.2.2.1 (ah 8 0) 0) λp6=>
   ae (aF N 4 (aD.mk p6.1 p6.2.1 p6.2.2.1)) λr15=>
   ae (aF N 4 (aD.mk r15.1 r15.2.1 r15.2.2.1)) λr16=>
   ae (aF N 4 (aD.mk r16.1 r16.2.1 r16.2.2.1)) λr17=>
   ae (aF N 2 (aD.mk r17.1 r17.2.1 r17.2.2.1)) λr18=>
   ae (pY N (aE.mk r3.2.2.2 (I64 r4.2.2.2) (U32 r5.2.2.2) p6.2.2.2 (U32 r15.2.2.2) (U32 r16.2.2.2) (I64 r17.2.2.2) (I64 r18.2.2.2))) λr19=>
   cond (r19 != 0) (
    some ((aE.mk 0 0 0 (ah 8 0) 0 0 0 0,r19))) (
    some ((aE.mk r3.2.2.2 (I64 r4.2.2.2) (U32 r5.2.2.2) p6.2.2.2 (U32 r15.2.2.2) (U32 r16.2.2.2) (I64 r17.2.2.2) (I64 r18.2.2.2),0)))))
theorem aAy{N a0 r}(h:oH N a0=some r):FnM Tryz.prog 34 [] [(eL 1 k8 a0)] (.tup [(aE.enc r.1),(j64 r.2)]) []:=by
 unfold oH at h;refine At.f eX hT hmo Tryz.func34 rfl h ?_;refine lx ?_;intro x1;refine At.c 5 ?_ ?_
 ·apply rt;exact At.r 3
 ·refine lx ?_;intro x2;refine At.c 3 ?_ ?_
  ·apply rt;exact At.r 3
  ·refine At.b 5 (λ_ e=>aM [1] (aQ e)) λr3=>?_;refine At.b 1 (λ_ e=>aM [1] (aQ e)) λr4=>?_;refine At.b 2 (λ_ e=>aM [1] (aQ e)) λr5=>?_;refine At.L 5 [2,4,5] 3 (λp6=>([],[(1,.var (.st 3 [(eL 1 k8 p6.1),(j64 p6.2.1),(j64 p6.2.2.1)])),(2,.var (.st 15 [(k64 r3.2.2.2),(j64 (I64 r4.2.2.2)),(k32 (U32 r5.2.2.2)),(eA 8 1 k8 p6.2.2.2),(k32 0),(k32 0),(j64 0),(j64 0)]))],[])) (λp6 J k=>∃s7 s8 s9 s10 s11,jV N k s7 s8 s9 s10 s11=some p6/\J [2,4,5] 3 [(6,(j64 s11))] [(1,.var (.st 3 [(eL 1 k8 s7),(j64 s8),(j64 s9)])),(2,.var (.st 15 [(k64 r3.2.2.2),(j64 (I64 r4.2.2.2)),(k32 (U32 r5.2.2.2)),(eA 8 1 k8 s10),(k32 0),(k32 0),(j64 0),(j64 0)]))] []) N (λ_ h=>⟨_,_,_,_,_,h,jr⟩) (λp6 k s hI=>?_) λp6=>?_
   ·obtain⟨s7,s8,s9,s10,s11,h,hj⟩:=hI;cases k with
    | zero=>cases h
    | succ k=>
     refine At.jr hj ?_ h;refine At.c 2 ?_ ?_
     ·refine At.b 2 (λ_ e=>aM [1] (aQ e)) λr12=>?_;refine At.b 2 (λ_ e=>aJ hT (k:=1) 2 [3] 3 e) λu13=>?_;refine At.b 0 (λ_ e=>bM hT k8 1 s10 e (U8 r12.2.2.2) (by kernel_rfl) (by kernel_rfl) (H':=[.var zG,.var (.st 3 [(eL 1 k8 r12.1),(j64 r12.2.1),(j64 r12.2.2.1)]),.var (.st 15 [(k64 r3.2.2.2),(j64 (I64 r4.2.2.2)),(k32 (U32 r5.2.2.2)),(eA 8 1 k8 (s10.setIfInBounds s11.toNat (U8 r12.2.2.2))),(k32 0),(k32 0),(j64 0),(j64 0)])])) λe14=>?_;exact λh=>At.k 3 ⟨_,_,_,_,_,h,jr⟩
     ·apply rt;exact At.x 0
   ·refine At.b 1 (λ_ e=>aM [1] (aQ e)) λr15=>?_;refine At.b 4 (λ_ e=>aM [1] (aQ e)) λr16=>?_;refine At.b 4 (λ_ e=>aM [1] (aQ e)) λr17=>?_;refine At.b 4 (λ_ e=>aM [1] (aQ e)) λr18=>?_;refine At.b 4 (λ_ e=>aM [] (aBd e)) λr19=>?_;refine At.c 3 ?_ ?_
    ·apply rt;exact At.r 4
    ·apply rt;exact At.r 3
def aC7 : Nat->Bool:=imL [2]
def nU(N:Nat)(a0:(Vector Int 32))(a1:(List Int)):Option (aE×Int):=
 aT (decide (((a1.length:Int)) < 63)) λx1=>
 cond x1 (
  some ((aE.mk 0 0 0 (ah 8 0) 0 0 0 0,4))) (
  ae (ae (idx a1 0) λe3=>
  cond (e3 != 85) (
   some true) (
   ae (idx a1 1) λe4=>
   cond (e4 != 77) (
    some true) (
    ae (idx a1 2) λe5=>
    cond (e5 != 66) (
     some true) (
     ae (idx a1 3) λe6=>
     some (e6 != 49))))) λp2=>
  cond p2 (
   some ((aE.mk 0 0 0 (ah 8 0) 0 0 0 0,5))) (
   ae (mA N a1) λr7=>
   ae (lC N r7 0) λr8=>
   ae (eD a1 0 47) λs9=>
   ae (eD a1 47 63) λs10=>
   ae (mD N a0 r8 s9 s10) λr11=>
   cond (r11.2 != 0) (
    some ((aE.mk 0 0 0 (ah 8 0) 0 0 0 0,6))) (
    ae (eD a1 12 47) λs12=>
    ae (oH N s12) λr13=>
    some ((r13.1,r13.2)))))
theorem xM{N a0 a1 r}(h:nU N a0 a1=some r):FnM Tryz.prog 13 [] [(eA 32 1 k8 a0),(eL 1 k8 a1)] (.tup [(aE.enc r.1),(j64 r.2)]) []:=by
 unfold nU at h;refine At.f aC7 hT hmo Tryz.func13 rfl h ?_;refine lx ?_;intro x1;refine At.c 6 ?_ ?_
 ·apply rt;exact At.r 3
 ·refine At.J 0 0 [1,2,4] 1 (λp2=>([(33,(eB p2))],[],[])) (λp2=>?_) λp2=>?_
  ·refine At.b 1 (λ_ e=>bB hT k8 e) λe3=>?_;refine At.s 16 3 ?_ ?_
   ·refine At.g [16,22,28] 17 ?_;apply rt;exact At.jn 0
   ·refine At.g [16] 1 ?_;refine At.b 0 (λ_ e=>bB hT k8 e) λe4=>?_;refine At.g [16] 4 ?_;refine At.s 22 0 ?_ ?_
    ·refine At.g [22,28] 11 ?_;apply rt;exact At.jn 0
    ·refine At.g [22] 1 ?_;refine At.b 0 (λ_ e=>bB hT k8 e) λe5=>?_;refine At.g [22] 4 ?_;refine At.s 28 0 ?_ ?_
     ·refine At.g [28] 5 ?_;apply rt;exact At.jn 0
     ·refine At.g [28] 1 ?_;refine At.b 0 (λ_ e=>bB hT k8 e) λe6=>?_;refine At.g [28] 3 ?_;apply rt;exact At.jn 0
  ·refine At.c 0 ?_ ?_
   ·apply rt;exact At.r 3
   ·refine bi λr7 hr7=>?_;refine bi λr8 hr8=>?_;refine bi λs9 hs9=>?_;refine bi λs10 hs10=>?_;refine bi λr11 hr11=>?_;refine At.d 0 (dE2 2 (eA 8 1 k8 r7) (λ_=>dM (xN hr7)) (dE2 3 (eA 12 1 k8 r8) (λ_=>dM (wR hr8)) (dE1 5 (λ_=>iQ hT (k:=1) k8 hs9) (dE1 7 (λ_=>iQ hT (k:=1) k8 hs10) (dE2 8 (.tup [(eL 1 k8 r11.1),(j64 r11.2)]) (λ_=>dM (xR hr11)) dE0))))) dF0 ?_;refine At.c 2 ?_ ?_
    ·apply rt;exact At.r 3
    ·refine At.b 1 (λ_ e=>iQ hT (k:=1) k8 e) λs12=>?_;refine At.b 0 (λ_ e=>aM [] (aAy e)) λr13=>?_;apply rt;exact At.r 4
def qG(N:Nat)(a0:Int):Option (aE×aI×Int):=
 some ((aE.mk 0 0 0 (ah 8 0) 0 0 0 0,aI.mk 0 (aK.mk [] [] []) (aH.mk 0 []) (aG.mk 0 (#v[0,0,0]) 0) (aL.mk 0 (#v[0,0,0]) (aB.mk 0 0 0) (aB.mk 0 0 0) (aB.mk 0 0 0)),a0))
theorem tG{N a0 r}(h:qG N a0=some r):FnM Tryz.prog 35 [] [(j64 a0)] (.tup [(aE.enc r.1),(aI.enc r.2.1),(j64 r.2.2)]) []:=by
 unfold qG at h;refine At.f eX hT hmo Tryz.func35 rfl h ?_;apply rt;exact At.r 9
def pW(N:Nat)(a1 e7:Int):Nat->(List Int)->Int->Option ((List Int))
 | 0,_,_=>none
 | k+1,s11,s12=>
  cond (decide (s12 < a1)) (
   ae (zX .u64 e7 (I64 (8*s12))) λx13=>
   ae (nR 1 s11 (([U8 x13]:List Int))) λz14=>
   pW N a1 e7 k z14 (I64 (s12+1))) (
   some s11)
def rH(N:Nat)(a2:(List Int))(a1:Int):Nat->(List Int)->Int->Option (Sum ((List Int)) ((List Int)×Int))
 | 0,_,_=>none
 | k+1,s4,s5=>
  aT (decide (s5 < ((a2.length:Int)))) λx6=>
  cond x6 (
   ae (idx a2 s5) λe7=>
   ae (cond (decide (a1 < 8)) (
    ae (zX .u64 e7 (I64 (8*a1))) λx9=>
    some (decide (x9 > 0))) (
    some false)) λp8=>
   cond p8 (
    some (Sum.inr (([],3)))) (
    ae (pW N a1 e7 N s4 0) λp10=>
    rH N a2 a1 k p10 (I64 (s5+1)))) (
   some (Sum.inl s4))
def cM(N:Nat)(a0:(List Int))(a1:Int)(a2:(List Int)):Option ((List Int)×Int):=
 aT (cond (decide (a1 < 1)) true (decide (a1 > 8))) λx1=>
 cond x1 (
  some (([],2))) (
  ae (hZ N a0) λr2=>
  ae (rH N a2 a1 N r2 0) λo=>nQ o (λp3=>
   some ((p3,0))) (λr=>some r))
theorem mB{N a0 a1 a2 r}(h:cM N a0 a1 a2=some r):FnM Tryz.prog 24 [] [(eL 1 k8 a0),(j64 a1),(eL 1 k64 a2)] (.tup [(eO 0 1 k8 r.1),(j64 r.2)]) [.tail (r.1.length*1)]:=by
 unfold cM at h;refine At.f eX hT hmo Tryz.func24 rfl h ?_;refine lx ?_;intro x1;refine At.c 8 ?_ ?_
 ·refine At.ownn 2 6 1 ?_;apply rt;exact At.r 0
 ·refine At.b 1 (λ_ e=>aM [] (tK e)) λr2=>?_;refine At.LS 4 [] 1 (λp3=>([(8,(eO 0 1 k8 p3))],[(0,.tail (p3.length*1))],[])) (λop3 J k=>∃s4 s5,rH N a2 a1 k s4 s5=some op3/\J [1,20,21] 1 [(8,(eO 0 1 k8 s4)),(22,(j64 s5))] [(0,.tail (s4.length*1))] []) N (λ_ h=>⟨_,_,h,jr⟩) (λop3 g3 k s hI=>?_) λp3=>?_
  ·obtain⟨s4,s5,h,hj⟩:=hI;cases k with
   | zero=>cases h
   | succ k=>
    refine At.jr hj ?_ h;refine lx ?_;intro x6;refine At.c 1 ?_ ?_
    ·refine At.b 0 (λ_ e=>bB hT k64 e) λe7=>?_;refine At.J 2 0 [1,8,10,20,21,22] 1 (λp8=>([(34,(eB p8))],[],[])) (λp8=>?_) λp8=>?_
     ·refine At.s 28 3 ?_ ?_
      ·refine At.g [28] 3 ?_;refine At.b 0 (λ_ e=>rE hT (k' := .i64) e (by kernel_rfl) (by kernel_rfl)) λx9=>?_;refine At.g [28] 2 ?_;apply rt;exact At.jn 0
      ·refine At.g [28] 6 ?_;apply rt;exact At.jn 0
     ·refine At.c 0 ?_ ?_
      ·refine At.ownn 2 6 1 ?_;refine At.sw 0 1 0 ?_;intro e;apply uQ g3 e;exact At.r 0
      ·refine At.L 2 [1,20,21,22] 1 (λp10=>([(8,(eO 0 1 k8 p10))],[(0,.tail (p10.length*1))],[])) (λp10 J k=>∃s11 s12,pW N a1 e7 k s11 s12=some p10/\J [1,10,20,21,22,35] 1 [(8,(eO 0 1 k8 s11)),(36,(j64 s12))] [(0,.tail (s11.length*1))] []) N (λ_ h=>⟨_,_,h,jr⟩) (λp10 k s hI=>?_) λp10=>?_
       ·obtain⟨s11,s12,h,hj⟩:=hI;cases k with
        | zero=>cases h
        | succ k=>
         refine At.jr hj ?_ h;refine At.c 1 ?_ ?_
         ·refine At.b 6 (λ_ e=>rE hT (k' := .i64) e (by kernel_rfl) (by kernel_rfl)) λx13=>?_;refine At.o 1 (bU hT (x:=(.sl 1 1 [(k8 (U8 x13))]))) ?_;refine At.b 0 (λ_ e=>dE hT k8 (id:=0) (k:=1) e) λz14=>?_;exact λh=>At.k 3 ⟨_,_,h,jr⟩
         ·apply rt;exact At.x 0
       ·exact λh=>At.k 2 ⟨_,_,h,jr⟩
    ·apply rt;exact At.xs 0
  ·apply rt;exact At.r 3
def aPn : Go.Shelf.Ren:=⟨λ | 4=>47 | n=>n,λ | 0=>0 | 3=>3 | 4=>4 | 9=>9 | 20=>20 | 22=>47 | 25=>5 | n=>n,λn=>n⟩
theorem aOv : Lays8.n4 Tryz.prog aPn:={ mixed:=by kernel_rfl,f4:=⟨Tryz.f47.name,by decide,Tryz.func47.trans (congrArg some (by kernel_rfl))⟩,t0:=Tryz.underlying0,a0:=Tryz.isAgg0,z0:=Tryz.sizeOf0,v0:=Tryz.zeroValue0,t3:=Tryz.underlying3,a3:=Tryz.isAgg3,z3:=Tryz.sizeOf3,v3:=Tryz.zeroValue3,t4:=Tryz.underlying4,a4:=Tryz.isAgg4,z4:=Tryz.sizeOf4,v4:=Tryz.zeroValue4,t9:=Tryz.underlying9,a9:=Tryz.isAgg9,z9:=Tryz.sizeOf9,v9:=Tryz.zeroValue9,t20:=Tryz.underlying20,a20:=Tryz.isAgg20,z20:=Tryz.sizeOf20,v20:=Tryz.zeroValue20,t22:=Tryz.underlying47,a22:=Tryz.isAgg47,z22:=Tryz.sizeOf47,v22:=Tryz.zeroValue47 }
theorem aPm{n:Int}{r:List Int}(h:aFl Int 1 n=some r):FnM Tryz.prog 47 [] [.v (.slice none 0 0),.v (.int .i64 n)] (eO 0 1 k8 r) [.tail (r.length*1)]:=
 aO3 (i0:=Tryz.t5) aOv rfl k8 (by kernel_rfl) rfl (by kernel_rfl) (by kernel_rfl) (by kernel_rfl) (by decide) h
theorem aMQ : tS Tryz.prog 47:=vA (show xH Tryz.prog 47=true by kernel_rfl)
def fY(N:Nat)(a0:(List (List Int))):Nat->Int->Int->Option (Int)
 | 0,_,_=>none
 | k+1,s2,s3=>
  aT (decide (s3 < ((a0.length:Int)))) λx4=>
  cond x4 (
   ae (idx a0 s3) λe5=>
   aT (I64 (s2+((e5.length:Int)))) λx6=>
   cond (decide (x6 < 0)) (none) (fY N a0 k x6 (I64 (s3+1)))) (
   some s2)
def eC(N:Nat)(a0:(List (List Int))):Nat->(List Int)->Int->Option ((List Int))
 | 0,_,_=>none
 | k+1,s9,s10=>
  aT (decide (s10 < ((a0.length:Int)))) λx11=>
  cond x11 (
   ae (idx a0 s10) λe12=>
   ae (nR 1 s9 e12) λz13=>
   eC N a0 k z13 (I64 (s10+1))) (
   some s9)
def cL(N:Nat)(a0:(List (List Int))):Option ((List Int)):=
 ae (fY N a0 N 0 0) λp1=>
 ae (aFl Int 1 p1) λr7=>
 ae (eC N a0 N r7 0) λp8=>
 some p8
theorem mL{N a0 r}(h:cL N a0=some r):FnM Tryz.prog 21 [] [(eL 1 (eL 1 k8) a0)] (eO 0 1 k8 r) [.tail (r.length*1)]:=by
 unfold cL at h;refine At.f eX hT hmo Tryz.func21 rfl h ?_;refine At.L 5 [0] 0 (λp1=>([(3,(j64 p1))],[],[])) (λp1 J k=>∃s2 s3,fY N a0 k s2 s3=some p1/\J [0,9,10] 0 [(3,(j64 s2)),(11,(j64 s3))] [] []) N (λ_ h=>⟨_,_,h,jr⟩) (λp1 k s hI=>?_) λp1=>?_
 ·obtain⟨s2,s3,h,hj⟩:=hI;cases k with
  | zero=>cases h
  | succ k=>
   refine At.jr hj ?_ h;refine lx ?_;intro x4;refine At.c 1 ?_ ?_
   ·refine At.b 0 (λ_ e=>bB hT (eL 1 k8) e) λe5=>?_;refine lx ?_;intro x6;refine At.c 9 ?_ ?_
    ·exact nn
    ·exact λh=>At.k 2 ⟨_,_,h,jr⟩
   ·apply rt;exact At.x 0
 ·refine At.b 1 (λ_ e=>aFG [] (aPm e) aMQ) λr7=>?_;refine At.L 4 [] 1 (λp8=>([(6,(eO 0 1 k8 p8))],[(0,.tail (p8.length*1))],[])) (λp8 J k=>∃s9 s10,eC N a0 k s9 s10=some p8/\J [25,26] 1 [(6,(eO 0 1 k8 s9)),(27,(j64 s10))] [(0,.tail (s9.length*1))] []) N (λ_ h=>⟨_,_,h,jr⟩) (λp8 k s hI=>?_) λp8=>?_
  ·obtain⟨s9,s10,h,hj⟩:=hI;cases k with
   | zero=>cases h
   | succ k=>
    refine At.jr hj ?_ h;refine lx ?_;intro x11;refine At.c 1 ?_ ?_
    ·refine At.b 0 (λ_ e=>bB hT (eL 1 k8) e) λe12=>?_;refine At.b 4 (λ_ e=>dE hT k8 (id:=0) (k:=1) e) λz13=>?_;exact λh=>At.k 3 ⟨_,_,h,jr⟩
    ·apply rt;exact At.x 0
  ·apply rt;exact At.r 2
def aAi : Nat->Bool:=imL [6,7]
def iN(N:Nat)(a0:(Vector Int 32))(a1:(Vector Int 12))(a2:(List Int))(a3 a4:Int)(a5:aA):Option ((List Int)×Int×Bool×(List Int)×Int):=
 ae (bD N 4 a5) λr1=>
 aT (decide (((r1.2.2.length:Int)) < 4)) λx2=>
 cond x2 (
  some ((r1.1,r1.2.1,a5.gA,[],4))) (
  ae (cM N [] 2 ([U64 a3,U64 a4])) λr3=>
  ae (sB N r1.2.2 r3.1) λr4=>
  cond (!r4) (
   some ((r1.1,r1.2.1,a5.gA,[],7))) (
   ae (bD N (I64 (a4+16)) (aA.mk r1.1 r1.2.1 a5.gA)) λr5=>
   ae (lK N (aA.mk r5.1 r5.2.1 ((aA.mk r1.1 r1.2.1 a5.gA).gA))) λr6=>
   cond (r6 != 0) (
    ae (lK N (aA.mk r5.1 r5.2.1 ((aA.mk r1.1 r1.2.1 a5.gA).gA))) λr7=>
    some ((r5.1,r5.2.1,(aA.mk r1.1 r1.2.1 a5.gA).gA,[],r7))) (
    ae (cL N ([r1.2.2,a2])) λr8=>
    ae (iZ N a0 a1 r8 r5.2.2) λr9=>
    some ((r5.1,r5.2.1,(aA.mk r1.1 r1.2.1 a5.gA).gA,r9.1,r9.2)))))
theorem aAJ{N a0 a1 a2 a3 a4 a5 r}(h:iN N a0 a1 a2 a3 a4 a5=some r):FnM Tryz.prog 37 [.var (aA.enc a5)] [(eA 32 1 k8 a0),(eA 12 1 k8 a1),(.ref 0 [] 0),(eL 1 k8 a2),(j64 a3),(j64 a4)] (.tup [(eL 1 k8 r.2.2.2.1),(j64 r.2.2.2.2)]) [.var (.st 3 [(eL 1 k8 r.1),(j64 r.2.1),(eB r.2.2.1)])]:=by
 unfold iN at h;refine At.f aAi hT hmo Tryz.func37 rfl h ?_;refine At.b 5 (λ_ e=>aM [0] (lG e)) λr1=>?_;refine lx ?_;intro x2;refine At.c 4 ?_ ?_
 ·apply rt;exact At.r 2
 ·refine At.o 4 (bU hT (x:=(.sl 1 2 [(k64 (U64 a3)),(k64 (U64 a4))]))) ?_;refine At.b 0 (λ_ e=>aM [] (mB e)) λr3=>?_;refine At.b 7 (λ_ e=>aM [] (aBA e)) λr4=>?_;refine At.c 1 ?_ ?_
  ·apply rt;exact At.r 2
  ·refine At.b 3 (λ_ e=>aM [0] (lG e)) λr5=>?_;refine At.b 2 (λ_ e=>aM [0] (sE e)) λr6=>?_;refine At.c 1 ?_ ?_
   ·refine At.b 1 (λ_ e=>aM [0] (sE e)) λr7=>?_;apply rt;exact At.r 2
   ·refine bi λr8 hr8=>?_;refine bi λr9 hr9=>?_;refine At.d 0 (dE1 4 (λ_=>bU hT (x:=(.sl 1 2 [(eL 1 k8 r1.2.2),(eL 1 k8 a2)]))) (dE2 7 (.tup [(eL 1 k8 r9.1),(j64 r9.2)]) (λ_=>dM (aCo hr9)) dE0)) (dF 5 (eO 2 1 k8 r8) [] [.tail (r8.length*1)] (bP (aM [] (mL hr8))) dF0) ?_;apply rt;exact At.r 0
def qB(N:Nat)(a0:aA):Option (Int):=
 ae (kK N a0) λr1=>
 aT (cond r1 true (a0.ge != 0)) λx2=>
 cond x2 (some 0) (some ((a0.gb.length:Int)))
theorem aAI{N a0 r}(h:qB N a0=some r):FnM Tryz.prog 38 [.var (aA.enc a0)] [(.ref 0 [] 0)] (j64 r) [.var (aA.enc a0)]:=by
 unfold qB at h;refine At.f eX hT hmo Tryz.func38 rfl h ?_;refine At.b 2 (λ_ e=>aM [0] (rS e)) λr1=>?_;refine lx ?_;intro x2;refine At.c 7 ?_ ?_
 ·apply rt;exact At.r 1
 ·apply rt;exact At.r 6
def aS(N:Nat)(a0:Int)(a1:aA):Option ((List Int)×Int×Int):=
 ae (bI N a0 a1) λr1=>
 some ((r1.1,r1.2.1,I64 r1.2.2))
theorem dY{N a0 a1 r}(h:aS N a0 a1=some r):FnM Tryz.prog 105 [.var (aA.enc a1)] [(.st 1 [(.ref 0 [] 0)]),(j64 a0)] (j64 r.2.2) [.var (.st 3 [(eL 1 k8 r.1),(j64 r.2.1),(eB a1.gA)])]:=by
 unfold aS at h;refine At.f eX hT hmo Tryz.func105 rfl h ?_;refine At.b 5 (λ_ e=>aM [0] (cF e)) λr1=>?_;apply rt;exact At.r 2
def bX(N:Nat)(a0:Int)(a1:aA):Option ((List Int)×Int×Int):=
 ae (bI N a0 a1) λr1=>
 aT (cond (decide (a0 < 1)) true (decide (a0 > 8))) λx2=>
 cond x2 (
  some ((r1.1,r1.2.1,0))) (
  aT (I64 (64 - (I64 (8*a0)))) λx3=>
  ae (aEx .i64 (I64 r1.2.2) x3) λx4=>
  aT (I64 (64 - (I64 (8*a0)))) λx5=>
  ae (zX .i64 x4 x5) λx6=>
  some ((r1.1,r1.2.1,x6)))
theorem jR{N a0 a1 r}(h:bX N a0 a1=some r):FnM Tryz.prog 109 [.var (aA.enc a1)] [(.ref 0 [] 0),(j64 a0)] (j64 r.2.2) [.var (.st 3 [(eL 1 k8 r.1),(j64 r.2.1),(eB a1.gA)])]:=by
 unfold bX at h;refine At.f eX hT hmo Tryz.func109 rfl h ?_;refine At.b 3 (λ_ e=>aM [0] (cF e)) λr1=>?_;refine lx ?_;intro x2;refine At.c 7 ?_ ?_
 ·apply rt;exact At.r 1
 ·refine lx ?_;intro x3;refine At.b 5 (λ_ e=>xC hT (k' := .i64) e (by kernel_rfl) (by kernel_rfl)) λx4=>?_;refine lx ?_;intro x5;refine At.b 3 (λ_ e=>rE hT (k' := .i64) e (by kernel_rfl) (by kernel_rfl)) λx6=>?_;apply rt;exact At.r 1
def eN(N:Nat)(a0:aA):Option ((List Int)×Int×Bool×aB):=
 ae (bX N 2 a0) λr1=>
 ae (bX N 2 (aA.mk r1.1 r1.2.1 a0.gA)) λr2=>
 ae (bX N 2 (aA.mk r2.1 r2.2.1 ((aA.mk r1.1 r1.2.1 a0.gA).gA))) λr3=>
 some ((r3.1,r3.2.1,(aA.mk r2.1 r2.2.1 ((aA.mk r1.1 r1.2.1 a0.gA).gA)).gA,aB.mk r1.2.2 r2.2.2 r3.2.2))
theorem yC{N a0 r}(h:eN N a0=some r):FnM Tryz.prog 106 [.var (aA.enc a0)] [(.st 1 [(.ref 0 [] 0)])] (aB.enc r.2.2.2) [.var (.st 3 [(eL 1 k8 r.1),(j64 r.2.1),(eB r.2.2.1)])]:=by
 unfold eN at h;refine At.f eX hT hmo Tryz.func106 rfl h ?_;refine bi λr1 hr1=>?_;refine bi λr2 hr2=>?_;refine bi λr3 hr3=>?_;refine At.d 2 dE0 (dF 2 (j64 r1.2.2) [(0,.var (.st 3 [(eL 1 k8 r1.1),(j64 r1.2.1),(eB a0.gA)]))] [] (bP (aM [0] (jR hr1))) (dF 5 (j64 r2.2.2) [(0,.var (.st 3 [(eL 1 k8 r2.1),(j64 r2.2.1),(eB ((aA.mk r1.1 r1.2.1 a0.gA).gA))]))] [] (bP (aM [0] (jR hr2))) (dF 8 (j64 r3.2.2) [(0,.var (.st 3 [(eL 1 k8 r3.1),(j64 r3.2.1),(eB ((aA.mk r2.1 r2.2.1 ((aA.mk r1.1 r1.2.1 a0.gA).gA)).gA))]))] [] (bP (aM [0] (jR hr3))) dF0))) ?_;apply rt;exact At.r 0
def aFj : Nat->Bool:=imL [1]
def pG(N:Nat)(a0:aB):Option (Bool):=
 ae (aT (decide ((tQ (tQ a0.gX a0.gY) a0.gZ) > 4096)) λx2=>
 cond x2 (
  some true) (
  aT (decide ((mU (mU a0.gX a0.gY) a0.gZ) < (-4096))) λx3=>
  some x3)) λp1=>
 some p1
theorem aEy{N a0 r}(h:pG N a0=some r):FnM Tryz.prog 129 [] [(aB.enc a0)] (eB r) []:=by
 unfold pG at h;refine At.f aFj hT hmo Tryz.func129 rfl h ?_;refine At.J 2 0 [] 0 (λp1=>([(2,(eB p1))],[],[])) (λp1=>?_) λp1=>?_
 ·refine At.o 6 (aC5 (k := .i64) (i:=a0.gX) (j:=a0.gY) (l:=a0.gZ) (by kernel_rfl) (by kernel_rfl)) ?_;refine lx ?_;intro x2;refine At.s 11 2 ?_ ?_
  ·refine At.g [11] 10 ?_;apply rt;exact At.jn 0
  ·refine At.g [11] 6 ?_;refine At.o 0 (aC1 (k := .i64) (i:=a0.gX) (j:=a0.gY) (l:=a0.gZ) (by kernel_rfl) (by kernel_rfl)) ?_;refine lx ?_;intro x3;refine At.g [11] 3 ?_;apply rt;exact At.jn 0
 ·apply rt;exact At.r 0
def aX(N:Nat)(a0:(List aB)):Nat->Int->Option (Sum (Unit) (Int))
 | 0,_=>none
 | k+1,s2=>
  aT (decide (s2 < ((a0.length:Int)))) λx3=>
  cond x3 (
   ae (idx a0 s2) λe4=>
   ae (pG N e4) λr5=>
   cond r5 (
    some (Sum.inr s2)) (
    aX N a0 k (I64 (s2+1)))) (
   some (Sum.inl (())))
def bZ(N:Nat)(a0:(List aB)):Option (Int):=
 ae (aX N a0 N 0) λo=>nQ o (λp1=>
  some (-1)) (λr=>some r)
theorem qQ{N a0 r}(h:bZ N a0=some r):FnM Tryz.prog 148 [] [(eL 3 aB.enc a0),(.fn (.func 129) [] [])] (j64 r) []:=by
 unfold bZ at h;refine At.f eX hT hmo Tryz.func148 rfl h ?_;refine At.LS 4 [] 0 (λp1=>([],[],[])) (λop1 J k=>∃s2,aX N a0 k s2=some op1/\J [0,1,7] 0 [(8,(j64 s2))] [] []) N (λ_ h=>⟨_,h,jr⟩) (λop1 g1 k s hI=>?_) λp1=>?_
 ·obtain⟨s2,h,hj⟩:=hI;cases k with
  | zero=>cases h
  | succ k=>
   refine At.jr hj ?_ h;refine lx ?_;intro x3;refine At.c 1 ?_ ?_
   ·refine At.b 5 (λ_ e=>bB hT aB.enc e) λe4=>?_;refine At.b 1 (λ_ e=>aM [] (aEy e)) λr5=>?_;refine At.c 0 ?_ ?_
    ·intro e;apply uQ g1 e;exact At.r 2
    ·exact λh=>At.k 2 ⟨_,h,jr⟩
   ·apply rt;exact At.xs 0
 ·apply rt;exact At.r 1
def bV(N:Nat)(a0:(List aB)):Option (Bool):=
 ae (bZ N a0) λr1=>
 some (decide (r1>=0))
theorem pS{N a0 r}(h:bV N a0=some r):FnM Tryz.prog 132 [] [(eL 3 aB.enc a0),(.fn (.func 129) [] [])] (eB r) []:=by
 unfold bV at h;refine At.f eX hT hmo Tryz.func132 rfl h ?_;refine At.b 3 (λ_ e=>aM [] (qQ e)) λr1=>?_;apply rt;exact At.r 2
def aFS : Nat->Bool:=imL [1]
def pP(N:Nat)(a0:(Vector Int 2)):Option (Bool):=
 ae (ae (idx a0.toList 0) λe2=>
 ae (idx a0.toList 1) λe3=>
 aT (decide ((mU e2 e3) < 0)) λx4=>
 cond x4 (
  some true) (
  ae (idx a0.toList 0) λe5=>
  ae (idx a0.toList 1) λe6=>
  aT (decide ((tQ e5 e6) > 65535)) λx7=>
  some x7)) λp1=>
 some p1
theorem aEp{N a0 r}(h:pP N a0=some r):FnM Tryz.prog 130 [] [(eA 2 1 j64 a0)] (eB r) []:=by
 unfold pP at h;refine At.f aFS hT hmo Tryz.func130 rfl h ?_;refine At.J 2 0 [] 0 (λp1=>([(2,(eB p1))],[],[])) (λp1=>?_) λp1=>?_
 ·refine At.b 0 (λ_ e=>bW hT (N:=2) (k:=1) j64 a0 e) λe2=>?_;refine At.b 1 (λ_ e=>bW hT (N:=2) (k:=1) j64 a0 e) λe3=>?_;refine lx ?_;intro x4;refine At.s 9 4 ?_ ?_
  ·refine At.g [9] 8 ?_;apply rt;exact At.jn 0
  ·refine At.b 0 (λ_ e=>bW hT (N:=2) (k:=1) j64 a0 e) λe5=>?_;refine At.g [9] 1 ?_;refine At.b 0 (λ_ e=>bW hT (N:=2) (k:=1) j64 a0 e) λe6=>?_;refine lx ?_;intro x7;refine At.g [9] 5 ?_;apply rt;exact At.jn 0
 ·apply rt;exact At.r 0
def bF(N:Nat)(a0:(List (Vector Int 2))):Nat->Int->Option (Sum (Unit) (Int))
 | 0,_=>none
 | k+1,s2=>
  aT (decide (s2 < ((a0.length:Int)))) λx3=>
  cond x3 (
   ae (idx a0 s2) λe4=>
   ae (pP N e4) λr5=>
   cond r5 (
    some (Sum.inr s2)) (
    bF N a0 k (I64 (s2+1)))) (
   some (Sum.inl (())))
def cS(N:Nat)(a0:(List (Vector Int 2))):Option (Int):=
 ae (bF N a0 N 0) λo=>nQ o (λp1=>
  some (-1)) (λr=>some r)
theorem sO{N a0 r}(h:cS N a0=some r):FnM Tryz.prog 149 [] [(eL 2 (eA 2 1 j64) a0),(.fn (.func 130) [] [])] (j64 r) []:=by
 unfold cS at h;refine At.f eX hT hmo Tryz.func149 rfl h ?_;refine At.LS 4 [] 0 (λp1=>([],[],[])) (λop1 J k=>∃s2,bF N a0 k s2=some op1/\J [0,1,7] 0 [(8,(j64 s2))] [] []) N (λ_ h=>⟨_,h,jr⟩) (λop1 g1 k s hI=>?_) λp1=>?_
 ·obtain⟨s2,h,hj⟩:=hI;cases k with
  | zero=>cases h
  | succ k=>
   refine At.jr hj ?_ h;refine lx ?_;intro x3;refine At.c 1 ?_ ?_
   ·refine At.b 5 (λ_ e=>bB hT (eA 2 1 j64) e) λe4=>?_;refine At.b 1 (λ_ e=>aM [] (aEp e)) λr5=>?_;refine At.c 0 ?_ ?_
    ·intro e;apply uQ g1 e;exact At.r 2
    ·exact λh=>At.k 2 ⟨_,h,jr⟩
   ·apply rt;exact At.xs 0
 ·apply rt;exact At.r 1
def cI(N:Nat)(a0:(List (Vector Int 2))):Option (Bool):=
 ae (cS N a0) λr1=>
 some (decide (r1>=0))
theorem rW{N a0 r}(h:cI N a0=some r):FnM Tryz.prog 133 [] [(eL 2 (eA 2 1 j64) a0),(.fn (.func 130) [] [])] (eB r) []:=by
 unfold cI at h;refine At.f eX hT hmo Tryz.func133 rfl h ?_;refine At.b 3 (λ_ e=>aM [] (sO e)) λr1=>?_;apply rt;exact At.r 2
def aCy : Nat->Bool:=imL [2]
def mF(N:Nat)(a0:(Vector Int 3))(a1:aK):Option (Bool):=
 ae (ae (idx a0.toList 0) λe2=>
 ae (idx a0.toList 1) λe3=>
 ae (idx a0.toList 2) λe4=>
 aT (decide ((mU (mU e2 e3) e4) < 0)) λx5=>
 cond x5 (
  some true) (
  ae (idx a0.toList 0) λe6=>
  ae (idx a0.toList 1) λe7=>
  ae (idx a0.toList 2) λe8=>
  aT ((a1.gG.length:Int)) λx9=>
  aT (decide ((tQ (tQ e6 e7) e8)>=x9)) λx10=>
  cond x10 (
   some true) (
   ae (idx a0.toList 0) λe11=>
   ae (idx a0.toList 1) λe12=>
   cond (e11==e12) (
    some true) (
    ae (idx a0.toList 1) λe13=>
    ae (idx a0.toList 2) λe14=>
    cond (e13==e14) (
     some true) (
     ae (idx a0.toList 2) λe15=>
     ae (idx a0.toList 0) λe16=>
     some (e15==e16)))))) λp1=>
 some p1
theorem aCX{N a0 a1 r}(h:mF N a0 a1=some r):FnM Tryz.prog 131 [] [(eA 3 1 j64 a0),(.im (aK.enc a1))] (eB r) []:=by
 unfold mF at h;refine At.f aCy hT hmo Tryz.func131 rfl h ?_;refine At.J 2 0 [] 0 (λp1=>([(3,(eB p1))],[],[])) (λp1=>?_) λp1=>?_
 ·refine At.b 0 (λ_ e=>bW hT (N:=3) (k:=1) j64 a0 e) λe2=>?_;refine At.b 1 (λ_ e=>bW hT (N:=3) (k:=1) j64 a0 e) λe3=>?_;refine At.b 1 (λ_ e=>bW hT (N:=3) (k:=1) j64 a0 e) λe4=>?_;refine At.o 1 (aC1 (k := .i64) (i:=e2) (j:=e3) (l:=e4) (by kernel_rfl) (by kernel_rfl)) ?_;refine lx ?_;intro x5;refine At.s 12 2 ?_ ?_
  ·refine At.g [12,25,32,39] 34 ?_;apply rt;exact At.jn 0
  ·refine At.b 0 (λ_ e=>bW hT (N:=3) (k:=1) j64 a0 e) λe6=>?_;refine At.g [12] 1 ?_;refine At.b 0 (λ_ e=>bW hT (N:=3) (k:=1) j64 a0 e) λe7=>?_;refine At.g [12] 1 ?_;refine At.b 0 (λ_ e=>bW hT (N:=3) (k:=1) j64 a0 e) λe8=>?_;refine At.g [12] 1 ?_;refine At.o 0 (aC5 (k := .i64) (i:=e6) (j:=e7) (l:=e8) (by kernel_rfl) (by kernel_rfl)) ?_;refine lx ?_;intro x9;refine lx ?_;intro x10;refine At.g [12] 6 ?_;refine At.s 25 0 ?_ ?_
   ·refine At.g [25,32,39] 21 ?_;apply rt;exact At.jn 0
   ·refine At.b 0 (λ_ e=>bW hT (N:=3) (k:=1) j64 a0 e) λe11=>?_;refine At.g [25] 1 ?_;refine At.b 0 (λ_ e=>bW hT (N:=3) (k:=1) j64 a0 e) λe12=>?_;refine At.g [25] 4 ?_;refine At.s 32 0 ?_ ?_
    ·refine At.g [32,39] 14 ?_;apply rt;exact At.jn 0
    ·refine At.b 0 (λ_ e=>bW hT (N:=3) (k:=1) j64 a0 e) λe13=>?_;refine At.g [32] 1 ?_;refine At.b 0 (λ_ e=>bW hT (N:=3) (k:=1) j64 a0 e) λe14=>?_;refine At.g [32] 4 ?_;refine At.s 39 0 ?_ ?_
     ·refine At.g [39] 7 ?_;apply rt;exact At.jn 0
     ·refine At.b 0 (λ_ e=>bW hT (N:=3) (k:=1) j64 a0 e) λe15=>?_;refine At.g [39] 1 ?_;refine At.b 0 (λ_ e=>bW hT (N:=3) (k:=1) j64 a0 e) λe16=>?_;refine At.g [39] 4 ?_;apply rt;exact At.jn 0
 ·apply rt;exact At.r 0
def bG(N:Nat)(a0:(List (Vector Int 3)))(a1:aK):Nat->Int->Option (Sum (Unit) (Int))
 | 0,_=>none
 | k+1,s2=>
  aT (decide (s2 < ((a0.length:Int)))) λx3=>
  cond x3 (
   ae (idx a0 s2) λe4=>
   ae (mF N e4 a1) λr5=>
   cond r5 (
    some (Sum.inr s2)) (
    bG N a0 a1 k (I64 (s2+1)))) (
   some (Sum.inl (())))
def cR(N:Nat)(a0:(List (Vector Int 3)))(a1:aK):Option (Int):=
 ae (bG N a0 a1 N 0) λo=>nQ o (λp1=>
  some (-1)) (λr=>some r)
theorem sP{N a0 a1 r}(h:cR N a0 a1=some r):FnM Tryz.prog 150 [] [(eL 3 (eA 3 1 j64) a0),(.fn (.func 131) [] [(.im (aK.enc a1))])] (j64 r) []:=by
 unfold cR at h;refine At.f eX hT hmo Tryz.func150 rfl h ?_;refine At.LS 4 [] 0 (λp1=>([],[],[])) (λop1 J k=>∃s2,bG N a0 a1 k s2=some op1/\J [0,1,7] 0 [(8,(j64 s2))] [] []) N (λ_ h=>⟨_,h,jr⟩) (λop1 g1 k s hI=>?_) λp1=>?_
 ·obtain⟨s2,h,hj⟩:=hI;cases k with
  | zero=>cases h
  | succ k=>
   refine At.jr hj ?_ h;refine lx ?_;intro x3;refine At.c 1 ?_ ?_
   ·refine At.b 5 (λ_ e=>bB hT (eA 3 1 j64) e) λe4=>?_;refine At.b 1 (λ_ e=>aM [] (aCX e)) λr5=>?_;refine At.c 0 ?_ ?_
    ·intro e;apply uQ g1 e;exact At.r 2
    ·exact λh=>At.k 2 ⟨_,h,jr⟩
   ·apply rt;exact At.xs 0
 ·apply rt;exact At.r 1
def cJ(N:Nat)(a0:(List (Vector Int 3)))(a1:aK):Option (Bool):=
 ae (cR N a0 a1) λr1=>
 some (decide (r1>=0))
theorem rX{N a0 a1 r}(h:cJ N a0 a1=some r):FnM Tryz.prog 134 [] [(eL 3 (eA 3 1 j64) a0),(.fn (.func 131) [] [(.im (aK.enc a1))])] (eB r) []:=by
 unfold cJ at h;refine At.f eX hT hmo Tryz.func134 rfl h ?_;refine At.b 3 (λ_ e=>aM [] (sP e)) λr1=>?_;apply rt;exact At.r 2
def aIb : Nat->Bool:=imL [1]
def fV(N:Nat)(a0:aK):Option (Int):=
 aT ((a0.gG.length:Int)) λx1=>
 aT ((a0.gJ.length:Int)) λx2=>
 aT (cond (decide (x1 > 64)) true (decide (x2 > 64))) λx3=>
 cond x3 (
  some 3) (
  aT ((a0.gG.length:Int)) λx4=>
  aT ((a0.gJ.length:Int)) λx5=>
  aT (cond (x4==0) true (x5==0)) λx6=>
  aT ((a0.gG.length:Int)) λx7=>
  aT (((a0.gL.length:Int)) != x7) λx8=>
  cond (cond x6 true x8) (
   some 5) (
   ae (bV N a0.gG) λr9=>
   cond r9 (
    some 8) (
    ae (ae (cI N a0.gL) λr11=>
    cond r11 (
     some true) (
     ae (cJ N a0.gJ a0) λr12=>
     some r12)) λp10=>
    cond p10 (some 5) (some 0))))
theorem zC{N a0 r}(h:fV N a0=some r):FnM Tryz.prog 107 [] [(aK.enc a0)] (j64 r) []:=by
 unfold fV at h;refine At.f aIb hT hmo Tryz.func107 rfl h ?_;refine At.o 4 (aIX (x:=(.fn (.func 131) [] [(.im (aK.enc a0))])) (by kernel_rfl) (by kernel_rfl)) ?_;refine lx ?_;intro x1;refine lx ?_;intro x2;refine lx ?_;intro x3;refine At.c 12 ?_ ?_
 ·apply rt;exact At.r 1
 ·refine lx ?_;intro x4;refine lx ?_;intro x5;refine lx ?_;intro x6;refine lx ?_;intro x7;refine lx ?_;intro x8;refine At.c 20 ?_ ?_
  ·apply rt;exact At.r 1
  ·refine At.b 3 (λ_ e=>aM [] (pS e)) λr9=>?_;refine At.c 1 ?_ ?_
   ·apply rt;exact At.r 1
   ·refine At.J 0 0 [] 0 (λp10=>([(43,(eB p10))],[],[])) (λp10=>?_) λp10=>?_
    ·refine At.b 3 (λ_ e=>aM [] (rW e)) λr11=>?_;refine At.s 48 1 ?_ ?_
     ·refine At.g [48] 6 ?_;apply rt;exact At.jn 0
     ·refine At.g [48] 3 ?_;refine At.b 0 (λ_ e=>aM [] (rX e)) λr12=>?_;refine At.g [48] 2 ?_;apply rt;exact At.jn 0
    ·refine At.c 0 ?_ ?_
     ·apply rt;exact At.r 1
     ·apply rt;exact At.r 1
def iB(N:Nat)(r2:(List Int)×Int×Int):Nat->(List aB)->(List Int)->Int->Bool->Int->Option ((List aB)×(List Int)×Int×Bool)
 | 0,_,_,_,_,_=>none
 | k+1,s5,s6,s7,s8,s9=>
  cond (decide (s9 < r2.2.2)) (
   ae (eN N (aA.mk s6 s7 s8)) λr10=>
   ae (nR 24 s5 (([r10.2.2.2]:List aB))) λz11=>
   iB N r2 k z11 r10.1 r10.2.1 r10.2.2.1 (I64 (s9+1))) (
   some ((s5,s6,s7,s8)))
def hU(N:Nat)(r2:(List Int)×Int×Int):Nat->(List (Vector Int 2))->(List Int)->Int->Bool->Int->Option ((List (Vector Int 2))×(List Int)×Int×Bool)
 | 0,_,_,_,_,_=>none
 | k+1,s13,s14,s15,s16,s17=>
  cond (decide (s17 < r2.2.2)) (
   ae (aS N 2 (aA.mk s14 s15 s16)) λr18=>
   ae (aS N 2 (aA.mk r18.1 r18.2.1 ((aA.mk s14 s15 s16).gA))) λr19=>
   ae (nR 16 s13 (([#v[r18.2.2,r19.2.2]]:List (Vector Int 2)))) λz20=>
   hU N r2 k z20 r19.1 r19.2.1 ((aA.mk r18.1 r18.2.1 ((aA.mk s14 s15 s16).gA)).gA) (I64 (s17+1))) (
   some ((s13,s14,s15,s16)))
def hP(N:Nat)(r3:(List Int)×Int×Int):Nat->(List (Vector Int 3))->(List Int)->Int->Bool->Int->Option ((List (Vector Int 3))×(List Int)×Int×Bool)
 | 0,_,_,_,_,_=>none
 | k+1,s22,s23,s24,s25,s26=>
  cond (decide (s26 < r3.2.2)) (
   ae (aS N 1 (aA.mk s23 s24 s25)) λr27=>
   ae (aS N 1 (aA.mk r27.1 r27.2.1 ((aA.mk s23 s24 s25).gA))) λr28=>
   ae (aS N 1 (aA.mk r28.1 r28.2.1 ((aA.mk r27.1 r27.2.1 ((aA.mk s23 s24 s25).gA)).gA))) λr29=>
   ae (nR 24 s22 (([#v[r27.2.2,r28.2.2,r29.2.2]]:List (Vector Int 3)))) λz30=>
   hP N r3 k z30 r29.1 r29.2.1 ((aA.mk r28.1 r28.2.1 ((aA.mk r27.1 r27.2.1 ((aA.mk s23 s24 s25).gA)).gA)).gA) (I64 (s26+1))) (
   some ((s22,s23,s24,s25)))
def rC(N:Nat)(a0:(List Int)):Option (aK×Int):=
 ae (qV N a0) λr1=>
 ae (aS N 1 (aA.mk r1 0 true)) λr2=>
 ae (aS N 1 (aA.mk r2.1 r2.2.1 ((aA.mk r1 0 true).gA))) λr3=>
 ae (iB N r2 N [] r3.1 r3.2.1 ((aA.mk r2.1 r2.2.1 ((aA.mk r1 0 true).gA)).gA) 0) λp4=>
 ae (hU N r2 N [] p4.2.1 p4.2.2.1 p4.2.2.2 0) λp12=>
 ae (hP N r3 N [] p12.2.1 p12.2.2.1 p12.2.2.2 0) λp21=>
 ae (cT N (aA.mk p21.2.1 p21.2.2.1 p21.2.2.2)) λr31=>
 cond (r31 != 0) (
  some ((aK.mk [] [] [],r31))) (
  ae (fV N (aK.mk p4.1 p12.1 p21.1)) λr32=>
  cond (r32 != 0) (
   some ((aK.mk [] [] [],r32))) (
   some ((aK.mk p4.1 p12.1 p21.1,0))))
theorem aGE{N a0 r}(h:rC N a0=some r):FnM Tryz.prog 67 [] [(eL 1 k8 a0)] (.tup [(aK.enc r.1),(j64 r.2)]) []:=by
 unfold rC at h;refine At.f eX hT hmo Tryz.func67 rfl h ?_;refine At.b 3 (λ_ e=>aM [] (vC e)) λr1=>?_;refine bi λr2 hr2=>?_;refine bi λr3 hr3=>?_;refine At.d 3 dE0 (dF 1 (j64 r2.2.2) [(2,.var (.st 3 [(eL 1 k8 r2.1),(j64 r2.2.1),(eB ((aA.mk r1 0 true).gA))]))] [] (bP (aM [2] (dY hr2))) (dF 3 (j64 r3.2.2) [(2,.var (.st 3 [(eL 1 k8 r3.1),(j64 r3.2.1),(eB ((aA.mk r2.1 r2.2.1 ((aA.mk r1 0 true).gA)).gA))]))] [] (bP (aM [2] (dY hr3))) dF0)) ?_;refine At.ownb 3 4 3 [0] ?_;refine At.L 0 [2,4,5,6,7] 6 (λp4=>([],[(2,.var (.st 3 [(eL 1 k8 p4.2.1),(j64 p4.2.2.1),(eB p4.2.2.2)])),(4,.var (.st 3 [(eO 5 3 aB.enc p4.1),(.v (.slice none 0 0)),(.v (.slice none 0 0))])),(5,.tail (p4.1.length*3))],[])) (λp4 J k=>∃s5 s6 s7 s8 s9,iB N r2 k s5 s6 s7 s8 s9=some p4/\J [2,4,5,6,7,17] 6 [(18,(j64 s9))] [(2,.var (.st 3 [(eL 1 k8 s6),(j64 s7),(eB s8)])),(4,.var (.st 3 [(eO 5 3 aB.enc s5),(.v (.slice none 0 0)),(.v (.slice none 0 0))])),(5,.tail (s5.length*3))] []) N (λ_ h=>⟨_,_,_,_,_,h,jr⟩) (λp4 k s hI=>?_) λp4=>?_
 ·obtain⟨s5,s6,s7,s8,s9,h,hj⟩:=hI;cases k with
  | zero=>cases h
  | succ k=>
   refine At.jr hj ?_ h;refine At.c 1 ?_ ?_
   ·refine bi λr10 hr10=>?_;refine bi λz11 hz11=>?_;refine At.d 0 (dE1 4 (λ_=>bU hT (x:=(.sl 3 1 [(aB.enc r10.2.2.2)]))) dE0) (dF 3 (aB.enc r10.2.2.2) [(2,.var (.st 3 [(eL 1 k8 r10.1),(j64 r10.2.1),(eB r10.2.2.1)]))] [] (bP (aM [2] (yC hr10))) (dF 5 (eO 5 3 aB.enc z11) [(5,.tail (z11.length*3))] [] (bP (dE hT aB.enc (id:=5) (k:=3) hz11)) dF0)) ?_;exact λh=>At.k 2 ⟨_,_,_,_,_,h,jr⟩
   ·apply rt;exact At.x 0
 ·refine At.ownb 2 4 2 [1] ?_;refine At.L 0 [2,4,6,7] 7 (λp12=>([],[(2,.var (.st 3 [(eL 1 k8 p12.2.1),(j64 p12.2.2.1),(eB p12.2.2.2)])),(4,.var (.st 3 [(eO 5 3 aB.enc p4.1),(eO 6 2 (eA 2 1 j64) p12.1),(.v (.slice none 0 0))])),(6,.tail (p12.1.length*2))],[])) (λp12 J k=>∃s13 s14 s15 s16 s17,hU N r2 k s13 s14 s15 s16 s17=some p12/\J [2,4,6,7,28] 7 [(29,(j64 s17))] [(2,.var (.st 3 [(eL 1 k8 s14),(j64 s15),(eB s16)])),(4,.var (.st 3 [(eO 5 3 aB.enc p4.1),(eO 6 2 (eA 2 1 j64) s13),(.v (.slice none 0 0))])),(6,.tail (s13.length*2))] []) N (λ_ h=>⟨_,_,_,_,_,h,jr⟩) (λp12 k s hI=>?_) λp12=>?_
  ·obtain⟨s13,s14,s15,s16,s17,h,hj⟩:=hI;cases k with
   | zero=>cases h
   | succ k=>
    refine At.jr hj ?_ h;refine At.c 1 ?_ ?_
    ·refine bi λr18 hr18=>?_;refine bi λr19 hr19=>?_;refine bi λz20 hz20=>?_;refine At.d 0 (dE1 7 (λ_=>bU hT (x:=(.sl 2 1 [(.arr 2 1 [(j64 r18.2.2),(j64 r19.2.2)])]))) dE0) (dF 3 (j64 r18.2.2) [(2,.var (.st 3 [(eL 1 k8 r18.1),(j64 r18.2.1),(eB ((aA.mk s14 s15 s16).gA))]))] [] (bP (aM [2] (dY hr18))) (dF 5 (j64 r19.2.2) [(2,.var (.st 3 [(eL 1 k8 r19.1),(j64 r19.2.1),(eB ((aA.mk r18.1 r18.2.1 ((aA.mk s14 s15 s16).gA)).gA))]))] [] (bP (aM [2] (dY hr19))) (dF 8 (eO 6 2 (eA 2 1 j64) z20) [(6,.tail (z20.length*2))] [] (bP (dE hT (eA 2 1 j64) (id:=6) (k:=2) hz20)) dF0))) ?_;exact λh=>At.k 2 ⟨_,_,_,_,_,h,jr⟩
    ·apply rt;exact At.x 0
  ·refine At.ownb 2 4 3 [2] ?_;refine At.L 0 [2,4,7] 8 (λp21=>([],[(2,.var (.st 3 [(eL 1 k8 p21.2.1),(j64 p21.2.2.1),(eB p21.2.2.2)])),(4,.var (.st 3 [(eO 5 3 aB.enc p4.1),(eO 6 2 (eA 2 1 j64) p12.1),(eO 7 3 (eA 3 1 j64) p21.1)])),(7,.tail (p21.1.length*3))],[])) (λp21 J k=>∃s22 s23 s24 s25 s26,hP N r3 k s22 s23 s24 s25 s26=some p21/\J [2,4,7,42] 8 [(43,(j64 s26))] [(2,.var (.st 3 [(eL 1 k8 s23),(j64 s24),(eB s25)])),(4,.var (.st 3 [(eO 5 3 aB.enc p4.1),(eO 6 2 (eA 2 1 j64) p12.1),(eO 7 3 (eA 3 1 j64) s22)])),(7,.tail (s22.length*3))] []) N (λ_ h=>⟨_,_,_,_,_,h,jr⟩) (λp21 k s hI=>?_) λp21=>?_
   ·obtain⟨s22,s23,s24,s25,s26,h,hj⟩:=hI;cases k with
    | zero=>cases h
    | succ k=>
     refine At.jr hj ?_ h;refine At.c 1 ?_ ?_
     ·refine bi λr27 hr27=>?_;refine bi λr28 hr28=>?_;refine bi λr29 hr29=>?_;refine bi λz30 hz30=>?_;refine At.d 0 (dE1 9 (λ_=>bU hT (x:=(.sl 3 1 [(.arr 3 1 [(j64 r27.2.2),(j64 r28.2.2),(j64 r29.2.2)])]))) dE0) (dF 3 (j64 r27.2.2) [(2,.var (.st 3 [(eL 1 k8 r27.1),(j64 r27.2.1),(eB ((aA.mk s23 s24 s25).gA))]))] [] (bP (aM [2] (dY hr27))) (dF 5 (j64 r28.2.2) [(2,.var (.st 3 [(eL 1 k8 r28.1),(j64 r28.2.1),(eB ((aA.mk r27.1 r27.2.1 ((aA.mk s23 s24 s25).gA)).gA))]))] [] (bP (aM [2] (dY hr28))) (dF 7 (j64 r29.2.2) [(2,.var (.st 3 [(eL 1 k8 r29.1),(j64 r29.2.1),(eB ((aA.mk r28.1 r28.2.1 ((aA.mk r27.1 r27.2.1 ((aA.mk s23 s24 s25).gA)).gA)).gA))]))] [] (bP (aM [2] (dY hr29))) (dF 10 (eO 7 3 (eA 3 1 j64) z30) [(7,.tail (z30.length*3))] [] (bP (dE hT (eA 3 1 j64) (id:=7) (k:=3) hz30)) dF0)))) ?_;exact λh=>At.k 2 ⟨_,_,_,_,_,h,jr⟩
     ·apply rt;exact At.x 0
   ·refine At.b 2 (λ_ e=>aM [2] (mY e)) λr31=>?_;refine At.c 3 ?_ ?_
    ·apply rt;exact At.r 4
    ·refine At.b 1 (λ_ e=>aM [] (zC e)) λr32=>?_;refine At.c 3 ?_ ?_
     ·apply rt;exact At.r 4
     ·apply rt;exact At.r 3
def dC(N:Nat)(a0:(List Int))(a1:Int):Nat->Int->Option (Sum (Unit) (Int))
 | 0,_=>none
 | k+1,s2=>
  aT (decide (s2 < ((a0.length:Int)))) λx3=>
  cond x3 (
   ae (idx a0 s2) λe4=>
   cond (a1==e4) (
    some (Sum.inr s2)) (
    dC N a0 a1 k (I64 (s2+1)))) (
   some (Sum.inl (())))
def mH(N:Nat)(a0:(List Int))(a1:Int):Option (Int):=
 ae (dC N a0 a1 N 0) λo=>nQ o (λp1=>
  some (-1)) (λr=>some r)
theorem zD{N a0 a1 r}(h:mH N a0 a1=some r):FnM Tryz.prog 151 [] [(eL 1 j64 a0),(j64 a1)] (j64 r) []:=by
 unfold mH at h;refine At.f eX hT hmo Tryz.func151 rfl h ?_;refine At.LS 4 [] 0 (λp1=>([],[],[])) (λop1 J k=>∃s2,dC N a0 a1 k s2=some op1/\J [0,1,7] 0 [(8,(j64 s2))] [] []) N (λ_ h=>⟨_,h,jr⟩) (λop1 g1 k s hI=>?_) λp1=>?_
 ·obtain⟨s2,h,hj⟩:=hI;cases k with
  | zero=>cases h
  | succ k=>
   refine At.jr hj ?_ h;refine lx ?_;intro x3;refine At.c 1 ?_ ?_
   ·refine At.b 5 (λ_ e=>bB hT j64 e) λe4=>?_;refine At.c 2 ?_ ?_
    ·intro e;apply uQ g1 e;exact At.r 2
    ·exact λh=>At.k 2 ⟨_,h,jr⟩
   ·apply rt;exact At.xs 0
 ·apply rt;exact At.r 1
def fN(N:Nat)(a0:(List Int))(a1:Int):Option (Bool):=
 ae (mH N a0 a1) λr1=>
 some (decide (r1>=0))
theorem xO{N a0 a1 r}(h:fN N a0 a1=some r):FnM Tryz.prog 135 [] [(eL 1 j64 a0),(j64 a1)] (eB r) []:=by
 unfold fN at h;refine At.f eX hT hmo Tryz.func135 rfl h ?_;refine At.b 3 (λ_ e=>aM [] (zD e)) λr1=>?_;apply rt;exact At.r 2
def aEo : Nat->Bool:=imL [1]
def jF(N:Nat)(x5:Int)(a0:aH):Nat->Int->Option (Sum (Unit) (Int))
 | 0,_=>none
 | k+1,s7=>
  cond (decide (s7 < x5)) (
   ae (idx a0.gK s7) λe8=>
   ae (ae (aW 0 3) λ_=>
   ae (e8.toList[(af 0)]?) λe11=>
   ae (aW 1 3) λ_=>
   ae (e8.toList[(af 1)]?) λe13=>
   ae (aW 2 3) λ_=>
   ae (e8.toList[(af 2)]?) λe15=>
   aT (decide ((mU (mU e11 e13) e15) < 0)) λx16=>
   cond x16 (
    some true) (
    ae (aW 0 3) λ_=>
    ae (e8.toList[(af 0)]?) λe18=>
    ae (aW 1 3) λ_=>
    ae (e8.toList[(af 1)]?) λe20=>
    ae (aW 2 3) λ_=>
    ae (e8.toList[(af 2)]?) λe22=>
    aT (decide ((tQ (tQ e18 e20) e22) > 255)) λx23=>
    some x23)) λp9=>
   cond p9 (some (Sum.inr 5)) (jF N x5 a0 k (I64 (s7+1)))) (
   some (Sum.inl (())))
def cE(N:Nat)(a0:aH):Option (Int):=
 ae (fN N ([1,2,4,8,16]) a0.gM) λr1=>
 aT ((a0.gK.length:Int)) λx2=>
 aT (I64 (a0.gM*a0.gM)) λx3=>
 aT (cond (!r1) true (x2 != x3)) λx4=>
 cond x4 (
  some 5) (
  aT ((a0.gK.length:Int)) λx5=>
  ae (jF N x5 a0 N 0) λo=>nQ o (λp6=>
   some 0) (λr=>some r))
theorem vK{N a0 r}(h:cE N a0=some r):FnM Tryz.prog 108 [] [(aH.enc a0)] (j64 r) []:=by
 unfold cE at h;refine At.f aEo hT hmo Tryz.func108 rfl h ?_;refine At.o 2 (bU hT (x:=(.sl 1 5 [(j64 1),(j64 2),(j64 4),(j64 8),(j64 16)]))) ?_;refine At.b 2 (λ_ e=>aM [] (xO e)) λr1=>?_;refine lx ?_;intro x2;refine lx ?_;intro x3;refine lx ?_;intro x4;refine At.c 12 ?_ ?_
 ·apply rt;exact At.r 1
 ·refine lx ?_;intro x5;refine At.LS 4 [] 0 (λp6=>([],[],[])) (λop6 J k=>∃s7,jF N x5 a0 k s7=some op6/\J [22,23] 0 [(24,(j64 s7))] [] []) N (λ_ h=>⟨_,h,jr⟩) (λop6 g6 k s hI=>?_) λp6=>?_
  ·obtain⟨s7,h,hj⟩:=hI;cases k with
   | zero=>cases h
   | succ k=>
    refine At.jr hj ?_ h;refine At.c 1 ?_ ?_
    ·refine At.b 0 (λ_ e=>bB hT (eA 3 1 j64) e) λe8=>?_;refine At.J 3 0 [22,23,24] 1 (λp9=>([(45,(eB p9))],[],[])) (λp9=>?_) λp9=>?_
     ·refine At.b 0 (λ_ e=>aJ hT (k:=1) 0 [] 0 e) λu10=>?_;refine At.b 0 (λ_ e=>bH hT j64 0 e) λe11=>?_;refine At.b 0 (λ_ e=>aJ hT (k:=1) 0 [] 0 e) λu12=>?_;refine At.b 0 (λ_ e=>bH hT j64 0 e) λe13=>?_;refine At.b 0 (λ_ e=>aJ hT (k:=1) 0 [] 0 e) λu14=>?_;refine At.b 0 (λ_ e=>bH hT j64 0 e) λe15=>?_;refine At.o 0 (aC1 (k := .i64) (i:=e11) (j:=e13) (l:=e15) (by kernel_rfl) (by kernel_rfl)) ?_;refine lx ?_;intro x16;refine At.s 36 2 ?_ ?_
      ·refine At.g [36] 9 ?_;apply rt;exact At.jn 0
      ·refine At.b 0 (λ_ e=>aJ hT (k:=1) 0 [] 0 e) λu17=>?_;refine At.b 0 (λ_ e=>bH hT j64 0 e) λe18=>?_;refine At.b 0 (λ_ e=>aJ hT (k:=1) 0 [] 0 e) λu19=>?_;refine At.b 0 (λ_ e=>bH hT j64 0 e) λe20=>?_;refine At.b 0 (λ_ e=>aJ hT (k:=1) 0 [] 0 e) λu21=>?_;refine At.b 0 (λ_ e=>bH hT j64 0 e) λe22=>?_;refine At.o 0 (aC5 (k := .i64) (i:=e18) (j:=e20) (l:=e22) (by kernel_rfl) (by kernel_rfl)) ?_;refine lx ?_;intro x23;refine At.g [36] 2 ?_;apply rt;exact At.jn 0
     ·refine At.c 0 ?_ ?_
      ·intro e;apply uQ g6 e;exact At.r 1
      ·exact λh=>At.k 2 ⟨_,h,jr⟩
    ·apply rt;exact At.xs 0
  ·apply rt;exact At.r 1
def cG(N:Nat)(x3:Int):Nat->(List (Vector Int 3))->(List Int)->Int->Bool->Int->Option ((List (Vector Int 3))×(List Int)×Int×Bool)
 | 0,_,_,_,_,_=>none
 | k+1,s5,s6,s7,s8,s9=>
  cond (decide (s9 < x3)) (
   ae (bD N 3 (aA.mk s6 s7 s8)) λr10=>
   aT (decide (((r10.2.2.length:Int)) < 3)) λx11=>
   cond x11 (
    some ((s5,r10.1,r10.2.1,(aA.mk s6 s7 s8).gA))) (
    ae (idx r10.2.2 0) λe12=>
    ae (idx r10.2.2 1) λe13=>
    ae (idx r10.2.2 2) λe14=>
    ae (nR 24 s5 (([#v[I64 e12,I64 e13,I64 e14]]:List (Vector Int 3)))) λz15=>
    cG N x3 k z15 r10.1 r10.2.1 ((aA.mk s6 s7 s8).gA) (I64 (s9+1)))) (
   some ((s5,s6,s7,s8)))
def nF(N:Nat)(a0:(List Int)):Option (aH×Int):=
 ae (qV N a0) λr1=>
 ae (bI N 1 (aA.mk r1 0 true)) λr2=>
 aT (I64 ((I64 r2.2.2)*(I64 r2.2.2))) λx3=>
 ae (cG N x3 N [] r2.1 r2.2.1 ((aA.mk r1 0 true).gA) 0) λp4=>
 ae (cT N (aA.mk p4.2.1 p4.2.2.1 p4.2.2.2)) λr16=>
 cond (r16 != 0) (
  some ((aH.mk 0 [],r16))) (
  ae (cE N (aH.mk (I64 r2.2.2) p4.1)) λr17=>
  cond (r17 != 0) (
   some ((aH.mk 0 [],r17))) (
   some ((aH.mk (I64 r2.2.2) p4.1,0))))
theorem aDZ{N a0 r}(h:nF N a0=some r):FnM Tryz.prog 68 [] [(eL 1 k8 a0)] (.tup [(aH.enc r.1),(j64 r.2)]) []:=by
 unfold nF at h;refine At.f eX hT hmo Tryz.func68 rfl h ?_;refine At.b 3 (λ_ e=>aM [] (vC e)) λr1=>?_;refine At.b 2 (λ_ e=>aM [2] (cF e)) λr2=>?_;refine lx ?_;intro x3;refine At.ownb 10 3 3 [1] ?_;refine At.L 0 [2,4,5] 5 (λp4=>([],[(2,.var (.st 3 [(eL 1 k8 p4.2.1),(j64 p4.2.2.1),(eB p4.2.2.2)])),(3,.var (.st 2 [(j64 (I64 r2.2.2)),(eO 4 3 (eA 3 1 j64) p4.1)])),(4,.tail (p4.1.length*3))],[])) (λp4 J k=>∃s5 s6 s7 s8 s9,cG N x3 k s5 s6 s7 s8 s9=some p4/\J [2,4,5,19] 5 [(20,(j64 s9))] [(2,.var (.st 3 [(eL 1 k8 s6),(j64 s7),(eB s8)])),(3,.var (.st 2 [(j64 (I64 r2.2.2)),(eO 4 3 (eA 3 1 j64) s5)])),(4,.tail (s5.length*3))] []) N (λ_ h=>⟨_,_,_,_,_,h,jr⟩) (λp4 k s hI=>?_) λp4=>?_
 ·obtain⟨s5,s6,s7,s8,s9,h,hj⟩:=hI;cases k with
  | zero=>cases h
  | succ k=>
   refine At.jr hj ?_ h;refine At.c 1 ?_ ?_
   ·refine At.b 1 (λ_ e=>aM [2] (lG e)) λr10=>?_;refine lx ?_;intro x11;refine At.c 4 ?_ ?_
    ·apply rt;exact At.x 0
    ·refine bi λe12 he12=>?_;refine bi λe13 he13=>?_;refine bi λe14 he14=>?_;refine bi λz15 hz15=>?_;refine At.d 0 (dE1 3 (λ_=>bB hT k8 he12) (dE1 7 (λ_=>bB hT k8 he13) (dE1 11 (λ_=>bB hT k8 he14) (dE1 15 (λ_=>bU hT (x:=(.sl 3 1 [(.arr 3 1 [(j64 (I64 e12)),(j64 (I64 e13)),(j64 (I64 e14))])]))) dE0)))) (dF 16 (eO 4 3 (eA 3 1 j64) z15) [(4,.tail (z15.length*3))] [] (bP (dE hT (eA 3 1 j64) (id:=4) (k:=3) hz15)) dF0) ?_;exact λh=>At.k 2 ⟨_,_,_,_,_,h,jr⟩
   ·apply rt;exact At.x 0
 ·refine At.b 1 (λ_ e=>aM [2] (mY e)) λr16=>?_;refine At.c 3 ?_ ?_
  ·apply rt;exact At.r 4
  ·refine At.b 1 (λ_ e=>aM [] (vK e)) λr17=>?_;refine At.c 3 ?_ ?_
   ·apply rt;exact At.r 4
   ·apply rt;exact At.r 3
def aV(N:Nat)(a0:Int)(a1:aA):Option ((List Int)×Int×Int):=
 ae (bI N a0 a1) λr1=>
 some ((r1.1,r1.2.1,I64 r1.2.2))
theorem fA{N a0 a1 r}(h:aV N a0 a1=some r):FnM Tryz.prog 69 [.var (aA.enc a1)] [(.st 1 [(.ref 0 [] 0)]),(j64 a0)] (j64 r.2.2) [.var (.st 3 [(eL 1 k8 r.1),(j64 r.2.1),(eB a1.gA)])]:=by
 unfold aV at h;refine At.f eX hT hmo Tryz.func69 rfl h ?_;refine At.b 5 (λ_ e=>aM [0] (cF e)) λr1=>?_;apply rt;exact At.r 2
def bR(N:Nat)(a0:Int)(a1:aA):Option ((List Int)×Int×Bool×(Vector Int 3)):=
 ae (aV N a0 a1) λr1=>
 ae (aV N a0 (aA.mk r1.1 r1.2.1 a1.gA)) λr2=>
 ae (aV N a0 (aA.mk r2.1 r2.2.1 ((aA.mk r1.1 r1.2.1 a1.gA).gA))) λr3=>
 some ((r3.1,r3.2.1,(aA.mk r2.1 r2.2.1 ((aA.mk r1.1 r1.2.1 a1.gA).gA)).gA,#v[r1.2.2,r2.2.2,r3.2.2]))
theorem sL{N a0 a1 r}(h:bR N a0 a1=some r):FnM Tryz.prog 70 [.var (aA.enc a1)] [(.st 1 [(.ref 0 [] 0)]),(j64 a0)] (eA 3 1 j64 r.2.2.2) [.var (.st 3 [(eL 1 k8 r.1),(j64 r.2.1),(eB r.2.2.1)])]:=by
 unfold bR at h;refine At.f eX hT hmo Tryz.func70 rfl h ?_;refine bi λr1 hr1=>?_;refine bi λr2 hr2=>?_;refine bi λr3 hr3=>?_;refine At.d 2 dE0 (dF 2 (j64 r1.2.2) [(0,.var (.st 3 [(eL 1 k8 r1.1),(j64 r1.2.1),(eB a1.gA)]))] [] (bP (aM [0] (fA hr1))) (dF 5 (j64 r2.2.2) [(0,.var (.st 3 [(eL 1 k8 r2.1),(j64 r2.2.1),(eB ((aA.mk r1.1 r1.2.1 a1.gA).gA))]))] [] (bP (aM [0] (fA hr2))) (dF 8 (j64 r3.2.2) [(0,.var (.st 3 [(eL 1 k8 r3.1),(j64 r3.2.1),(eB ((aA.mk r2.1 r2.2.1 ((aA.mk r1.1 r1.2.1 a1.gA).gA)).gA))]))] [] (bP (aM [0] (fA hr3))) dF0))) ?_;apply rt;exact At.r 0
def cK(N:Nat)(a0:aA):Option ((List Int)×Int×Bool×aB):=
 ae (bX N 2 a0) λr1=>
 ae (bX N 2 (aA.mk r1.1 r1.2.1 a0.gA)) λr2=>
 ae (bX N 2 (aA.mk r2.1 r2.2.1 ((aA.mk r1.1 r1.2.1 a0.gA).gA))) λr3=>
 some ((r3.1,r3.2.1,(aA.mk r2.1 r2.2.1 ((aA.mk r1.1 r1.2.1 a0.gA).gA)).gA,aB.mk r1.2.2 r2.2.2 r3.2.2))
theorem pZ{N a0 r}(h:cK N a0=some r):FnM Tryz.prog 71 [.var (aA.enc a0)] [(.st 1 [(.ref 0 [] 0)])] (aB.enc r.2.2.2) [.var (.st 3 [(eL 1 k8 r.1),(j64 r.2.1),(eB r.2.2.1)])]:=by
 unfold cK at h;refine At.f eX hT hmo Tryz.func71 rfl h ?_;refine bi λr1 hr1=>?_;refine bi λr2 hr2=>?_;refine bi λr3 hr3=>?_;refine At.d 2 dE0 (dF 2 (j64 r1.2.2) [(0,.var (.st 3 [(eL 1 k8 r1.1),(j64 r1.2.1),(eB a0.gA)]))] [] (bP (aM [0] (jR hr1))) (dF 5 (j64 r2.2.2) [(0,.var (.st 3 [(eL 1 k8 r2.1),(j64 r2.2.1),(eB ((aA.mk r1.1 r1.2.1 a0.gA).gA))]))] [] (bP (aM [0] (jR hr2))) (dF 8 (j64 r3.2.2) [(0,.var (.st 3 [(eL 1 k8 r3.1),(j64 r3.2.1),(eB ((aA.mk r2.1 r2.2.1 ((aA.mk r1.1 r1.2.1 a0.gA).gA)).gA))]))] [] (bP (aM [0] (jR hr3))) dF0))) ?_;apply rt;exact At.r 0
def qZ(N:Nat)(a0 a1:Int):Option (Bool):=
 aT (cond (decide (a0 < 0)) true (decide (a0 > a1))) λx1=>
 some x1
theorem aAe{N a0 a1 r}(h:qZ N a0 a1=some r):FnM Tryz.prog 153 [] [(j64 a0),(.im (j64 a1))] (eB r) []:=by
 unfold qZ at h;refine At.f eX hT hmo Tryz.func153 rfl h ?_;refine lx ?_;intro x1;apply rt;exact At.r 9
def bL(N:Nat)(a0:(List Int))(a1:Int):Nat->Int->Option (Sum (Unit) (Int))
 | 0,_=>none
 | k+1,s2=>
  aT (decide (s2 < ((a0.length:Int)))) λx3=>
  cond x3 (
   ae (idx a0 s2) λe4=>
   ae (qZ N e4 a1) λr5=>
   cond r5 (
    some (Sum.inr s2)) (
    bL N a0 a1 k (I64 (s2+1)))) (
   some (Sum.inl (())))
def dH(N:Nat)(a0:(List Int))(a1:Int):Option (Int):=
 ae (bL N a0 a1 N 0) λo=>nQ o (λp1=>
  some (-1)) (λr=>some r)
theorem tJ{N a0 a1 r}(h:dH N a0 a1=some r):FnM Tryz.prog 161 [] [(eL 1 j64 a0),(.fn (.func 153) [] [(.im (j64 a1))])] (j64 r) []:=by
 unfold dH at h;refine At.f eX hT hmo Tryz.func161 rfl h ?_;refine At.LS 4 [] 0 (λp1=>([],[],[])) (λop1 J k=>∃s2,bL N a0 a1 k s2=some op1/\J [0,1,7] 0 [(8,(j64 s2))] [] []) N (λ_ h=>⟨_,h,jr⟩) (λop1 g1 k s hI=>?_) λp1=>?_
 ·obtain⟨s2,h,hj⟩:=hI;cases k with
  | zero=>cases h
  | succ k=>
   refine At.jr hj ?_ h;refine lx ?_;intro x3;refine At.c 1 ?_ ?_
   ·refine At.b 5 (λ_ e=>bB hT j64 e) λe4=>?_;refine At.b 1 (λ_ e=>aM [] (aAe e)) λr5=>?_;refine At.c 0 ?_ ?_
    ·intro e;apply uQ g1 e;exact At.r 2
    ·exact λh=>At.k 2 ⟨_,h,jr⟩
   ·apply rt;exact At.xs 0
 ·apply rt;exact At.r 1
def cO(N:Nat)(a0:(List Int))(a1:Int):Option (Bool):=
 ae (dH N a0 a1) λr1=>
 some (decide (r1>=0))
theorem sF{N a0 a1 r}(h:cO N a0 a1=some r):FnM Tryz.prog 152 [] [(eL 1 j64 a0),(.fn (.func 153) [] [(.im (j64 a1))])] (eB r) []:=by
 unfold cO at h;refine At.f eX hT hmo Tryz.func152 rfl h ?_;refine At.b 3 (λ_ e=>aM [] (tJ e)) λr1=>?_;apply rt;exact At.r 2
def aEl : Nat->Bool:=imL [2]
def jH(N:Nat)(a0:Int)(a1:(List Int)):Option (Bool):=
 ae (cO N a1 a0) λr1=>
 some r1
theorem tD{N a0 a1 r}(h:jH N a0 a1=some r):FnM Tryz.prog 136 [] [(j64 a0),(eL 1 j64 a1)] (eB r) []:=by
 unfold jH at h;refine At.f aEl hT hmo Tryz.func136 rfl h ?_;refine At.o 3 (aIX (x:=(.fn (.func 153) [] [(.im (j64 a0))])) (by kernel_rfl) (by kernel_rfl)) ?_;refine At.b 0 (λ_ e=>aM [] (sF e)) λr1=>?_;apply rt;exact At.r 1
def aEB : Nat->Bool:=imL [1]
def nH(N:Nat)(a0:aG):Option (Int):=
 ae (ae (jH N 4 ([a0.gC])) λr2=>
 cond r2 (
  some true) (
  ae (idx a0.gF.toList 0) λe3=>
  ae (idx a0.gF.toList 1) λe4=>
  ae (idx a0.gF.toList 2) λe5=>
  ae (jH N 65535 ([e3,e4,e5,a0.gW])) λr6=>
  some r6)) λp1=>
 cond p1 (some 5) (some 0)
theorem aCm{N a0 r}(h:nH N a0=some r):FnM Tryz.prog 111 [] [(aG.enc a0)] (j64 r) []:=by
 unfold nH at h;refine At.f aEB hT hmo Tryz.func111 rfl h ?_;refine At.J 2 0 [] 0 (λp1=>([(21,(eB p1))],[],[])) (λp1=>?_) λp1=>?_
 ·refine At.o 2 (bU hT (x:=(.sl 1 1 [(j64 a0.gC)]))) ?_;refine At.b 0 (λ_ e=>aM [] (tD e)) λr2=>?_;refine At.s 7 1 ?_ ?_
  ·refine At.g [7] 14 ?_;apply rt;exact At.jn 0
  ·refine At.g [7] 1 ?_;refine At.b 0 (λ_ e=>bW hT (N:=3) (k:=1) j64 a0.gF e) λe3=>?_;refine At.g [7] 2 ?_;refine At.b 0 (λ_ e=>bW hT (N:=3) (k:=1) j64 a0.gF e) λe4=>?_;refine At.g [7] 2 ?_;refine At.b 0 (λ_ e=>bW hT (N:=3) (k:=1) j64 a0.gF e) λe5=>?_;refine At.g [7] 3 ?_;refine At.o 0 (bU hT (x:=(.sl 1 4 [(j64 e3),(j64 e4),(j64 e5),(j64 a0.gW)]))) ?_;refine At.b 0 (λ_ e=>aM [] (tD e)) λr6=>?_;refine At.g [7] 1 ?_;apply rt;exact At.jn 0
 ·refine At.c 0 ?_ ?_
  ·apply rt;exact At.r 1
  ·apply rt;exact At.r 1
def aEr : Nat->Bool:=imL [1]
def oC(N:Nat)(a0:aB):Option (Bool):=
 ae (aT (decide ((tQ (tQ a0.gX a0.gY) a0.gZ) > 4096)) λx2=>
 cond x2 (
  some true) (
  aT (decide ((mU (mU a0.gX a0.gY) a0.gZ) < (-4096))) λx3=>
  some x3)) λp1=>
 some p1
theorem vJ{N a0 r}(h:oC N a0=some r):FnM Tryz.prog 137 [] [(aB.enc a0)] (eB r) []:=by
 unfold oC at h;refine At.f aEr hT hmo Tryz.func137 rfl h ?_;refine At.J 2 0 [] 0 (λp1=>([(2,(eB p1))],[],[])) (λp1=>?_) λp1=>?_
 ·refine At.o 6 (aC5 (k := .i64) (i:=a0.gX) (j:=a0.gY) (l:=a0.gZ) (by kernel_rfl) (by kernel_rfl)) ?_;refine lx ?_;intro x2;refine At.s 11 2 ?_ ?_
  ·refine At.g [11] 10 ?_;apply rt;exact At.jn 0
  ·refine At.g [11] 6 ?_;refine At.o 0 (aC1 (k := .i64) (i:=a0.gX) (j:=a0.gY) (l:=a0.gZ) (by kernel_rfl) (by kernel_rfl)) ?_;refine lx ?_;intro x3;refine At.g [11] 3 ?_;apply rt;exact At.jn 0
 ·apply rt;exact At.r 0
def aGm : Nat->Bool:=imL [1]
def rB(N:Nat)(a0:aL):Option (Int):=
 ae (ae (jH N 2 ([a0.gC])) λr2=>
 cond r2 (
  some true) (
  ae (eD a0.gF.toList 0 3) λs3=>
  ae (jH N 1048576 s3) λr4=>
  some r4)) λp1=>
 cond p1 (
  some 5) (
  ae (ae (oC N a0.gAt) λr6=>
  cond r6 (
   some true) (
   ae (oC N a0.gU) λr7=>
   cond r7 (
    some true) (
    ae (oC N a0.gV) λr8=>
    some r8))) λp5=>
  cond p5 (
   some 8) (
   ae (cond (a0.gC==2) (
    cond (!(aB.eq a0.gAt (aB.mk 0 0 0))) (
     some (Sum.inr 5)) (
     ae (aT (!(aB.eq a0.gU (aB.mk 0 0 0))) λx11=>
     cond x11 (
      some true) (
      some (!(aB.eq a0.gV (aB.mk 0 0 0))))) λp10=>
     cond p10 (some (Sum.inr 5)) (some (Sum.inl (()))))) (
    cond (a0.gC==0) (
     ae (aT (!(aB.eq a0.gU (aB.mk 0 0 0))) λx13=>
     cond x13 (
      some true) (
      some (!(aB.eq a0.gV (aB.mk 0 0 0))))) λp12=>
     cond p12 (some (Sum.inr 5)) (some (Sum.inl (())))) (
     some (Sum.inl (()))))) λo=>nQ o (λp9=>
    some 0) (λr=>some r)))
theorem aFF{N a0 r}(h:rB N a0=some r):FnM Tryz.prog 112 [] [(aL.enc a0)] (j64 r) []:=by
 unfold rB at h;refine At.f aGm hT hmo Tryz.func112 rfl h ?_;refine At.J 6 0 [1,3,4] 1 (λp1=>([(6,(eB p1))],[],[])) (λp1=>?_) λp1=>?_
 ·refine At.o 2 (bU hT (x:=(.sl 1 1 [(j64 a0.gC)]))) ?_;refine At.b 0 (λ_ e=>aM [] (tD e)) λr2=>?_;refine At.s 11 1 ?_ ?_
  ·refine At.g [11] 5 ?_;apply rt;exact At.jn 0
  ·refine At.g [11] 1 ?_;refine At.b 0 (λ_ e=>nJ hT (N:=3) (k:=1) j64 a0.gF e) λs3=>?_;refine At.b 0 (λ_ e=>aM [] (tD e)) λr4=>?_;refine At.g [11] 2 ?_;apply rt;exact At.jn 0
 ·refine At.c 0 ?_ ?_
  ·apply rt;exact At.r 1
  ·refine At.J 0 0 [1,4] 1 (λp5=>([(16,(eB p5))],[],[])) (λp5=>?_) λp5=>?_
   ·refine At.b 3 (λ_ e=>aM [] (vJ e)) λr6=>?_;refine At.s 21 1 ?_ ?_
    ·refine At.g [21,27] 12 ?_;apply rt;exact At.jn 0
    ·refine At.g [21] 3 ?_;refine At.b 0 (λ_ e=>aM [] (vJ e)) λr7=>?_;refine At.g [21] 2 ?_;refine At.s 27 0 ?_ ?_
     ·refine At.g [27] 6 ?_;apply rt;exact At.jn 0
     ·refine At.g [27] 3 ?_;refine At.b 0 (λ_ e=>aM [] (vJ e)) λr8=>?_;refine At.g [27] 2 ?_;apply rt;exact At.jn 0
   ·refine At.c 0 ?_ ?_
    ·apply rt;exact At.r 1
    ·refine At.JS 0 1 [] 1 (λp9=>([],[],[])) (λop9 g9=>?_) λp9=>?_
     ·refine At.c 4 ?_ ?_
      ·refine At.o 3 (kF uH (a0.gAt:aB) (aB.mk 0 0 0:aB) (by kernel_rfl) (by kernel_rfl) (λ_=>rfl) (λ_=>rfl) (by kernel_rfl) (by kernel_rfl)) ?_;refine At.c 0 ?_ ?_
       ·intro e;apply uQ g9 e;exact At.r 1
       ·refine At.J 0 0 [] 1 (λp10=>([(52,(eB p10))],[],[])) (λp10=>?_) λp10=>?_
        ·refine At.o 3 (kF uH (a0.gU:aB) (aB.mk 0 0 0:aB) (by kernel_rfl) (by kernel_rfl) (λ_=>rfl) (λ_=>rfl) (by kernel_rfl) (by kernel_rfl)) ?_;refine lx ?_;intro x11;refine At.s 47 1 ?_ ?_
         ·refine At.g [47] 5 ?_;apply rt;exact At.jn 0
         ·refine At.g [47] 3 ?_;refine At.o 0 (kF uH (a0.gV:aB) (aB.mk 0 0 0:aB) (by kernel_rfl) (by kernel_rfl) (λ_=>rfl) (λ_=>rfl) (by kernel_rfl) (by kernel_rfl)) ?_;refine At.g [47] 1 ?_;apply rt;exact At.jn 0
        ·refine At.c 0 ?_ ?_
         ·intro e;apply uQ g9 e;exact At.r 1
         ·apply rt;exact At.jsn 0
      ·refine At.c 2 ?_ ?_
       ·refine At.J 0 0 [] 1 (λp12=>([(52,(eB p12))],[],[])) (λp12=>?_) λp12=>?_
        ·refine At.o 3 (kF uH (a0.gU:aB) (aB.mk 0 0 0:aB) (by kernel_rfl) (by kernel_rfl) (λ_=>rfl) (λ_=>rfl) (by kernel_rfl) (by kernel_rfl)) ?_;refine lx ?_;intro x13;refine At.s 47 1 ?_ ?_
         ·refine At.g [47] 5 ?_;apply rt;exact At.jn 0
         ·refine At.g [47] 3 ?_;refine At.o 0 (kF uH (a0.gV:aB) (aB.mk 0 0 0:aB) (by kernel_rfl) (by kernel_rfl) (λ_=>rfl) (λ_=>rfl) (by kernel_rfl) (by kernel_rfl)) ?_;refine At.g [47] 1 ?_;apply rt;exact At.jn 0
        ·refine At.c 0 ?_ ?_
         ·intro e;apply uQ g9 e;exact At.r 1
         ·apply rt;exact At.jsn 0
       ·apply rt;exact At.jsn 0
     ·apply rt;exact At.r 1
def aJD : Nat->Bool:=imL [1]
def lR(N:Nat)(a0:aI):Option (Int):=
 cond (a0.gC==1) (
  ae (fV N a0.gP) λr1=>
  some r1) (
  cond (a0.gC==2) (
   ae (cE N a0.gQ) λr2=>
   some r2) (
   cond (a0.gC==3) (
    ae (nH N a0.gI) λr3=>
    some r3) (
    cond (a0.gC==4) (
     ae (rB N a0.gD) λr4=>
     some r4) (
     some 12))))
theorem aH9{N a0 r}(h:lR N a0=some r):FnM Tryz.prog 77 [] [(aI.enc a0)] (j64 r) []:=by
 unfold lR at h;refine At.f aJD hT hmo Tryz.func77 rfl h ?_;refine At.c 6 ?_ ?_
 ·refine At.b 2 (λ_ e=>aM [] (zC e)) λr1=>?_;apply rt;exact At.r 1
 ·refine At.c 2 ?_ ?_
  ·refine At.b 2 (λ_ e=>aM [] (vK e)) λr2=>?_;apply rt;exact At.r 1
  ·refine At.c 2 ?_ ?_
   ·refine At.b 2 (λ_ e=>aM [] (aCm e)) λr3=>?_;apply rt;exact At.r 1
   ·refine At.c 2 ?_ ?_
    ·refine At.b 2 (λ_ e=>aM [] (aFF e)) λr4=>?_;apply rt;exact At.r 1
    ·apply rt;exact At.r 1
def uS(N:Nat)(a0:aI):Option (aI):=
 ae (cond (a0.gC==1) (
  some (([],[],[],a0.gQ.gM,a0.gQ.gK,a0.gI.gC,a0.gI.gF,a0.gI.gW,a0.gD.gC,a0.gD.gF,a0.gD.gAt.gX,a0.gD.gAt.gY,a0.gD.gAt.gZ,a0.gD.gU.gX,a0.gD.gU.gY,a0.gD.gU.gZ,a0.gD.gV.gX,a0.gD.gV.gY,a0.gD.gV.gZ))) (
  cond (a0.gC==2) (
   some ((a0.gP.gG,a0.gP.gL,a0.gP.gJ,0,[],a0.gI.gC,a0.gI.gF,a0.gI.gW,a0.gD.gC,a0.gD.gF,a0.gD.gAt.gX,a0.gD.gAt.gY,a0.gD.gAt.gZ,a0.gD.gU.gX,a0.gD.gU.gY,a0.gD.gU.gZ,a0.gD.gV.gX,a0.gD.gV.gY,a0.gD.gV.gZ))) (
   cond (a0.gC==3) (
    some ((a0.gP.gG,a0.gP.gL,a0.gP.gJ,a0.gQ.gM,a0.gQ.gK,0,#v[0,0,0],0,a0.gD.gC,a0.gD.gF,a0.gD.gAt.gX,a0.gD.gAt.gY,a0.gD.gAt.gZ,a0.gD.gU.gX,a0.gD.gU.gY,a0.gD.gU.gZ,a0.gD.gV.gX,a0.gD.gV.gY,a0.gD.gV.gZ))) (
    cond (a0.gC==4) (
     some ((a0.gP.gG,a0.gP.gL,a0.gP.gJ,a0.gQ.gM,a0.gQ.gK,a0.gI.gC,a0.gI.gF,a0.gI.gW,0,#v[0,0,0],0,0,0,0,0,0,0,0,0))) (
     some ((a0.gP.gG,a0.gP.gL,a0.gP.gJ,a0.gQ.gM,a0.gQ.gK,a0.gI.gC,a0.gI.gF,a0.gI.gW,a0.gD.gC,a0.gD.gF,a0.gD.gAt.gX,a0.gD.gAt.gY,a0.gD.gAt.gZ,a0.gD.gU.gX,a0.gD.gU.gY,a0.gD.gU.gZ,a0.gD.gV.gX,a0.gD.gV.gY,a0.gD.gV.gZ))))))) λp1=>
 some (aI.mk a0.gC (aK.mk p1.1 p1.2.1 p1.2.2.1) (aH.mk p1.2.2.2.1 p1.2.2.2.2.1) (aG.mk p1.2.2.2.2.2.1 p1.2.2.2.2.2.2.1 p1.2.2.2.2.2.2.2.1) (aL.mk p1.2.2.2.2.2.2.2.2.1 p1.2.2.2.2.2.2.2.2.2.1 (aB.mk p1.2.2.2.2.2.2.2.2.2.2.1 p1.2.2.2.2.2.2.2.2.2.2.2.1 p1.2.2.2.2.2.2.2.2.2.2.2.2.1) (aB.mk p1.2.2.2.2.2.2.2.2.2.2.2.2.2.1 p1.2.2.2.2.2.2.2.2.2.2.2.2.2.2.1 p1.2.2.2.2.2.2.2.2.2.2.2.2.2.2.2.1) (aB.mk p1.2.2.2.2.2.2.2.2.2.2.2.2.2.2.2.2.1 p1.2.2.2.2.2.2.2.2.2.2.2.2.2.2.2.2.2.1 p1.2.2.2.2.2.2.2.2.2.2.2.2.2.2.2.2.2.2)))
theorem aGl{N a0 r}(h:uS N a0=some r):FnM Tryz.prog 79 [] [(aI.enc a0)] (aI.enc r) []:=by
 unfold uS at h;refine At.f eX hT hmo Tryz.func79 rfl h ?_;refine At.J 2 1 [1,2] 2 (λp1=>([],[(0,.var (.st 24 [(j64 a0.gC),(.st 3 [(eL 3 aB.enc p1.1),(eL 2 (eA 2 1 j64) p1.2.1),(eL 3 (eA 3 1 j64) p1.2.2.1)]),(.st 2 [(j64 p1.2.2.2.1),(eL 3 (eA 3 1 j64) p1.2.2.2.2.1)]),(.st 5 [(j64 p1.2.2.2.2.2.1),(eA 3 1 j64 p1.2.2.2.2.2.2.1),(j64 p1.2.2.2.2.2.2.2.1)]),(.st 13 [(j64 p1.2.2.2.2.2.2.2.2.1),(eA 3 1 j64 p1.2.2.2.2.2.2.2.2.2.1),(.st 3 [(j64 p1.2.2.2.2.2.2.2.2.2.2.1),(j64 p1.2.2.2.2.2.2.2.2.2.2.2.1),(j64 p1.2.2.2.2.2.2.2.2.2.2.2.2.1)]),(.st 3 [(j64 p1.2.2.2.2.2.2.2.2.2.2.2.2.2.1),(j64 p1.2.2.2.2.2.2.2.2.2.2.2.2.2.2.1),(j64 p1.2.2.2.2.2.2.2.2.2.2.2.2.2.2.2.1)]),(.st 3 [(j64 p1.2.2.2.2.2.2.2.2.2.2.2.2.2.2.2.2.1),(j64 p1.2.2.2.2.2.2.2.2.2.2.2.2.2.2.2.2.2.1),(j64 p1.2.2.2.2.2.2.2.2.2.2.2.2.2.2.2.2.2.2)])])]))],[])) (λp1=>?_) λp1=>?_
 ·refine At.c 4 ?_ ?_
  ·apply rt;exact At.jn 3
  ·refine At.c 2 ?_ ?_
   ·apply rt;exact At.jn 3
   ·refine At.c 2 ?_ ?_
    ·apply rt;exact At.jn 3
    ·refine At.c 2 ?_ ?_
     ·apply rt;exact At.jn 3
     ·apply rt;exact At.jn 0
 ·apply rt;exact At.r 2
def fB(N:Nat)(a0 a1:(List aB)):Nat->Int->Option (Sum (Unit) (Bool))
 | 0,_=>none
 | k+1,s3=>
  aT (decide (s3 < ((a0.length:Int)))) λx4=>
  cond x4 (
   ae (idx a0 s3) λe5=>
   ae (idx a1 s3) λe6=>
   cond (!(aB.eq e5 e6)) (
    some (Sum.inr false)) (
    fB N a0 a1 k (I64 (s3+1)))) (
   some (Sum.inl (())))
def lT(N:Nat)(a0 a1:(List aB)):Option (Bool):=
 aT (((a0.length:Int)) != ((a1.length:Int))) λx1=>
 cond x1 (
  some false) (
  ae (fB N a0 a1 N 0) λo=>nQ o (λp2=>
   some true) (λr=>some r))
theorem yX{N a0 a1 r}(h:lT N a0 a1=some r):FnM Tryz.prog 113 [] [(eL 3 aB.enc a0),(eL 3 aB.enc a1)] (eB r) []:=by
 unfold lT at h;refine At.f eX hT hmo Tryz.func113 rfl h ?_;refine lx ?_;intro x1;refine At.c 6 ?_ ?_
 ·apply rt;exact At.r 1
 ·refine At.LS 3 [] 0 (λp2=>([],[],[])) (λop2 J k=>∃s3,fB N a0 a1 k s3=some op2/\J [0,1,12] 0 [(13,(j64 s3))] [] []) N (λ_ h=>⟨_,h,jr⟩) (λop2 g2 k s hI=>?_) λp2=>?_
  ·obtain⟨s3,h,hj⟩:=hI;cases k with
   | zero=>cases h
   | succ k=>
    refine At.jr hj ?_ h;refine lx ?_;intro x4;refine At.c 1 ?_ ?_
    ·refine bi λe5 he5=>?_;refine bi λe6 he6=>?_;refine At.d 2 (dE1 2 (λ_=>bB hT aB.enc he5) (dE1 6 (λ_=>bB hT aB.enc he6) (dE1 8 (λ_=>kF uH (e5:aB) (e6:aB) (by kernel_rfl) (by kernel_rfl) (λ_=>rfl) (λ_=>rfl) (by kernel_rfl) (by kernel_rfl)) dE0))) dF0 ?_;refine At.c 0 ?_ ?_
     ·intro e;apply uQ g2 e;exact At.r 1
     ·exact λh=>At.k 2 ⟨_,h,jr⟩
    ·apply rt;exact At.xs 0
  ·apply rt;exact At.r 1
def jW(N:Nat)(a0 a1:(List (Vector Int 2))):Nat->Int->Option (Sum (Unit) (Bool))
 | 0,_=>none
 | k+1,s3=>
  aT (decide (s3 < ((a0.length:Int)))) λx4=>
  cond x4 (
   ae (idx a0 s3) λe5=>
   ae (idx a1 s3) λe6=>
   cond (!((eqV (λa b=>a==b)) e5 e6)) (
    some (Sum.inr false)) (
    jW N a0 a1 k (I64 (s3+1)))) (
   some (Sum.inl (())))
def oF(N:Nat)(a0 a1:(List (Vector Int 2))):Option (Bool):=
 aT (((a0.length:Int)) != ((a1.length:Int))) λx1=>
 cond x1 (
  some false) (
  ae (jW N a0 a1 N 0) λo=>nQ o (λp2=>
   some true) (λr=>some r))
theorem aBF{N a0 a1 r}(h:oF N a0 a1=some r):FnM Tryz.prog 114 [] [(eL 2 (eA 2 1 j64) a0),(eL 2 (eA 2 1 j64) a1)] (eB r) []:=by
 unfold oF at h;refine At.f eX hT hmo Tryz.func114 rfl h ?_;refine lx ?_;intro x1;refine At.c 6 ?_ ?_
 ·apply rt;exact At.r 1
 ·refine At.LS 3 [] 0 (λp2=>([],[],[])) (λop2 J k=>∃s3,jW N a0 a1 k s3=some op2/\J [0,1,12] 0 [(13,(j64 s3))] [] []) N (λ_ h=>⟨_,h,jr⟩) (λop2 g2 k s hI=>?_) λp2=>?_
  ·obtain⟨s3,h,hj⟩:=hI;cases k with
   | zero=>cases h
   | succ k=>
    refine At.jr hj ?_ h;refine lx ?_;intro x4;refine At.c 1 ?_ ?_
    ·refine bi λe5 he5=>?_;refine bi λe6 he6=>?_;refine At.d 2 (dE1 2 (λ_=>bB hT (eA 2 1 j64) he5) (dE1 6 (λ_=>bB hT (eA 2 1 j64) he6) (dE1 8 (λ_=>kF aLW (e5:(Vector Int 2)) (e6:(Vector Int 2)) (by kernel_rfl) (by kernel_rfl) (λ_=>rfl) (λ_=>rfl) (by kernel_rfl) (by kernel_rfl)) dE0))) dF0 ?_;refine At.c 0 ?_ ?_
     ·intro e;apply uQ g2 e;exact At.r 1
     ·exact λh=>At.k 2 ⟨_,h,jr⟩
    ·apply rt;exact At.xs 0
  ·apply rt;exact At.r 1
def jI(N:Nat)(a0 a1:(List (Vector Int 3))):Nat->Int->Option (Sum (Unit) (Bool))
 | 0,_=>none
 | k+1,s3=>
  aT (decide (s3 < ((a0.length:Int)))) λx4=>
  cond x4 (
   ae (idx a0 s3) λe5=>
   ae (idx a1 s3) λe6=>
   cond (!((eqV (λa b=>a==b)) e5 e6)) (
    some (Sum.inr false)) (
    jI N a0 a1 k (I64 (s3+1)))) (
   some (Sum.inl (())))
def mN(N:Nat)(a0 a1:(List (Vector Int 3))):Option (Bool):=
 aT (((a0.length:Int)) != ((a1.length:Int))) λx1=>
 cond x1 (
  some false) (
  ae (jI N a0 a1 N 0) λo=>nQ o (λp2=>
   some true) (λr=>some r))
theorem vW{N a0 a1 r}(h:mN N a0 a1=some r):FnM Tryz.prog 115 [] [(eL 3 (eA 3 1 j64) a0),(eL 3 (eA 3 1 j64) a1)] (eB r) []:=by
 unfold mN at h;refine At.f eX hT hmo Tryz.func115 rfl h ?_;refine lx ?_;intro x1;refine At.c 6 ?_ ?_
 ·apply rt;exact At.r 1
 ·refine At.LS 3 [] 0 (λp2=>([],[],[])) (λop2 J k=>∃s3,jI N a0 a1 k s3=some op2/\J [0,1,12] 0 [(13,(j64 s3))] [] []) N (λ_ h=>⟨_,h,jr⟩) (λop2 g2 k s hI=>?_) λp2=>?_
  ·obtain⟨s3,h,hj⟩:=hI;cases k with
   | zero=>cases h
   | succ k=>
    refine At.jr hj ?_ h;refine lx ?_;intro x4;refine At.c 1 ?_ ?_
    ·refine bi λe5 he5=>?_;refine bi λe6 he6=>?_;refine At.d 2 (dE1 2 (λ_=>bB hT (eA 3 1 j64) he5) (dE1 6 (λ_=>bB hT (eA 3 1 j64) he6) (dE1 8 (λ_=>kF aFy (e5:(Vector Int 3)) (e6:(Vector Int 3)) (by kernel_rfl) (by kernel_rfl) (λ_=>rfl) (λ_=>rfl) (by kernel_rfl) (by kernel_rfl)) dE0))) dF0 ?_;refine At.c 0 ?_ ?_
     ·intro e;apply uQ g2 e;exact At.r 1
     ·exact λh=>At.k 2 ⟨_,h,jr⟩
    ·apply rt;exact At.xs 0
  ·apply rt;exact At.r 1
def aHl : Nat->Bool:=imL [2,3]
def rU(N:Nat)(a0 a1:aI):Option (Bool):=
 ae (cond (a0.gC != a1.gC) (
  some true) (
  aT (!(aG.eq a0.gI a1.gI)) λx2=>
  cond x2 (
   some true) (
   aT (!(aL.eq a0.gD a1.gD)) λx3=>
   aT (a0.gQ.gM != a1.gQ.gM) λx4=>
   some (cond x3 true x4)))) λp1=>
 cond p1 (
  some false) (
  ae (ae (lT N a0.gP.gG a1.gP.gG) λr6=>
  cond r6 (
   ae (oF N a0.gP.gL a1.gP.gL) λr7=>
   cond r7 (
    ae (mN N a0.gP.gJ a1.gP.gJ) λr8=>
    cond r8 (
     ae (mN N a0.gQ.gK a1.gQ.gK) λr9=>
     some r9) (
     some false)) (
    some false)) (
   some false)) λp5=>
  some p5)
theorem aGh{N a0 a1 r}(h:rU N a0 a1=some r):FnM Tryz.prog 78 [] [(aI.enc a0),(aI.enc a1)] (eB r) []:=by
 unfold rU at h;refine At.f aHl hT hmo Tryz.func78 rfl h ?_;refine At.J 3 0 [2,3] 0 (λp1=>([(32,(eB p1))],[],[])) (λp1=>?_) λp1=>?_
 ·refine At.s 10 6 ?_ ?_
  ·refine At.g [10,17,24] 22 ?_;apply rt;exact At.jn 0
  ·refine At.g [10] 4 ?_;refine At.o 0 (kF aF2 (a0.gI:aG) (a1.gI:aG) (by kernel_rfl) (by kernel_rfl) (λ_=>rfl) (λ_=>rfl) (by kernel_rfl) (by kernel_rfl)) ?_;refine lx ?_;intro x2;refine At.g [10] 2 ?_;refine At.s 17 0 ?_ ?_
   ·refine At.g [17,24] 15 ?_;apply rt;exact At.jn 0
   ·refine At.g [17] 4 ?_;refine At.o 0 (kF aGS (a0.gD:aL) (a1.gD:aL) (by kernel_rfl) (by kernel_rfl) (λ_=>rfl) (λ_=>rfl) (by kernel_rfl) (by kernel_rfl)) ?_;refine lx ?_;intro x3;refine lx ?_;intro x4;refine At.g [17] 10 ?_;apply rt;exact At.jn 0
 ·refine At.c 0 ?_ ?_
  ·apply rt;exact At.r 1
  ·refine At.J 0 0 [] 0 (λp5=>([(4,(eB p5))],[],[])) (λp5=>?_) λp5=>?_
   ·refine At.b 6 (λ_ e=>aM [] (yX e)) λr6=>?_;refine At.s 40 1 ?_ ?_
    ·refine At.g [40] 6 ?_;refine At.b 0 (λ_ e=>aM [] (aBF e)) λr7=>?_;refine At.g [40] 2 ?_;refine At.s 49 0 ?_ ?_
     ·refine At.g [49] 6 ?_;refine At.b 0 (λ_ e=>aM [] (vW e)) λr8=>?_;refine At.g [49] 2 ?_;refine At.s 58 0 ?_ ?_
      ·refine At.g [58] 6 ?_;refine At.b 0 (λ_ e=>aM [] (vW e)) λr9=>?_;refine At.g [58] 2 ?_;apply rt;exact At.jn 0
      ·refine At.g [58] 9 ?_;apply rt;exact At.jn 0
     ·refine At.g [49,58] 18 ?_;apply rt;exact At.jn 0
    ·refine At.g [40,49,58] 27 ?_;apply rt;exact At.jn 0
   ·apply rt;exact At.r 0
def nZ(N:Nat)(a2:(List Int))(a1:Int):Nat->(List Int)->Int->Option (Sum ((List Int)) ((List Int)×Int))
 | 0,_,_=>none
 | k+1,s3,s4=>
  aT (decide (s4 < ((a2.length:Int)))) λx5=>
  cond x5 (
   ae (idx a2 s4) λe6=>
   aT (I64 (64 - (I64 (8*a1)))) λx7=>
   ae (aEx .i64 e6 x7) λx8=>
   aT (I64 (64 - (I64 (8*a1)))) λx9=>
   ae (zX .i64 x8 x9) λx10=>
   cond (x10 != e6) (
    some (Sum.inr (([],3)))) (
    aT (I64 (64 - (I64 (8*a1)))) λx11=>
    ae (aEx .u64 (U64 e6) x11) λx12=>
    aT (I64 (64 - (I64 (8*a1)))) λx13=>
    ae (zX .u64 x12 x13) λx14=>
    ae (nR 8 s3 (([x14]:List Int))) λz15=>
    nZ N a2 a1 k z15 (I64 (s4+1)))) (
   some (Sum.inl s3))
def lZ(N:Nat)(a0:(List Int))(a1:Int)(a2:(List Int)):Option ((List Int)×Int):=
 aT (cond (decide (a1 < 1)) true (decide (a1 > 8))) λx1=>
 cond x1 (
  some (([],2))) (
  ae (nZ N a2 a1 N [] 0) λo=>nQ o (λp2=>
   ae (cM N a0 a1 p2) λr16=>
   some ((r16.1,r16.2))) (λr=>some r))
theorem aAX{N a0 a1 a2 r}(h:lZ N a0 a1 a2=some r):FnM Tryz.prog 83 [] [(eL 1 k8 a0),(j64 a1),(eL 1 j64 a2)] (.tup [(eO 0 1 k8 r.1),(j64 r.2)]) [.tail (r.1.length*1)]:=by
 unfold lZ at h;refine At.f eX hT hmo Tryz.func83 rfl h ?_;refine lx ?_;intro x1;refine At.c 8 ?_ ?_
 ·refine At.ownn 2 6 1 ?_;apply rt;exact At.r 0
 ·refine At.ownn 4 8 1 ?_;refine At.LS 0 [0,1] 1 (λp2=>([(8,(eO 0 1 k64 p2))],[(0,.tail (p2.length*1))],[])) (λop2 J k=>∃s3 s4,nZ N a2 a1 k s3 s4=some op2/\J [0,1,18,19] 1 [(8,(eO 0 1 k64 s3)),(20,(j64 s4))] [(0,.tail (s3.length*1))] []) N (λ_ h=>⟨_,_,h,jr⟩) (λop2 g2 k s hI=>?_) λp2=>?_
  ·obtain⟨s3,s4,h,hj⟩:=hI;cases k with
   | zero=>cases h
   | succ k=>
    refine At.jr hj ?_ h;refine lx ?_;intro x5;refine At.c 1 ?_ ?_
    ·refine At.b 0 (λ_ e=>bB hT j64 e) λe6=>?_;refine lx ?_;intro x7;refine At.b 6 (λ_ e=>xC hT (k' := .i64) e (by kernel_rfl) (by kernel_rfl)) λx8=>?_;refine lx ?_;intro x9;refine At.b 3 (λ_ e=>rE hT (k' := .i64) e (by kernel_rfl) (by kernel_rfl)) λx10=>?_;refine At.c 4 ?_ ?_
     ·refine At.ownn 2 6 1 ?_;refine At.sw 0 1 0 ?_;intro e;apply uQ g2 e;exact At.r 0
     ·refine lx ?_;intro x11;refine At.b 6 (λ_ e=>xC hT (k' := .i64) e (by kernel_rfl) (by kernel_rfl)) λx12=>?_;refine lx ?_;intro x13;refine At.b 3 (λ_ e=>rE hT (k' := .i64) e (by kernel_rfl) (by kernel_rfl)) λx14=>?_;refine At.o 0 (bU hT (x:=(.sl 1 1 [(k64 x14)]))) ?_;refine At.b 0 (λ_ e=>dE hT k64 (id:=0) (k:=1) e) λz15=>?_;exact λh=>At.k 3 ⟨_,_,h,jr⟩
    ·apply rt;exact At.xs 0
  ·refine At.b 3 (λ_ e=>aM [] (mB e)) λr16=>?_;refine At.sw 4 1 0 ?_;apply rt;exact At.r 0
def aG8 : Nat->Bool:=imL [1]
def pB(N:Nat)(x4:Int)(a0:aK):Nat->(List Int)->Int->Option ((List Int))
 | 0,_,_=>none
 | k+1,s6,s7=>
  cond (decide (s7 < x4)) (
   ae (idx a0.gG s7) λe8=>
   ae (lZ N s6 2 ([e8.gX,e8.gY,e8.gZ])) λr9=>
   pB N x4 a0 k r9.1 (I64 (s7+1))) (
   some s6)
def pE(N:Nat)(a0:aK):Nat->(List Int)->Int->Option ((List Int))
 | 0,_,_=>none
 | k+1,s11,s12=>
  aT (decide (s12 < ((a0.gL.length:Int)))) λx13=>
  cond x13 (
   ae (idx a0.gL s12) λe14=>
   ae (aW 0 2) λ_=>
   ae (e14.toList[(af 0)]?) λe16=>
   ae (aW 1 2) λ_=>
   ae (e14.toList[(af 1)]?) λe18=>
   ae (cM N s11 2 ([U64 e16,U64 e18])) λr19=>
   pE N a0 k r19.1 (I64 (s12+1))) (
   some s11)
def lO(N:Nat)(x20:Int)(a0:aK):Nat->(List Int)->Int->Option ((List Int))
 | 0,_,_=>none
 | k+1,s22,s23=>
  cond (decide (s23 < x20)) (
   ae (idx a0.gJ s23) λe24=>
   ae (aW 0 3) λ_=>
   ae (e24.toList[(af 0)]?) λe26=>
   ae (aW 1 3) λ_=>
   ae (e24.toList[(af 1)]?) λe28=>
   ae (aW 2 3) λ_=>
   ae (e24.toList[(af 2)]?) λe30=>
   ae (nR 1 s22 (([U8 e26,U8 e28,U8 e30]:List Int))) λz31=>
   lO N x20 a0 k z31 (I64 (s23+1))) (
   some s22)
def tR(N:Nat)(a0:aK):Option ((List Int)×Int):=
 ae (fV N a0) λr1=>
 cond (r1 != 0) (
  some (([],r1))) (
  aT ((a0.gG.length:Int)) λx2=>
  aT ((a0.gJ.length:Int)) λx3=>
  aT ((a0.gG.length:Int)) λx4=>
  ae (pB N x4 a0 N (([U8 x2,U8 x3]:List Int)) 0) λp5=>
  ae (pE N a0 N p5 0) λp10=>
  aT ((a0.gJ.length:Int)) λx20=>
  ae (lO N x20 a0 N p10 0) λp21=>
  some ((p21,0)))
theorem aFQ{N a0 r}(h:tR N a0=some r):FnM Tryz.prog 81 [] [(aK.enc a0)] (.tup [(eL 1 k8 r.1),(j64 r.2)]) []:=by
 unfold tR at h;refine At.f aG8 hT hmo Tryz.func81 rfl h ?_;refine At.b 4 (λ_ e=>aM [] (zC e)) λr1=>?_;refine At.c 3 ?_ ?_
 ·apply rt;exact At.r 3
 ·refine lx ?_;intro x2;refine lx ?_;intro x3;refine At.o 8 (uX hT k8 (k:=1) ([U8 x2,U8 x3]:List Int) (by kernel_rfl) (by kernel_rfl)) ?_;refine lx ?_;intro x4;refine At.L 5 [1] 1 (λp5=>([(5,(eO 0 1 k8 p5))],[(0,.tail (p5.length*1))],[])) (λp5 J k=>∃s6 s7,pB N x4 a0 k s6 s7=some p5/\J [1,27,28] 1 [(5,(eO 0 1 k8 s6)),(29,(j64 s7))] [(0,.tail (s6.length*1))] []) N (λ_ h=>⟨_,_,h,jr⟩) (λp5 k s hI=>?_) λp5=>?_
  ·obtain⟨s6,s7,h,hj⟩:=hI;cases k with
   | zero=>cases h
   | succ k=>
    refine At.jr hj ?_ h;refine At.c 1 ?_ ?_
    ·refine At.b 0 (λ_ e=>bB hT aB.enc e) λe8=>?_;refine At.o 10 (bU hT (x:=(.sl 1 3 [(j64 e8.gX),(j64 e8.gY),(j64 e8.gZ)]))) ?_;refine At.b 0 (λ_ e=>aM [] (aAX e)) λr9=>?_;exact λh=>At.k 6 ⟨_,_,h,(aLq 2 0 (by kernel_rfl) jr)⟩
    ·apply rt;exact At.x 0
  ·refine At.L 4 [1] 1 (λp10=>([(5,(eO 0 1 k8 p10))],[(0,.tail (p10.length*1))],[])) (λp10 J k=>∃s11 s12,pE N a0 k s11 s12=some p10/\J [1,47,48] 1 [(5,(eO 0 1 k8 s11)),(49,(j64 s12))] [(0,.tail (s11.length*1))] []) N (λ_ h=>⟨_,_,h,jr⟩) (λp10 k s hI=>?_) λp10=>?_
   ·obtain⟨s11,s12,h,hj⟩:=hI;cases k with
    | zero=>cases h
    | succ k=>
     refine At.jr hj ?_ h;refine lx ?_;intro x13;refine At.c 1 ?_ ?_
     ·refine At.b 0 (λ_ e=>bB hT (eA 2 1 j64) e) λe14=>?_;refine At.b 4 (λ_ e=>aJ hT (k:=1) 1 [] 0 e) λu15=>?_;refine At.b 0 (λ_ e=>bH hT j64 0 e) λe16=>?_;refine At.b 1 (λ_ e=>aJ hT (k:=1) 1 [] 0 e) λu17=>?_;refine At.b 0 (λ_ e=>bH hT j64 0 e) λe18=>?_;refine At.o 1 (bU hT (x:=(.sl 1 2 [(k64 (U64 e16)),(k64 (U64 e18))]))) ?_;refine At.b 0 (λ_ e=>aM [] (mB e)) λr19=>?_;exact λh=>At.k 6 ⟨_,_,h,(aLq 2 0 (by kernel_rfl) jr)⟩
     ·apply rt;exact At.x 0
   ·refine lx ?_;intro x20;refine At.L 4 [] 1 (λp21=>([(5,(eO 0 1 k8 p21))],[(0,.tail (p21.length*1))],[])) (λp21 J k=>∃s22 s23,lO N x20 a0 k s22 s23=some p21/\J [67,68] 1 [(5,(eO 0 1 k8 s22)),(69,(j64 s23))] [(0,.tail (s22.length*1))] []) N (λ_ h=>⟨_,_,h,jr⟩) (λp21 k s hI=>?_) λp21=>?_
    ·obtain⟨s22,s23,h,hj⟩:=hI;cases k with
     | zero=>cases h
     | succ k=>
      refine At.jr hj ?_ h;refine At.c 1 ?_ ?_
      ·refine At.b 0 (λ_ e=>bB hT (eA 3 1 j64) e) λe24=>?_;refine At.b 4 (λ_ e=>aJ hT (k:=1) 1 [] 0 e) λu25=>?_;refine At.b 0 (λ_ e=>bH hT j64 0 e) λe26=>?_;refine At.b 1 (λ_ e=>aJ hT (k:=1) 1 [] 0 e) λu27=>?_;refine At.b 0 (λ_ e=>bH hT j64 0 e) λe28=>?_;refine At.b 1 (λ_ e=>aJ hT (k:=1) 1 [] 0 e) λu29=>?_;refine At.b 0 (λ_ e=>bH hT j64 0 e) λe30=>?_;refine At.o 1 (bU hT (x:=(.sl 1 3 [(k8 (U8 e26)),(k8 (U8 e28)),(k8 (U8 e30))]))) ?_;refine At.b 0 (λ_ e=>dE hT k8 (id:=0) (k:=1) e) λz31=>?_;exact λh=>At.k 3 ⟨_,_,h,jr⟩
      ·apply rt;exact At.x 0
    ·apply rt;exact At.r 3
def aDw : Nat->Bool:=imL [1]
def iG(N:Nat)(x2:Int)(a0:aH):Nat->(List Int)->Int->Option ((List Int))
 | 0,_,_=>none
 | k+1,s4,s5=>
  cond (decide (s5 < x2)) (
   ae (idx a0.gK s5) λe6=>
   ae (aW 0 3) λ_=>
   ae (e6.toList[(af 0)]?) λe8=>
   ae (aW 1 3) λ_=>
   ae (e6.toList[(af 1)]?) λe10=>
   ae (aW 2 3) λ_=>
   ae (e6.toList[(af 2)]?) λe12=>
   ae (nR 1 s4 (([U8 e8,U8 e10,U8 e12]:List Int))) λz13=>
   iG N x2 a0 k z13 (I64 (s5+1))) (
   some s4)
def rF(N:Nat)(a0:aH):Option ((List Int)×Int):=
 ae (cE N a0) λr1=>
 cond (r1 != 0) (
  some (([],r1))) (
  aT ((a0.gK.length:Int)) λx2=>
  ae (iG N x2 a0 N (([U8 a0.gM]:List Int)) 0) λp3=>
  some ((p3,0)))
theorem aC3{N a0 r}(h:rF N a0=some r):FnM Tryz.prog 82 [] [(aH.enc a0)] (.tup [(eL 1 k8 r.1),(j64 r.2)]) []:=by
 unfold rF at h;refine At.f aDw hT hmo Tryz.func82 rfl h ?_;refine At.b 4 (λ_ e=>aM [] (vK e)) λr1=>?_;refine At.c 3 ?_ ?_
 ·apply rt;exact At.r 3
 ·refine At.o 3 (uX hT k8 (k:=1) ([U8 a0.gM]:List Int) (by kernel_rfl) (by kernel_rfl)) ?_;refine lx ?_;intro x2;refine At.L 5 [] 1 (λp3=>([(5,(eO 0 1 k8 p3))],[(0,.tail (p3.length*1))],[])) (λp3 J k=>∃s4 s5,iG N x2 a0 k s4 s5=some p3/\J [18,19] 1 [(5,(eO 0 1 k8 s4)),(20,(j64 s5))] [(0,.tail (s4.length*1))] []) N (λ_ h=>⟨_,_,h,jr⟩) (λp3 k s hI=>?_) λp3=>?_
  ·obtain⟨s4,s5,h,hj⟩:=hI;cases k with
   | zero=>cases h
   | succ k=>
    refine At.jr hj ?_ h;refine At.c 1 ?_ ?_
    ·refine At.b 0 (λ_ e=>bB hT (eA 3 1 j64) e) λe6=>?_;refine At.b 4 (λ_ e=>aJ hT (k:=1) 1 [] 0 e) λu7=>?_;refine At.b 0 (λ_ e=>bH hT j64 0 e) λe8=>?_;refine At.b 1 (λ_ e=>aJ hT (k:=1) 1 [] 0 e) λu9=>?_;refine At.b 0 (λ_ e=>bH hT j64 0 e) λe10=>?_;refine At.b 1 (λ_ e=>aJ hT (k:=1) 1 [] 0 e) λu11=>?_;refine At.b 0 (λ_ e=>bH hT j64 0 e) λe12=>?_;refine At.o 1 (bU hT (x:=(.sl 1 3 [(k8 (U8 e8)),(k8 (U8 e10)),(k8 (U8 e12))]))) ?_;refine At.b 0 (λ_ e=>dE hT k8 (id:=0) (k:=1) e) λz13=>?_;exact λh=>At.k 3 ⟨_,_,h,jr⟩
    ·apply rt;exact At.x 0
  ·apply rt;exact At.r 3
def aGL : Nat->Bool:=imL [1]
def nX(N:Nat)(e4 e6 e8:Int)(a0:aI):Nat->(List Int)->Int->Option ((List Int))
 | 0,_,_=>none
 | k+1,s10,s11=>
  cond (decide (s11 < 4)) (
   ae (idx ([e4,e6,e8,a0.gI.gW]) s11) λe12=>
   ae (cM N s10 2 ([U64 e12])) λr13=>
   nX N e4 e6 e8 a0 k r13.1 (I64 (s11+1))) (
   some s10)
def nV(N:Nat)(a0:aI):Nat->(List Int)->Int->Option ((List Int))
 | 0,_,_=>none
 | k+1,s22,s23=>
  cond (decide (s23 < 3)) (
   ae (idx ([a0.gD.gAt,a0.gD.gU,a0.gD.gV]) s23) λe24=>
   ae (lZ N s22 2 ([e24.gX,e24.gY,e24.gZ])) λr25=>
   nV N a0 k r25.1 (I64 (s23+1))) (
   some s22)
def rN(N:Nat)(a0:aI):Option ((List Int)):=
 cond (a0.gC==1) (
  ae (tR N a0.gP) λr1=>
  some r1.1) (
  cond (a0.gC==2) (
   ae (rF N a0.gQ) λr2=>
   some r2.1) (
   cond (a0.gC==3) (
    ae (aW 0 3) λ_=>
    ae (a0.gI.gF.toList[(af 0)]?) λe4=>
    ae (aW 1 3) λ_=>
    ae (a0.gI.gF.toList[(af 1)]?) λe6=>
    ae (aW 2 3) λ_=>
    ae (a0.gI.gF.toList[(af 2)]?) λe8=>
    ae (nX N e4 e6 e8 a0 N ([U8 a0.gI.gC]) 0) λp9=>
    some p9) (
    ae (aW 0 3) λ_=>
    ae (a0.gD.gF.toList[(af 0)]?) λe15=>
    ae (aW 1 3) λ_=>
    ae (a0.gD.gF.toList[(af 1)]?) λe17=>
    ae (aW 2 3) λ_=>
    ae (a0.gD.gF.toList[(af 2)]?) λe19=>
    ae (cM N ([U8 a0.gD.gC]) 4 ([U64 e15,U64 e17,U64 e19])) λr20=>
    ae (nV N a0 N r20.1 0) λp21=>
    some p21)))
theorem aAZ{N a0 r}(h:rN N a0=some r):FnM Tryz.prog 45 [] [(aI.enc a0)] (eL 1 k8 r) []:=by
 unfold rN at h;refine At.f aGL hT hmo Tryz.func45 rfl h ?_;refine At.c 6 ?_ ?_
 ·refine At.b 2 (λ_ e=>aM [] (aFQ e)) λr1=>?_;apply rt;exact At.r 7
 ·refine At.c 2 ?_ ?_
  ·refine At.b 2 (λ_ e=>aM [] (aC3 e)) λr2=>?_;apply rt;exact At.r 7
  ·refine At.c 2 ?_ ?_
   ·refine At.o 7 (bU hT (x:=(.sl 1 1 [(k8 (U8 a0.gI.gC))]))) ?_;refine At.b 2 (λ_ e=>aJ hT (k:=1) 0 [1] 1 e) λu3=>?_;refine At.b 0 (λ_ e=>bH hT j64 1 e) λe4=>?_;refine At.b 1 (λ_ e=>aJ hT (k:=1) 0 [1] 1 e) λu5=>?_;refine At.b 0 (λ_ e=>bH hT j64 1 e) λe6=>?_;refine At.b 1 (λ_ e=>aJ hT (k:=1) 0 [1] 1 e) λu7=>?_;refine At.b 0 (λ_ e=>bH hT j64 1 e) λe8=>?_;refine At.o 2 (bU hT (x:=(.sl 1 4 [(j64 e4),(j64 e6),(j64 e8),(j64 a0.gI.gW)]))) ?_;refine At.L 2 [] 1 (λp9=>([(8,(eL 1 k8 p9))],[],[])) (λp9 J k=>∃s10 s11,nX N e4 e6 e8 a0 k s10 s11=some p9/\J [55,56] 1 [(8,(eL 1 k8 s10)),(57,(j64 s11))] [] []) N (λ_ h=>⟨_,_,h,jr⟩) (λp9 k s hI=>?_) λp9=>?_
    ·obtain⟨s10,s11,h,hj⟩:=hI;cases k with
     | zero=>cases h
     | succ k=>
      refine At.jr hj ?_ h;refine At.c 1 ?_ ?_
      ·refine At.b 0 (λ_ e=>bB hT j64 e) λe12=>?_;refine At.o 5 (bU hT (x:=(.sl 1 1 [(k64 (U64 e12))]))) ?_;refine At.b 0 (λ_ e=>aM [] (mB e)) λr13=>?_;exact λh=>At.k 6 ⟨_,_,h,jr⟩
      ·apply rt;exact At.x 0
    ·apply rt;exact At.r 2
   ·refine At.o 7 (bU hT (x:=(.sl 1 1 [(k8 (U8 a0.gD.gC))]))) ?_;refine At.b 1 (λ_ e=>aJ hT (k:=1) 0 [1] 1 e) λu14=>?_;refine At.b 0 (λ_ e=>bH hT j64 1 e) λe15=>?_;refine At.b 2 (λ_ e=>aJ hT (k:=1) 0 [1] 1 e) λu16=>?_;refine At.b 0 (λ_ e=>bH hT j64 1 e) λe17=>?_;refine At.b 2 (λ_ e=>aJ hT (k:=1) 0 [1] 1 e) λu18=>?_;refine At.b 0 (λ_ e=>bH hT j64 1 e) λe19=>?_;refine At.o 1 (bU hT (x:=(.sl 1 3 [(k64 (U64 e15)),(k64 (U64 e17)),(k64 (U64 e19))]))) ?_;refine At.b 0 (λ_ e=>aM [] (mB e)) λr20=>?_;refine At.o 11 (bU hT (x:=(.sl 3 3 [(aB.enc a0.gD.gAt),(aB.enc a0.gD.gU),(aB.enc a0.gD.gV)]))) ?_;refine At.L 2 [] 2 (λp21=>([(12,(eO 1 1 k8 p21))],[(1,.tail (p21.length*1))],[])) (λp21 J k=>∃s22 s23,nV N a0 k s22 s23=some p21/\J [100,101] 2 [(12,(eO 1 1 k8 s22)),(102,(j64 s23))] [(1,.tail (s22.length*1))] []) N (λ_ h=>⟨_,_,h,jr⟩) (λp21 k s hI=>?_) λp21=>?_
    ·obtain⟨s22,s23,h,hj⟩:=hI;cases k with
     | zero=>cases h
     | succ k=>
      refine At.jr hj ?_ h;refine At.c 1 ?_ ?_
      ·refine At.b 0 (λ_ e=>bB hT aB.enc e) λe24=>?_;refine At.o 10 (bU hT (x:=(.sl 1 3 [(j64 e24.gX),(j64 e24.gY),(j64 e24.gZ)]))) ?_;refine At.b 0 (λ_ e=>aM [] (aAX e)) λr25=>?_;exact λh=>At.k 6 ⟨_,_,h,(aLq 3 1 (by kernel_rfl) jr)⟩
      ·apply rt;exact At.x 0
    ·apply rt;exact At.r 2
def aGg : Nat->Bool:=imL [1]
def jG(N:Nat)(a0:aI):Option (Int):=
 ae (lR N a0) λr1=>
 cond (r1 != 0) (
  some r1) (
  ae (uS N a0) λr2=>
  ae (rU N r2 (aI.mk a0.gC (aK.mk [] [] []) (aH.mk 0 []) (aG.mk 0 (#v[0,0,0]) 0) (aL.mk 0 (#v[0,0,0]) (aB.mk 0 0 0) (aB.mk 0 0 0) (aB.mk 0 0 0)))) λr3=>
  cond (!r3) (
   some 5) (
   ae (rN N a0) λr4=>
   ae (rO N a0.gC) λr5=>
   aT (decide (((r4.length:Int)) > r5)) λx6=>
   cond x6 (some 9) (some 0)))
theorem aA7{N a0 r}(h:jG N a0=some r):FnM Tryz.prog 44 [] [(aI.enc a0)] (j64 r) []:=by
 unfold jG at h;refine At.f aGg hT hmo Tryz.func44 rfl h ?_;refine At.b 3 (λ_ e=>aM [] (aH9 e)) λr1=>?_;refine At.c 3 ?_ ?_
 ·apply rt;exact At.r 2
 ·refine bi λr2 hr2=>?_;refine bi λr3 hr3=>?_;refine At.d 0 (dE2 1 (aI.enc r2) (λ_=>dM (aGl hr2)) (dE2 5 (eB r3) (λ_=>dM (aGh hr3)) dE0)) dF0 ?_;refine At.c 0 ?_ ?_
  ·apply rt;exact At.r 1
  ·refine bi λr4 hr4=>?_;refine bi λr5 hr5=>?_;refine lx ?_;intro x6;refine At.d 0 (dE2 1 (eL 1 k8 r4) (λ_=>dM (aAZ hr4)) (dE2 5 (j64 r5) (λ_=>dM (aAW hr5)) dE0)) dF0 ?_;refine At.c 0 ?_ ?_
   ·apply rt;exact At.r 1
   ·apply rt;exact At.r 1
def pJ(N:Nat)(a0:Int)(a1:(List Int)):Option (aI×Int):=
 ae (ae (qV N a1) λr2=>
 cond (a0==1) (
  ae (rC N a1) λr3=>
  some ((r2,r3.1.gG,r3.1.gL,r3.1.gJ,0,[],0,#v[0,0,0],0,0,#v[0,0,0],0,0,0,0,0,0,0,0,0,r2,0,true,r3.2))) (
  cond (a0==2) (
   ae (nF N a1) λr4=>
   some ((r2,[],[],[],r4.1.gM,r4.1.gK,0,#v[0,0,0],0,0,#v[0,0,0],0,0,0,0,0,0,0,0,0,r2,0,true,r4.2))) (
   cond (a0==3) (
    ae (aV N 1 (aA.mk r2 0 true)) λr5=>
    ae (bR N 2 (aA.mk r5.1 r5.2.1 ((aA.mk r2 0 true).gA))) λr6=>
    ae (aV N 2 (aA.mk r6.1 r6.2.1 r6.2.2.1)) λr7=>
    ae (cT N (aA.mk r7.1 r7.2.1 ((aA.mk r6.1 r6.2.1 r6.2.2.1).gA))) λr8=>
    some ((r2,[],[],[],0,[],r5.2.2,r6.2.2.2,r7.2.2,0,#v[0,0,0],0,0,0,0,0,0,0,0,0,r7.1,r7.2.1,(aA.mk r6.1 r6.2.1 r6.2.2.1).gA,r8))) (
    cond (a0==4) (
     ae (aV N 1 (aA.mk r2 0 true)) λr9=>
     ae (bR N 4 (aA.mk r9.1 r9.2.1 ((aA.mk r2 0 true).gA))) λr10=>
     ae (cK N (aA.mk r10.1 r10.2.1 r10.2.2.1)) λr11=>
     ae (cK N (aA.mk r11.1 r11.2.1 r11.2.2.1)) λr12=>
     ae (cK N (aA.mk r12.1 r12.2.1 r12.2.2.1)) λr13=>
     ae (cT N (aA.mk r13.1 r13.2.1 r13.2.2.1)) λr14=>
     some ((r2,[],[],[],0,[],0,#v[0,0,0],0,r9.2.2,r10.2.2.2,r11.2.2.2.gX,r11.2.2.2.gY,r11.2.2.2.gZ,r12.2.2.2.gX,r12.2.2.2.gY,r12.2.2.2.gZ,r13.2.2.2.gX,r13.2.2.2.gY,r13.2.2.2.gZ,r13.1,r13.2.1,r13.2.2.1,r14))) (
     some ((r2,[],[],[],0,[],0,#v[0,0,0],0,0,#v[0,0,0],0,0,0,0,0,0,0,0,0,r2,0,true,0))))))) λp1=>
 aT p1.2.2.2.2.2.2.2.2.2.2.2.2.2.2.2.2.2.2.2.2.2.2.2 λx15=>
 cond (x15 != 0) (
  aT p1.2.2.2.2.2.2.2.2.2.2.2.2.2.2.2.2.2.2.2.2.2.2.2 λx16=>
  some ((aI.mk 0 (aK.mk [] [] []) (aH.mk 0 []) (aG.mk 0 (#v[0,0,0]) 0) (aL.mk 0 (#v[0,0,0]) (aB.mk 0 0 0) (aB.mk 0 0 0) (aB.mk 0 0 0)),x16))) (
  ae (jG N (aI.mk a0 (aK.mk p1.2.1 p1.2.2.1 p1.2.2.2.1) (aH.mk p1.2.2.2.2.1 p1.2.2.2.2.2.1) (aG.mk p1.2.2.2.2.2.2.1 p1.2.2.2.2.2.2.2.1 p1.2.2.2.2.2.2.2.2.1) (aL.mk p1.2.2.2.2.2.2.2.2.2.1 p1.2.2.2.2.2.2.2.2.2.2.1 (aB.mk p1.2.2.2.2.2.2.2.2.2.2.2.1 p1.2.2.2.2.2.2.2.2.2.2.2.2.1 p1.2.2.2.2.2.2.2.2.2.2.2.2.2.1) (aB.mk p1.2.2.2.2.2.2.2.2.2.2.2.2.2.2.1 p1.2.2.2.2.2.2.2.2.2.2.2.2.2.2.2.1 p1.2.2.2.2.2.2.2.2.2.2.2.2.2.2.2.2.1) (aB.mk p1.2.2.2.2.2.2.2.2.2.2.2.2.2.2.2.2.2.1 p1.2.2.2.2.2.2.2.2.2.2.2.2.2.2.2.2.2.2.1 p1.2.2.2.2.2.2.2.2.2.2.2.2.2.2.2.2.2.2.2.1)))) λr17=>
  cond (r17 != 0) (
   some ((aI.mk 0 (aK.mk [] [] []) (aH.mk 0 []) (aG.mk 0 (#v[0,0,0]) 0) (aL.mk 0 (#v[0,0,0]) (aB.mk 0 0 0) (aB.mk 0 0 0) (aB.mk 0 0 0)),r17))) (
   some ((aI.mk a0 (aK.mk p1.2.1 p1.2.2.1 p1.2.2.2.1) (aH.mk p1.2.2.2.2.1 p1.2.2.2.2.2.1) (aG.mk p1.2.2.2.2.2.2.1 p1.2.2.2.2.2.2.2.1 p1.2.2.2.2.2.2.2.2.1) (aL.mk p1.2.2.2.2.2.2.2.2.2.1 p1.2.2.2.2.2.2.2.2.2.2.1 (aB.mk p1.2.2.2.2.2.2.2.2.2.2.2.1 p1.2.2.2.2.2.2.2.2.2.2.2.2.1 p1.2.2.2.2.2.2.2.2.2.2.2.2.2.1) (aB.mk p1.2.2.2.2.2.2.2.2.2.2.2.2.2.2.1 p1.2.2.2.2.2.2.2.2.2.2.2.2.2.2.2.1 p1.2.2.2.2.2.2.2.2.2.2.2.2.2.2.2.2.1) (aB.mk p1.2.2.2.2.2.2.2.2.2.2.2.2.2.2.2.2.2.1 p1.2.2.2.2.2.2.2.2.2.2.2.2.2.2.2.2.2.2.1 p1.2.2.2.2.2.2.2.2.2.2.2.2.2.2.2.2.2.2.2.1)),0))))
theorem aEv{N a0 a1 r}(h:pJ N a0 a1=some r):FnM Tryz.prog 39 [] [(j64 a0),(eL 1 k8 a1)] (.tup [(aI.enc r.1),(j64 r.2)]) []:=by
 unfold pJ at h;refine At.f eX hT hmo Tryz.func39 rfl h ?_;refine At.J 7 1 [4,6] 2 (λp1=>([(7,(j64 p1.2.2.2.2.2.2.2.2.2.2.2.2.2.2.2.2.2.2.2.2.2.2.2))],[(1,.var (.st 24 [(j64 a0),(.st 3 [(eL 3 aB.enc p1.2.1),(eL 2 (eA 2 1 j64) p1.2.2.1),(eL 3 (eA 3 1 j64) p1.2.2.2.1)]),(.st 2 [(j64 p1.2.2.2.2.1),(eL 3 (eA 3 1 j64) p1.2.2.2.2.2.1)]),(.st 5 [(j64 p1.2.2.2.2.2.2.1),(eA 3 1 j64 p1.2.2.2.2.2.2.2.1),(j64 p1.2.2.2.2.2.2.2.2.1)]),(.st 13 [(j64 p1.2.2.2.2.2.2.2.2.2.1),(eA 3 1 j64 p1.2.2.2.2.2.2.2.2.2.2.1),(.st 3 [(j64 p1.2.2.2.2.2.2.2.2.2.2.2.1),(j64 p1.2.2.2.2.2.2.2.2.2.2.2.2.1),(j64 p1.2.2.2.2.2.2.2.2.2.2.2.2.2.1)]),(.st 3 [(j64 p1.2.2.2.2.2.2.2.2.2.2.2.2.2.2.1),(j64 p1.2.2.2.2.2.2.2.2.2.2.2.2.2.2.2.1),(j64 p1.2.2.2.2.2.2.2.2.2.2.2.2.2.2.2.2.1)]),(.st 3 [(j64 p1.2.2.2.2.2.2.2.2.2.2.2.2.2.2.2.2.2.1),(j64 p1.2.2.2.2.2.2.2.2.2.2.2.2.2.2.2.2.2.2.1),(j64 p1.2.2.2.2.2.2.2.2.2.2.2.2.2.2.2.2.2.2.2.1)])])]))],[.tail (p1.1.length*1),.var (.st 3 [(eL 1 k8 p1.2.2.2.2.2.2.2.2.2.2.2.2.2.2.2.2.2.2.2.2.1),(j64 p1.2.2.2.2.2.2.2.2.2.2.2.2.2.2.2.2.2.2.2.2.2.1),(eB p1.2.2.2.2.2.2.2.2.2.2.2.2.2.2.2.2.2.2.2.2.2.2.1)]),.var (.st 1 [(.ref 3 [] 0)])])) (λp1=>?_) λp1=>?_
 ·refine At.b 1 (λ_ e=>aM [] (vC e)) λr2=>?_;refine At.c 6 ?_ ?_
  ·refine At.b 1 (λ_ e=>aM [] (aGE e)) λr3=>?_;apply rt;exact At.jn 6
  ·refine At.c 2 ?_ ?_
   ·refine At.b 1 (λ_ e=>aM [] (aDZ e)) λr4=>?_;apply rt;exact At.jn 6
   ·refine At.c 2 ?_ ?_
    ·refine bi λr5 hr5=>?_;refine bi λr6 hr6=>?_;refine bi λr7 hr7=>?_;refine At.d 0 dE0 (dF 1 (j64 r5.2.2) [(3,.var (.st 3 [(eL 1 k8 r5.1),(j64 r5.2.1),(eB ((aA.mk r2 0 true).gA))]))] [] (bP (aM [3] (fA hr5))) (dF 3 (eA 3 1 j64 r6.2.2.2) [(3,.var (.st 3 [(eL 1 k8 r6.1),(j64 r6.2.1),(eB r6.2.2.1)]))] [] (bP (aM [3] (sL hr6))) (dF 5 (j64 r7.2.2) [(3,.var (.st 3 [(eL 1 k8 r7.1),(j64 r7.2.1),(eB ((aA.mk r6.1 r6.2.1 r6.2.2.1).gA))]))] [] (bP (aM [3] (fA hr7))) dF0))) ?_;refine At.b 2 (λ_ e=>aM [3] (mY e)) λr8=>?_;apply rt;exact At.jn 1
    ·refine At.c 2 ?_ ?_
     ·refine bi λr9 hr9=>?_;refine bi λr10 hr10=>?_;refine bi λr11 hr11=>?_;refine bi λr12 hr12=>?_;refine bi λr13 hr13=>?_;refine At.d 0 dE0 (dF 1 (j64 r9.2.2) [(3,.var (.st 3 [(eL 1 k8 r9.1),(j64 r9.2.1),(eB ((aA.mk r2 0 true).gA))]))] [] (bP (aM [3] (fA hr9))) (dF 3 (eA 3 1 j64 r10.2.2.2) [(3,.var (.st 3 [(eL 1 k8 r10.1),(j64 r10.2.1),(eB r10.2.2.1)]))] [] (bP (aM [3] (sL hr10))) (dF 5 (aB.enc r11.2.2.2) [(3,.var (.st 3 [(eL 1 k8 r11.1),(j64 r11.2.1),(eB r11.2.2.1)]))] [] (bP (aM [3] (pZ hr11))) (dF 7 (aB.enc r12.2.2.2) [(3,.var (.st 3 [(eL 1 k8 r12.1),(j64 r12.2.1),(eB r12.2.2.1)]))] [] (bP (aM [3] (pZ hr12))) (dF 9 (aB.enc r13.2.2.2) [(3,.var (.st 3 [(eL 1 k8 r13.1),(j64 r13.2.1),(eB r13.2.2.1)]))] [] (bP (aM [3] (pZ hr13))) dF0))))) ?_;refine At.b 2 (λ_ e=>aM [3] (mY e)) λr14=>?_;apply rt;exact At.jn 1
     ·apply rt;exact At.jn 0
 ·refine lx ?_;intro x15;refine At.c 2 ?_ ?_
  ·refine lx ?_;intro x16;apply rt;exact At.r 4
  ·refine At.b 1 (λ_ e=>aM [] (aA7 e)) λr17=>?_;refine At.c 3 ?_ ?_
   ·apply rt;exact At.r 4
   ·apply rt;exact At.r 3
def aG5 : Nat->Bool:=imL [2]
def lM(N:Nat)(r1:aE×Int)(v4:(Vector Int 8))(a0:(Vector Int 32))(s5:(List Int)):Nat->(List Int)->(List Int)->Int->Bool->Int->Option (Sum ((List Int)×(List Int)×Int×Bool) (aE×aI×Int))
 | 0,_,_,_,_,_=>none
 | k+1,s9,s10,s11,s12,s13=>
  aT (decide (s13 < r1.1.gA0)) λx14=>
  cond x14 (
   ae (fZ N v4 (I64 (s13+1))) λr15=>
   aT (I64 (r1.1.gR - ((s9.length:Int)))) λx16=>
   ae (iN N a0 r15 s5 s13 (mU 256 x16) (aA.mk s10 s11 s12)) λr17=>
   cond (r17.2.2.2.2 != 0) (
    ae (qG N r17.2.2.2.2) λr18=>
    some (Sum.inr ((r18.1,r18.2.1,r18.2.2)))) (
    ae (nR 1 s9 r17.2.2.2.1) λz19=>
    lM N r1 v4 a0 s5 k z19 r17.1 r17.2.1 r17.2.2.1 (I64 (s13+1)))) (
   some (Sum.inl ((s9,s10,s11,s12))))
def sA(N:Nat)(a0:(Vector Int 32))(a1:(List Int)):Option (aE×aI×Int):=
 ae (oV N a0 a1) λr1=>
 cond (r1.2 != 0) (
  ae (qG N r1.2) λr2=>
  some ((r2.1,r2.2.1,r2.2.2))) (
  ae (eD a1 4 12) λs3=>
  ae (aEn 8 s3) λv4=>
  ae (eD a1 47 63) λs5=>
  ae (eD a1 63 ((a1.length:Int))) λs6=>
  ae (qV N s6) λr7=>
  ae (lM N r1 v4 a0 s5 N [] r7 0 true 0) λo=>nQ o (λp8=>
   ae (qB N (aA.mk p8.2.1 p8.2.2.1 p8.2.2.2)) λr20=>
   cond (decide (r20 > 0)) (
    ae (qG N 7) λr21=>
    some ((r21.1,r21.2.1,r21.2.2))) (
    ae (pJ N r1.1.gC p8.1) λr22=>
    cond (r22.2 != 0) (
     ae (qG N r22.2) λr23=>
     some ((r23.1,r23.2.1,r23.2.2))) (
     some ((r1.1,r22.1,0))))) (λr=>some r))
theorem aBB{N a0 a1 r}(h:sA N a0 a1=some r):FnM Tryz.prog 14 [] [(eA 32 1 k8 a0),(eL 1 k8 a1)] (.tup [(aE.enc r.1),(aI.enc r.2.1),(j64 r.2.2)]) []:=by
 unfold sA at h;refine At.f aG5 hT hmo Tryz.func14 rfl h ?_;refine At.b 7 (λ_ e=>aM [] (aA8 e)) λr1=>?_;refine At.c 8 ?_ ?_
 ·refine At.b 2 (λ_ e=>aM [] (tG e)) λr2=>?_;apply rt;exact At.r 6
 ·refine At.b 1 (λ_ e=>iQ hT (k:=1) k8 e) λs3=>?_;refine At.b 0 (λv4 e=>aDS hT k8 s3 v4 e rfl (by kernel_rfl) (by kernel_rfl)) λv4=>?_;refine At.b 4 (λ_ e=>iQ hT (k:=1) k8 e) λs5=>?_;refine At.b 2 (λ_ e=>iQ hT (k:=1) k8 e) λs6=>?_;refine At.b 0 (λ_ e=>aM [] (vC e)) λr7=>?_;refine At.ownn 5 13 1 ?_;refine At.LS 0 [4,5,7,8,12] 7 (λp8=>([(13,(eO 6 1 k8 p8.1))],[(5,.var (.st 3 [(eL 1 k8 p8.2.1),(j64 p8.2.2.1),(eB p8.2.2.2)])),(6,.tail (p8.1.length*1))],[])) (λop8 J k=>∃s9 s10 s11 s12 s13,lM N r1 v4 a0 s5 k s9 s10 s11 s12 s13=some op8/\J [2,4,5,7,8,10,11,12,42] 7 [(13,(eO 6 1 k8 s9)),(43,(j64 s13))] [(5,.var (.st 3 [(eL 1 k8 s10),(j64 s11),(eB s12)])),(6,.tail (s9.length*1))] []) N (λ_ h=>⟨_,_,_,_,_,h,jr⟩) (λop8 g8 k s hI=>?_) λp8=>?_
  ·obtain⟨s9,s10,s11,s12,s13,h,hj⟩:=hI;cases k with
   | zero=>cases h
   | succ k=>
    refine At.jr hj ?_ h;refine lx ?_;intro x14;refine At.c 1 ?_ ?_
    ·refine bi λr15 hr15=>?_;refine lx ?_;intro x16;refine bi λr17 hr17=>?_;refine At.d 2 (dE2 4 (eA 12 1 k8 r15) (λ_=>dM (tY hr15)) dE0) (dF 14 (.tup [(eL 1 k8 r17.2.2.2.1),(j64 r17.2.2.2.2)]) [(5,.var (.st 3 [(eL 1 k8 r17.1),(j64 r17.2.1),(eB r17.2.2.1)]))] [] (bP (aM [5] (aAJ hr17))) dF0) ?_;refine At.c 2 ?_ ?_
     ·refine At.b 2 (λ_ e=>aM [] (tG e)) λr18=>?_;intro e;apply uQ g8 e;exact At.r 6
     ·refine At.b 2 (λ_ e=>dE hT k8 (id:=6) (k:=1) e) λz19=>?_;exact λh=>At.k 3 ⟨_,_,_,_,_,h,jr⟩
    ·apply rt;exact At.xs 0
  ·refine At.b 1 (λ_ e=>aM [5] (aAI e)) λr20=>?_;refine At.c 1 ?_ ?_
   ·refine At.b 1 (λ_ e=>aM [] (tG e)) λr21=>?_;apply rt;exact At.r 6
   ·refine At.b 3 (λ_ e=>aM [] (aEv e)) λr22=>?_;refine At.c 8 ?_ ?_
    ·refine At.b 2 (λ_ e=>aM [] (tG e)) λr23=>?_;apply rt;exact At.r 6
    ·refine At.d 0 dE0 dF0 ?_;apply rt;exact At.r 0
def qJ(N:Nat)(a0 a1:Int):Option ((List Int)):=
 aT (U8 (I64 (du a0 256))) λx1=>
 aT (U8 (I64 (du a1 256))) λx2=>
 some (([U8 (cu a0 256),x1,U8 (cu a1 256),x2]:List Int))
theorem aCb{N a0 a1 r}(h:qJ N a0 a1=some r):FnM Tryz.prog 40 [] [(j64 a0),(j64 a1)] (eO 0 1 k8 r) [.tail (r.length*1)]:=by
 unfold qJ at h;refine At.f eX hT hmo Tryz.func40 rfl h ?_;refine lx ?_;intro x1;refine lx ?_;intro x2;refine At.o 13 (uX hT k8 (k:=1) ([U8 (cu a0 256),x1,U8 (cu a1 256),x2]:List Int) (by kernel_rfl) (by kernel_rfl)) ?_;apply rt;exact At.r 1
def nN(N:Nat)(a0:Int):Nat->Int->Int->Option (Int)
 | 0,_,_=>none
 | k+1,s2,s3=>
  cond (decide (s3 < a0)) (
   aT (U64 ((U64 (s2*256))+255)) λx4=>
   nN N a0 k x4 (I64 (s3+1))) (
   some s2)
def fH(N:Nat)(a0:Int):Option (Int):=
 ae (nN N a0 N 0 0) λp1=>
 some p1
theorem pO{N a0 r}(h:fH N a0=some r):FnM Tryz.prog 98 [] [(j64 a0)] (k64 r) []:=by
 unfold fH at h;refine At.f eX hT hmo Tryz.func98 rfl h ?_;refine At.L 3 [] 0 (λp1=>([(3,(k64 p1))],[],[])) (λp1 J k=>∃s2 s3,nN N a0 k s2 s3=some p1/\J [0] 0 [(3,(k64 s2)),(4,(j64 s3))] [] []) N (λ_ h=>⟨_,_,h,jr⟩) (λp1 k s hI=>?_) λp1=>?_
 ·obtain⟨s2,s3,h,hj⟩:=hI;cases k with
  | zero=>cases h
  | succ k=>
   refine At.jr hj ?_ h;refine At.c 3 ?_ ?_
   ·refine lx ?_;intro x4;exact λh=>At.k 7 ⟨_,_,h,jr⟩
   ·apply rt;exact At.x 0
 ·apply rt;exact At.r 2
def dO(N:Nat)(a0:Int)(a1:aD):Option ((List Int)×Int×Int×Int):=
 ae (aF N a0 a1) λr1=>
 cond (r1.2.2.1 != 0) (
  some ((r1.1,r1.2.1,r1.2.2.1,0))) (
  ae (fH N a0) λr2=>
  aT (decide (r1.2.2.2 > (U64 (du r2 2)))) λx3=>
  cond x3 (
   ae (fH N a0) λr4=>
   aT (I64 (U64 (r4 - r1.2.2.2))) λx5=>
   aT (I64 ((I64 (0 - x5)) - 1)) λx6=>
   some ((r1.1,r1.2.1,r1.2.2.1,x6))) (
   some ((r1.1,r1.2.1,r1.2.2.1,I64 r1.2.2.2))))
theorem oR{N a0 a1 r}(h:dO N a0 a1=some r):FnM Tryz.prog 110 [.var (aD.enc a1)] [(.ref 0 [] 0),(j64 a0)] (j64 r.2.2.2) [.var (.st 3 [(eL 1 k8 r.1),(j64 r.2.1),(j64 r.2.2.1)])]:=by
 unfold dO at h;refine At.f eX hT hmo Tryz.func110 rfl h ?_;refine At.b 3 (λ_ e=>aM [0] (aQ e)) λr1=>?_;refine At.c 6 ?_ ?_
 ·apply rt;exact At.r 1
 ·refine At.b 2 (λ_ e=>aM [] (pO e)) λr2=>?_;refine lx ?_;intro x3;refine At.c 2 ?_ ?_
  ·refine At.b 1 (λ_ e=>aM [] (pO e)) λr4=>?_;refine lx ?_;intro x5;refine lx ?_;intro x6;apply rt;exact At.r 6
  ·apply rt;exact At.r 3
def iF(N:Nat)(a0:aD):Option ((List Int)×Int×Int×aB):=
 ae (dO N 2 a0) λr1=>
 ae (dO N 2 (aD.mk r1.1 r1.2.1 r1.2.2.1)) λr2=>
 ae (dO N 2 (aD.mk r2.1 r2.2.1 r2.2.2.1)) λr3=>
 some ((r3.1,r3.2.1,r3.2.2.1,aB.mk r1.2.2.2 r2.2.2.2 r3.2.2.2))
theorem qP{N a0 r}(h:iF N a0=some r):FnM Tryz.prog 76 [.var (aD.enc a0)] [(.ref 0 [] 0)] (aB.enc r.2.2.2) [.var (.st 3 [(eL 1 k8 r.1),(j64 r.2.1),(j64 r.2.2.1)])]:=by
 unfold iF at h;refine At.f eX hT hmo Tryz.func76 rfl h ?_;refine At.b 2 (λ_ e=>aM [0] (oR e)) λr1=>?_;refine At.b 2 (λ_ e=>aM [0] (oR e)) λr2=>?_;refine At.b 2 (λ_ e=>aM [0] (oR e)) λr3=>?_;apply rt;exact At.r 6
def dD(N:Nat)(a0:aD):Option (Int):=
 ae (cond (a0.gE==0) (
  aT (decide (a0.gAt < ((a0.gB.length:Int)))) λx2=>
  some x2) (
  some false)) λp1=>
 cond p1 (some 5) (some a0.gE)
theorem mM{N a0 r}(h:dD N a0=some r):FnM Tryz.prog 75 [.var (aD.enc a0)] [(.ref 0 [] 0)] (j64 r) [.var (aD.enc a0)]:=by
 unfold dD at h;refine At.f eX hT hmo Tryz.func75 rfl h ?_;refine At.J 1 0 [0] 1 (λp1=>([(19,(eB p1))],[],[])) (λp1=>?_) λp1=>?_
 ·refine boI (λhc5=>?_) (λhc5=>?_)
  ·refine lx ?_;intro x2;refine At.d 0 (dE1 5 (λ_=>xB hc5 rfl (uD hT (im:=false) (by kernel_rfl))) dE0) dF0 ?_;apply rt;exact At.jn 0
  ·refine At.d 0 (dE1 5 (λ_=>xB hc5 rfl (uD hT (im:=false) (by kernel_rfl))) dE0) dF0 ?_;apply rt;exact At.jn 0
 ·refine At.c 0 ?_ ?_
  ·apply rt;exact At.r 1
  ·apply rt;exact At.r 5
def aDi : Nat->Bool:=imL [2]
def lH(N:Nat)(a0:aB)(a1:Int):Option (Bool):=
 aT (decide (a0.gX < (I64 (0 - a1)))) λx1=>
 aT (cond (decide (a0.gX > a1)) true x1) λx2=>
 aT (cond x2 true (decide (a0.gY > a1))) λx3=>
 aT (decide (a0.gY < (I64 (0 - a1)))) λx4=>
 aT (cond (cond x3 true x4) true (decide (a0.gZ > a1))) λx5=>
 aT (decide (a0.gZ < (I64 (0 - a1)))) λx6=>
 some (cond x5 true x6)
theorem sK{N a0 a1 r}(h:lH N a0 a1=some r):FnM Tryz.prog 120 [] [(aB.enc a0),(j64 a1)] (eB r) []:=by
 unfold lH at h;refine At.f aDi hT hmo Tryz.func120 rfl h ?_;refine lx ?_;intro x1;refine lx ?_;intro x2;refine lx ?_;intro x3;refine lx ?_;intro x4;refine lx ?_;intro x5;refine lx ?_;intro x6;apply rt;exact At.r 40
def aCB : Nat->Bool:=imL [1]
def kS(N:Nat)(a0:aK):Nat->Int->Option (Sum (Unit) (Int))
 | 0,_=>none
 | k+1,s10=>
  aT ((a0.gG.length:Int)) λx11=>
  cond (decide (s10 < x11)) (
   ae (idx a0.gG s10) λe12=>
   ae (lH N e12 4096) λr13=>
   cond r13 (
    some (Sum.inr 8)) (
    kS N a0 k (I64 (s10+1)))) (
   some (Sum.inl (())))
def iK(N:Nat)(a0:aK)(s15:Int):Nat->Int->Option (Sum (Unit) (Int))
 | 0,_=>none
 | k+1,s18=>
  cond (decide (s18 < 2)) (
   ae (ae (idx a0.gL s15) λe20=>
   ae (idx e20.toList s18) λe21=>
   cond (decide (e21 < 0)) (
    some true) (
    ae (idx a0.gL s15) λe22=>
    ae (idx e22.toList s18) λe23=>
    some (decide (e23 > 65535)))) λp19=>
   cond p19 (
    some (Sum.inr 5)) (
    iK N a0 s15 k (I64 (s18+1)))) (
   some (Sum.inl (())))
def kL(N:Nat)(a0:aK):Nat->Int->Option (Sum (Unit) (Int))
 | 0,_=>none
 | k+1,s15=>
  aT (decide (s15 < ((a0.gL.length:Int)))) λx16=>
  cond x16 (
   ae (iK N a0 s15 N 0) λo=>nQ o (λp17=>
    kL N a0 k (I64 (s15+1))) (λr=>some (Sum.inr r))) (
   some (Sum.inl (())))
def eW(N:Nat)(a0:aK)(s25:Int):Nat->Int->Option (Sum (Unit) (Int))
 | 0,_=>none
 | k+1,s28=>
  cond (decide (s28 < 3)) (
   ae (ae (idx a0.gJ s25) λe30=>
   ae (idx e30.toList s28) λe31=>
   cond (decide (e31 < 0)) (
    some true) (
    ae (idx a0.gJ s25) λe32=>
    ae (idx e32.toList s28) λe33=>
    aT ((a0.gG.length:Int)) λx34=>
    cond (decide (e33>=x34)) (
     some true) (
     ae (idx a0.gJ s25) λe35=>
     ae (idx e35.toList s28) λe36=>
     aT (cu (I64 (s28+1)) 3) λx37=>
     ae (idx a0.gJ s25) λe38=>
     ae (idx e38.toList x37) λe39=>
     some (e36==e39)))) λp29=>
   cond p29 (
    some (Sum.inr 5)) (
    eW N a0 s25 k (I64 (s28+1)))) (
   some (Sum.inl (())))
def kR(N:Nat)(a0:aK):Nat->Int->Option (Sum (Unit) (Int))
 | 0,_=>none
 | k+1,s25=>
  aT ((a0.gJ.length:Int)) λx26=>
  cond (decide (s25 < x26)) (
   ae (eW N a0 s25 N 0) λo=>nQ o (λp27=>
    kR N a0 k (I64 (s25+1))) (λr=>some (Sum.inr r))) (
   some (Sum.inl (())))
def lE(N:Nat)(a0:aK):Option (Int):=
 aT ((a0.gG.length:Int)) λx1=>
 aT ((a0.gJ.length:Int)) λx2=>
 aT (cond (decide (x1 > 64)) true (decide (x2 > 64))) λx3=>
 cond x3 (
  some 3) (
  aT ((a0.gG.length:Int)) λx4=>
  aT ((a0.gJ.length:Int)) λx5=>
  aT (cond (decide (x4 < 1)) true (decide (x5 < 1))) λx6=>
  aT ((a0.gG.length:Int)) λx7=>
  aT (((a0.gL.length:Int)) != x7) λx8=>
  cond (cond x6 true x8) (
   some 5) (
   ae (kS N a0 N 0) λo=>nQ o (λp9=>
    ae (kL N a0 N 0) λo=>nQ o (λp14=>
     ae (kR N a0 N 0) λo=>nQ o (λp24=>
      some 0) (λr=>some r)) (λr=>some r)) (λr=>some r)))
theorem tO{N a0 r}(h:lE N a0=some r):FnM Tryz.prog 88 [] [(aK.enc a0)] (j64 r) []:=by
 unfold lE at h;refine At.f aCB hT hmo Tryz.func88 rfl h ?_;refine lx ?_;intro x1;refine lx ?_;intro x2;refine lx ?_;intro x3;refine At.c 12 ?_ ?_
 ·apply rt;exact At.r 1
 ·refine lx ?_;intro x4;refine lx ?_;intro x5;refine lx ?_;intro x6;refine lx ?_;intro x7;refine lx ?_;intro x8;refine At.c 19 ?_ ?_
  ·apply rt;exact At.r 1
  ·refine At.LS 1 [1] 0 (λp9=>([],[],[])) (λop9 J k=>∃s10,kS N a0 k s10=some op9/\J [1] 0 [(3,(j64 s10))] [] []) N (λ_ h=>⟨_,h,jr⟩) (λop9 g9 k s hI=>?_) λp9=>?_
   ·obtain⟨s10,h,hj⟩:=hI;cases k with
    | zero=>cases h
    | succ k=>
     refine At.jr hj ?_ h;refine lx ?_;intro x11;refine At.c 5 ?_ ?_
     ·refine At.b 3 (λ_ e=>bB hT aB.enc e) λe12=>?_;refine At.b 1 (λ_ e=>aM [] (sK e)) λr13=>?_;refine At.c 0 ?_ ?_
      ·intro e;apply uQ g9 e;exact At.r 1
      ·exact λh=>At.k 3 ⟨_,h,jr⟩
     ·apply rt;exact At.xs 0
   ·refine At.LS 1 [1] 0 (λp14=>([],[],[])) (λop14 J k=>∃s15,kL N a0 k s15=some op14/\J [1] 0 [(4,(j64 s15))] [] []) N (λ_ h=>⟨_,h,jr⟩) (λop14 g14 k s hI=>?_) λp14=>?_
    ·obtain⟨s15,h,hj⟩:=hI;cases k with
     | zero=>cases h
     | succ k=>
      refine At.jr hj ?_ h;refine lx ?_;intro x16;refine At.c 5 ?_ ?_
      ·refine At.LS 1 [1,4] 0 (λp17=>([],[],[])) (λop17 J k=>∃s18,iK N a0 s15 k s18=some op17/\J [1,4] 0 [(5,(j64 s18))] [] []) N (λ_ h=>⟨_,h,jr⟩) (λop17 g17 k s hI=>?_) λp17=>?_
       ·obtain⟨s18,h,hj⟩:=hI;cases k with
        | zero=>cases h
        | succ k=>
         refine At.jr hj ?_ h;refine At.c 2 ?_ ?_
         ·refine At.J 0 0 [1,4,5] 0 (λp19=>([(78,(eB p19))],[],[])) (λp19=>?_) λp19=>?_
          ·refine At.b 4 (λ_ e=>bB hT (eA 2 1 j64) e) λe20=>?_;refine At.b 0 (λ_ e=>bW hT (N:=2) (k:=1) j64 e20 e) λe21=>?_;refine At.s 69 3 ?_ ?_
           ·refine At.g [69] 9 ?_;apply rt;exact At.jn 0
           ·refine At.g [69] 4 ?_;refine At.b 0 (λ_ e=>bB hT (eA 2 1 j64) e) λe22=>?_;refine At.b 0 (λ_ e=>bW hT (N:=2) (k:=1) j64 e22 e) λe23=>?_;refine At.g [69] 3 ?_;apply rt;exact At.jn 0
          ·refine At.c 0 ?_ ?_
           ·intro e;apply rtS2 g17 g14 e;exact At.r 1
           ·exact λh=>At.k 3 ⟨_,h,jr⟩
         ·apply rt;exact At.xs 0
       ·exact λh=>At.k 3 ⟨_,h,jr⟩
      ·apply rt;exact At.xs 0
    ·refine At.LS 1 [] 0 (λp24=>([],[],[])) (λop24 J k=>∃s25,kR N a0 k s25=some op24/\J [1] 0 [(6,(j64 s25))] [] []) N (λ_ h=>⟨_,h,jr⟩) (λop24 g24 k s hI=>?_) λp24=>?_
     ·obtain⟨s25,h,hj⟩:=hI;cases k with
      | zero=>cases h
      | succ k=>
       refine At.jr hj ?_ h;refine lx ?_;intro x26;refine At.c 5 ?_ ?_
       ·refine At.LS 1 [1,6] 0 (λp27=>([],[],[])) (λop27 J k=>∃s28,eW N a0 s25 k s28=some op27/\J [1,6] 0 [(7,(j64 s28))] [] []) N (λ_ h=>⟨_,h,jr⟩) (λop27 g27 k s hI=>?_) λp27=>?_
        ·obtain⟨s28,h,hj⟩:=hI;cases k with
         | zero=>cases h
         | succ k=>
          refine At.jr hj ?_ h;refine At.c 2 ?_ ?_
          ·refine At.J 0 0 [1,6,7] 0 (λp29=>([(129,(eB p29))],[],[])) (λp29=>?_) λp29=>?_
           ·refine bi λe30 he30=>?_;refine bi λe31 he31=>?_;refine boI (λhc8=>?_) (λhc8=>?_)
            ·refine At.d 0 (dE1 4 (λ_=>bB hT (eA 3 1 j64) he30) (dE1 5 (λ_=>bW hT (N:=3) (k:=1) j64 e30 he31) (dE1 8 (λ_=>xB hc8 rfl (uD hT (im:=false) (by kernel_rfl))) dE0))) dF0 ?_;apply rt;exact At.jn 0
            ·refine bi λe32 he32=>?_;refine bi λe33 he33=>?_;refine lx ?_;intro x34;refine boI (λhc21=>?_) (λhc21=>?_)
             ·refine At.d 0 (dE1 4 (λ_=>bB hT (eA 3 1 j64) he30) (dE1 5 (λ_=>bW hT (N:=3) (k:=1) j64 e30 he31) (dE1 8 (λ_=>xB hc8 rfl (uD hT (im:=false) (by kernel_rfl))) (dE1 13 (λ_=>bB hT (eA 3 1 j64) he32) (dE1 14 (λ_=>bW hT (N:=3) (k:=1) j64 e32 he33) (dE1 21 (λ_=>xB hc21 rfl (uD hT (im:=false) (by kernel_rfl))) dE0)))))) dF0 ?_;apply rt;exact At.jn 0
             ·refine bi λe35 he35=>?_;refine bi λe36 he36=>?_;refine lx ?_;intro x37;refine bi λe38 he38=>?_;refine bi λe39 he39=>?_;refine At.d 0 (dE1 4 (λ_=>bB hT (eA 3 1 j64) he30) (dE1 5 (λ_=>bW hT (N:=3) (k:=1) j64 e30 he31) (dE1 8 (λ_=>xB hc8 rfl (uD hT (im:=false) (by kernel_rfl))) (dE1 13 (λ_=>bB hT (eA 3 1 j64) he32) (dE1 14 (λ_=>bW hT (N:=3) (k:=1) j64 e32 he33) (dE1 21 (λ_=>xB hc21 rfl (uD hT (im:=false) (by kernel_rfl))) (dE1 26 (λ_=>bB hT (eA 3 1 j64) he35) (dE1 27 (λ_=>bW hT (N:=3) (k:=1) j64 e35 he36) (dE1 35 (λ_=>bB hT (eA 3 1 j64) he38) (dE1 36 (λ_=>bW hT (N:=3) (k:=1) j64 e38 he39) dE0)))))))))) dF0 ?_;apply rt;exact At.jn 0
           ·refine At.c 0 ?_ ?_
            ·intro e;apply rtS2 g27 g24 e;exact At.r 1
            ·exact λh=>At.k 3 ⟨_,h,jr⟩
          ·apply rt;exact At.xs 0
        ·exact λh=>At.k 3 ⟨_,h,jr⟩
       ·apply rt;exact At.xs 0
     ·apply rt;exact At.r 1
def fQ(N:Nat)(r1:(List Int)×Int×Int×Int):Nat->(List aB)->(List Int)->Int->Int->Int->Option ((List aB)×(List Int)×Int×Int)
 | 0,_,_,_,_,_=>none
 | k+1,s4,s5,s6,s7,s8=>
  aT (decide (s8 < (I64 r1.2.2.2))) λx9=>
  cond x9 (
   ae (iF N (aD.mk s5 s6 s7)) λr10=>
   ae (nR 24 s4 (([r10.2.2.2]:List aB))) λz11=>
   fQ N r1 k z11 r10.1 r10.2.1 r10.2.2.1 (I64 (s8+1))) (
   some ((s4,s5,s6,s7)))
def fX(N:Nat)(r1:(List Int)×Int×Int×Int):Nat->(List (Vector Int 2))->(List Int)->Int->Int->Int->Option ((List (Vector Int 2))×(List Int)×Int×Int)
 | 0,_,_,_,_,_=>none
 | k+1,s13,s14,s15,s16,s17=>
  aT (decide (s17 < (I64 r1.2.2.2))) λx18=>
  cond x18 (
   ae (aF N 2 (aD.mk s14 s15 s16)) λr19=>
   ae (aF N 2 (aD.mk r19.1 r19.2.1 r19.2.2.1)) λr20=>
   ae (nR 16 s13 (([#v[I64 r19.2.2.2,I64 r20.2.2.2]]:List (Vector Int 2)))) λz21=>
   fX N r1 k z21 r20.1 r20.2.1 r20.2.2.1 (I64 (s17+1))) (
   some ((s13,s14,s15,s16)))
def fO(N:Nat)(r2:(List Int)×Int×Int×Int):Nat->(List (Vector Int 3))->(List Int)->Int->Int->Int->Option ((List (Vector Int 3))×(List Int)×Int×Int)
 | 0,_,_,_,_,_=>none
 | k+1,s23,s24,s25,s26,s27=>
  aT (decide (s27 < (I64 r2.2.2.2))) λx28=>
  cond x28 (
   ae (aF N 1 (aD.mk s24 s25 s26)) λr29=>
   ae (aF N 1 (aD.mk r29.1 r29.2.1 r29.2.2.1)) λr30=>
   ae (aF N 1 (aD.mk r30.1 r30.2.1 r30.2.2.1)) λr31=>
   ae (nR 24 s23 (([#v[I64 r29.2.2.2,I64 r30.2.2.2,I64 r31.2.2.2]]:List (Vector Int 3)))) λz32=>
   fO N r2 k z32 r31.1 r31.2.1 r31.2.2.1 (I64 (s27+1))) (
   some ((s23,s24,s25,s26)))
def oL(N:Nat)(a0:(List Int)):Option (aK×Int):=
 ae (aF N 1 (aD.mk a0 0 0)) λr1=>
 ae (aF N 1 (aD.mk r1.1 r1.2.1 r1.2.2.1)) λr2=>
 ae (fQ N r1 N [] r2.1 r2.2.1 r2.2.2.1 0) λp3=>
 ae (fX N r1 N [] p3.2.1 p3.2.2.1 p3.2.2.2 0) λp12=>
 ae (fO N r2 N [] p12.2.1 p12.2.2.1 p12.2.2.2 0) λp22=>
 ae (dD N (aD.mk p22.2.1 p22.2.2.1 p22.2.2.2)) λr33=>
 cond (r33 != 0) (
  some ((aK.mk [] [] [],r33))) (
  ae (lE N (aK.mk p3.1 p12.1 p22.1)) λr34=>
  cond (r34 != 0) (
   some ((aK.mk [] [] [],r34))) (
   some ((aK.mk p3.1 p12.1 p22.1,0))))
theorem aA0{N a0 r}(h:oL N a0=some r):FnM Tryz.prog 72 [] [(eL 1 k8 a0)] (.tup [(aK.enc r.1),(j64 r.2)]) []:=by
 unfold oL at h;refine At.f eX hT hmo Tryz.func72 rfl h ?_;refine At.b 7 (λ_ e=>aM [1] (aQ e)) λr1=>?_;refine At.b 3 (λ_ e=>aM [1] (aQ e)) λr2=>?_;refine At.ownb 4 2 3 [0] ?_;refine At.L 0 [2,4,5,6,7] 4 (λp3=>([],[(1,.var (.st 3 [(eL 1 k8 p3.2.1),(j64 p3.2.2.1),(j64 p3.2.2.2)])),(2,.var (.st 3 [(eO 3 3 aB.enc p3.1),(.v (.slice none 0 0)),(.v (.slice none 0 0))])),(3,.tail (p3.1.length*3))],[])) (λp3 J k=>∃s4 s5 s6 s7 s8,fQ N r1 k s4 s5 s6 s7 s8=some p3/\J [2,4,5,6,7] 4 [(8,(j64 s8))] [(1,.var (.st 3 [(eL 1 k8 s5),(j64 s6),(j64 s7)])),(2,.var (.st 3 [(eO 3 3 aB.enc s4),(.v (.slice none 0 0)),(.v (.slice none 0 0))])),(3,.tail (s4.length*3))] []) N (λ_ h=>⟨_,_,_,_,_,h,jr⟩) (λp3 k s hI=>?_) λp3=>?_
 ·obtain⟨s4,s5,s6,s7,s8,h,hj⟩:=hI;cases k with
  | zero=>cases h
  | succ k=>
   refine At.jr hj ?_ h;refine lx ?_;intro x9;refine At.c 3 ?_ ?_
   ·refine bi λr10 hr10=>?_;refine bi λz11 hz11=>?_;refine At.d 0 (dE1 4 (λ_=>bU hT (x:=(.sl 3 1 [(aB.enc r10.2.2.2)]))) dE0) (dF 3 (aB.enc r10.2.2.2) [(1,.var (.st 3 [(eL 1 k8 r10.1),(j64 r10.2.1),(j64 r10.2.2.1)]))] [] (bP (aM [1] (qP hr10))) (dF 5 (eO 3 3 aB.enc z11) [(3,.tail (z11.length*3))] [] (bP (dE hT aB.enc (id:=3) (k:=3) hz11)) dF0)) ?_;exact λh=>At.k 3 ⟨_,_,_,_,_,h,jr⟩
   ·apply rt;exact At.x 0
 ·refine At.ownb 1 2 2 [1] ?_;refine At.L 0 [2,4,6,7] 5 (λp12=>([],[(1,.var (.st 3 [(eL 1 k8 p12.2.1),(j64 p12.2.2.1),(j64 p12.2.2.2)])),(2,.var (.st 3 [(eO 3 3 aB.enc p3.1),(eO 4 2 (eA 2 1 j64) p12.1),(.v (.slice none 0 0))])),(4,.tail (p12.1.length*2))],[])) (λp12 J k=>∃s13 s14 s15 s16 s17,fX N r1 k s13 s14 s15 s16 s17=some p12/\J [2,4,5,6,7] 5 [(9,(j64 s17))] [(1,.var (.st 3 [(eL 1 k8 s14),(j64 s15),(j64 s16)])),(2,.var (.st 3 [(eO 3 3 aB.enc p3.1),(eO 4 2 (eA 2 1 j64) s13),(.v (.slice none 0 0))])),(4,.tail (s13.length*2))] []) N (λ_ h=>⟨_,_,_,_,_,h,jr⟩) (λp12 k s hI=>?_) λp12=>?_
  ·obtain⟨s13,s14,s15,s16,s17,h,hj⟩:=hI;cases k with
   | zero=>cases h
   | succ k=>
    refine At.jr hj ?_ h;refine lx ?_;intro x18;refine At.c 3 ?_ ?_
    ·refine At.b 1 (λ_ e=>aM [1] (aQ e)) λr19=>?_;refine At.b 3 (λ_ e=>aM [1] (aQ e)) λr20=>?_;refine At.o 7 (bU hT (x:=(.sl 2 1 [(.arr 2 1 [(j64 (I64 r19.2.2.2)),(j64 (I64 r20.2.2.2))])]))) ?_;refine At.b 0 (λ_ e=>dE hT (eA 2 1 j64) (id:=4) (k:=2) e) λz21=>?_;exact λh=>At.k 5 ⟨_,_,_,_,_,h,jr⟩
    ·apply rt;exact At.x 0
  ·refine At.ownb 1 2 3 [2] ?_;refine At.L 0 [2,4,7] 6 (λp22=>([],[(1,.var (.st 3 [(eL 1 k8 p22.2.1),(j64 p22.2.2.1),(j64 p22.2.2.2)])),(2,.var (.st 3 [(eO 3 3 aB.enc p3.1),(eO 4 2 (eA 2 1 j64) p12.1),(eO 5 3 (eA 3 1 j64) p22.1)])),(5,.tail (p22.1.length*3))],[])) (λp22 J k=>∃s23 s24 s25 s26 s27,fO N r2 k s23 s24 s25 s26 s27=some p22/\J [2,4,6,7] 6 [(12,(j64 s27))] [(1,.var (.st 3 [(eL 1 k8 s24),(j64 s25),(j64 s26)])),(2,.var (.st 3 [(eO 3 3 aB.enc p3.1),(eO 4 2 (eA 2 1 j64) p12.1),(eO 5 3 (eA 3 1 j64) s23)])),(5,.tail (s23.length*3))] []) N (λ_ h=>⟨_,_,_,_,_,h,jr⟩) (λp22 k s hI=>?_) λp22=>?_
   ·obtain⟨s23,s24,s25,s26,s27,h,hj⟩:=hI;cases k with
    | zero=>cases h
    | succ k=>
     refine At.jr hj ?_ h;refine lx ?_;intro x28;refine At.c 3 ?_ ?_
     ·refine At.b 1 (λ_ e=>aM [1] (aQ e)) λr29=>?_;refine At.b 3 (λ_ e=>aM [1] (aQ e)) λr30=>?_;refine At.b 3 (λ_ e=>aM [1] (aQ e)) λr31=>?_;refine At.o 8 (bU hT (x:=(.sl 3 1 [(.arr 3 1 [(j64 (I64 r29.2.2.2)),(j64 (I64 r30.2.2.2)),(j64 (I64 r31.2.2.2))])]))) ?_;refine At.b 0 (λ_ e=>dE hT (eA 3 1 j64) (id:=5) (k:=3) e) λz32=>?_;exact λh=>At.k 5 ⟨_,_,_,_,_,h,jr⟩
     ·apply rt;exact At.x 0
   ·refine At.b 1 (λ_ e=>aM [1] (mM e)) λr33=>?_;refine At.c 3 ?_ ?_
    ·apply rt;exact At.r 4
    ·refine At.b 1 (λ_ e=>aM [] (tO e)) λr34=>?_;refine At.c 3 ?_ ?_
     ·apply rt;exact At.r 4
     ·apply rt;exact At.r 3
def aCT : Nat->Bool:=imL [1]
def eT(N:Nat)(a0:aH)(s9:Int):Nat->Int->Option (Sum (Unit) (Int))
 | 0,_=>none
 | k+1,s12=>
  cond (decide (s12 < 3)) (
   ae (ae (idx a0.gK s9) λe14=>
   ae (idx e14.toList s12) λe15=>
   cond (decide (e15 < 0)) (
    some true) (
    ae (idx a0.gK s9) λe16=>
    ae (idx e16.toList s12) λe17=>
    some (decide (e17 > 255)))) λp13=>
   cond p13 (
    some (Sum.inr 5)) (
    eT N a0 s9 k (I64 (s12+1)))) (
   some (Sum.inl (())))
def kI(N:Nat)(a0:aH):Nat->Int->Option (Sum (Unit) (Int))
 | 0,_=>none
 | k+1,s9=>
  aT ((a0.gK.length:Int)) λx10=>
  cond (decide (s9 < x10)) (
   ae (eT N a0 s9 N 0) λo=>nQ o (λp11=>
    kI N a0 k (I64 (s9+1))) (λr=>some (Sum.inr r))) (
   some (Sum.inl (())))
def iU(N:Nat)(a0:aH):Option (Int):=
 aT (cond (a0.gM != 1) (a0.gM != 2) false) λx1=>
 aT (cond x1 (a0.gM != 4) false) λx2=>
 aT (cond x2 (a0.gM != 8) false) λx3=>
 aT (cond x3 (a0.gM != 16) false) λx4=>
 aT ((a0.gK.length:Int)) λx5=>
 aT (I64 (a0.gM*a0.gM)) λx6=>
 aT (cond x4 true (x5 != x6)) λx7=>
 cond x7 (
  some 5) (
  ae (kI N a0 N 0) λo=>nQ o (λp8=>
   some 0) (λr=>some r))
theorem tP{N a0 r}(h:iU N a0=some r):FnM Tryz.prog 90 [] [(aH.enc a0)] (j64 r) []:=by
 unfold iU at h;refine At.f aCT hT hmo Tryz.func90 rfl h ?_;refine lx ?_;intro x1;refine lx ?_;intro x2;refine lx ?_;intro x3;refine lx ?_;intro x4;refine lx ?_;intro x5;refine lx ?_;intro x6;refine lx ?_;intro x7;refine At.c 36 ?_ ?_
 ·apply rt;exact At.r 1
 ·refine At.LS 1 [] 0 (λp8=>([],[],[])) (λop8 J k=>∃s9,kI N a0 k s9=some op8/\J [1] 0 [(3,(j64 s9))] [] []) N (λ_ h=>⟨_,h,jr⟩) (λop8 g8 k s hI=>?_) λp8=>?_
  ·obtain⟨s9,h,hj⟩:=hI;cases k with
   | zero=>cases h
   | succ k=>
    refine At.jr hj ?_ h;refine lx ?_;intro x10;refine At.c 5 ?_ ?_
    ·refine At.LS 1 [1,3] 0 (λp11=>([],[],[])) (λop11 J k=>∃s12,eT N a0 s9 k s12=some op11/\J [1,3] 0 [(4,(j64 s12))] [] []) N (λ_ h=>⟨_,h,jr⟩) (λop11 g11 k s hI=>?_) λp11=>?_
     ·obtain⟨s12,h,hj⟩:=hI;cases k with
      | zero=>cases h
      | succ k=>
       refine At.jr hj ?_ h;refine At.c 2 ?_ ?_
       ·refine At.J 0 0 [1,3,4] 0 (λp13=>([(67,(eB p13))],[],[])) (λp13=>?_) λp13=>?_
        ·refine At.b 4 (λ_ e=>bB hT (eA 3 1 j64) e) λe14=>?_;refine At.b 0 (λ_ e=>bW hT (N:=3) (k:=1) j64 e14 e) λe15=>?_;refine At.s 58 3 ?_ ?_
         ·refine At.g [58] 9 ?_;apply rt;exact At.jn 0
         ·refine At.g [58] 4 ?_;refine At.b 0 (λ_ e=>bB hT (eA 3 1 j64) e) λe16=>?_;refine At.b 0 (λ_ e=>bW hT (N:=3) (k:=1) j64 e16 e) λe17=>?_;refine At.g [58] 3 ?_;apply rt;exact At.jn 0
        ·refine At.c 0 ?_ ?_
         ·intro e;apply rtS2 g11 g8 e;exact At.r 1
         ·exact λh=>At.k 3 ⟨_,h,jr⟩
       ·apply rt;exact At.xs 0
     ·exact λh=>At.k 3 ⟨_,h,jr⟩
    ·apply rt;exact At.xs 0
  ·apply rt;exact At.r 1
def cP(N:Nat)(r1:(List Int)×Int×Int×Int):Nat->(List (Vector Int 3))->(List Int)->Int->Int->Int->Option ((List (Vector Int 3))×(List Int)×Int×Int)
 | 0,_,_,_,_,_=>none
 | k+1,s3,s4,s5,s6,s7=>
  aT (I64 ((I64 r1.2.2.2)*(I64 r1.2.2.2))) λx8=>
  aT (cond (decide (s7 < x8)) (s6==0) false) λx9=>
  cond x9 (
   ae (aF N 1 (aD.mk s4 s5 s6)) λr10=>
   ae (aF N 1 (aD.mk r10.1 r10.2.1 r10.2.2.1)) λr11=>
   ae (aF N 1 (aD.mk r11.1 r11.2.1 r11.2.2.1)) λr12=>
   ae (nR 24 s3 (([#v[I64 r10.2.2.2,I64 r11.2.2.2,I64 r12.2.2.2]]:List (Vector Int 3)))) λz13=>
   cP N r1 k z13 r12.1 r12.2.1 r12.2.2.1 (I64 (s7+1))) (
   some ((s3,s4,s5,s6)))
def oJ(N:Nat)(a0:(List Int)):Option (aH×Int):=
 ae (aF N 1 (aD.mk a0 0 0)) λr1=>
 ae (cP N r1 N [] r1.1 r1.2.1 r1.2.2.1 0) λp2=>
 ae (dD N (aD.mk p2.2.1 p2.2.2.1 p2.2.2.2)) λr14=>
 cond (r14 != 0) (
  some ((aH.mk 0 [],r14))) (
  ae (iU N (aH.mk (I64 r1.2.2.2) p2.1)) λr15=>
  cond (r15 != 0) (
   some ((aH.mk 0 [],r15))) (
   some ((aH.mk (I64 r1.2.2.2) p2.1,0))))
theorem aA9{N a0 r}(h:oJ N a0=some r):FnM Tryz.prog 73 [] [(eL 1 k8 a0)] (.tup [(aH.enc r.1),(j64 r.2)]) []:=by
 unfold oJ at h;refine At.f eX hT hmo Tryz.func73 rfl h ?_;refine At.b 7 (λ_ e=>aM [1] (aQ e)) λr1=>?_;refine At.ownb 5 2 3 [1] ?_;refine At.L 0 [2,4,5] 4 (λp2=>([],[(1,.var (.st 3 [(eL 1 k8 p2.2.1),(j64 p2.2.2.1),(j64 p2.2.2.2)])),(2,.var (.st 2 [(j64 (I64 r1.2.2.2)),(eO 3 3 (eA 3 1 j64) p2.1)])),(3,.tail (p2.1.length*3))],[])) (λp2 J k=>∃s3 s4 s5 s6 s7,cP N r1 k s3 s4 s5 s6 s7=some p2/\J [2,4,5] 4 [(6,(j64 s7))] [(1,.var (.st 3 [(eL 1 k8 s4),(j64 s5),(j64 s6)])),(2,.var (.st 2 [(j64 (I64 r1.2.2.2)),(eO 3 3 (eA 3 1 j64) s3)])),(3,.tail (s3.length*3))] []) N (λ_ h=>⟨_,_,_,_,_,h,jr⟩) (λp2 k s hI=>?_) λp2=>?_
 ·obtain⟨s3,s4,s5,s6,s7,h,hj⟩:=hI;cases k with
  | zero=>cases h
  | succ k=>
   refine At.jr hj ?_ h;refine lx ?_;intro x8;refine lx ?_;intro x9;refine At.c 14 ?_ ?_
   ·refine At.b 1 (λ_ e=>aM [1] (aQ e)) λr10=>?_;refine At.b 3 (λ_ e=>aM [1] (aQ e)) λr11=>?_;refine At.b 3 (λ_ e=>aM [1] (aQ e)) λr12=>?_;refine At.o 8 (bU hT (x:=(.sl 3 1 [(.arr 3 1 [(j64 (I64 r10.2.2.2)),(j64 (I64 r11.2.2.2)),(j64 (I64 r12.2.2.2))])]))) ?_;refine At.b 0 (λ_ e=>dE hT (eA 3 1 j64) (id:=3) (k:=3) e) λz13=>?_;exact λh=>At.k 5 ⟨_,_,_,_,_,h,jr⟩
   ·apply rt;exact At.x 0
 ·refine At.b 1 (λ_ e=>aM [1] (mM e)) λr14=>?_;refine At.c 3 ?_ ?_
  ·apply rt;exact At.r 4
  ·refine At.b 1 (λ_ e=>aM [] (tP e)) λr15=>?_;refine At.c 3 ?_ ?_
   ·apply rt;exact At.r 4
   ·apply rt;exact At.r 3
def eQ(N:Nat)(a0:Int)(a1:aD):Option ((List Int)×Int×Int×(Vector Int 3)):=
 ae (aF N a0 a1) λr1=>
 ae (aF N a0 (aD.mk r1.1 r1.2.1 r1.2.2.1)) λr2=>
 ae (aF N a0 (aD.mk r2.1 r2.2.1 r2.2.2.1)) λr3=>
 some ((r3.1,r3.2.1,r3.2.2.1,#v[I64 r1.2.2.2,I64 r2.2.2.2,I64 r3.2.2.2]))
theorem uV{N a0 a1 r}(h:eQ N a0 a1=some r):FnM Tryz.prog 74 [.var (aD.enc a1)] [(.ref 0 [] 0),(j64 a0)] (eA 3 1 j64 r.2.2.2) [.var (.st 3 [(eL 1 k8 r.1),(j64 r.2.1),(j64 r.2.2.1)])]:=by
 unfold eQ at h;refine At.f eX hT hmo Tryz.func74 rfl h ?_;refine At.b 3 (λ_ e=>aM [0] (aQ e)) λr1=>?_;refine At.b 4 (λ_ e=>aM [0] (aQ e)) λr2=>?_;refine At.b 4 (λ_ e=>aM [0] (aQ e)) λr3=>?_;apply rt;exact At.r 7
def aAs : Nat->Bool:=imL [1]
def lU(N:Nat)(a0:aH):Option (Bool):=
 aT ((a0.gK.length:Int)) λx1=>
 aT (cond (a0.gM != 0) true (decide (x1 > 0))) λx2=>
 some x2
theorem sG{N a0 r}(h:lU N a0=some r):FnM Tryz.prog 89 [] [(aH.enc a0)] (eB r) []:=by
 unfold lU at h;refine At.f aAs hT hmo Tryz.func89 rfl h ?_;refine lx ?_;intro x1;refine lx ?_;intro x2;apply rt;exact At.r 12
def aDP : Nat->Bool:=imL [1]
def nW(N:Nat)(a0:aK):Option (Bool):=
 aT ((a0.gG.length:Int)) λx1=>
 aT (I64 (x1+((a0.gL.length:Int)))) λx2=>
 aT ((a0.gJ.length:Int)) λx3=>
 aT (decide ((I64 (x2+x3)) > 0)) λx4=>
 some x4
theorem uE{N a0 r}(h:nW N a0=some r):FnM Tryz.prog 91 [] [(aK.enc a0)] (eB r) []:=by
 unfold nW at h;refine At.f aDP hT hmo Tryz.func91 rfl h ?_;refine lx ?_;intro x1;refine lx ?_;intro x2;refine lx ?_;intro x3;refine lx ?_;intro x4;apply rt;exact At.r 15
def aAj : Nat->Bool:=imL [1]
def dJ(N:Nat)(a0:aG):Nat->Int->Option (Sum (Unit) (Int))
 | 0,_=>none
 | k+1,s5=>
  cond (decide (s5 < 3)) (
   ae (ae (idx a0.gF.toList s5) λe7=>
   cond (decide (e7 < 0)) (
    some true) (
    ae (idx a0.gF.toList s5) λe8=>
    some (decide (e8 > 65535)))) λp6=>
   cond p6 (
    some (Sum.inr 5)) (
    dJ N a0 k (I64 (s5+1)))) (
   some (Sum.inl (())))
def nA(N:Nat)(a0:aG):Option (Int):=
 aT (cond (decide (a0.gC < 0)) true (decide (a0.gC > 4))) λx1=>
 aT (cond x1 true (decide (a0.gW < 0))) λx2=>
 aT (decide (a0.gW > 65535)) λx3=>
 cond (cond x2 true x3) (
  some 5) (
  ae (dJ N a0 N 0) λo=>nQ o (λp4=>
   some 0) (λr=>some r))
theorem aAC{N a0 r}(h:nA N a0=some r):FnM Tryz.prog 92 [] [(aG.enc a0)] (j64 r) []:=by
 unfold nA at h;refine At.f aAj hT hmo Tryz.func92 rfl h ?_;refine lx ?_;intro x1;refine lx ?_;intro x2;refine lx ?_;intro x3;refine At.c 20 ?_ ?_
 ·apply rt;exact At.r 1
 ·refine At.LS 1 [] 0 (λp4=>([],[],[])) (λop4 J k=>∃s5,dJ N a0 k s5=some op4/\J [1] 0 [(3,(j64 s5))] [] []) N (λ_ h=>⟨_,h,jr⟩) (λop4 g4 k s hI=>?_) λp4=>?_
  ·obtain⟨s5,h,hj⟩:=hI;cases k with
   | zero=>cases h
   | succ k=>
    refine At.jr hj ?_ h;refine At.c 2 ?_ ?_
    ·refine At.J 0 0 [1,3] 0 (λp6=>([(37,(eB p6))],[],[])) (λp6=>?_) λp6=>?_
     ·refine At.b 2 (λ_ e=>bW hT (N:=3) (k:=1) j64 a0.gF e) λe7=>?_;refine At.s 31 3 ?_ ?_
      ·refine At.g [31] 6 ?_;apply rt;exact At.jn 0
      ·refine At.g [31] 2 ?_;refine At.b 0 (λ_ e=>bW hT (N:=3) (k:=1) j64 a0.gF e) λe8=>?_;refine At.g [31] 3 ?_;apply rt;exact At.jn 0
     ·refine At.c 0 ?_ ?_
      ·intro e;apply uQ g4 e;exact At.r 1
      ·exact λh=>At.k 3 ⟨_,h,jr⟩
    ·apply rt;exact At.xs 0
  ·apply rt;exact At.r 1
def aB9 : Nat->Bool:=imL [1]
def eV(N:Nat)(a0:aL):Nat->Int->Option (Sum (Unit) (Int))
 | 0,_=>none
 | k+1,s3=>
  cond (decide (s3 < 3)) (
   ae (ae (idx a0.gF.toList s3) λe5=>
   cond (decide (e5 < 0)) (
    some true) (
    ae (idx a0.gF.toList s3) λe6=>
    some (decide (e6 > 1048576)))) λp4=>
   cond p4 (
    some (Sum.inr 5)) (
    eV N a0 k (I64 (s3+1)))) (
   some (Sum.inl (())))
def pV(N:Nat)(a0:aL):Option (Int):=
 aT (cond (decide (a0.gC < 0)) true (decide (a0.gC > 2))) λx1=>
 cond x1 (
  some 5) (
  ae (eV N a0 N 0) λo=>nQ o (λp2=>
   ae (ae (lH N a0.gAt 4096) λr8=>
   cond r8 (
    some true) (
    ae (lH N a0.gU 4096) λr9=>
    cond r9 (
     some true) (
     ae (lH N a0.gV 4096) λr10=>
     some r10))) λp7=>
   cond p7 (
    some 8) (
    ae (cond (a0.gC==2) (
     aT (!(aB.eq a0.gAt (aB.mk 0 0 0))) λx12=>
     cond x12 (
      some true) (
      cond (a0.gC != 1) (
       aT (!(aB.eq a0.gU (aB.mk 0 0 0))) λx13=>
       cond x13 (
        some true) (
        some (!(aB.eq a0.gV (aB.mk 0 0 0))))) (
       some false))) (
     cond (a0.gC != 1) (
      aT (!(aB.eq a0.gU (aB.mk 0 0 0))) λx14=>
      cond x14 (
       some true) (
       some (!(aB.eq a0.gV (aB.mk 0 0 0))))) (
      some false))) λp11=>
    cond p11 (some 5) (some 0))) (λr=>some r))
theorem aBe{N a0 r}(h:pV N a0=some r):FnM Tryz.prog 93 [] [(aL.enc a0)] (j64 r) []:=by
 unfold pV at h;refine At.f aB9 hT hmo Tryz.func93 rfl h ?_;refine lx ?_;intro x1;refine At.c 10 ?_ ?_
 ·apply rt;exact At.r 1
 ·refine At.LS 1 [1] 0 (λp2=>([],[],[])) (λop2 J k=>∃s3,eV N a0 k s3=some op2/\J [1] 0 [(3,(j64 s3))] [] []) N (λ_ h=>⟨_,h,jr⟩) (λop2 g2 k s hI=>?_) λp2=>?_
  ·obtain⟨s3,h,hj⟩:=hI;cases k with
   | zero=>cases h
   | succ k=>
    refine At.jr hj ?_ h;refine At.c 2 ?_ ?_
    ·refine At.J 0 0 [1,3] 0 (λp4=>([(28,(eB p4))],[],[])) (λp4=>?_) λp4=>?_
     ·refine At.b 2 (λ_ e=>bW hT (N:=3) (k:=1) j64 a0.gF e) λe5=>?_;refine At.s 22 3 ?_ ?_
      ·refine At.g [22] 6 ?_;apply rt;exact At.jn 0
      ·refine At.g [22] 2 ?_;refine At.b 0 (λ_ e=>bW hT (N:=3) (k:=1) j64 a0.gF e) λe6=>?_;refine At.g [22] 3 ?_;apply rt;exact At.jn 0
     ·refine At.c 0 ?_ ?_
      ·intro e;apply uQ g2 e;exact At.r 1
      ·exact λh=>At.k 3 ⟨_,h,jr⟩
    ·apply rt;exact At.xs 0
  ·refine At.J 0 0 [1] 0 (λp7=>([(41,(eB p7))],[],[])) (λp7=>?_) λp7=>?_
   ·refine At.b 2 (λ_ e=>aM [] (sK e)) λr8=>?_;refine At.s 32 1 ?_ ?_
    ·refine At.g [32,37] 9 ?_;apply rt;exact At.jn 0
    ·refine At.g [32] 2 ?_;refine At.b 0 (λ_ e=>aM [] (sK e)) λr9=>?_;refine At.g [32] 2 ?_;refine At.s 37 0 ?_ ?_
     ·refine At.g [37] 4 ?_;apply rt;exact At.jn 0
     ·refine At.g [37] 2 ?_;refine At.b 0 (λ_ e=>aM [] (sK e)) λr10=>?_;refine At.g [37] 1 ?_;apply rt;exact At.jn 0
   ·refine At.c 0 ?_ ?_
    ·apply rt;exact At.r 1
    ·refine At.J 3 0 [] 1 (λp11=>([(68,(eB p11))],[],[])) (λp11=>?_) λp11=>?_
     ·refine At.s 46 4 ?_ ?_
      ·refine At.g [46] 3 ?_;refine At.o 0 (kF uH (a0.gAt:aB) (aB.mk 0 0 0:aB) (by kernel_rfl) (by kernel_rfl) (λ_=>rfl) (λ_=>rfl) (by kernel_rfl) (by kernel_rfl)) ?_;refine lx ?_;intro x12;refine At.g [46] 2 ?_;refine At.s 52 0 ?_ ?_
       ·refine At.g [52,56,61] 16 ?_;apply rt;exact At.jn 0
       ·refine At.g [52] 4 ?_;refine At.s 56 0 ?_ ?_
        ·refine At.g [56] 3 ?_;refine At.o 0 (kF uH (a0.gU:aB) (aB.mk 0 0 0:aB) (by kernel_rfl) (by kernel_rfl) (λ_=>rfl) (λ_=>rfl) (by kernel_rfl) (by kernel_rfl)) ?_;refine lx ?_;intro x13;refine At.g [56] 1 ?_;refine At.s 61 0 ?_ ?_
         ·refine At.g [61,56,52] 7 ?_;apply rt;exact At.jn 0
         ·refine At.g [61] 3 ?_;refine At.o 0 (kF uH (a0.gV:aB) (aB.mk 0 0 0:aB) (by kernel_rfl) (by kernel_rfl) (λ_=>rfl) (λ_=>rfl) (by kernel_rfl) (by kernel_rfl)) ?_;refine At.g [56,61,52] 3 ?_;apply rt;exact At.jn 0
        ·refine At.g [56,61,52] 12 ?_;apply rt;exact At.jn 0
      ·refine At.g [46,52] 10 ?_;refine At.s 56 0 ?_ ?_
       ·refine At.g [56] 3 ?_;refine At.o 0 (kF uH (a0.gU:aB) (aB.mk 0 0 0:aB) (by kernel_rfl) (by kernel_rfl) (λ_=>rfl) (λ_=>rfl) (by kernel_rfl) (by kernel_rfl)) ?_;refine lx ?_;intro x14;refine At.g [56] 1 ?_;refine At.s 61 0 ?_ ?_
        ·refine At.g [61,56,52] 7 ?_;apply rt;exact At.jn 0
        ·refine At.g [61] 3 ?_;refine At.o 0 (kF uH (a0.gV:aB) (aB.mk 0 0 0:aB) (by kernel_rfl) (by kernel_rfl) (λ_=>rfl) (λ_=>rfl) (by kernel_rfl) (by kernel_rfl)) ?_;refine At.g [56,61,52] 3 ?_;apply rt;exact At.jn 0
       ·refine At.g [56,61,52] 12 ?_;apply rt;exact At.jn 0
     ·refine At.c 0 ?_ ?_
      ·apply rt;exact At.r 1
      ·apply rt;exact At.r 1
def oI(N:Nat)(a1:Int):Nat->(List Int)->Int->Int->Option ((List Int))
 | 0,_,_,_=>none
 | k+1,s11,s12,s13=>
  cond (decide (s13 < a1)) (
   ae (nR 1 s11 (([U8 (cu s12 256)]:List Int))) λz14=>
   oI N a1 k z14 (U64 (du s12 256)) (I64 (s13+1))) (
   some s11)
def mR(N:Nat)(a2:(List Int))(a1:Int):Nat->(List Int)->Int->Option (Sum ((List Int)) ((List Int)×Int))
 | 0,_,_=>none
 | k+1,s4,s5=>
  aT (decide (s5 < ((a2.length:Int)))) λx6=>
  cond x6 (
   ae (idx a2 s5) λe7=>
   ae (fH N a1) λr8=>
   cond (decide (e7 > r8)) (
    some (Sum.inr (([],3)))) (
    ae (idx a2 s5) λe9=>
    ae (oI N a1 N s4 e9 0) λp10=>
    mR N a2 a1 k p10 (I64 (s5+1)))) (
   some (Sum.inl s4))
def jO(N:Nat)(a0:(List Int))(a1:Int)(a2:(List Int)):Option ((List Int)×Int):=
 aT (cond (decide (a1 < 1)) true (decide (a1 > 8))) λx1=>
 cond x1 (
  some (([],2))) (
  ae (nR 1 (([]:List Int)) a0) λz2=>
  ae (mR N a2 a1 N z2 0) λo=>nQ o (λp3=>
   some ((p3,0))) (λr=>some r))
theorem yM{N a0 a1 a2 r}(h:jO N a0 a1 a2=some r):FnM Tryz.prog 55 [] [(eL 1 k8 a0),(j64 a1),(eL 1 k64 a2)] (.tup [(eO 0 1 k8 r.1),(j64 r.2)]) [.tail (r.1.length*1)]:=by
 unfold jO at h;refine At.f eX hT hmo Tryz.func55 rfl h ?_;refine lx ?_;intro x1;refine At.c 8 ?_ ?_
 ·refine At.ownn 2 6 1 ?_;apply rt;exact At.r 0
 ·refine At.o 0 (uX hT k8 (k:=1) ([]:List Int) (by kernel_rfl) (by kernel_rfl)) ?_;refine At.b 1 (λ_ e=>dE hT k8 (id:=0) (k:=1) e) λz2=>?_;refine At.LS 2 [] 1 (λp3=>([(8,(eO 0 1 k8 p3))],[(0,.tail (p3.length*1))],[])) (λop3 J k=>∃s4 s5,mR N a2 a1 k s4 s5=some op3/\J [1,2] 1 [(8,(eO 0 1 k8 s4)),(9,(j64 s5))] [(0,.tail (s4.length*1))] []) N (λ_ h=>⟨_,_,h,jr⟩) (λop3 g3 k s hI=>?_) λp3=>?_
  ·obtain⟨s4,s5,h,hj⟩:=hI;cases k with
   | zero=>cases h
   | succ k=>
    refine At.jr hj ?_ h;refine lx ?_;intro x6;refine At.c 4 ?_ ?_
    ·refine bi λe7 he7=>?_;refine bi λr8 hr8=>?_;refine At.d 0 (dE1 2 (λ_=>bB hT k64 he7) (dE2 5 (k64 r8) (λ_=>dM (pO hr8)) dE0)) dF0 ?_;refine At.c 0 ?_ ?_
     ·refine At.ownn 2 6 1 ?_;refine At.sw 0 1 0 ?_;intro e;apply uQ g3 e;exact At.r 0
     ·refine At.b 2 (λ_ e=>bB hT k64 e) λe9=>?_;refine At.L 3 [1,2,9] 1 (λp10=>([(8,(eO 0 1 k8 p10))],[(0,.tail (p10.length*1))],[])) (λp10 J k=>∃s11 s12 s13,oI N a1 k s11 s12 s13=some p10/\J [1,2,9] 1 [(8,(eO 0 1 k8 s11)),(10,(k64 s12)),(11,(j64 s13))] [(0,.tail (s11.length*1))] []) N (λ_ h=>⟨_,_,_,h,jr⟩) (λp10 k s hI=>?_) λp10=>?_
      ·obtain⟨s11,s12,s13,h,hj⟩:=hI;cases k with
       | zero=>cases h
       | succ k=>
        refine At.jr hj ?_ h;refine At.c 3 ?_ ?_
        ·refine At.o 4 (bU hT (x:=(.sl 1 1 [(k8 (U8 (cu s12 256)))]))) ?_;refine At.b 0 (λ_ e=>dE hT k8 (id:=0) (k:=1) e) λz14=>?_;exact λh=>At.k 7 ⟨_,_,_,h,jr⟩
        ·apply rt;exact At.x 0
      ·exact λh=>At.k 3 ⟨_,_,h,jr⟩
    ·apply rt;exact At.xs 0
  ·apply rt;exact At.r 3
def jL(N:Nat)(a2:(List Int))(x3 a1:Int):Nat->(List Int)->Int->Option (Sum ((List Int)) ((List Int)×Int))
 | 0,_,_=>none
 | k+1,s5,s6=>
  aT (decide (s6 < ((a2.length:Int)))) λx7=>
  cond x7 (
   ae (ae (idx a2 s6) λe9=>
   cond (decide (e9 > x3)) (
    some true) (
    ae (idx a2 s6) λe10=>
    aT (I64 ((I64 (0 - x3)) - 1)) λx11=>
    some (decide (e10 < x11)))) λp8=>
   cond p8 (
    some (Sum.inr (([],3)))) (
    ae (idx a2 s6) λe12=>
    ae (ae (idx a2 s6) λe14=>
    cond (decide (e14 < 0)) (
     ae (fH N a1) λr15=>
     ae (idx a2 s6) λe16=>
     aT (I64 (0 - (I64 (e16+1)))) λx17=>
     some (U64 (r15 - (U64 x17)))) (
     some (U64 e12))) λp13=>
    ae (nR 8 s5 (([p13]:List Int))) λz18=>
    jL N a2 x3 a1 k z18 (I64 (s6+1)))) (
   some (Sum.inl s5))
def mQ(N:Nat)(a0:(List Int))(a1:Int)(a2:(List Int)):Option ((List Int)×Int):=
 aT (cond (decide (a1 < 1)) true (decide (a1 > 8))) λx1=>
 cond x1 (
  some (([],2))) (
  ae (fH N a1) λr2=>
  aT (I64 (U64 (du r2 2))) λx3=>
  ae (jL N a2 x3 a1 N [] 0) λo=>nQ o (λp4=>
   ae (jO N a0 a1 p4) λr19=>
   some ((r19.1,r19.2))) (λr=>some r))
theorem aBE{N a0 a1 a2 r}(h:mQ N a0 a1 a2=some r):FnM Tryz.prog 121 [] [(eL 1 k8 a0),(j64 a1),(eL 1 j64 a2)] (.tup [(eO 0 1 k8 r.1),(j64 r.2)]) [.tail (r.1.length*1)]:=by
 unfold mQ at h;refine At.f eX hT hmo Tryz.func121 rfl h ?_;refine lx ?_;intro x1;refine At.c 8 ?_ ?_
 ·refine At.ownn 2 6 1 ?_;apply rt;exact At.r 0
 ·refine At.b 1 (λ_ e=>aM [] (pO e)) λr2=>?_;refine lx ?_;intro x3;refine At.ownn 5 9 1 ?_;refine At.LS 0 [0,1] 1 (λp4=>([(9,(eO 0 1 k64 p4))],[(0,.tail (p4.length*1))],[])) (λop4 J k=>∃s5 s6,jL N a2 x3 a1 k s5 s6=some op4/\J [0,1,2,8] 1 [(9,(eO 0 1 k64 s5)),(10,(j64 s6))] [(0,.tail (s5.length*1))] []) N (λ_ h=>⟨_,_,h,jr⟩) (λop4 g4 k s hI=>?_) λp4=>?_
  ·obtain⟨s5,s6,h,hj⟩:=hI;cases k with
   | zero=>cases h
   | succ k=>
    refine At.jr hj ?_ h;refine lx ?_;intro x7;refine At.c 4 ?_ ?_
    ·refine At.J 0 0 [0,1,2,8,9,10] 1 (λp8=>([(43,(eB p8))],[],[])) (λp8=>?_) λp8=>?_
     ·refine At.b 2 (λ_ e=>bB hT j64 e) λe9=>?_;refine At.s 34 4 ?_ ?_
      ·refine At.g [34] 9 ?_;apply rt;exact At.jn 0
      ·refine At.g [34] 2 ?_;refine At.b 0 (λ_ e=>bB hT j64 e) λe10=>?_;refine lx ?_;intro x11;refine At.g [34] 6 ?_;apply rt;exact At.jn 0
     ·refine At.c 0 ?_ ?_
      ·refine At.ownn 2 6 1 ?_;refine At.sw 0 1 0 ?_;intro e;apply uQ g4 e;exact At.r 0
      ·refine At.b 2 (λ_ e=>bB hT j64 e) λe12=>?_;refine At.J 3 1 [0,1,2,8,9,10] 1 (λp13=>([(11,(k64 p13))],[],[])) (λp13=>?_) λp13=>?_
       ·refine At.b 2 (λ_ e=>bB hT j64 e) λe14=>?_;refine At.c 2 ?_ ?_
        ·refine bi λr15 hr15=>?_;refine bi λe16 he16=>?_;refine lx ?_;intro x17;refine At.d 0 (dE2 1 (k64 r15) (λ_=>dM (pO hr15)) (dE1 4 (λ_=>bB hT j64 he16) dE0)) dF0 ?_;apply rt;exact At.jn 0
        ·apply rt;exact At.jn 0
       ·refine At.o 2 (bU hT (x:=(.sl 1 1 [(k64 p13)]))) ?_;refine At.b 0 (λ_ e=>dE hT k64 (id:=0) (k:=1) e) λz18=>?_;exact λh=>At.k 4 ⟨_,_,h,jr⟩
    ·apply rt;exact At.xs 0
  ·refine At.b 3 (λ_ e=>aM [] (yM e)) λr19=>?_;refine At.sw 4 1 0 ?_;apply rt;exact At.r 0
def aCP : Nat->Bool:=imL [3]
def jE(N:Nat)(a0:(List Int))(a1:aB):Option ((List Int)):=
 ae (mQ N a0 2 ([a1.gX,a1.gY,a1.gZ])) λr1=>
 some r1.1
theorem rD{N a0 a1 r}(h:jE N a0 a1=some r):FnM Tryz.prog 97 [] [(eL 1 k8 a0),(aB.enc a1)] (eO 0 1 k8 r) [.tail (r.length*1)]:=by
 unfold jE at h;refine At.f aCP hT hmo Tryz.func97 rfl h ?_;refine At.o 9 (bU hT (x:=(.sl 1 3 [(j64 a1.gX),(j64 a1.gY),(j64 a1.gZ)]))) ?_;refine At.b 0 (λ_ e=>aM [] (aBE e)) λr1=>?_;apply rt;exact At.r 7
def aBV : Nat->Bool:=imL [1]
def jN(N:Nat)(a0:aK):Nat->(List Int)->Int->Option ((List Int))
 | 0,_,_=>none
 | k+1,s5,s6=>
  aT ((a0.gG.length:Int)) λx7=>
  cond (decide (s6 < x7)) (
   ae (idx a0.gG s6) λe8=>
   ae (jE N s5 e8) λr9=>
   jN N a0 k r9 (I64 (s6+1))) (
   some s5)
def jP(N:Nat)(a0:aK)(s12:Int):Nat->(List Int)->Int->Option ((List Int))
 | 0,_,_=>none
 | k+1,s15,s16=>
  cond (decide (s16 < 2)) (
   ae (idx a0.gL s12) λe17=>
   ae (idx e17.toList s16) λe18=>
   ae (idx a0.gL s12) λe19=>
   ae (idx e19.toList s16) λe20=>
   aT (U8 (I64 (du e20 256))) λx21=>
   ae (nR 1 s15 (([U8 (cu e18 256),x21]:List Int))) λz22=>
   jP N a0 s12 k z22 (I64 (s16+1))) (
   some s15)
def jM(N:Nat)(a0:aK):Nat->(List Int)->Int->Option ((List Int))
 | 0,_,_=>none
 | k+1,s11,s12=>
  aT (decide (s12 < ((a0.gL.length:Int)))) λx13=>
  cond x13 (
   ae (jP N a0 s12 N s11 0) λp14=>
   jM N a0 k p14 (I64 (s12+1))) (
   some s11)
def fT(N:Nat)(a0:aK)(s25:Int):Nat->(List Int)->Int->Option ((List Int))
 | 0,_,_=>none
 | k+1,s28,s29=>
  cond (decide (s29 < 3)) (
   ae (idx a0.gJ s25) λe30=>
   ae (idx e30.toList s29) λe31=>
   ae (nR 1 s28 (([U8 e31]:List Int))) λz32=>
   fT N a0 s25 k z32 (I64 (s29+1))) (
   some s28)
def jU(N:Nat)(a0:aK):Nat->(List Int)->Int->Option ((List Int))
 | 0,_,_=>none
 | k+1,s24,s25=>
  aT ((a0.gJ.length:Int)) λx26=>
  cond (decide (s25 < x26)) (
   ae (fT N a0 s25 N s24 0) λp27=>
   jU N a0 k p27 (I64 (s25+1))) (
   some s24)
def oN(N:Nat)(a0:aK):Option ((List Int)×Int):=
 ae (lE N a0) λr1=>
 cond (r1 != 0) (
  some (([],r1))) (
  aT ((a0.gG.length:Int)) λx2=>
  aT ((a0.gJ.length:Int)) λx3=>
  ae (jN N a0 N (([U8 x2,U8 x3]:List Int)) 0) λp4=>
  ae (jM N a0 N p4 0) λp10=>
  ae (jU N a0 N p10 0) λp23=>
  some ((p23,0)))
theorem aAt{N a0 r}(h:oN N a0=some r):FnM Tryz.prog 95 [] [(aK.enc a0)] (.tup [(eL 1 k8 r.1),(j64 r.2)]) []:=by
 unfold oN at h;refine At.f aBV hT hmo Tryz.func95 rfl h ?_;refine At.b 4 (λ_ e=>aM [] (tO e)) λr1=>?_;refine At.c 3 ?_ ?_
 ·apply rt;exact At.r 3
 ·refine lx ?_;intro x2;refine lx ?_;intro x3;refine At.o 8 (uX hT k8 (k:=1) ([U8 x2,U8 x3]:List Int) (by kernel_rfl) (by kernel_rfl)) ?_;refine At.L 2 [1] 1 (λp4=>([(5,(eO 0 1 k8 p4))],[(0,.tail (p4.length*1))],[])) (λp4 J k=>∃s5 s6,jN N a0 k s5 s6=some p4/\J [1] 1 [(5,(eO 0 1 k8 s5)),(6,(j64 s6))] [(0,.tail (s5.length*1))] []) N (λ_ h=>⟨_,_,h,jr⟩) (λp4 k s hI=>?_) λp4=>?_
  ·obtain⟨s5,s6,h,hj⟩:=hI;cases k with
   | zero=>cases h
   | succ k=>
    refine At.jr hj ?_ h;refine lx ?_;intro x7;refine At.c 5 ?_ ?_
    ·refine At.b 4 (λ_ e=>bB hT aB.enc e) λe8=>?_;refine At.b 1 (λ_ e=>aM [] (rD e)) λr9=>?_;exact λh=>At.k 4 ⟨_,_,h,(aLq 1 0 (by kernel_rfl) jr)⟩
    ·apply rt;exact At.x 0
  ·refine At.L 1 [1] 1 (λp10=>([(5,(eO 0 1 k8 p10))],[(0,.tail (p10.length*1))],[])) (λp10 J k=>∃s11 s12,jM N a0 k s11 s12=some p10/\J [1] 1 [(5,(eO 0 1 k8 s11)),(7,(j64 s12))] [(0,.tail (s11.length*1))] []) N (λ_ h=>⟨_,_,h,jr⟩) (λp10 k s hI=>?_) λp10=>?_
   ·obtain⟨s11,s12,h,hj⟩:=hI;cases k with
    | zero=>cases h
    | succ k=>
     refine At.jr hj ?_ h;refine lx ?_;intro x13;refine At.c 5 ?_ ?_
     ·refine At.L 1 [1,7] 1 (λp14=>([(5,(eO 0 1 k8 p14))],[(0,.tail (p14.length*1))],[])) (λp14 J k=>∃s15 s16,jP N a0 s12 k s15 s16=some p14/\J [1,7] 1 [(5,(eO 0 1 k8 s15)),(8,(j64 s16))] [(0,.tail (s15.length*1))] []) N (λ_ h=>⟨_,_,h,jr⟩) (λp14 k s hI=>?_) λp14=>?_
      ·obtain⟨s15,s16,h,hj⟩:=hI;cases k with
       | zero=>cases h
       | succ k=>
        refine At.jr hj ?_ h;refine At.c 2 ?_ ?_
        ·refine bi λe17 he17=>?_;refine bi λe18 he18=>?_;refine bi λe19 he19=>?_;refine bi λe20 he20=>?_;refine lx ?_;intro x21;refine bi λz22 hz22=>?_;refine At.d 0 (dE1 5 (λ_=>bB hT (eA 2 1 j64) he17) (dE1 6 (λ_=>bW hT (N:=2) (k:=1) j64 e17 he18) (dE1 14 (λ_=>bB hT (eA 2 1 j64) he19) (dE1 15 (λ_=>bW hT (N:=2) (k:=1) j64 e19 he20) (dE1 19 (λ_=>bU hT (x:=(.sl 1 2 [(k8 (U8 (cu e18 256))),(k8 x21)]))) dE0))))) (dF 20 (eO 0 1 k8 z22) [(0,.tail (z22.length*1))] [] (bP (dE hT k8 (id:=0) (k:=1) hz22)) dF0) ?_;exact λh=>At.k 3 ⟨_,_,h,jr⟩
        ·apply rt;exact At.x 0
      ·exact λh=>At.k 3 ⟨_,_,h,jr⟩
     ·apply rt;exact At.x 0
   ·refine At.L 1 [] 1 (λp23=>([(5,(eO 0 1 k8 p23))],[(0,.tail (p23.length*1))],[])) (λp23 J k=>∃s24 s25,jU N a0 k s24 s25=some p23/\J [1] 1 [(5,(eO 0 1 k8 s24)),(9,(j64 s25))] [(0,.tail (s24.length*1))] []) N (λ_ h=>⟨_,_,h,jr⟩) (λp23 k s hI=>?_) λp23=>?_
    ·obtain⟨s24,s25,h,hj⟩:=hI;cases k with
     | zero=>cases h
     | succ k=>
      refine At.jr hj ?_ h;refine lx ?_;intro x26;refine At.c 5 ?_ ?_
      ·refine At.L 1 [1,9] 1 (λp27=>([(5,(eO 0 1 k8 p27))],[(0,.tail (p27.length*1))],[])) (λp27 J k=>∃s28 s29,fT N a0 s25 k s28 s29=some p27/\J [1,9] 1 [(5,(eO 0 1 k8 s28)),(10,(j64 s29))] [(0,.tail (s28.length*1))] []) N (λ_ h=>⟨_,_,h,jr⟩) (λp27 k s hI=>?_) λp27=>?_
       ·obtain⟨s28,s29,h,hj⟩:=hI;cases k with
        | zero=>cases h
        | succ k=>
         refine At.jr hj ?_ h;refine At.c 2 ?_ ?_
         ·refine At.b 5 (λ_ e=>bB hT (eA 3 1 j64) e) λe30=>?_;refine At.b 0 (λ_ e=>bW hT (N:=3) (k:=1) j64 e30 e) λe31=>?_;refine At.o 2 (bU hT (x:=(.sl 1 1 [(k8 (U8 e31))]))) ?_;refine At.b 0 (λ_ e=>dE hT k8 (id:=0) (k:=1) e) λz32=>?_;exact λh=>At.k 4 ⟨_,_,h,jr⟩
         ·apply rt;exact At.x 0
       ·exact λh=>At.k 3 ⟨_,_,h,jr⟩
      ·apply rt;exact At.x 0
    ·apply rt;exact At.r 3
def aBg : Nat->Bool:=imL [1]
def fU(N:Nat)(a0:aH)(s4:Int):Nat->(List Int)->Int->Option ((List Int))
 | 0,_,_=>none
 | k+1,s7,s8=>
  cond (decide (s8 < 3)) (
   ae (idx a0.gK s4) λe9=>
   ae (idx e9.toList s8) λe10=>
   ae (nR 1 s7 (([U8 e10]:List Int))) λz11=>
   fU N a0 s4 k z11 (I64 (s8+1))) (
   some s7)
def jJ(N:Nat)(a0:aH):Nat->(List Int)->Int->Option ((List Int))
 | 0,_,_=>none
 | k+1,s3,s4=>
  aT ((a0.gK.length:Int)) λx5=>
  cond (decide (s4 < x5)) (
   ae (fU N a0 s4 N s3 0) λp6=>
   jJ N a0 k p6 (I64 (s4+1))) (
   some s3)
def oD(N:Nat)(a0:aH):Option ((List Int)×Int):=
 ae (iU N a0) λr1=>
 cond (r1 != 0) (
  some (([],r1))) (
  ae (jJ N a0 N (([U8 a0.gM]:List Int)) 0) λp2=>
  some ((p2,0)))
theorem aAz{N a0 r}(h:oD N a0=some r):FnM Tryz.prog 96 [] [(aH.enc a0)] (.tup [(eL 1 k8 r.1),(j64 r.2)]) []:=by
 unfold oD at h;refine At.f aBg hT hmo Tryz.func96 rfl h ?_;refine At.b 4 (λ_ e=>aM [] (tP e)) λr1=>?_;refine At.c 3 ?_ ?_
 ·apply rt;exact At.r 3
 ·refine At.o 3 (uX hT k8 (k:=1) ([U8 a0.gM]:List Int) (by kernel_rfl) (by kernel_rfl)) ?_;refine At.L 2 [] 1 (λp2=>([(5,(eO 0 1 k8 p2))],[(0,.tail (p2.length*1))],[])) (λp2 J k=>∃s3 s4,jJ N a0 k s3 s4=some p2/\J [1] 1 [(5,(eO 0 1 k8 s3)),(6,(j64 s4))] [(0,.tail (s3.length*1))] []) N (λ_ h=>⟨_,_,h,jr⟩) (λp2 k s hI=>?_) λp2=>?_
  ·obtain⟨s3,s4,h,hj⟩:=hI;cases k with
   | zero=>cases h
   | succ k=>
    refine At.jr hj ?_ h;refine lx ?_;intro x5;refine At.c 5 ?_ ?_
    ·refine At.L 1 [1,6] 1 (λp6=>([(5,(eO 0 1 k8 p6))],[(0,.tail (p6.length*1))],[])) (λp6 J k=>∃s7 s8,fU N a0 s4 k s7 s8=some p6/\J [1,6] 1 [(5,(eO 0 1 k8 s7)),(7,(j64 s8))] [(0,.tail (s7.length*1))] []) N (λ_ h=>⟨_,_,h,jr⟩) (λp6 k s hI=>?_) λp6=>?_
     ·obtain⟨s7,s8,h,hj⟩:=hI;cases k with
      | zero=>cases h
      | succ k=>
       refine At.jr hj ?_ h;refine At.c 2 ?_ ?_
       ·refine At.b 5 (λ_ e=>bB hT (eA 3 1 j64) e) λe9=>?_;refine At.b 0 (λ_ e=>bW hT (N:=3) (k:=1) j64 e9 e) λe10=>?_;refine At.o 2 (bU hT (x:=(.sl 1 1 [(k8 (U8 e10))]))) ?_;refine At.b 0 (λ_ e=>dE hT k8 (id:=0) (k:=1) e) λz11=>?_;exact λh=>At.k 4 ⟨_,_,h,jr⟩
       ·apply rt;exact At.x 0
     ·exact λh=>At.k 3 ⟨_,_,h,jr⟩
    ·apply rt;exact At.x 0
  ·apply rt;exact At.r 3
def aCR : Nat->Bool:=imL [1]
def kT(N:Nat)(e4 e6 e8:Int)(a0:aI):Nat->(List Int)->Int->Option ((List Int))
 | 0,_,_=>none
 | k+1,s10,s11=>
  cond (decide (s11 < 4)) (
   ae (idx ([e4,e6,e8,a0.gI.gW]) s11) λe12=>
   ae (idx ([e4,e6,e8,a0.gI.gW]) s11) λe13=>
   aT (U8 (I64 (du e13 256))) λx14=>
   ae (nR 1 s10 (([U8 (cu e12 256),x14]:List Int))) λz15=>
   kT N e4 e6 e8 a0 k z15 (I64 (s11+1))) (
   some s10)
def kP(N:Nat)(a0:aI):Nat->(List Int)->Int->Option ((List Int))
 | 0,_,_=>none
 | k+1,s17,s18=>
  cond (decide (s18 < 3)) (
   ae (aW s18 3) λ_=>
   ae (a0.gD.gF.toList[s18.toNat]?) λe20=>
   ae (jO N s17 4 ([U64 e20])) λr21=>
   kP N a0 k r21.1 (I64 (s18+1))) (
   some s17)
def nB(N:Nat)(a0:aI):Option ((List Int)):=
 cond (a0.gC==1) (
  ae (oN N a0.gP) λr1=>
  some r1.1) (
  cond (a0.gC==2) (
   ae (oD N a0.gQ) λr2=>
   some r2.1) (
   cond (a0.gC==3) (
    ae (aW 0 3) λ_=>
    ae (a0.gI.gF.toList[(af 0)]?) λe4=>
    ae (aW 1 3) λ_=>
    ae (a0.gI.gF.toList[(af 1)]?) λe6=>
    ae (aW 2 3) λ_=>
    ae (a0.gI.gF.toList[(af 2)]?) λe8=>
    ae (kT N e4 e6 e8 a0 N (([U8 a0.gI.gC]:List Int)) 0) λp9=>
    some p9) (
    ae (kP N a0 N ([U8 a0.gD.gC]) 0) λp16=>
    ae (jE N p16 a0.gD.gAt) λr22=>
    ae (jE N r22 a0.gD.gU) λr23=>
    ae (jE N r23 a0.gD.gV) λr24=>
    some r24)))
theorem aBa{N a0 r}(h:nB N a0=some r):FnM Tryz.prog 53 [] [(aI.enc a0)] (eL 1 k8 r) []:=by
 unfold nB at h;refine At.f aCR hT hmo Tryz.func53 rfl h ?_;refine At.c 5 ?_ ?_
 ·refine At.b 2 (λ_ e=>aM [] (aAt e)) λr1=>?_;apply rt;exact At.r 7
 ·refine At.c 3 ?_ ?_
  ·refine At.b 2 (λ_ e=>aM [] (aAz e)) λr2=>?_;apply rt;exact At.r 7
  ·refine At.c 3 ?_ ?_
   ·refine At.o 7 (uX hT k8 (k:=1) ([U8 a0.gI.gC]:List Int) (by kernel_rfl) (by kernel_rfl)) ?_;refine At.b 2 (λ_ e=>aJ hT (k:=1) 0 [1] 1 e) λu3=>?_;refine At.b 0 (λ_ e=>bH hT j64 1 e) λe4=>?_;refine At.b 1 (λ_ e=>aJ hT (k:=1) 0 [1] 1 e) λu5=>?_;refine At.b 0 (λ_ e=>bH hT j64 1 e) λe6=>?_;refine At.b 1 (λ_ e=>aJ hT (k:=1) 0 [1] 1 e) λu7=>?_;refine At.b 0 (λ_ e=>bH hT j64 1 e) λe8=>?_;refine At.o 2 (bU hT (x:=(.sl 1 4 [(j64 e4),(j64 e6),(j64 e8),(j64 a0.gI.gW)]))) ?_;refine At.L 2 [] 2 (λp9=>([(8,(eO 1 1 k8 p9))],[(1,.tail (p9.length*1))],[])) (λp9 J k=>∃s10 s11,kT N e4 e6 e8 a0 k s10 s11=some p9/\J [9] 2 [(8,(eO 1 1 k8 s10)),(10,(j64 s11))] [(1,.tail (s10.length*1))] []) N (λ_ h=>⟨_,_,h,jr⟩) (λp9 k s hI=>?_) λp9=>?_
    ·obtain⟨s10,s11,h,hj⟩:=hI;cases k with
     | zero=>cases h
     | succ k=>
      refine At.jr hj ?_ h;refine At.c 2 ?_ ?_
      ·refine bi λe12 he12=>?_;refine bi λe13 he13=>?_;refine lx ?_;intro x14;refine bi λz15 hz15=>?_;refine At.d 0 (dE1 3 (λ_=>bB hT j64 he12) (dE1 9 (λ_=>bB hT j64 he13) (dE1 13 (λ_=>bU hT (x:=(.sl 1 2 [(k8 (U8 (cu e12 256))),(k8 x14)]))) dE0))) (dF 14 (eO 1 1 k8 z15) [(1,.tail (z15.length*1))] [] (bP (dE hT k8 (id:=1) (k:=1) hz15)) dF0) ?_;exact λh=>At.k 3 ⟨_,_,h,jr⟩
      ·apply rt;exact At.x 0
    ·apply rt;exact At.r 2
   ·refine At.o 7 (bU hT (x:=(.sl 1 1 [(k8 (U8 a0.gD.gC))]))) ?_;refine At.L 2 [11] 1 (λp16=>([(12,(eL 1 k8 p16))],[],[])) (λp16 J k=>∃s17 s18,kP N a0 k s17 s18=some p16/\J [11] 1 [(12,(eL 1 k8 s17)),(13,(j64 s18))] [] []) N (λ_ h=>⟨_,_,h,jr⟩) (λp16 k s hI=>?_) λp16=>?_
    ·obtain⟨s17,s18,h,hj⟩:=hI;cases k with
     | zero=>cases h
     | succ k=>
      refine At.jr hj ?_ h;refine At.c 2 ?_ ?_
      ·refine At.b 3 (λ_ e=>aJ hT (k:=1) 0 [1] 1 e) λu19=>?_;refine At.b 0 (λ_ e=>bH hT j64 1 e) λe20=>?_;refine At.o 1 (bU hT (x:=(.sl 1 1 [(k64 (U64 e20))]))) ?_;refine At.b 0 (λ_ e=>aM [] (yM e)) λr21=>?_;exact λh=>At.k 7 ⟨_,_,h,jr⟩
      ·apply rt;exact At.x 0
    ·refine bi λr22 hr22=>?_;refine bi λr23 hr23=>?_;refine bi λr24 hr24=>?_;refine At.d 0 dE0 (dF 3 (eO 1 1 k8 r22) [] [.tail (r22.length*1)] (bP (aM [] (rD hr22))) (dF 6 (eO 2 1 k8 r23) [] [.tail (r23.length*1)] (bP (aM [] (rD hr23))) (dF 9 (eO 3 1 k8 r24) [] [.tail (r24.length*1)] (bP (aM [] (rD hr24))) dF0))) ?_;apply rt;exact At.r 0
def aCZ : Nat->Bool:=imL [1]
def iW(N:Nat)(a0:aI):Option (Int):=
 ae (cond (a0.gC==1) (
  ae (lE N a0.gP) λr2=>
  ae (lU N a0.gQ) λr3=>
  cond r3 (
   some ((r2,true))) (
   aT (!(aG.eq a0.gI (aG.mk 0 (#v[0,0,0]) 0))) λx4=>
   cond x4 (
    some ((r2,true))) (
    aT (!(aL.eq a0.gD (aL.mk 0 (#v[0,0,0]) (aB.mk 0 0 0) (aB.mk 0 0 0) (aB.mk 0 0 0)))) λx5=>
    some ((r2,x5))))) (
  cond (a0.gC==2) (
   ae (iU N a0.gQ) λr6=>
   ae (nW N a0.gP) λr7=>
   cond r7 (
    some ((r6,true))) (
    aT (!(aG.eq a0.gI (aG.mk 0 (#v[0,0,0]) 0))) λx8=>
    cond x8 (
     some ((r6,true))) (
     aT (!(aL.eq a0.gD (aL.mk 0 (#v[0,0,0]) (aB.mk 0 0 0) (aB.mk 0 0 0) (aB.mk 0 0 0)))) λx9=>
     some ((r6,x9))))) (
   cond (a0.gC==3) (
    ae (nA N a0.gI) λr10=>
    ae (nW N a0.gP) λr11=>
    cond r11 (
     some ((r10,true))) (
     ae (lU N a0.gQ) λr12=>
     cond r12 (
      some ((r10,true))) (
      aT (!(aL.eq a0.gD (aL.mk 0 (#v[0,0,0]) (aB.mk 0 0 0) (aB.mk 0 0 0) (aB.mk 0 0 0)))) λx13=>
      some ((r10,x13))))) (
    cond (a0.gC==4) (
     ae (pV N a0.gD) λr14=>
     ae (nW N a0.gP) λr15=>
     cond r15 (
      some ((r14,true))) (
      ae (lU N a0.gQ) λr16=>
      cond r16 (
       some ((r14,true))) (
       aT (!(aG.eq a0.gI (aG.mk 0 (#v[0,0,0]) 0))) λx17=>
       some ((r14,x17))))) (
     some ((12,false))))))) λp1=>
 cond (p1.1 != 0) (
  some p1.1) (
  cond p1.2 (
   some 5) (
   ae (nB N a0) λr18=>
   ae (iA N a0.gC) λr19=>
   aT (decide (((r18.length:Int)) > r19)) λx20=>
   cond x20 (some 9) (some 0)))
theorem aBh{N a0 r}(h:iW N a0=some r):FnM Tryz.prog 52 [] [(aI.enc a0)] (j64 r) []:=by
 unfold iW at h;refine At.f aCZ hT hmo Tryz.func52 rfl h ?_;refine At.J 4 1 [1] 0 (λp1=>([(3,(j64 p1.1)),(4,(eB p1.2))],[],[])) (λp1=>?_) λp1=>?_
 ·refine At.c 4 ?_ ?_
  ·refine At.b 2 (λ_ e=>aM [] (tO e)) λr2=>?_;refine At.b 3 (λ_ e=>aM [] (sG e)) λr3=>?_;refine At.s 15 1 ?_ ?_
   ·refine At.g [15,21] 12 ?_;apply rt;exact At.jn 0
   ·refine At.g [15] 3 ?_;refine At.o 0 (kF aF2 (a0.gI:aG) (aG.mk 0 (#v[0,0,0]) 0:aG) (by kernel_rfl) (by kernel_rfl) (λ_=>rfl) (λ_=>rfl) (by kernel_rfl) (by kernel_rfl)) ?_;refine lx ?_;intro x4;refine At.g [15] 2 ?_;refine At.s 21 0 ?_ ?_
    ·refine At.g [21] 6 ?_;apply rt;exact At.jn 0
    ·refine At.g [21] 3 ?_;refine At.o 0 (kF aGS (a0.gD:aL) (aL.mk 0 (#v[0,0,0]) (aB.mk 0 0 0) (aB.mk 0 0 0) (aB.mk 0 0 0):aL) (by kernel_rfl) (by kernel_rfl) (λ_=>rfl) (λ_=>rfl) (by kernel_rfl) (by kernel_rfl)) ?_;refine lx ?_;intro x5;refine At.g [21] 2 ?_;apply rt;exact At.jn 0
  ·refine At.c 2 ?_ ?_
   ·refine At.b 2 (λ_ e=>aM [] (tP e)) λr6=>?_;refine At.b 3 (λ_ e=>aM [] (uE e)) λr7=>?_;refine At.s 35 1 ?_ ?_
    ·refine At.g [35,41] 12 ?_;apply rt;exact At.jn 0
    ·refine At.g [35] 3 ?_;refine At.o 0 (kF aF2 (a0.gI:aG) (aG.mk 0 (#v[0,0,0]) 0:aG) (by kernel_rfl) (by kernel_rfl) (λ_=>rfl) (λ_=>rfl) (by kernel_rfl) (by kernel_rfl)) ?_;refine lx ?_;intro x8;refine At.g [35] 2 ?_;refine At.s 41 0 ?_ ?_
     ·refine At.g [41] 6 ?_;apply rt;exact At.jn 0
     ·refine At.g [41] 3 ?_;refine At.o 0 (kF aGS (a0.gD:aL) (aL.mk 0 (#v[0,0,0]) (aB.mk 0 0 0) (aB.mk 0 0 0) (aB.mk 0 0 0):aL) (by kernel_rfl) (by kernel_rfl) (λ_=>rfl) (λ_=>rfl) (by kernel_rfl) (by kernel_rfl)) ?_;refine lx ?_;intro x9;refine At.g [41] 2 ?_;apply rt;exact At.jn 0
   ·refine At.c 2 ?_ ?_
    ·refine At.b 2 (λ_ e=>aM [] (aAC e)) λr10=>?_;refine At.b 3 (λ_ e=>aM [] (uE e)) λr11=>?_;refine At.s 55 1 ?_ ?_
     ·refine At.g [55,60] 11 ?_;apply rt;exact At.jn 0
     ·refine At.g [55] 2 ?_;refine At.b 0 (λ_ e=>aM [] (sG e)) λr12=>?_;refine At.g [55] 2 ?_;refine At.s 60 0 ?_ ?_
      ·refine At.g [60] 6 ?_;apply rt;exact At.jn 0
      ·refine At.g [60] 3 ?_;refine At.o 0 (kF aGS (a0.gD:aL) (aL.mk 0 (#v[0,0,0]) (aB.mk 0 0 0) (aB.mk 0 0 0) (aB.mk 0 0 0):aL) (by kernel_rfl) (by kernel_rfl) (λ_=>rfl) (λ_=>rfl) (by kernel_rfl) (by kernel_rfl)) ?_;refine lx ?_;intro x13;refine At.g [60] 2 ?_;apply rt;exact At.jn 0
    ·refine At.c 2 ?_ ?_
     ·refine At.b 2 (λ_ e=>aM [] (aBe e)) λr14=>?_;refine At.b 3 (λ_ e=>aM [] (uE e)) λr15=>?_;refine At.s 74 1 ?_ ?_
      ·refine At.g [74,79] 11 ?_;apply rt;exact At.jn 0
      ·refine At.g [74] 2 ?_;refine At.b 0 (λ_ e=>aM [] (sG e)) λr16=>?_;refine At.g [74] 2 ?_;refine At.s 79 0 ?_ ?_
       ·refine At.g [79] 6 ?_;apply rt;exact At.jn 0
       ·refine At.g [79] 3 ?_;refine At.o 0 (kF aF2 (a0.gI:aG) (aG.mk 0 (#v[0,0,0]) 0:aG) (by kernel_rfl) (by kernel_rfl) (λ_=>rfl) (λ_=>rfl) (by kernel_rfl) (by kernel_rfl)) ?_;refine lx ?_;intro x17;refine At.g [79] 2 ?_;apply rt;exact At.jn 0
     ·apply rt;exact At.jn 0
 ·refine At.c 2 ?_ ?_
  ·apply rt;exact At.r 2
  ·refine At.c 1 ?_ ?_
   ·apply rt;exact At.r 1
   ·refine bi λr18 hr18=>?_;refine bi λr19 hr19=>?_;refine lx ?_;intro x20;refine At.d 0 (dE2 1 (eL 1 k8 r18) (λ_=>dM (aBa hr18)) (dE2 5 (j64 r19) (λ_=>dM (uW hr19)) dE0)) dF0 ?_;refine At.c 0 ?_ ?_
    ·apply rt;exact At.r 1
    ·apply rt;exact At.r 1
def oG(N:Nat)(a0:Int)(a1:(List Int)):Option (aI×Int):=
 ae (cond (a0==1) (
  ae (oL N a1) λr2=>
  some ((r2.1.gG,r2.1.gL,r2.1.gJ,0,[],0,#v[0,0,0],0,0,#v[0,0,0],0,0,0,0,0,0,0,0,0,a1,0,0,r2.2))) (
  cond (a0==2) (
   ae (oJ N a1) λr3=>
   some (([],[],[],r3.1.gM,r3.1.gK,0,#v[0,0,0],0,0,#v[0,0,0],0,0,0,0,0,0,0,0,0,a1,0,0,r3.2))) (
   cond (a0==3) (
    ae (aF N 1 (aD.mk a1 0 0)) λr4=>
    ae (eQ N 2 (aD.mk r4.1 r4.2.1 r4.2.2.1)) λr5=>
    ae (aF N 2 (aD.mk r5.1 r5.2.1 r5.2.2.1)) λr6=>
    ae (dD N (aD.mk r6.1 r6.2.1 r6.2.2.1)) λr7=>
    some (([],[],[],0,[],I64 r4.2.2.2,r5.2.2.2,I64 r6.2.2.2,0,#v[0,0,0],0,0,0,0,0,0,0,0,0,r6.1,r6.2.1,r6.2.2.1,r7))) (
    cond (a0==4) (
     ae (aF N 1 (aD.mk a1 0 0)) λr8=>
     ae (eQ N 4 (aD.mk r8.1 r8.2.1 r8.2.2.1)) λr9=>
     ae (iF N (aD.mk r9.1 r9.2.1 r9.2.2.1)) λr10=>
     ae (iF N (aD.mk r10.1 r10.2.1 r10.2.2.1)) λr11=>
     ae (iF N (aD.mk r11.1 r11.2.1 r11.2.2.1)) λr12=>
     ae (dD N (aD.mk r12.1 r12.2.1 r12.2.2.1)) λr13=>
     some (([],[],[],0,[],0,#v[0,0,0],0,I64 r8.2.2.2,r9.2.2.2,r10.2.2.2.gX,r10.2.2.2.gY,r10.2.2.2.gZ,r11.2.2.2.gX,r11.2.2.2.gY,r11.2.2.2.gZ,r12.2.2.2.gX,r12.2.2.2.gY,r12.2.2.2.gZ,r12.1,r12.2.1,r12.2.2.1,r13))) (
     some (([],[],[],0,[],0,#v[0,0,0],0,0,#v[0,0,0],0,0,0,0,0,0,0,0,0,a1,0,0,0))))))) λp1=>
 aT p1.2.2.2.2.2.2.2.2.2.2.2.2.2.2.2.2.2.2.2.2.2.2 λx14=>
 cond (x14 != 0) (
  aT p1.2.2.2.2.2.2.2.2.2.2.2.2.2.2.2.2.2.2.2.2.2.2 λx15=>
  some ((aI.mk 0 (aK.mk [] [] []) (aH.mk 0 []) (aG.mk 0 (#v[0,0,0]) 0) (aL.mk 0 (#v[0,0,0]) (aB.mk 0 0 0) (aB.mk 0 0 0) (aB.mk 0 0 0)),x15))) (
  ae (iW N (aI.mk a0 (aK.mk p1.1 p1.2.1 p1.2.2.1) (aH.mk p1.2.2.2.1 p1.2.2.2.2.1) (aG.mk p1.2.2.2.2.2.1 p1.2.2.2.2.2.2.1 p1.2.2.2.2.2.2.2.1) (aL.mk p1.2.2.2.2.2.2.2.2.1 p1.2.2.2.2.2.2.2.2.2.1 (aB.mk p1.2.2.2.2.2.2.2.2.2.2.1 p1.2.2.2.2.2.2.2.2.2.2.2.1 p1.2.2.2.2.2.2.2.2.2.2.2.2.1) (aB.mk p1.2.2.2.2.2.2.2.2.2.2.2.2.2.1 p1.2.2.2.2.2.2.2.2.2.2.2.2.2.2.1 p1.2.2.2.2.2.2.2.2.2.2.2.2.2.2.2.1) (aB.mk p1.2.2.2.2.2.2.2.2.2.2.2.2.2.2.2.2.1 p1.2.2.2.2.2.2.2.2.2.2.2.2.2.2.2.2.2.1 p1.2.2.2.2.2.2.2.2.2.2.2.2.2.2.2.2.2.2.1)))) λr16=>
  cond (r16 != 0) (
   some ((aI.mk 0 (aK.mk [] [] []) (aH.mk 0 []) (aG.mk 0 (#v[0,0,0]) 0) (aL.mk 0 (#v[0,0,0]) (aB.mk 0 0 0) (aB.mk 0 0 0) (aB.mk 0 0 0)),r16))) (
   some ((aI.mk a0 (aK.mk p1.1 p1.2.1 p1.2.2.1) (aH.mk p1.2.2.2.1 p1.2.2.2.2.1) (aG.mk p1.2.2.2.2.2.1 p1.2.2.2.2.2.2.1 p1.2.2.2.2.2.2.2.1) (aL.mk p1.2.2.2.2.2.2.2.2.1 p1.2.2.2.2.2.2.2.2.2.1 (aB.mk p1.2.2.2.2.2.2.2.2.2.2.1 p1.2.2.2.2.2.2.2.2.2.2.2.1 p1.2.2.2.2.2.2.2.2.2.2.2.2.1) (aB.mk p1.2.2.2.2.2.2.2.2.2.2.2.2.2.1 p1.2.2.2.2.2.2.2.2.2.2.2.2.2.2.1 p1.2.2.2.2.2.2.2.2.2.2.2.2.2.2.2.1) (aB.mk p1.2.2.2.2.2.2.2.2.2.2.2.2.2.2.2.2.1 p1.2.2.2.2.2.2.2.2.2.2.2.2.2.2.2.2.2.1 p1.2.2.2.2.2.2.2.2.2.2.2.2.2.2.2.2.2.2.1)),0))))
theorem aBC{N a0 a1 r}(h:oG N a0 a1=some r):FnM Tryz.prog 41 [] [(j64 a0),(eL 1 k8 a1)] (.tup [(aI.enc r.1),(j64 r.2)]) []:=by
 unfold oG at h;refine At.f eX hT hmo Tryz.func41 rfl h ?_;refine At.J 11 1 [4,6] 3 (λp1=>([(8,(j64 p1.2.2.2.2.2.2.2.2.2.2.2.2.2.2.2.2.2.2.2.2.2.2))],[(1,.var (.st 24 [(j64 a0),(.st 3 [(eL 3 aB.enc p1.1),(eL 2 (eA 2 1 j64) p1.2.1),(eL 3 (eA 3 1 j64) p1.2.2.1)]),(.st 2 [(j64 p1.2.2.2.1),(eL 3 (eA 3 1 j64) p1.2.2.2.2.1)]),(.st 5 [(j64 p1.2.2.2.2.2.1),(eA 3 1 j64 p1.2.2.2.2.2.2.1),(j64 p1.2.2.2.2.2.2.2.1)]),(.st 13 [(j64 p1.2.2.2.2.2.2.2.2.1),(eA 3 1 j64 p1.2.2.2.2.2.2.2.2.2.1),(.st 3 [(j64 p1.2.2.2.2.2.2.2.2.2.2.1),(j64 p1.2.2.2.2.2.2.2.2.2.2.2.1),(j64 p1.2.2.2.2.2.2.2.2.2.2.2.2.1)]),(.st 3 [(j64 p1.2.2.2.2.2.2.2.2.2.2.2.2.2.1),(j64 p1.2.2.2.2.2.2.2.2.2.2.2.2.2.2.1),(j64 p1.2.2.2.2.2.2.2.2.2.2.2.2.2.2.2.1)]),(.st 3 [(j64 p1.2.2.2.2.2.2.2.2.2.2.2.2.2.2.2.2.1),(j64 p1.2.2.2.2.2.2.2.2.2.2.2.2.2.2.2.2.2.1),(j64 p1.2.2.2.2.2.2.2.2.2.2.2.2.2.2.2.2.2.2.1)])])])),(2,.var (.st 3 [(eL 1 k8 p1.2.2.2.2.2.2.2.2.2.2.2.2.2.2.2.2.2.2.2.1),(j64 p1.2.2.2.2.2.2.2.2.2.2.2.2.2.2.2.2.2.2.2.2.1),(j64 p1.2.2.2.2.2.2.2.2.2.2.2.2.2.2.2.2.2.2.2.2.2.1)]))],[])) (λp1=>?_) λp1=>?_
 ·refine At.c 3 ?_ ?_
  ·refine At.b 1 (λ_ e=>aM [] (aA0 e)) λr2=>?_;apply rt;exact At.jn 6
  ·refine At.c 2 ?_ ?_
   ·refine At.b 1 (λ_ e=>aM [] (aA9 e)) λr3=>?_;apply rt;exact At.jn 6
   ·refine At.c 2 ?_ ?_
    ·refine At.b 1 (λ_ e=>aM [2] (aQ e)) λr4=>?_;refine At.b 5 (λ_ e=>aM [2] (uV e)) λr5=>?_;refine At.b 4 (λ_ e=>aM [2] (aQ e)) λr6=>?_;refine At.b 5 (λ_ e=>aM [2] (mM e)) λr7=>?_;apply rt;exact At.jn 1
    ·refine At.c 2 ?_ ?_
     ·refine At.b 1 (λ_ e=>aM [2] (aQ e)) λr8=>?_;refine At.b 5 (λ_ e=>aM [2] (uV e)) λr9=>?_;refine At.b 4 (λ_ e=>aM [2] (qP e)) λr10=>?_;refine At.b 4 (λ_ e=>aM [2] (qP e)) λr11=>?_;refine At.b 4 (λ_ e=>aM [2] (qP e)) λr12=>?_;refine At.b 4 (λ_ e=>aM [2] (mM e)) λr13=>?_;apply rt;exact At.jn 1
     ·apply rt;exact At.jn 0
 ·refine lx ?_;intro x14;refine At.c 2 ?_ ?_
  ·refine lx ?_;intro x15;apply rt;exact At.r 4
  ·refine At.b 1 (λ_ e=>aM [] (aBh e)) λr16=>?_;refine At.c 3 ?_ ?_
   ·apply rt;exact At.r 4
   ·apply rt;exact At.r 3
def aCi : Nat->Bool:=imL [2]
def iY(N:Nat)(a1:(List Int))(s4:Int)(r9:(List Int)):Nat->Int->Option (Sum (Unit) (aE×aI×Int))
 | 0,_=>none
 | k+1,s11=>
  cond (decide (s11 < 4)) (
   ae (idx a1 (I64 (s4+s11))) λe12=>
   ae (idx r9 s11) λe13=>
   cond (e12 != e13) (
    some (Sum.inr ((aE.mk 0 0 0 (ah 8 0) 0 0 0 0,aI.mk 0 (aK.mk [] [] []) (aH.mk 0 []) (aG.mk 0 (#v[0,0,0]) 0) (aL.mk 0 (#v[0,0,0]) (aB.mk 0 0 0) (aB.mk 0 0 0) (aB.mk 0 0 0)),7)))) (
    iY N a1 s4 r9 k (I64 (s11+1)))) (
   some (Sum.inl (())))
def fM(N:Nat)(r1:aE×Int)(a1:(List Int))(a0:(Vector Int 32)):Nat->(List Int)->Int->Int->Option (Sum ((List Int)×Int) (aE×aI×Int))
 | 0,_,_,_=>none
 | k+1,s3,s4,s5=>
  aT (decide (s5 < r1.1.gA0)) λx6=>
  cond x6 (
   aT (I64 (r1.1.gR - (I64 (256*s5)))) λx7=>
   aT (I64 (((a1.length:Int)) - s4)) λx8=>
   cond (decide (x8 < 4)) (
    some (Sum.inr ((aE.mk 0 0 0 (ah 8 0) 0 0 0 0,aI.mk 0 (aK.mk [] [] []) (aH.mk 0 []) (aG.mk 0 (#v[0,0,0]) 0) (aL.mk 0 (#v[0,0,0]) (aB.mk 0 0 0) (aB.mk 0 0 0) (aB.mk 0 0 0)),4)))) (
    ae (qJ N s5 (mU 256 x7)) λr9=>
    ae (iY N a1 s4 r9 N 0) λo=>nQ o (λp10=>
     aT (I64 (((a1.length:Int)) - s4)) λx14=>
     aT (I64 ((mU 256 x7)+16)) λx15=>
     aT (decide ((I64 (x14 - 4)) < x15)) λx16=>
     cond x16 (
      some (Sum.inr ((aE.mk 0 0 0 (ah 8 0) 0 0 0 0,aI.mk 0 (aK.mk [] [] []) (aH.mk 0 []) (aG.mk 0 (#v[0,0,0]) 0) (aL.mk 0 (#v[0,0,0]) (aB.mk 0 0 0) (aB.mk 0 0 0) (aB.mk 0 0 0)),4)))) (
      ae (mA N a1) λr17=>
      ae (lC N r17 (I64 (s5+1))) λr18=>
      ae (eD a1 47 63) λs19=>
      ae (nR 1 r9 s19) λz20=>
      aT (I64 ((I64 (s4+4))+(mU 256 x7))) λx21=>
      ae (eD a1 (I64 (s4+4)) (I64 (x21+16))) λs22=>
      ae (mD N a0 r18 z20 s22) λr23=>
      cond (r23.2 != 0) (
       some (Sum.inr ((aE.mk 0 0 0 (ah 8 0) 0 0 0 0,aI.mk 0 (aK.mk [] [] []) (aH.mk 0 []) (aG.mk 0 (#v[0,0,0]) 0) (aL.mk 0 (#v[0,0,0]) (aB.mk 0 0 0) (aB.mk 0 0 0) (aB.mk 0 0 0)),r23.2)))) (
       ae (nR 1 s3 r23.1) λz24=>
       aT (I64 ((I64 (s4+4))+(mU 256 x7))) λx25=>
       fM N r1 a1 a0 k z24 (I64 (x25+16)) (I64 (s5+1))))) (λr=>some (Sum.inr r)))) (
   some (Sum.inl ((s3,s4))))
def qK(N:Nat)(a0:(Vector Int 32))(a1:(List Int)):Option (aE×aI×Int):=
 ae (nU N a0 a1) λr1=>
 cond (r1.2 != 0) (
  some ((aE.mk 0 0 0 (ah 8 0) 0 0 0 0,aI.mk 0 (aK.mk [] [] []) (aH.mk 0 []) (aG.mk 0 (#v[0,0,0]) 0) (aL.mk 0 (#v[0,0,0]) (aB.mk 0 0 0) (aB.mk 0 0 0) (aB.mk 0 0 0)),r1.2))) (
  ae (fM N r1 a1 a0 N [] 63 0) λo=>nQ o (λp2=>
   aT (decide (p2.2 < ((a1.length:Int)))) λx26=>
   cond x26 (
    some ((aE.mk 0 0 0 (ah 8 0) 0 0 0 0,aI.mk 0 (aK.mk [] [] []) (aH.mk 0 []) (aG.mk 0 (#v[0,0,0]) 0) (aL.mk 0 (#v[0,0,0]) (aB.mk 0 0 0) (aB.mk 0 0 0) (aB.mk 0 0 0)),7))) (
    ae (oG N r1.1.gC p2.1) λr27=>
    cond (r27.2 != 0) (
     some ((aE.mk 0 0 0 (ah 8 0) 0 0 0 0,aI.mk 0 (aK.mk [] [] []) (aH.mk 0 []) (aG.mk 0 (#v[0,0,0]) 0) (aL.mk 0 (#v[0,0,0]) (aB.mk 0 0 0) (aB.mk 0 0 0) (aB.mk 0 0 0)),r27.2))) (
     some ((r1.1,r27.1,0))))) (λr=>some r))
theorem aCK{N a0 a1 r}(h:qK N a0 a1=some r):FnM Tryz.prog 15 [] [(eA 32 1 k8 a0),(eL 1 k8 a1)] (.tup [(aE.enc r.1),(aI.enc r.2.1),(j64 r.2.2)]) []:=by
 unfold qK at h;refine At.f aCi hT hmo Tryz.func15 rfl h ?_;refine At.b 6 (λ_ e=>aM [] (xM e)) λr1=>?_;refine At.c 8 ?_ ?_
 ·apply rt;exact At.r 6
 ·refine At.ownn 3 9 1 ?_;refine At.LS 0 [1,4,5,7] 4 (λp2=>([(9,(eO 3 1 k8 p2.1)),(10,(j64 p2.2))],[(3,.tail (p2.1.length*1))],[])) (λop2 J k=>∃s3 s4 s5,fM N r1 a1 a0 k s3 s4 s5=some op2/\J [1,2,4,5,7] 4 [(9,(eO 3 1 k8 s3)),(10,(j64 s4)),(11,(j64 s5))] [(3,.tail (s3.length*1))] []) N (λ_ h=>⟨_,_,_,h,jr⟩) (λop2 g2 k s hI=>?_) λp2=>?_
  ·obtain⟨s3,s4,s5,h,hj⟩:=hI;cases k with
   | zero=>cases h
   | succ k=>
    refine At.jr hj ?_ h;refine lx ?_;intro x6;refine At.c 4 ?_ ?_
    ·refine lx ?_;intro x7;refine lx ?_;intro x8;refine At.c 12 ?_ ?_
     ·intro e;apply uQ g2 e;exact At.r 5
     ·refine At.b 2 (λ_ e=>aM [] (aCb e)) λr9=>?_;refine At.LS 2 [1,2,4,5,7,9,10,11,12,13] 5 (λp10=>([],[],[])) (λop10 J k=>∃s11,iY N a1 s4 r9 k s11=some op10/\J [1,2,4,5,7,9,10,11,12,13] 5 [(14,(j64 s11))] [] []) N (λ_ h=>⟨_,h,jr⟩) (λop10 g10 k s hI=>?_) λp10=>?_
      ·obtain⟨s11,h,hj⟩:=hI;cases k with
       | zero=>cases h
       | succ k=>
        refine At.jr hj ?_ h;refine At.c 2 ?_ ?_
        ·refine bi λe12 he12=>?_;refine bi λe13 he13=>?_;refine At.d 0 (dE1 4 (λ_=>bB hT k8 he12) (dE1 8 (λ_=>bB hT k8 he13) dE0)) dF0 ?_;refine At.c 0 ?_ ?_
         ·intro e;apply rtS2 g10 g2 e;exact At.r 5
         ·exact λh=>At.k 3 ⟨_,h,jr⟩
        ·apply rt;exact At.xs 0
      ·refine lx ?_;intro x14;refine lx ?_;intro x15;refine lx ?_;intro x16;refine At.c 8 ?_ ?_
       ·intro e;apply uQ g2 e;exact At.r 5
       ·refine bi λr17 hr17=>?_;refine bi λr18 hr18=>?_;refine bi λs19 hs19=>?_;refine bi λz20 hz20=>?_;refine lx ?_;intro x21;refine bi λs22 hs22=>?_;refine bi λr23 hr23=>?_;refine At.d 0 (dE2 2 (eA 8 1 k8 r17) (λ_=>dM (xN hr17)) (dE2 5 (eA 12 1 k8 r18) (λ_=>dM (wR hr18)) (dE1 8 (λ_=>iQ hT (k:=1) k8 hs19) (dE1 18 (λ_=>iQ hT (k:=1) k8 hs22) (dE2 19 (.tup [(eL 1 k8 r23.1),(j64 r23.2)]) (λ_=>dM (xR hr23)) dE0))))) (dF 9 (eO 4 1 k8 z20) [(4,.tail (z20.length*1))] [] (bP (dE hT k8 (id:=4) (k:=1) hz20)) dF0) ?_;refine At.c 2 ?_ ?_
        ·intro e;apply uQ g2 e;exact At.r 6
        ·refine At.b 2 (λ_ e=>dE hT k8 (id:=3) (k:=1) e) λz24=>?_;refine lx ?_;intro x25;exact λh=>At.k 10 ⟨_,_,_,h,jr⟩
    ·apply rt;exact At.xs 0
  ·refine lx ?_;intro x26;refine At.c 4 ?_ ?_
   ·apply rt;exact At.r 5
   ·refine At.b 3 (λ_ e=>aM [] (aBC e)) λr27=>?_;refine At.c 8 ?_ ?_
    ·apply rt;exact At.r 6
    ·refine At.d 0 dE0 dF0 ?_;apply rt;exact At.r 0
def aCz : Nat->Bool:=imL [2,3]
def lI(N:Nat)(a0 a1:aK):Nat->Int->Option (Sum (Unit) (Bool))
 | 0,_=>none
 | k+1,s9=>
  aT ((a0.gG.length:Int)) λx10=>
  cond (decide (s9 < x10)) (
   ae (idx a0.gG s9) λe11=>
   ae (idx a1.gG s9) λe12=>
   cond (!(aB.eq e11 e12)) (
    some (Sum.inr false)) (
    lI N a0 a1 k (I64 (s9+1)))) (
   some (Sum.inl (())))
def lJ(N:Nat)(a0 a1:aK):Nat->Int->Option (Sum (Unit) (Bool))
 | 0,_=>none
 | k+1,s14=>
  aT (decide (s14 < ((a0.gL.length:Int)))) λx15=>
  cond x15 (
   ae (idx a0.gL s14) λe16=>
   ae (idx a1.gL s14) λe17=>
   cond (!((eqV (λa b=>a==b)) e16 e17)) (
    some (Sum.inr false)) (
    lJ N a0 a1 k (I64 (s14+1)))) (
   some (Sum.inl (())))
def lP(N:Nat)(a0 a1:aK):Nat->Int->Option (Sum (Unit) (Bool))
 | 0,_=>none
 | k+1,s19=>
  aT ((a0.gJ.length:Int)) λx20=>
  cond (decide (s19 < x20)) (
   ae (idx a0.gJ s19) λe21=>
   ae (idx a1.gJ s19) λe22=>
   cond (!((eqV (λa b=>a==b)) e21 e22)) (
    some (Sum.inr false)) (
    lP N a0 a1 k (I64 (s19+1)))) (
   some (Sum.inl (())))
def qO(N:Nat)(a0 a1:aK):Option (Bool):=
 aT ((a0.gG.length:Int)) λx1=>
 aT ((a1.gG.length:Int)) λx2=>
 aT (((a0.gL.length:Int)) != ((a1.gL.length:Int))) λx3=>
 aT (cond (x1 != x2) true x3) λx4=>
 aT ((a0.gJ.length:Int)) λx5=>
 aT ((a1.gJ.length:Int)) λx6=>
 aT (cond x4 true (x5 != x6)) λx7=>
 cond x7 (
  some false) (
  ae (lI N a0 a1 N 0) λo=>nQ o (λp8=>
   ae (lJ N a0 a1 N 0) λo=>nQ o (λp13=>
    ae (lP N a0 a1 N 0) λo=>nQ o (λp18=>
     some true) (λr=>some r)) (λr=>some r)) (λr=>some r))
theorem aCF{N a0 a1 r}(h:qO N a0 a1=some r):FnM Tryz.prog 42 [] [(aK.enc a0),(aK.enc a1)] (eB r) []:=by
 unfold qO at h;refine At.f aCz hT hmo Tryz.func42 rfl h ?_;refine lx ?_;intro x1;refine lx ?_;intro x2;refine lx ?_;intro x3;refine lx ?_;intro x4;refine lx ?_;intro x5;refine lx ?_;intro x6;refine lx ?_;intro x7;refine At.c 28 ?_ ?_
 ·apply rt;exact At.r 1
 ·refine At.LS 1 [2,3] 0 (λp8=>([],[],[])) (λop8 J k=>∃s9,lI N a0 a1 k s9=some op8/\J [2,3] 0 [(5,(j64 s9))] [] []) N (λ_ h=>⟨_,h,jr⟩) (λop8 g8 k s hI=>?_) λp8=>?_
  ·obtain⟨s9,h,hj⟩:=hI;cases k with
   | zero=>cases h
   | succ k=>
    refine At.jr hj ?_ h;refine lx ?_;intro x10;refine At.c 5 ?_ ?_
    ·refine bi λe11 he11=>?_;refine bi λe12 he12=>?_;refine At.d 0 (dE1 3 (λ_=>bB hT aB.enc he11) (dE1 8 (λ_=>bB hT aB.enc he12) (dE1 10 (λ_=>kF uH (e11:aB) (e12:aB) (by kernel_rfl) (by kernel_rfl) (λ_=>rfl) (λ_=>rfl) (by kernel_rfl) (by kernel_rfl)) dE0))) dF0 ?_;refine At.c 0 ?_ ?_
     ·intro e;apply uQ g8 e;exact At.r 1
     ·exact λh=>At.k 3 ⟨_,h,jr⟩
    ·apply rt;exact At.xs 0
  ·refine At.LS 1 [2,3] 0 (λp13=>([],[],[])) (λop13 J k=>∃s14,lJ N a0 a1 k s14=some op13/\J [2,3] 0 [(6,(j64 s14))] [] []) N (λ_ h=>⟨_,h,jr⟩) (λop13 g13 k s hI=>?_) λp13=>?_
   ·obtain⟨s14,h,hj⟩:=hI;cases k with
    | zero=>cases h
    | succ k=>
     refine At.jr hj ?_ h;refine lx ?_;intro x15;refine At.c 5 ?_ ?_
     ·refine bi λe16 he16=>?_;refine bi λe17 he17=>?_;refine At.d 0 (dE1 3 (λ_=>bB hT (eA 2 1 j64) he16) (dE1 8 (λ_=>bB hT (eA 2 1 j64) he17) (dE1 10 (λ_=>kF aLW (e16:(Vector Int 2)) (e17:(Vector Int 2)) (by kernel_rfl) (by kernel_rfl) (λ_=>rfl) (λ_=>rfl) (by kernel_rfl) (by kernel_rfl)) dE0))) dF0 ?_;refine At.c 0 ?_ ?_
      ·intro e;apply uQ g13 e;exact At.r 1
      ·exact λh=>At.k 3 ⟨_,h,jr⟩
     ·apply rt;exact At.xs 0
   ·refine At.LS 1 [] 0 (λp18=>([],[],[])) (λop18 J k=>∃s19,lP N a0 a1 k s19=some op18/\J [2,3] 0 [(7,(j64 s19))] [] []) N (λ_ h=>⟨_,h,jr⟩) (λop18 g18 k s hI=>?_) λp18=>?_
    ·obtain⟨s19,h,hj⟩:=hI;cases k with
     | zero=>cases h
     | succ k=>
      refine At.jr hj ?_ h;refine lx ?_;intro x20;refine At.c 5 ?_ ?_
      ·refine bi λe21 he21=>?_;refine bi λe22 he22=>?_;refine At.d 0 (dE1 3 (λ_=>bB hT (eA 3 1 j64) he21) (dE1 8 (λ_=>bB hT (eA 3 1 j64) he22) (dE1 10 (λ_=>kF aFy (e21:(Vector Int 3)) (e22:(Vector Int 3)) (by kernel_rfl) (by kernel_rfl) (λ_=>rfl) (λ_=>rfl) (by kernel_rfl) (by kernel_rfl)) dE0))) dF0 ?_;refine At.c 0 ?_ ?_
       ·intro e;apply uQ g18 e;exact At.r 1
       ·exact λh=>At.k 3 ⟨_,h,jr⟩
      ·apply rt;exact At.xs 0
    ·apply rt;exact At.r 1
def aDC : Nat->Bool:=imL [2,3]
def lS(N:Nat)(a0 a1:aH):Nat->Int->Option (Sum (Unit) (Bool))
 | 0,_=>none
 | k+1,s5=>
  aT ((a0.gK.length:Int)) λx6=>
  cond (decide (s5 < x6)) (
   ae (idx a0.gK s5) λe7=>
   ae (idx a1.gK s5) λe8=>
   cond (!((eqV (λa b=>a==b)) e7 e8)) (
    some (Sum.inr false)) (
    lS N a0 a1 k (I64 (s5+1)))) (
   some (Sum.inl (())))
def qI(N:Nat)(a0 a1:aH):Option (Bool):=
 aT ((a0.gK.length:Int)) λx1=>
 aT ((a1.gK.length:Int)) λx2=>
 aT (cond (a0.gM != a1.gM) true (x1 != x2)) λx3=>
 cond x3 (
  some false) (
  ae (lS N a0 a1 N 0) λo=>nQ o (λp4=>
   some true) (λr=>some r))
theorem aCV{N a0 a1 r}(h:qI N a0 a1=some r):FnM Tryz.prog 43 [] [(aH.enc a0),(aH.enc a1)] (eB r) []:=by
 unfold qI at h;refine At.f aDC hT hmo Tryz.func43 rfl h ?_;refine lx ?_;intro x1;refine lx ?_;intro x2;refine lx ?_;intro x3;refine At.c 17 ?_ ?_
 ·apply rt;exact At.r 1
 ·refine At.LS 1 [] 0 (λp4=>([],[],[])) (λop4 J k=>∃s5,lS N a0 a1 k s5=some op4/\J [2,3] 0 [(5,(j64 s5))] [] []) N (λ_ h=>⟨_,h,jr⟩) (λop4 g4 k s hI=>?_) λp4=>?_
  ·obtain⟨s5,h,hj⟩:=hI;cases k with
   | zero=>cases h
   | succ k=>
    refine At.jr hj ?_ h;refine lx ?_;intro x6;refine At.c 5 ?_ ?_
    ·refine bi λe7 he7=>?_;refine bi λe8 he8=>?_;refine At.d 0 (dE1 3 (λ_=>bB hT (eA 3 1 j64) he7) (dE1 8 (λ_=>bB hT (eA 3 1 j64) he8) (dE1 10 (λ_=>kF aFy (e7:(Vector Int 3)) (e8:(Vector Int 3)) (by kernel_rfl) (by kernel_rfl) (λ_=>rfl) (λ_=>rfl) (by kernel_rfl) (by kernel_rfl)) dE0))) dF0 ?_;refine At.c 0 ?_ ?_
     ·intro e;apply uQ g4 e;exact At.r 1
     ·exact λh=>At.k 3 ⟨_,h,jr⟩
    ·apply rt;exact At.xs 0
  ·apply rt;exact At.r 1
def aDT : Nat->Bool:=imL [2,3]
def lY(N:Nat)(a0 a1:aI):Option (Bool):=
 ae (cond (a0.gC==a1.gC) (
  ae (qO N a0.gP a1.gP) λr2=>
  cond r2 (
   ae (qI N a0.gQ a1.gQ) λr3=>
   cond r3 (
    aT (aG.eq a0.gI a1.gI) λx4=>
    cond x4 (
     aT (aL.eq a0.gD a1.gD) λx5=>
     some x5) (
     some false)) (
    some false)) (
   some false)) (
  some false)) λp1=>
 some p1
theorem yA{N a0 a1 r}(h:lY N a0 a1=some r):FnM Tryz.prog 16 [] [(aI.enc a0),(aI.enc a1)] (eB r) []:=by
 unfold lY at h;refine At.f aDT hT hmo Tryz.func16 rfl h ?_;refine At.J 3 0 [] 0 (λp1=>([(4,(eB p1))],[],[])) (λp1=>?_) λp1=>?_
 ·refine At.s 10 6 ?_ ?_
  ·refine At.g [10] 4 ?_;refine At.b 0 (λ_ e=>aM [] (aCF e)) λr2=>?_;refine At.g [10] 2 ?_;refine At.s 17 0 ?_ ?_
   ·refine At.g [17] 4 ?_;refine At.b 0 (λ_ e=>aM [] (aCV e)) λr3=>?_;refine At.g [17] 2 ?_;refine At.s 24 0 ?_ ?_
    ·refine At.g [24] 4 ?_;refine At.o 0 (aCu aF2 (a0.gI:aG) (a1.gI:aG) (by kernel_rfl) (by kernel_rfl) (λ_=>rfl) (λ_=>rfl) (by kernel_rfl) (by kernel_rfl)) ?_;refine lx ?_;intro x4;refine At.g [24] 2 ?_;refine At.s 31 0 ?_ ?_
     ·refine At.g [31] 4 ?_;refine At.o 0 (aCu aGS (a0.gD:aL) (a1.gD:aL) (by kernel_rfl) (by kernel_rfl) (λ_=>rfl) (λ_=>rfl) (by kernel_rfl) (by kernel_rfl)) ?_;refine lx ?_;intro x5;refine At.g [31] 2 ?_;apply rt;exact At.jn 0
     ·refine At.g [31] 7 ?_;apply rt;exact At.jn 0
    ·refine At.g [24,31] 14 ?_;apply rt;exact At.jn 0
   ·refine At.g [17,24,31] 21 ?_;apply rt;exact At.jn 0
  ·refine At.g [10,17,24,31] 28 ?_;apply rt;exact At.jn 0
 ·apply rt;exact At.r 0
def aFM : Nat->Bool:=imL [1]
def xW(N:Nat)(a0:aI):Option ((List Int)×Int):=
 ae (jG N a0) λr1=>
 cond (r1 != 0) (
  some (([],r1))) (
  ae (rN N a0) λr2=>
  some ((r2,0)))
theorem aEs{N a0 r}(h:xW N a0=some r):FnM Tryz.prog 18 [] [(aI.enc a0)] (.tup [(eL 1 k8 r.1),(j64 r.2)]) []:=by
 unfold xW at h;refine At.f aFM hT hmo Tryz.func18 rfl h ?_;refine At.b 4 (λ_ e=>aM [] (aA7 e)) λr1=>?_;refine At.c 3 ?_ ?_
 ·apply rt;exact At.r 3
 ·refine At.b 1 (λ_ e=>aM [] (aAZ e)) λr2=>?_;apply rt;exact At.r 2
def aDL : Nat->Bool:=imL [1]
def vB(N:Nat)(a0:aE):Option ((List Int)×Int):=
 ae (pC N a0) λr1=>
 cond (r1 != 0) (
  some (([],r1))) (
  ae (cM N [] 8 ([a0.gId])) λr2=>
  ae (cM N r2.1 1 ([U64 a0.gC])) λr3=>
  ae (cM N r3.1 4 ([U64 a0.gA3])) λr4=>
  ae (eD a0.gA1.toList 0 8) λs5=>
  ae (nR 1 r4.1 s5) λz6=>
  ae (cM N z6 4 ([U64 a0.gA2,U64 a0.gTo,U64 a0.gR])) λr7=>
  ae (cM N r7.1 2 ([U64 a0.gA0])) λr8=>
  some ((r8.1,r8.2)))
theorem aCE{N a0 r}(h:vB N a0=some r):FnM Tryz.prog 20 [] [(aE.enc a0)] (.tup [(eL 1 k8 r.1),(j64 r.2)]) []:=by
 unfold vB at h;refine At.f aDL hT hmo Tryz.func20 rfl h ?_;refine At.b 4 (λ_ e=>aM [] (yK e)) λr1=>?_;refine At.c 3 ?_ ?_
 ·apply rt;exact At.r 3
 ·refine At.o 2 (bU hT (x:=(.sl 1 1 [(k64 a0.gId)]))) ?_;refine At.b 0 (λ_ e=>aM [] (mB e)) λr2=>?_;refine At.o 9 (bU hT (x:=(.sl 1 1 [(k64 (U64 a0.gC))]))) ?_;refine At.b 0 (λ_ e=>aM [] (mB e)) λr3=>?_;refine At.o 8 (bU hT (x:=(.sl 1 1 [(k64 (U64 a0.gA3))]))) ?_;refine At.b 0 (λ_ e=>aM [] (mB e)) λr4=>?_;refine At.b 6 (λ_ e=>nJ hT (N:=8) (k:=1) k8 a0.gA1 e) λs5=>?_;refine At.b 0 (λ_ e=>dE hT k8 (id:=2) (k:=1) e) λz6=>?_;refine At.o 11 (bU hT (x:=(.sl 1 3 [(k64 (U64 a0.gA2)),(k64 (U64 a0.gTo)),(k64 (U64 a0.gR))]))) ?_;refine At.b 0 (λ_ e=>aM [] (mB e)) λr7=>?_;refine At.o 8 (bU hT (x:=(.sl 1 1 [(k64 (U64 a0.gA0))]))) ?_;refine At.b 0 (λ_ e=>aM [] (mB e)) λr8=>?_;apply rt;exact At.r 4
def aIw : Nat->Bool:=imL [4,5]
def yG(N:Nat)(a0:(Vector Int 32))(a1:(Vector Int 12))(a2 a3:(List Int)):Option ((List Int)×Int):=
 aT (decide (((a2.length:Int)) > 16384)) λx1=>
 aT (decide (((a3.length:Int)) > 16384)) λx2=>
 cond (cond x1 true x2) (
  some (([],3))) (
  ae (tF N a0 1 a1 ([a3])) λr3=>
  ae (rA N a0 a1 a2 r3) λr4=>
  ae (eD r4.toList 0 16) λs6=>
  ae (cL N ([r3,s6])) λr7=>
  some ((r7,0)))
theorem aDA{N a0 a1 a2 a3 r}(h:yG N a0 a1 a2 a3=some r):FnM Tryz.prog 22 [] [(eA 32 1 k8 a0),(eA 12 1 k8 a1),(eL 1 k8 a2),(eL 1 k8 a3)] (.tup [(eL 1 k8 r.1),(j64 r.2)]) []:=by
 unfold yG at h;refine At.f aIw hT hmo Tryz.func22 rfl h ?_;refine lx ?_;intro x1;refine lx ?_;intro x2;refine At.c 12 ?_ ?_
 ·apply rt;exact At.r 2
 ·refine At.o 3 (bU hT (x:=(.sl 1 1 [(eL 1 k8 a3)]))) ?_;refine At.b 0 (λ_ e=>aM [] (aBp e)) λr3=>?_;refine At.b 5 (λ_ e=>aM [] (aEf e)) λr4=>?_;refine At.gz 3 0 ((eA 16 1 k8 r4)) ?_;refine At.b 0 (λ_ e=>nJ hT (N:=16) (k:=1) k8 r4 e) λs6=>?_;refine At.o 0 (bU hT (x:=(.sl 1 2 [(eL 1 k8 r3),(eL 1 k8 s6)]))) ?_;refine At.b 0 (λ_ e=>aM [] (mL e)) λr7=>?_;apply rt;exact At.r 2
def wK(N:Nat)(a0:(List Int)):Option (Unit):=
 some (())
theorem aDh{N a0 r}(h:wK N a0=some r):FnM Tryz.prog 23 [] [(eL 1 k8 a0)] (.fn (.func 50) [] [(.ref 0 [] 0)]) [.var (eL 1 k8 a0)]:=by
 unfold wK at h;refine At.f eX hT hmo Tryz.func23 rfl h ?_;refine At.o 2 (aIX (x:=(.fn (.func 50) [] [(.ref 0 [] 0)])) (by kernel_rfl) (by kernel_rfl)) ?_;apply rt;exact At.r 1
def aD8 : Nat->Bool:=imL [4,5,7]
def vM(N:Nat)(b3:(List Int))(a1:(Vector Int 32))(a2:(Vector Int 8))(a3 a4:(List Int))(a5:Int)(a6:(List Int)):Option ((List Int)):=
 aT (U64 ((a6.length:Int))) λx1=>
 ae (cM N [] 2 ([U64 a5,x1])) λr2=>
 ae (fZ N a2 (I64 (a5+1))) λr3=>
 ae (cL N ([r2.1,a3])) λr4=>
 ae (yG N a1 r3 r4 a6) λr5=>
 ae (nR 1 b3 r2.1) λz6=>
 ae (nR 1 z6 r5.1) λz7=>
 some z7
theorem aDY{N:Nat}{b3:(List Int)}{a1:(Vector Int 32)}{a2:(Vector Int 8)}{a3:(List Int)}{a4:(List Int)}{a5:Int}{a6:(List Int)}{r:(List Int)}(h:vM N b3 a1 a2 a3 a4 a5 a6=some r):YldM Tryz.prog (aOH 101 Tryz.f6.body [1,1,1,1,1,1,1,1,1,1,0,1,0]) [en 4 (.im (eA 32 1 k8 a1)),en 5 (.im (eA 8 1 k8 a2)),en 13 (.ref 0 [] 0),en 14 (.ref 1 [] 0)] [.var (eO 3 1 k8 b3),.var (eL 1 k8 a3),.var (eL 1 k8 a4),.tail (b3.length*1)] [(j64 a5),(eL 1 k8 a6)] [.var (eO 3 1 k8 r),.var (eL 1 k8 a3),.var (eL 1 k8 a4),.tail (r.length*1)] none:=by
 unfold vM at h;refine aKk (lo:=5) (by kernel_rfl) (λbk rl=>At.of aD8 hT hmo h ?_)
 refine At.to 0 ⟨[en 4 (.im (eA 32 1 k8 a1)),en 5 (.im (eA 8 1 k8 a2)),en 13 (.ref 0 [] 0),en 14 (.ref 1 [] 0),en 69 (j64 a5),en 70 (eL 1 k8 a6)],[.var (eO 3 1 k8 b3),.var (eL 1 k8 a3),.var (eL 1 k8 a4),.tail (b3.length*1),.loop rl]⟩ ?_;refine At.mid 2 (λrl2=>?_)
 refine lx ?_;intro x1;refine At.o 5 (bU hT (x:=(.sl 1 2 [(k64 (U64 a5)),(k64 x1)]))) ?_;refine At.b 0 (λ_ e=>aM [] (mB e)) λr2=>?_;refine At.wk 5 18 ((eL 1 k8 r2.1)) ?_;refine bi λr3 hr3=>?_;refine bi λr4 hr4=>?_;refine bi λr5 hr5=>?_;refine At.d 0 (dE2 4 (eA 12 1 k8 r3) (λ_=>dM (tY hr3)) (dE1 7 (λ_=>bU hT (x:=(.sl 1 2 [(eL 1 k8 r2.1),(eL 1 k8 a3)]))) (dE2 10 (.tup [(eL 1 k8 r5.1),(j64 r5.2)]) (λ_=>dM (aDA hr5)) dE0))) (dF 8 (eO 6 1 k8 r4) [] [.tail (r4.length*1)] (bP (aM [] (mL hr4))) dF0) ?_;refine At.b 2 (λ_ e=>dE hT k8 (id:=3) (k:=1) e) λz6=>?_;refine At.b 1 (λ_ e=>dE hT k8 (id:=3) (k:=1) e) λz7=>?_;apply rt;exact At.rnd 1
def iR(N:Nat)(a1:(Vector Int 32))(a2:(Vector Int 8))(a3:(List Int)):Nat->(List Int)->(List Int)->Int->Option ((List Int)×(List Int))
 | 0,_,_,_=>none
 | k+1,s2,s3,s4=>
  aT (decide (((s3.length:Int)) > 0)) λx5=>
  cond x5 (
   aT (mU ((s3.length:Int)) 256) λx6=>
   ae (aGZ s3 0 x6 x6) λs7=>
   ae (vM N s2 a1 a2 a3 s3 s4 s7) λr8=>
   ae (eD s3 x6 ((s3.length:Int))) λs9=>
   iR N a1 a2 a3 k r8 s9 (I64 (s4+1))) (
   some ((s2,s3)))
def kA(N:Nat)(b3:(List Int))(a1:(Vector Int 32))(a2:(Vector Int 8))(a3 a4:(List Int)):Option ((List Int)×(List Int)):=
 ae (iR N a1 a2 a3 N b3 a4 0) λp1=>
 some ((p1.1,p1.2))
theorem tE{N:Nat}{b3:(List Int)}{a1:(Vector Int 32)}{a2:(Vector Int 8)}{a3:(List Int)}{a4:(List Int)}{r:(List Int)×(List Int)}(h:kA N b3 a1 a2 a3 a4=some r):ItM Tryz.prog 50 (aOH 101 Tryz.f6.body [1,1,1,1,1,1,1,1,1,1,0,1,0]) [en 4 (.im (eA 32 1 k8 a1)),en 5 (.im (eA 8 1 k8 a2)),en 13 (.ref 0 [] 0),en 14 (.ref 1 [] 0)] [.var (eO 3 1 k8 b3),.var (eL 1 k8 a3),.var (eL 1 k8 a4),.tail (b3.length*1)] [(.yld 4),(.ref 2 [] 0)] (.tup []) [.var (eO 3 1 k8 r.1),.var (eL 1 k8 a3),.var (eL 1 k8 r.2),.tail (r.1.length*1)] none:=by
 unfold kA at h;refine aMO (m:=24) (lo:=5) (rs:=[]) hT Tryz.func50 rfl (by kernel_rfl) rfl (λfn tmps D hsz=>At.of eX hT hmo h ?_)
 refine At.L 1 [] 5 (λp1=>([],[(0,.var (eO 3 1 k8 p1.1)),(2,.var (eL 1 k8 p1.2)),(3,.tail (p1.1.length*1))],[])) (λp1 J k=>∃s2 s3 s4,iR N a1 a2 a3 k s2 s3 s4=some p1/\J [0,1] 5 [(3,(j64 s4))] [(0,.var (eO 3 1 k8 s2)),(2,.var (eL 1 k8 s3)),(3,.tail (s2.length*1))] []) N (λ_ h=>⟨_,_,_,h,jr⟩) (λp1 k s hI=>?_) λp1=>?_
 ·obtain⟨s2,s3,s4,h,hj⟩:=hI;cases k with
  | zero=>cases h
  | succ k=>
   refine At.jr hj ?_ h;refine lx ?_;intro x5;refine At.c 3 ?_ ?_
   ·refine lx ?_;intro x6;refine At.b 9 (λ_ e=>aJJ hT (k:=1) k8 e (by kernel_rfl) (by kernel_rfl)) λs7=>?_;refine At.b 0 (λ_ e=>aPC (aDY e) (fn:=fn) (D:=D) hsz rfl (List.mem_singleton.2 rfl) (by kernel_rfl) (by kernel_rfl)) λr8=>?_;refine At.b 4 (λ_ e=>iQ hT (k:=1) k8 e) λs9=>?_;exact λh=>At.k 4 ⟨_,_,_,h,jr⟩
   ·apply rt;exact At.x 0
 ·apply rt;exact At.z 0
theorem sN : tS Tryz.prog 50:=vA (show xH Tryz.prog 50=true by kernel_rfl)
def aGu : Nat->Bool:=imL [4,5,7]
def yY(N:Nat)(a0:(Vector Int 32))(a1:(Vector Int 8))(a2:aE)(a3:aI):Option ((List Int)×Int):=
 ae (xW N a3) λr1=>
 cond (r1.2 != 0) (
  some (([],r1.2))) (
  cond (a2.gC != a3.gC) (
   some (([],12))) (
   ae (nY N ((r1.1.length:Int))) λr2=>
   ae (vB N (aE.mk a2.gId a2.gC a2.gA3 a2.gA1 a2.gA2 a2.gTo ((r1.1.length:Int)) r2)) λr3=>
   cond (r3.2 != 0) (
    some (([],r3.2))) (
    ae (eD a1.toList 0 8) λs4=>
    ae (cL N ([([85,77,66,49]:List Int),s4,r3.1])) λr5=>
    ae (fZ N a1 0) λr6=>
    ae (yG N a0 r6 r5 []) λr7=>
    ae (nR 1 r5 r7.1) λz8=>
    ae (wK N r1.1) λr9=>
    ae (kA N z8 a0 a1 r7.1 r1.1) λr10=>
    some ((r10.1,0)))))
theorem aGG{N a0 a1 a2 a3 r}(h:yY N a0 a1 a2 a3=some r):FnM Tryz.prog 6 [] [(eA 32 1 k8 a0),(eA 8 1 k8 a1),(aE.enc a2),(aI.enc a3)] (.tup [(eL 1 k8 r.1),(j64 r.2)]) []:=by
 unfold yY at h;refine At.fR aGu hT hmo Tryz.func6 rfl h ?_;refine At.b 7 (λ_ e=>aM [] (aEs e)) λr1=>?_;refine At.c 7 ?_ ?_
 ·apply rt;exact At.r 3
 ·refine At.c 5 ?_ ?_
  ·apply rt;exact At.r 2
  ·refine At.b 4 (λ_ e=>aM [] (xP e)) λr2=>?_;refine At.b 5 (λ_ e=>aM [] (aCE e)) λr3=>?_;refine At.c 7 ?_ ?_
   ·apply rt;exact At.r 3
   ·refine At.l2 hT 0 (d1:=50) (d2:=51) (t:=47) (e:=5) k8 (z:=1) ([85,77,66,49]:List Int) rfl rfl rfl ?_;refine At.b 0 (λ_ e=>nJ hT (N:=8) (k:=1) k8 a1 e) λs4=>?_;refine At.wk 1 51 ((eL 1 k8 (([85,77,66,49]:List Int)))) ?_;refine At.o 0 (bU hT (x:=(.sl 1 3 [(eL 1 k8 (([85,77,66,49]:List Int))),(eL 1 k8 s4),(eL 1 k8 r3.1)]))) ?_;refine At.b 0 (λ_ e=>aM [] (mL e)) λr5=>?_;refine bi λr6 hr6=>?_;refine bi λr7 hr7=>?_;refine At.d 2 (dE2 2 (eA 12 1 k8 r6) (λ_=>dM (tY hr6)) (dE2 4 (.tup [(eL 1 k8 r7.1),(j64 r7.2)]) (λ_=>dM (aDA hr7)) dE0)) dF0 ?_;refine At.b 2 (λ_ e=>dE hT k8 (id:=2) (k:=1) e) λz8=>?_;refine At.b 2 (λ_ e=>aM [] (aDh e)) λr9=>?_;refine bi λr10 hr10=>?_;refine At.rg 0 (tE hr10) sN (.tmp 68) [3,4,5,2] ⟨[en 13 (.ref 3 [] 0)],[.var (.st 15 [(k64 a2.gId),(j64 a2.gC),(k32 a2.gA3),(eA 8 1 k8 a2.gA1),(k32 a2.gA2),(k32 a2.gTo),(j64 ((r1.1.length:Int))),(j64 r2)]),.tail ((([85,77,66,49]:List Int)).length*1),.tail (r10.1.length*1),.var (eO 2 1 k8 r10.1),.var (eL 1 k8 r7.1),.var (eL 1 k8 r10.2)]⟩ [(.ref 5 [] 0)] ?_;apply rt;exact At.r 3
def pT(N:Nat):Option (Bool):=
 ae (yY N ((ah 32 0).setIfInBounds 0 1) ((ah 8 0).setIfInBounds 0 2) (aE.mk 0 3 0 (ah 8 0) 0 0 0 0) (aI.mk 3 (aK.mk [] [] []) (aH.mk 0 []) (aG.mk 0 (#v[0,0,0]) 0) (aL.mk 0 (#v[0,0,0]) (aB.mk 0 0 0) (aB.mk 0 0 0) (aB.mk 0 0 0)))) λr1=>
 ae (sA N ((ah 32 0).setIfInBounds 0 1) r1.1) λr2=>
 ae (aT (((r1.1.length:Int))==92) λx4=>
 aT (cond (r1.2==0) x4 false) λx5=>
 aT (cond x5 (r2.2.2==0) false) λx6=>
 cond x6 (
  aT (aE.eq r2.1 (aE.mk 0 3 0 (ah 8 0) 0 0 9 1)) λx7=>
  some x7) (
  some false)) λp3=>
 some p3
theorem aBU{N r}(h:pT N=some r):FnM Tryz.prog 11 [] [] (eB r) []:=by
 unfold pT at h;refine At.f eX hT hmo Tryz.func11 rfl h ?_;refine At.b 5 (λ_ e=>aM [] (aGG e)) λr1=>?_;refine At.b 7 (λ_ e=>aM [] (aBB e)) λr2=>?_;refine At.J 9 0 [] 2 (λp3=>([(0,(eB p3))],[],[])) (λp3=>?_) λp3=>?_
 ·refine lx ?_;intro x4;refine lx ?_;intro x5;refine lx ?_;intro x6;refine At.s 32 12 ?_ ?_
  ·refine At.g [32] 2 ?_;refine At.o 0 (aCu aID (r2.1:aE) (aE.mk 0 3 0 (ah 8 0) 0 0 9 1:aE) (by kernel_rfl) (by kernel_rfl) (λ_=>rfl) (λ_=>rfl) (by kernel_rfl) (by kernel_rfl)) ?_;refine lx ?_;intro x7;refine At.g [32] 2 ?_;apply rt;exact At.jn 0
  ·refine At.g [32] 5 ?_;apply rt;exact At.jn 0
 ·apply rt;exact At.r 0
def yW : Nat->Bool:=imL [2]
def nK(N:Nat)(a0:(Vector Int 32))(a1:(List Int)):Option (Bool):=
 aT (mU ((a1.length:Int)) 1200) λx1=>
 ae (eD a1 0 x1) λs2=>
 ae (oV N a0 s2) λr3=>
 ae (nU N a0 s2) λr4=>
 ae (sA N a0 s2) λr5=>
 ae (qK N a0 s2) λr6=>
 ae (cond (r5.2.2 != 0) (
  aT (!(aE.eq r5.1 (aE.mk 0 0 0 (ah 8 0) 0 0 0 0))) λx8=>
  cond x8 (
   some true) (
   ae (lY N r5.2.1 (aI.mk 0 (aK.mk [] [] []) (aH.mk 0 []) (aG.mk 0 (#v[0,0,0]) 0) (aL.mk 0 (#v[0,0,0]) (aB.mk 0 0 0) (aB.mk 0 0 0) (aB.mk 0 0 0)))) λr9=>
   some (!r9))) (
  some false)) λp7=>
 cond p7 (
  some false) (
  ae (aT (aE.eq r3.1 r4.1) λx11=>
  aT (cond x11 (r3.2==r4.2) false) λx12=>
  cond x12 (
   aT (aE.eq r5.1 r6.1) λx13=>
   cond x13 (
    ae (lY N r5.2.1 r6.2.1) λr14=>
    aT (cond r14 (r5.2.2==r6.2.2) false) λx15=>
    cond x15 (
     ae (pT N ) λr16=>
     some r16) (
     some false)) (
    some false)) (
   some false)) λp10=>
  some p10)
theorem yB{N a0 a1 r}(h:nK N a0 a1=some r):FnM Tryz.prog 4 [] [(eA 32 1 k8 a0),(eL 1 k8 a1)] (eB r) []:=by
 unfold nK at h;refine At.f yW hT hmo Tryz.func4 rfl h ?_;refine lx ?_;intro x1;refine At.b 6 (λ_ e=>iQ hT (k:=1) k8 e) λs2=>?_;refine At.b 3 (λ_ e=>aM [] (aA8 e)) λr3=>?_;refine At.b 8 (λ_ e=>aM [] (xM e)) λr4=>?_;refine At.b 8 (λ_ e=>aM [] (aBB e)) λr5=>?_;refine At.b 11 (λ_ e=>aM [] (aCK e)) λr6=>?_;refine At.J 9 0 [5,6,7,8,9,10,11,12,13,14] 6 (λp7=>([(58,(eB p7))],[],[])) (λp7=>?_) λp7=>?_
 ·refine At.s 48 3 ?_ ?_
  ·refine At.g [48] 2 ?_;refine At.o 0 (kF aID (r5.1:aE) (aE.mk 0 0 0 (ah 8 0) 0 0 0 0:aE) (by kernel_rfl) (by kernel_rfl) (λ_=>rfl) (λ_=>rfl) (by kernel_rfl) (by kernel_rfl)) ?_;refine lx ?_;intro x8;refine At.g [48] 1 ?_;refine At.s 52 0 ?_ ?_
   ·refine At.g [52,48] 6 ?_;apply rt;exact At.jn 0
   ·refine At.g [52] 2 ?_;refine At.b 0 (λ_ e=>aM [] (yA e)) λr9=>?_;refine At.g [52,48] 3 ?_;apply rt;exact At.jn 0
  ·refine At.g [48,52] 10 ?_;apply rt;exact At.jn 0
 ·refine At.c 0 ?_ ?_
  ·apply rt;exact At.r 1
  ·refine At.J 0 0 [] 6 (λp10=>([(4,(eB p10))],[],[])) (λp10=>?_) λp10=>?_
   ·refine At.o 2 (aCu aID (r3.1:aE) (r4.1:aE) (by kernel_rfl) (by kernel_rfl) (λ_=>rfl) (λ_=>rfl) (by kernel_rfl) (by kernel_rfl)) ?_;refine lx ?_;intro x11;refine lx ?_;intro x12;refine At.s 67 6 ?_ ?_
    ·refine At.g [67] 2 ?_;refine At.o 0 (aCu aID (r5.1:aE) (r6.1:aE) (by kernel_rfl) (by kernel_rfl) (λ_=>rfl) (λ_=>rfl) (by kernel_rfl) (by kernel_rfl)) ?_;refine lx ?_;intro x13;refine At.g [67] 2 ?_;refine At.s 72 0 ?_ ?_
     ·refine At.g [72] 2 ?_;refine At.b 0 (λ_ e=>aM [] (yA e)) λr14=>?_;refine lx ?_;intro x15;refine At.g [72] 7 ?_;refine At.s 82 0 ?_ ?_
      ·refine At.b 0 (λ_ e=>aM [] (aBU e)) λr16=>?_;refine At.g [82] 2 ?_;apply rt;exact At.jn 0
      ·refine At.g [82] 3 ?_;apply rt;exact At.jn 0
     ·refine At.g [72,77,82] 13 ?_;apply rt;exact At.jn 0
    ·refine At.g [67,72,77,82] 18 ?_;apply rt;exact At.jn 0
   ·apply rt;exact At.r 0
end Go.UK
