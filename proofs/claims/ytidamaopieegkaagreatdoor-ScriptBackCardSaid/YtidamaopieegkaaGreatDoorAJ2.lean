/- A part of the proof: what the functions of the program compute. -/
import Derived.Test.YtidamaopieegkaaGreatDoorAJ1
open Option renaming bind→ae
open Vector renaming replicate→am
namespace Go.UK
open Go Go.Proofs
set_option maxRecDepth 20000
set_option maxHeartbeats 40000000
set_option linter.all false
attribute [local irreducible] adv aBJ uQ nE brPt aCq yO iM oQ aDO bY fU cZ wH aBk aAZ lPt owp awl aw FnM opS Stab TOK Big
def kB(N:Nat)(r3:bL):Nat->(Vector Int 32)->Int->Option ((Vector Int 32))
 | 0,_,_=>none
 | k+1,s5,s6=>
  cond (decide (s6 < 8)) (
   ae (idx r3.gh.toList s6) λe7=>
   cF (I64 ((I64 (4*s6))+1)) λx8=>
   cF (I64 ((I64 (4*s6))+2)) λx9=>
   cF (I64 ((I64 (4*s6))+3)) λx10=>
   ae (iX (I64 (4*s6)) 32) λ_=>
   ae (s5.toList[(I64 (4*s6)).toNat]?) λe12=>
   ae (iX x8 32) λ_=>
   ae ((s5.setIfInBounds ((I64 (4*s6)).toNat) (U8 (shr .u32 e7 24))).toList[x8.toNat]?) λe14=>
   ae (iX x9 32) λ_=>
   ae (((s5.setIfInBounds ((I64 (4*s6)).toNat) (U8 (shr .u32 e7 24))).setIfInBounds x8.toNat (U8 (shr .u32 e7 16))).toList[x9.toNat]?) λe16=>
   ae (iX x10 32) λ_=>
   ae ((((s5.setIfInBounds ((I64 (4*s6)).toNat) (U8 (shr .u32 e7 24))).setIfInBounds x8.toNat (U8 (shr .u32 e7 16))).setIfInBounds x9.toNat (U8 (shr .u32 e7 8))).toList[x10.toNat]?) λe18=>
   kB N r3 k ((((s5.setIfInBounds ((I64 (4*s6)).toNat) (U8 (shr .u32 e7 24))).setIfInBounds x8.toNat (U8 (shr .u32 e7 16))).setIfInBounds x9.toNat (U8 (shr .u32 e7 8))).setIfInBounds x10.toNat (U8 e7)) (I64 (s6+1))) (
   some s5)
def lN(N:Nat)(a0:bL):Option ((Vector Int 32)):=
 ae (jI N a0) λr1=>
 cond r1 (
  some (am 32 0)) (
  ae (vC N a0.gn) λr2=>
  ae (iD N ([r2]) a0) λr3=>
  ae (kB N r3 N (am 32 0) 0) λp4=>
  some p4)
theorem tB{N a0 r}(h:lN N a0=some r):FnM Tryz.prog 114 [.var (bL.enc a0)] [(.ref 0 [] 0)] (eA 32 1 k8 r) [.var (bL.enc a0)]:=by
 unfold lN at h;refine At.f eF hT hmo Tryz.func114 rfl h ?_;refine At.b 2 (λ_ e=>aQ [0] (nF e)) λr1=>?_;refine At.c 0 ?_ ?_
 ·apply rt;exact At.r 2
 ·refine At.b 9 (λ_ e=>aQ [] (aCE e)) λr2=>?_;refine At.o 0 (cP hT (x:=(.sl 1 1 [(eL 1 k8 r2)]))) ?_;refine At.b 0 (λ_ e=>aQ [2] (mE e)) λr3=>?_;refine At.L 4 [2,4] 4 (λp4=>([],[(3,.var (eA 32 1 k8 p4))],[])) (λp4 J k=>∃s5 s6,kB N r3 k s5 s6=some p4/\J [2,4,21] 4 [(22,(j64 s6))] [(3,.var (eA 32 1 k8 s5))] []) N (λ_ h=>⟨_,_,h,jr⟩) (λp4 k s hI=>?_) λp4=>?_
  ·obtain⟨s5,s6,h,hj⟩:=hI;cases k with
   | zero=>cases h
   | succ k=>
    refine At.jr hj ?_ h;refine At.c 1 ?_ ?_
    ·refine At.b 1 (λ_ e=>aGB hT k32 r3.gh e (by kernel_rfl) (by kernel_rfl)) λe7=>?_;refine lx ?_;intro x8;refine lx ?_;intro x9;refine lx ?_;intro x10;refine At.b 24 (λ_ e=>cR hT (k:=1) 3 [] 0 e) λu11=>?_;refine At.b 0 (λ_ e=>pO hT k8 0 s5 e (U8 (shr .u32 e7 24)) (by kernel_rfl) (by kernel_rfl) (H':=[.var (bL.enc a0),.var (eA 32 1 k8 (am 32 0)),.var (bL.enc r3),.var (eA 32 1 k8 (s5.setIfInBounds ((I64 (4*s6)).toNat) (U8 (shr .u32 e7 24))))])) λe12=>?_;refine At.b 0 (λ_ e=>cR hT (k:=1) 3 [] 0 e) λu13=>?_;refine At.b 0 (λ_ e=>pO hT k8 0 (s5.setIfInBounds ((I64 (4*s6)).toNat) (U8 (shr .u32 e7 24))) e (U8 (shr .u32 e7 16)) (by kernel_rfl) (by kernel_rfl) (H':=[.var (bL.enc a0),.var (eA 32 1 k8 (am 32 0)),.var (bL.enc r3),.var (eA 32 1 k8 ((s5.setIfInBounds ((I64 (4*s6)).toNat) (U8 (shr .u32 e7 24))).setIfInBounds x8.toNat (U8 (shr .u32 e7 16))))])) λe14=>?_;refine At.b 0 (λ_ e=>cR hT (k:=1) 3 [] 0 e) λu15=>?_;refine At.b 0 (λ_ e=>pO hT k8 0 ((s5.setIfInBounds ((I64 (4*s6)).toNat) (U8 (shr .u32 e7 24))).setIfInBounds x8.toNat (U8 (shr .u32 e7 16))) e (U8 (shr .u32 e7 8)) (by kernel_rfl) (by kernel_rfl) (H':=[.var (bL.enc a0),.var (eA 32 1 k8 (am 32 0)),.var (bL.enc r3),.var (eA 32 1 k8 (((s5.setIfInBounds ((I64 (4*s6)).toNat) (U8 (shr .u32 e7 24))).setIfInBounds x8.toNat (U8 (shr .u32 e7 16))).setIfInBounds x9.toNat (U8 (shr .u32 e7 8))))])) λe16=>?_;refine At.b 0 (λ_ e=>cR hT (k:=1) 3 [] 0 e) λu17=>?_;refine At.b 0 (λ_ e=>pO hT k8 0 (((s5.setIfInBounds ((I64 (4*s6)).toNat) (U8 (shr .u32 e7 24))).setIfInBounds x8.toNat (U8 (shr .u32 e7 16))).setIfInBounds x9.toNat (U8 (shr .u32 e7 8))) e (U8 e7) (by kernel_rfl) (by kernel_rfl) (H':=[.var (bL.enc a0),.var (eA 32 1 k8 (am 32 0)),.var (bL.enc r3),.var (eA 32 1 k8 ((((s5.setIfInBounds ((I64 (4*s6)).toNat) (U8 (shr .u32 e7 24))).setIfInBounds x8.toNat (U8 (shr .u32 e7 16))).setIfInBounds x9.toNat (U8 (shr .u32 e7 8))).setIfInBounds x10.toNat (U8 e7)))])) λe18=>?_;exact λh=>At.k 2 ⟨_,_,h,jr⟩
    ·apply rt;exact At.x 0
  ·apply rt;exact At.r 2
def uV(N:Nat)(a0:(List (List Int))):Option ((Vector Int 32)):=
 ae (uY N ) λr1=>
 ae (iD N a0 (bL.mk (#v[1779033703,3144134277,1013904242,2773480762,1359893119,2600822924,528734635,1541459225]) (am 64 0) 0)) λr2=>
 ae (lN N r2) λr3=>
 some r3
theorem aCV{N a0 r}(h:uV N a0=some r):FnM Tryz.prog 75 [] [(eL 1 (eL 1 k8) a0)] (eA 32 1 k8 r) []:=by
 unfold uV at h;refine At.f eF hT hmo Tryz.func75 rfl h ?_;refine At.b 1 (λ_ e=>aQ [] (aCU e)) λr1=>?_;refine At.b 3 (λ_ e=>aQ [1] (mE e)) λr2=>?_;refine At.b 1 (λ_ e=>aQ [1] (tB e)) λr3=>?_;apply rt;exact At.r 1
def oI(N:Nat)(a0:Int):Option ((Vector Int 32)):=
 ae (dA N (([117,109,98,114,97,32,97,117,100,105,116,32,99,104,97,105,110]:List Int)) 8 ([a0])) λr1=>
 ae (uV N ([r1.1])) λr2=>
 some r2
theorem yQ{N a0 r}(h:oI N a0=some r):FnM Tryz.prog 56 [] [(j64 a0)] (eA 32 1 k8 r) []:=by
 unfold oI at h;refine At.f eF hT hmo Tryz.func56 rfl h ?_;refine At.l2 hT 1 (d1:=6) (d2:=7) (t:=25) (e:=5) k8 (z:=1) ([117,109,98,114,97,32,97,117,100,105,116,32,99,104,97,105,110]:List Int) rfl rfl rfl ?_;refine At.o 1 (cP hT (x:=(.sl 1 1 [(j64 a0)]))) ?_;refine At.b 0 (λ_ e=>aQ [] (kK e)) λr1=>?_;refine At.wk 6 13 ((eL 1 k8 r1.1)) ?_;refine At.o 0 (cP hT (x:=(.sl 1 1 [(eL 1 k8 r1.1)]))) ?_;refine At.b 0 (λ_ e=>aQ [] (aCV e)) λr2=>?_;apply rt;exact At.r 1
def fK(N:Nat)(a0:Int):Option ((Vector Int 32)):=
 ae (oI N a0) λr1=>
 some r1
theorem hK{N a0 r}(h:fK N a0=some r):FnM Tryz.prog 44 [] [(j64 a0)] (.ref 0 [] 0) [.var (.st 35 [(.st 34 [(eA 32 1 k8 r),(k32 0),(eB true)]),(eL 36 aN.enc (([]:(List aN))))])]:=by
 unfold fK at h;refine At.f eF hT hmo Tryz.func44 rfl h ?_;refine At.b 2 (λ_ e=>aQ [] (yQ e)) λr1=>?_;apply rt;exact At.r 4
def aCg : Nat->Bool:=imL [1]
def sO(N:Nat)(a0:(Vector Int 32)):Option ((Vector Int 32)×(Vector Int 32)×(Vector Int 32)×(Vector Int 32)×(Vector Int 32)×(Vector Int 32)×(Vector Int 32)×(Vector Int 32)):=
 ae (rA N ) λr1=>
 ae (fK N 0) λr2=>
 ae (fK N 1) λr3=>
 ae (fK N 2) λr4=>
 ae (fK N 3) λr5=>
 ae (fK N 4) λr6=>
 ae (fK N 5) λr7=>
 ae (fK N 6) λr8=>
 ae (fK N 7) λr9=>
 some ((r2,r3,r4,r5,r6,r7,r8,r9))
theorem aBw{N a0 r}(h:sO N a0=some r):FnM Tryz.prog 31 [] [(eA 32 1 k8 a0)] (.ref 3 [] 0) [.mp (eM .i64 aP.enc []),.mp (.kv []),.var (.st 2 [(.mp 0),(.mp 1)]),.var (.st 429 [(eA 32 1 k8 a0),(.ref 2 [] 0),(k32 0),(.st 392 [(.st 49 [eQ,(eB false),(j64 0),(.v (.pointer none)),(.ref 4 [] 0),(eA 24 3 aC.enc (am 8 (aC.mk 0 0 0)))]),(.st 49 [eQ,(eB false),(j64 0),(.v (.pointer none)),(.ref 5 [] 0),(eA 24 3 aC.enc (am 8 (aC.mk 0 0 0)))]),(.st 49 [eQ,(eB false),(j64 0),(.v (.pointer none)),(.ref 6 [] 0),(eA 24 3 aC.enc (am 8 (aC.mk 0 0 0)))]),(.st 49 [eQ,(eB false),(j64 0),(.v (.pointer none)),(.ref 7 [] 0),(eA 24 3 aC.enc (am 8 (aC.mk 0 0 0)))]),(.st 49 [eQ,(eB false),(j64 0),(.v (.pointer none)),(.ref 8 [] 0),(eA 24 3 aC.enc (am 8 (aC.mk 0 0 0)))]),(.st 49 [eQ,(eB false),(j64 0),(.v (.pointer none)),(.ref 9 [] 0),(eA 24 3 aC.enc (am 8 (aC.mk 0 0 0)))]),(.st 49 [eQ,(eB false),(j64 0),(.v (.pointer none)),(.ref 10 [] 0),(eA 24 3 aC.enc (am 8 (aC.mk 0 0 0)))]),(.st 49 [eQ,(eB false),(j64 0),(.v (.pointer none)),(.ref 11 [] 0),(eA 24 3 aC.enc (am 8 (aC.mk 0 0 0)))])]),(.st 3 [(j64 0),(j64 0),(j64 0)])]),.var (.st 35 [(.st 34 [(eA 32 1 k8 r.1),(k32 0),(eB true)]),(eL 36 aN.enc (([]:(List aN))))]),.var (.st 35 [(.st 34 [(eA 32 1 k8 r.2.1),(k32 0),(eB true)]),(eL 36 aN.enc (([]:(List aN))))]),.var (.st 35 [(.st 34 [(eA 32 1 k8 r.2.2.1),(k32 0),(eB true)]),(eL 36 aN.enc (([]:(List aN))))]),.var (.st 35 [(.st 34 [(eA 32 1 k8 r.2.2.2.1),(k32 0),(eB true)]),(eL 36 aN.enc (([]:(List aN))))]),.var (.st 35 [(.st 34 [(eA 32 1 k8 r.2.2.2.2.1),(k32 0),(eB true)]),(eL 36 aN.enc (([]:(List aN))))]),.var (.st 35 [(.st 34 [(eA 32 1 k8 r.2.2.2.2.2.1),(k32 0),(eB true)]),(eL 36 aN.enc (([]:(List aN))))]),.var (.st 35 [(.st 34 [(eA 32 1 k8 r.2.2.2.2.2.2.1),(k32 0),(eB true)]),(eL 36 aN.enc (([]:(List aN))))]),.var (.st 35 [(.st 34 [(eA 32 1 k8 r.2.2.2.2.2.2.2),(k32 0),(eB true)]),(eL 36 aN.enc (([]:(List aN))))])]:=by
 unfold sO at h;refine At.f aCg hT hmo Tryz.func31 rfl h ?_;refine bi λr1 hr1=>?_;refine At.d 2 dE0 (dF 1 (.ref 2 [] 0) [] [.mp (eM .i64 aP.enc []),.mp (.kv []),.var (.st 2 [(.mp 0),(.mp 1)])] (bT (aQ [] (aAn hr1))) dF0) ?_;refine At.u 40 1 ?_;refine bi λr2 hr2=>?_;refine At.d 4 dE0 (dF 3 (.ref 4 [] 0) [] [.var (.st 35 [(.st 34 [(eA 32 1 k8 r2),(k32 0),(eB true)]),(eL 36 aN.enc (([]:(List aN))))])] (bT (aQ [] (hK hr2))) dF0) ?_;refine bi λr3 hr3=>?_;refine At.d 6 dE0 (dF 3 (.ref 5 [] 0) [] [.var (.st 35 [(.st 34 [(eA 32 1 k8 r3),(k32 0),(eB true)]),(eL 36 aN.enc (([]:(List aN))))])] (bT (aQ [] (hK hr3))) dF0) ?_;refine bi λr4 hr4=>?_;refine At.d 6 dE0 (dF 3 (.ref 6 [] 0) [] [.var (.st 35 [(.st 34 [(eA 32 1 k8 r4),(k32 0),(eB true)]),(eL 36 aN.enc (([]:(List aN))))])] (bT (aQ [] (hK hr4))) dF0) ?_;refine bi λr5 hr5=>?_;refine At.d 6 dE0 (dF 3 (.ref 7 [] 0) [] [.var (.st 35 [(.st 34 [(eA 32 1 k8 r5),(k32 0),(eB true)]),(eL 36 aN.enc (([]:(List aN))))])] (bT (aQ [] (hK hr5))) dF0) ?_;refine bi λr6 hr6=>?_;refine At.d 6 dE0 (dF 3 (.ref 8 [] 0) [] [.var (.st 35 [(.st 34 [(eA 32 1 k8 r6),(k32 0),(eB true)]),(eL 36 aN.enc (([]:(List aN))))])] (bT (aQ [] (hK hr6))) dF0) ?_;refine bi λr7 hr7=>?_;refine At.d 6 dE0 (dF 3 (.ref 9 [] 0) [] [.var (.st 35 [(.st 34 [(eA 32 1 k8 r7),(k32 0),(eB true)]),(eL 36 aN.enc (([]:(List aN))))])] (bT (aQ [] (hK hr7))) dF0) ?_;refine bi λr8 hr8=>?_;refine At.d 6 dE0 (dF 3 (.ref 10 [] 0) [] [.var (.st 35 [(.st 34 [(eA 32 1 k8 r8),(k32 0),(eB true)]),(eL 36 aN.enc (([]:(List aN))))])] (bT (aQ [] (hK hr8))) dF0) ?_;refine bi λr9 hr9=>?_;refine At.d 6 dE0 (dF 3 (.ref 11 [] 0) [] [.var (.st 35 [(.st 34 [(eA 32 1 k8 r9),(k32 0),(eB true)]),(eL 36 aN.enc (([]:(List aN))))])] (bT (aQ [] (hK hr9))) dF0) ?_;apply rt;exact At.r 6
def jD(N:Nat)(b10:(List (Int×aP)))(a1:(Vector Int 32))(a2:Int)(a3:aD)(a4:Bool)(a5:Int)(a6:(Vector aC 8))(a7:aD)(a8:Bool)(a9:Int)(a10:(Vector aC 8))(a11:aD)(a12:Bool)(a13:Int)(a14:(Vector aC 8))(a15:aD)(a16:Bool)(a17:Int)(a18:(Vector aC 8))(a19:aD)(a20:Bool)(a21:Int)(a22:(Vector aC 8))(a23:aD)(a24:Bool)(a25:Int)(a26:(Vector aC 8))(a27:aD)(a28:Bool)(a29:Int)(a30:(Vector aC 8))(a31:aD)(a32:Bool)(a33:Int)(a34:(Vector aC 8))(a35:bG)(a36 a37 a38 a39 a40 a41 a42 a43:aE):Option (Unit):=
 some (())
theorem pK{N b10 a1 a2 a3 a4 a5 a6 a7 a8 a9 a10 a11 a12 a13 a14 a15 a16 a17 a18 a19 a20 a21 a22 a23 a24 a25 a26 a27 a28 a29 a30 a31 a32 a33 a34 a35 a36 a37 a38 a39 a40 a41 a42 a43 r}(h:jD N b10 a1 a2 a3 a4 a5 a6 a7 a8 a9 a10 a11 a12 a13 a14 a15 a16 a17 a18 a19 a20 a21 a22 a23 a24 a25 a26 a27 a28 a29 a30 a31 a32 a33 a34 a35 a36 a37 a38 a39 a40 a41 a42 a43=some r):FnM Tryz.prog 45 [.var (.st 429 [(eA 32 1 k8 a1),(.ref 1 [] 0),(k32 a2),(.st 392 [(.st 49 [(aD.enc a3),(eB a4),(j64 a5),(.v (.pointer none)),(.ref 2 [] 0),(eA 24 3 aC.enc a6)]),(.st 49 [(aD.enc a7),(eB a8),(j64 a9),(.v (.pointer none)),(.ref 3 [] 0),(eA 24 3 aC.enc a10)]),(.st 49 [(aD.enc a11),(eB a12),(j64 a13),(.v (.pointer none)),(.ref 4 [] 0),(eA 24 3 aC.enc a14)]),(.st 49 [(aD.enc a15),(eB a16),(j64 a17),(.v (.pointer none)),(.ref 5 [] 0),(eA 24 3 aC.enc a18)]),(.st 49 [(aD.enc a19),(eB a20),(j64 a21),(.v (.pointer none)),(.ref 6 [] 0),(eA 24 3 aC.enc a22)]),(.st 49 [(aD.enc a23),(eB a24),(j64 a25),(.v (.pointer none)),(.ref 7 [] 0),(eA 24 3 aC.enc a26)]),(.st 49 [(aD.enc a27),(eB a28),(j64 a29),(.v (.pointer none)),(.ref 8 [] 0),(eA 24 3 aC.enc a30)]),(.st 49 [(aD.enc a31),(eB a32),(j64 a33),(.v (.pointer none)),(.ref 9 [] 0),(eA 24 3 aC.enc a34)])]),(bG.enc a35)]),.var (.st 2 [(.mp 10),(.mp 11)]),.var (aE.enc a36),.var (aE.enc a37),.var (aE.enc a38),.var (aE.enc a39),.var (aE.enc a40),.var (aE.enc a41),.var (aE.enc a42),.var (aE.enc a43),.mp (eM .i64 aP.enc b10),.mp (.kv [])] [(.ref 0 [] 0)] (eB false) [.var (.st 429 [(eA 32 1 k8 a1),(.ref 1 [] 0),(k32 a2),(.st 392 [(.st 49 [(aD.enc a3),(eB a4),(j64 a5),(.v (.pointer none)),(.ref 2 [] 0),(eA 24 3 aC.enc a6)]),(.st 49 [(aD.enc a7),(eB a8),(j64 a9),(.v (.pointer none)),(.ref 3 [] 0),(eA 24 3 aC.enc a10)]),(.st 49 [(aD.enc a11),(eB a12),(j64 a13),(.v (.pointer none)),(.ref 4 [] 0),(eA 24 3 aC.enc a14)]),(.st 49 [(aD.enc a15),(eB a16),(j64 a17),(.v (.pointer none)),(.ref 5 [] 0),(eA 24 3 aC.enc a18)]),(.st 49 [(aD.enc a19),(eB a20),(j64 a21),(.v (.pointer none)),(.ref 6 [] 0),(eA 24 3 aC.enc a22)]),(.st 49 [(aD.enc a23),(eB a24),(j64 a25),(.v (.pointer none)),(.ref 7 [] 0),(eA 24 3 aC.enc a26)]),(.st 49 [(aD.enc a27),(eB a28),(j64 a29),(.v (.pointer none)),(.ref 8 [] 0),(eA 24 3 aC.enc a30)]),(.st 49 [(aD.enc a31),(eB a32),(j64 a33),(.v (.pointer none)),(.ref 9 [] 0),(eA 24 3 aC.enc a34)])]),(bG.enc a35)]),.var (.st 2 [(.mp 10),(.mp 11)]),.var (aE.enc a36),.var (aE.enc a37),.var (aE.enc a38),.var (aE.enc a39),.var (aE.enc a40),.var (aE.enc a41),.var (aE.enc a42),.var (aE.enc a43),.mp (eM .i64 aP.enc b10),.mp (.kv [])]:=by
 unfold jD at h;refine At.f eF hT hmo Tryz.func45 rfl h ?_;refine At.o 2 (pP hT (t:=85) (x:=(.ref 0 [] 0)) (b:=true) (by kernel_rfl) rfl rfl (by kernel_rfl)) ?_;refine At.g [5] 5 ?_;refine At.o 0 (pP hT (t:=99) (x:=(.ref 1 [] 0)) (b:=true) (by kernel_rfl) rfl rfl (by kernel_rfl)) ?_;refine At.g [5] 2 ?_;apply rt;exact At.r 0
def iP(N:Nat)(a0:Int):Option (dC):=
 some (dC.mk a0 [] [])
theorem jY{N a0 r}(h:iP N a0=some r):FnM Tryz.prog 46 [] [(j64 a0)] (dC.enc r) []:=by
 unfold iP at h;refine At.f eF hT hmo Tryz.func46 rfl h ?_;apply rt;exact At.r 4
def dV(N:Nat)(b10:(List (Int×aP)))(a1:Int)(a2:(Vector Int 32))(a3:Int)(a4:aD)(a5:Bool)(a6:Int)(a7:(Vector aC 8))(a8:aD)(a9:Bool)(a10:Int)(a11:(Vector aC 8))(a12:aD)(a13:Bool)(a14:Int)(a15:(Vector aC 8))(a16:aD)(a17:Bool)(a18:Int)(a19:(Vector aC 8))(a20:aD)(a21:Bool)(a22:Int)(a23:(Vector aC 8))(a24:aD)(a25:Bool)(a26:Int)(a27:(Vector aC 8))(a28:aD)(a29:Bool)(a30:Int)(a31:(Vector aC 8))(a32:aD)(a33:Bool)(a34:Int)(a35:(Vector aC 8))(a36:bG)(a37 a38 a39 a40 a41 a42 a43 a44:aE):Option (Sum (Unit) (Unit)):=
 cF (cond (decide (a1 < 0)) true (decide (a1>=8))) λx1=>
 cond x1 (
  some (Sum.inl (()))) (
  ae (isO a1 0) λ_=>
  some (Sum.inr (())))
theorem kG{N b10 a1 a2 a3 a4 a5 a6 a7 a8 a9 a10 a11 a12 a13 a14 a15 a16 a17 a18 a19 a20 a21 a22 a23 a24 a25 a26 a27 a28 a29 a30 a31 a32 a33 a34 a35 a36 a37 a38 a39 a40 a41 a42 a43 a44 r}(h:dV N b10 a1 a2 a3 a4 a5 a6 a7 a8 a9 a10 a11 a12 a13 a14 a15 a16 a17 a18 a19 a20 a21 a22 a23 a24 a25 a26 a27 a28 a29 a30 a31 a32 a33 a34 a35 a36 a37 a38 a39 a40 a41 a42 a43 a44=some r):FnM Tryz.prog 52 [.var (.st 429 [(eA 32 1 k8 a2),(.ref 1 [] 0),(k32 a3),(.st 392 [(.st 49 [(aD.enc a4),(eB a5),(j64 a6),(.v (.pointer none)),(.ref 2 [] 0),(eA 24 3 aC.enc a7)]),(.st 49 [(aD.enc a8),(eB a9),(j64 a10),(.v (.pointer none)),(.ref 3 [] 0),(eA 24 3 aC.enc a11)]),(.st 49 [(aD.enc a12),(eB a13),(j64 a14),(.v (.pointer none)),(.ref 4 [] 0),(eA 24 3 aC.enc a15)]),(.st 49 [(aD.enc a16),(eB a17),(j64 a18),(.v (.pointer none)),(.ref 5 [] 0),(eA 24 3 aC.enc a19)]),(.st 49 [(aD.enc a20),(eB a21),(j64 a22),(.v (.pointer none)),(.ref 6 [] 0),(eA 24 3 aC.enc a23)]),(.st 49 [(aD.enc a24),(eB a25),(j64 a26),(.v (.pointer none)),(.ref 7 [] 0),(eA 24 3 aC.enc a27)]),(.st 49 [(aD.enc a28),(eB a29),(j64 a30),(.v (.pointer none)),(.ref 8 [] 0),(eA 24 3 aC.enc a31)]),(.st 49 [(aD.enc a32),(eB a33),(j64 a34),(.v (.pointer none)),(.ref 9 [] 0),(eA 24 3 aC.enc a35)])]),(bG.enc a36)]),.var (.st 2 [(.mp 10),(.mp 11)]),.var (aE.enc a37),.var (aE.enc a38),.var (aE.enc a39),.var (aE.enc a40),.var (aE.enc a41),.var (aE.enc a42),.var (aE.enc a43),.var (aE.enc a44),.mp (eM .i64 aP.enc b10),.mp (.kv [])] [(.ref 0 [] 0),(j64 a1)] (selS r (λr=>(.tup [(.v (.pointer none)),(eB false)])) (λr=>(.tup [(.ref 0 [3,0] 34),(eB true)]))) (selS r (λr=>[.var (.st 429 [(eA 32 1 k8 a2),(.ref 1 [] 0),(k32 a3),(.st 392 [(.st 49 [(aD.enc a4),(eB a5),(j64 a6),(.v (.pointer none)),(.ref 2 [] 0),(eA 24 3 aC.enc a7)]),(.st 49 [(aD.enc a8),(eB a9),(j64 a10),(.v (.pointer none)),(.ref 3 [] 0),(eA 24 3 aC.enc a11)]),(.st 49 [(aD.enc a12),(eB a13),(j64 a14),(.v (.pointer none)),(.ref 4 [] 0),(eA 24 3 aC.enc a15)]),(.st 49 [(aD.enc a16),(eB a17),(j64 a18),(.v (.pointer none)),(.ref 5 [] 0),(eA 24 3 aC.enc a19)]),(.st 49 [(aD.enc a20),(eB a21),(j64 a22),(.v (.pointer none)),(.ref 6 [] 0),(eA 24 3 aC.enc a23)]),(.st 49 [(aD.enc a24),(eB a25),(j64 a26),(.v (.pointer none)),(.ref 7 [] 0),(eA 24 3 aC.enc a27)]),(.st 49 [(aD.enc a28),(eB a29),(j64 a30),(.v (.pointer none)),(.ref 8 [] 0),(eA 24 3 aC.enc a31)]),(.st 49 [(aD.enc a32),(eB a33),(j64 a34),(.v (.pointer none)),(.ref 9 [] 0),(eA 24 3 aC.enc a35)])]),(bG.enc a36)]),.var (.st 2 [(.mp 10),(.mp 11)]),.var (aE.enc a37),.var (aE.enc a38),.var (aE.enc a39),.var (aE.enc a40),.var (aE.enc a41),.var (aE.enc a42),.var (aE.enc a43),.var (aE.enc a44),.mp (eM .i64 aP.enc b10),.mp (.kv [])]) (λr=>[.var (.st 429 [(eA 32 1 k8 a2),(.ref 1 [] 0),(k32 a3),(.st 392 [(.st 49 [(aD.enc a4),(eB a5),(j64 a6),(.v (.pointer none)),(.ref 2 [] 0),(eA 24 3 aC.enc a7)]),(.st 49 [(aD.enc a8),(eB a9),(j64 a10),(.v (.pointer none)),(.ref 3 [] 0),(eA 24 3 aC.enc a11)]),(.st 49 [(aD.enc a12),(eB a13),(j64 a14),(.v (.pointer none)),(.ref 4 [] 0),(eA 24 3 aC.enc a15)]),(.st 49 [(aD.enc a16),(eB a17),(j64 a18),(.v (.pointer none)),(.ref 5 [] 0),(eA 24 3 aC.enc a19)]),(.st 49 [(aD.enc a20),(eB a21),(j64 a22),(.v (.pointer none)),(.ref 6 [] 0),(eA 24 3 aC.enc a23)]),(.st 49 [(aD.enc a24),(eB a25),(j64 a26),(.v (.pointer none)),(.ref 7 [] 0),(eA 24 3 aC.enc a27)]),(.st 49 [(aD.enc a28),(eB a29),(j64 a30),(.v (.pointer none)),(.ref 8 [] 0),(eA 24 3 aC.enc a31)]),(.st 49 [(aD.enc a32),(eB a33),(j64 a34),(.v (.pointer none)),(.ref 9 [] 0),(eA 24 3 aC.enc a35)])]),(bG.enc a36)]),.var (.st 2 [(.mp 10),(.mp 11)]),.var (aE.enc a37),.var (aE.enc a38),.var (aE.enc a39),.var (aE.enc a40),.var (aE.enc a41),.var (aE.enc a42),.var (aE.enc a43),.var (aE.enc a44),.mp (eM .i64 aP.enc b10),.mp (.kv [])])):=by
 unfold dV at h;refine At.f eF hT hmo Tryz.func52 rfl h ?_;refine lx ?_;intro x1;refine At.c 8 ?_ ?_
 ·apply rt;exact At.r 2
 ·refine At.b 4 (λ_ e=>aGR hT 8 (k:=49) 0 [3] 34 e (by kernel_rfl) (by kernel_rfl)) λu2=>?_;apply rt;exact At.r 2
theorem nJ{N b10 a1 a2 a3 a4 a5 a6 a7 a8 a9 a10 a11 a12 a13 a14 a15 a16 a17 a18 a19 a20 a21 a22 a23 a24 a25 a26 a27 a28 a29 a30 a31 a32 a33 a34 a35 a36 a37 a38 a39 a40 a41 a42 a43 a44 r}(h:dV N b10 a1 a2 a3 a4 a5 a6 a7 a8 a9 a10 a11 a12 a13 a14 a15 a16 a17 a18 a19 a20 a21 a22 a23 a24 a25 a26 a27 a28 a29 a30 a31 a32 a33 a34 a35 a36 a37 a38 a39 a40 a41 a42 a43 a44=some (Sum.inl r)):FnM Tryz.prog 52 [.var (.st 429 [(eA 32 1 k8 a2),(.ref 1 [] 0),(k32 a3),(.st 392 [(.st 49 [(aD.enc a4),(eB a5),(j64 a6),(.v (.pointer none)),(.ref 2 [] 0),(eA 24 3 aC.enc a7)]),(.st 49 [(aD.enc a8),(eB a9),(j64 a10),(.v (.pointer none)),(.ref 3 [] 0),(eA 24 3 aC.enc a11)]),(.st 49 [(aD.enc a12),(eB a13),(j64 a14),(.v (.pointer none)),(.ref 4 [] 0),(eA 24 3 aC.enc a15)]),(.st 49 [(aD.enc a16),(eB a17),(j64 a18),(.v (.pointer none)),(.ref 5 [] 0),(eA 24 3 aC.enc a19)]),(.st 49 [(aD.enc a20),(eB a21),(j64 a22),(.v (.pointer none)),(.ref 6 [] 0),(eA 24 3 aC.enc a23)]),(.st 49 [(aD.enc a24),(eB a25),(j64 a26),(.v (.pointer none)),(.ref 7 [] 0),(eA 24 3 aC.enc a27)]),(.st 49 [(aD.enc a28),(eB a29),(j64 a30),(.v (.pointer none)),(.ref 8 [] 0),(eA 24 3 aC.enc a31)]),(.st 49 [(aD.enc a32),(eB a33),(j64 a34),(.v (.pointer none)),(.ref 9 [] 0),(eA 24 3 aC.enc a35)])]),(bG.enc a36)]),.var (.st 2 [(.mp 10),(.mp 11)]),.var (aE.enc a37),.var (aE.enc a38),.var (aE.enc a39),.var (aE.enc a40),.var (aE.enc a41),.var (aE.enc a42),.var (aE.enc a43),.var (aE.enc a44),.mp (eM .i64 aP.enc b10),.mp (.kv [])] [(.ref 0 [] 0),(j64 a1)] (.tup [(.v (.pointer none)),(eB false)]) [.var (.st 429 [(eA 32 1 k8 a2),(.ref 1 [] 0),(k32 a3),(.st 392 [(.st 49 [(aD.enc a4),(eB a5),(j64 a6),(.v (.pointer none)),(.ref 2 [] 0),(eA 24 3 aC.enc a7)]),(.st 49 [(aD.enc a8),(eB a9),(j64 a10),(.v (.pointer none)),(.ref 3 [] 0),(eA 24 3 aC.enc a11)]),(.st 49 [(aD.enc a12),(eB a13),(j64 a14),(.v (.pointer none)),(.ref 4 [] 0),(eA 24 3 aC.enc a15)]),(.st 49 [(aD.enc a16),(eB a17),(j64 a18),(.v (.pointer none)),(.ref 5 [] 0),(eA 24 3 aC.enc a19)]),(.st 49 [(aD.enc a20),(eB a21),(j64 a22),(.v (.pointer none)),(.ref 6 [] 0),(eA 24 3 aC.enc a23)]),(.st 49 [(aD.enc a24),(eB a25),(j64 a26),(.v (.pointer none)),(.ref 7 [] 0),(eA 24 3 aC.enc a27)]),(.st 49 [(aD.enc a28),(eB a29),(j64 a30),(.v (.pointer none)),(.ref 8 [] 0),(eA 24 3 aC.enc a31)]),(.st 49 [(aD.enc a32),(eB a33),(j64 a34),(.v (.pointer none)),(.ref 9 [] 0),(eA 24 3 aC.enc a35)])]),(bG.enc a36)]),.var (.st 2 [(.mp 10),(.mp 11)]),.var (aE.enc a37),.var (aE.enc a38),.var (aE.enc a39),.var (aE.enc a40),.var (aE.enc a41),.var (aE.enc a42),.var (aE.enc a43),.var (aE.enc a44),.mp (eM .i64 aP.enc b10),.mp (.kv [])]:=kG h
theorem mZ{N b10 a1 a2 a3 a4 a5 a6 a7 a8 a9 a10 a11 a12 a13 a14 a15 a16 a17 a18 a19 a20 a21 a22 a23 a24 a25 a26 a27 a28 a29 a30 a31 a32 a33 a34 a35 a36 a37 a38 a39 a40 a41 a42 a43 a44 r}(h:dV N b10 a1 a2 a3 a4 a5 a6 a7 a8 a9 a10 a11 a12 a13 a14 a15 a16 a17 a18 a19 a20 a21 a22 a23 a24 a25 a26 a27 a28 a29 a30 a31 a32 a33 a34 a35 a36 a37 a38 a39 a40 a41 a42 a43 a44=some (Sum.inr r)):FnM Tryz.prog 52 [.var (.st 429 [(eA 32 1 k8 a2),(.ref 1 [] 0),(k32 a3),(.st 392 [(.st 49 [(aD.enc a4),(eB a5),(j64 a6),(.v (.pointer none)),(.ref 2 [] 0),(eA 24 3 aC.enc a7)]),(.st 49 [(aD.enc a8),(eB a9),(j64 a10),(.v (.pointer none)),(.ref 3 [] 0),(eA 24 3 aC.enc a11)]),(.st 49 [(aD.enc a12),(eB a13),(j64 a14),(.v (.pointer none)),(.ref 4 [] 0),(eA 24 3 aC.enc a15)]),(.st 49 [(aD.enc a16),(eB a17),(j64 a18),(.v (.pointer none)),(.ref 5 [] 0),(eA 24 3 aC.enc a19)]),(.st 49 [(aD.enc a20),(eB a21),(j64 a22),(.v (.pointer none)),(.ref 6 [] 0),(eA 24 3 aC.enc a23)]),(.st 49 [(aD.enc a24),(eB a25),(j64 a26),(.v (.pointer none)),(.ref 7 [] 0),(eA 24 3 aC.enc a27)]),(.st 49 [(aD.enc a28),(eB a29),(j64 a30),(.v (.pointer none)),(.ref 8 [] 0),(eA 24 3 aC.enc a31)]),(.st 49 [(aD.enc a32),(eB a33),(j64 a34),(.v (.pointer none)),(.ref 9 [] 0),(eA 24 3 aC.enc a35)])]),(bG.enc a36)]),.var (.st 2 [(.mp 10),(.mp 11)]),.var (aE.enc a37),.var (aE.enc a38),.var (aE.enc a39),.var (aE.enc a40),.var (aE.enc a41),.var (aE.enc a42),.var (aE.enc a43),.var (aE.enc a44),.mp (eM .i64 aP.enc b10),.mp (.kv [])] [(.ref 0 [] 0),(j64 a1)] (.tup [(.ref 0 [3,0] 34),(eB true)]) [.var (.st 429 [(eA 32 1 k8 a2),(.ref 1 [] 0),(k32 a3),(.st 392 [(.st 49 [(aD.enc a4),(eB a5),(j64 a6),(.v (.pointer none)),(.ref 2 [] 0),(eA 24 3 aC.enc a7)]),(.st 49 [(aD.enc a8),(eB a9),(j64 a10),(.v (.pointer none)),(.ref 3 [] 0),(eA 24 3 aC.enc a11)]),(.st 49 [(aD.enc a12),(eB a13),(j64 a14),(.v (.pointer none)),(.ref 4 [] 0),(eA 24 3 aC.enc a15)]),(.st 49 [(aD.enc a16),(eB a17),(j64 a18),(.v (.pointer none)),(.ref 5 [] 0),(eA 24 3 aC.enc a19)]),(.st 49 [(aD.enc a20),(eB a21),(j64 a22),(.v (.pointer none)),(.ref 6 [] 0),(eA 24 3 aC.enc a23)]),(.st 49 [(aD.enc a24),(eB a25),(j64 a26),(.v (.pointer none)),(.ref 7 [] 0),(eA 24 3 aC.enc a27)]),(.st 49 [(aD.enc a28),(eB a29),(j64 a30),(.v (.pointer none)),(.ref 8 [] 0),(eA 24 3 aC.enc a31)]),(.st 49 [(aD.enc a32),(eB a33),(j64 a34),(.v (.pointer none)),(.ref 9 [] 0),(eA 24 3 aC.enc a35)])]),(bG.enc a36)]),.var (.st 2 [(.mp 10),(.mp 11)]),.var (aE.enc a37),.var (aE.enc a38),.var (aE.enc a39),.var (aE.enc a40),.var (aE.enc a41),.var (aE.enc a42),.var (aE.enc a43),.var (aE.enc a44),.mp (eM .i64 aP.enc b10),.mp (.kv [])]:=kG h
def eV(N:Nat)(b1:(List (Int×aP))):Option (Unit):=
 some (())
theorem jC{N b1 r}(h:eV N b1=some r):FnM Tryz.prog 62 [.var (.st 2 [(.mp 1),(.mp 2)]),.mp (eM .i64 aP.enc b1),.mp (.kv [])] [(.ref 0 [] 0)] (eB false) [.var (.st 2 [(.mp 1),(.mp 2)]),.mp (eM .i64 aP.enc b1),.mp (.kv [])]:=by
 unfold eV at h;refine At.f eF hT hmo Tryz.func62 rfl h ?_;refine At.o 2 (pP hT (t:=99) (x:=(.ref 0 [] 0)) (b:=true) (by kernel_rfl) rfl rfl (by kernel_rfl)) ?_;refine At.g [5] 5 ?_;refine At.o 0 (aGc (t:=142) (kt:=3) (et:=161) (x:=(.mp 1)) (b:=true) (by kernel_rfl) rfl rfl (by kernel_rfl)) ?_;refine At.g [5] 2 ?_;apply rt;exact At.r 0
def aCR : Go.Shelf.Ren:=⟨λ | 5=>186 | 7=>239 | n=>n,λ | 23=>142 | 25=>3 | 3=>161 | 4=>4 | 20=>20 | n=>n,λ | n=>n⟩
theorem aHz : SlLaysW.n5 Tryz.prog aCR where
 mixed:=by kernel_rfl
 f5:=⟨"maps.Clone[map[int]umbra/api.Row,int,umbra/api.Row]",by decide,Tryz.func186.trans (congrArg some (by kernel_rfl))⟩
 f7:=Tryz.func239.trans (congrArg some (by kernel_rfl))
 t4:=Tryz.underlying4
 a4:=Tryz.isAgg4
 z4:=Tryz.sizeOf4
 v4:=Tryz.zeroValue4
 t20:=Tryz.underlying20
 a20:=Tryz.isAgg20
 z20:=Tryz.sizeOf20
 v20:=Tryz.zeroValue20
 t23:=Tryz.underlying142
 a23:=Tryz.isAgg142
 z23:=Tryz.sizeOf142
 v23:=Tryz.zeroValue142
theorem aDW(l:List (Int×aP)):FnM Tryz.prog 186 [.mp (eM .i64 aP.enc l)] [.mp 0] (.mp 1) [.mp (eM .i64 aP.enc l),.mp (eM .i64 aP.enc l)]:=aBd aHz rfl l
theorem aBM : iY Tryz.prog 186:=iL (show kW Tryz.prog 186=true by kernel_rfl)
def aCj : Go.Shelf.Ren:=⟨λ | 5=>187 | 7=>239 | n=>n,λ | 23=>143 | 25=>167 | 3=>45 | 4=>4 | 20=>20 | n=>n,λ | n=>n⟩
theorem aIK : SlLaysW.n5 Tryz.prog aCj where
 mixed:=by kernel_rfl
 f5:=⟨"maps.Clone[map[umbra/table.name]umbra/api.Affine,umbra/table.name,umbra/api.Affine]",by decide,Tryz.func187.trans (congrArg some (by kernel_rfl))⟩
 f7:=Tryz.func239.trans (congrArg some (by kernel_rfl))
 t4:=Tryz.underlying4
 a4:=Tryz.isAgg4
 z4:=Tryz.sizeOf4
 v4:=Tryz.zeroValue4
 t20:=Tryz.underlying20
 a20:=Tryz.isAgg20
 z20:=Tryz.sizeOf20
 v20:=Tryz.zeroValue20
 t23:=Tryz.underlying143
 a23:=Tryz.isAgg143
 z23:=Tryz.sizeOf143
 v23:=Tryz.zeroValue143
theorem aDy : FnM Tryz.prog 187 [.mp (.kv [])] [.mp 0] (.mp 1) [.mp (.kv []),.mp (.kv [])]:=aBd (q := .i64) (F:=j64) aIK rfl []
theorem aBq : iY Tryz.prog 187:=iL (show kW Tryz.prog 187=true by kernel_rfl)
def jR(N:Nat)(b1:(List (Int×aP))):Option (Unit):=
 ae (eV N b1) λr1=>
 some (())
theorem qL{N b1 r}(h:jR N b1=some r):FnM Tryz.prog 141 [.var (.st 2 [(.mp 1),(.mp 2)]),.mp (eM .i64 aP.enc b1),.mp (.kv [])] [(.ref 0 [] 0)] (.ref 5 [] 0) [.var (.st 2 [(.mp 1),(.mp 2)]),.mp (eM .i64 aP.enc b1),.mp (.kv []),.mp (eM .i64 aP.enc b1),.mp (.kv []),.var (.st 2 [(.mp 3),(.mp 4)])]:=by
 unfold jR at h;refine At.f eF hT hmo Tryz.func141 rfl h ?_;refine At.b 2 (λ_ e=>aQ [0,1,2] (jC e)) λr1=>?_;refine At.d 1 dE0 (dF 4 (.mp 3) [] [.mp (eM .i64 aP.enc b1)] (bT (oU [1] (aDW b1) aBM)) (dF 9 (.mp 4) [] [.mp (.kv [])] (bT (oU [2] aDy aBq)) dF0)) ?_;apply rt;exact At.r 0
def aD3 : Go.Shelf.Ren:=⟨λ | 7=>192 | 10=>246 | n=>n,λ | 23=>142 | 26=>3 | 3=>161 | 28=>334 | 0=>0 | 27=>333 | 33=>394 | 4=>4 | n=>n,λ | n=>n⟩
theorem aHE : SlLaysZI.n7 Tryz.prog aD3 where
 mixed:=by kernel_rfl
 f7:=⟨"maps.Keys[map[int]umbra/api.Row,int,umbra/api.Row]",by decide,Tryz.func192.trans (congrArg some (by kernel_rfl))⟩
 f10:=⟨"maps.Keys[map[int]umbra/api.Row,int,umbra/api.Row]$1",by decide,Tryz.func246.trans (congrArg some (by kernel_rfl))⟩
 t0:=Tryz.underlying0
 a0:=Tryz.isAgg0
 z0:=Tryz.sizeOf0
 v0:=Tryz.zeroValue0
 t4:=Tryz.underlying4
 a4:=Tryz.isAgg4
 z4:=Tryz.sizeOf4
 v4:=Tryz.zeroValue4
 t23:=Tryz.underlying142
 a23:=Tryz.isAgg142
 z23:=Tryz.sizeOf142
 v23:=Tryz.zeroValue142
 t26:=Tryz.underlying3
 a26:=Tryz.isAgg3
 z26:=Tryz.sizeOf3
 v26:=Tryz.zeroValue3
 t27:=Tryz.underlying333
 a27:=Tryz.isAgg333
 z27:=Tryz.sizeOf333
 v27:=Tryz.zeroValue333
 t28:=Tryz.underlying334
 a28:=Tryz.isAgg334
 z28:=Tryz.sizeOf334
 v28:=Tryz.zeroValue334
 t33:=Tryz.underlying394
 a33:=Tryz.isAgg394
 z33:=Tryz.sizeOf394
 v33:=Tryz.zeroValue394
def vN : Go.Shelf.Ren:=⟨λ | 6=>191 | 8=>244 | 9=>245 | 11=>292 | 13=>248 | 12=>293 | 23=>302 | 24=>303 | 14=>342 | 15=>343 | 16=>344 | 17=>345 | 18=>346 | 19=>347 | 20=>348 | 21=>349 | 22=>350 | 25=>381 | 26=>352 | 27=>353 | 28=>382 | 29=>383 | 30=>304 | 31=>400 | n=>n,λ | 26=>3 | 28=>334 | 24=>24 | 0=>0 | 3=>3 | 37=>303 | 48=>55 | 50=>48 | 4=>4 | 40=>487 | 39=>486 | 45=>339 | 5=>5 | 9=>9 | 51=>542 | 55=>546 | 57=>581 | 58=>351 | 33=>394 | n=>n,λ | n=>n⟩
theorem aGg : SlLaysZI.n6 Tryz.prog vN where
 mixed:=by kernel_rfl
 f6:=⟨"slices.Sorted[int]",by decide,Tryz.func191.trans (congrArg some (by kernel_rfl))⟩
 f8:=⟨"slices.Collect[int]",by decide,Tryz.func244.trans (congrArg some (by kernel_rfl))⟩
 f11:=⟨"slices.AppendSeq[[]int,int]",by decide,Tryz.func292.trans (congrArg some (by kernel_rfl))⟩
 t0:=Tryz.underlying0
 a0:=Tryz.isAgg0
 z0:=Tryz.sizeOf0
 v0:=Tryz.zeroValue0
 t24:=Tryz.underlying24
 a24:=Tryz.isAgg24
 z24:=Tryz.sizeOf24
 v24:=Tryz.zeroValue24
 t26:=Tryz.underlying3
 a26:=Tryz.isAgg3
 z26:=Tryz.sizeOf3
 v26:=Tryz.zeroValue3
 t28:=Tryz.underlying334
 a28:=Tryz.isAgg334
 z28:=Tryz.sizeOf334
 v28:=Tryz.zeroValue334
 i26:=by kernel_rfl
def aDh : Go.Shelf.Ren:=⟨λ | 5=>245 | 8=>248 | 7=>293 | 19=>302 | 20=>303 | 10=>342 | 11=>343 | 12=>344 | 13=>345 | 14=>346 | 15=>347 | 16=>348 | 17=>349 | 18=>350 | 30=>381 | 31=>352 | 32=>353 | 33=>382 | 34=>383 | 35=>304 | 40=>400 | n=>n,λ | 23=>24 | 25=>3 | 3=>3 | 32=>303 | 22=>24 | 0=>0 | 44=>55 | 46=>48 | 4=>4 | 36=>487 | 35=>486 | 41=>339 | 5=>5 | 9=>9 | 53=>542 | 57=>546 | 63=>581 | 64=>351 | n=>n,λ | n=>n⟩
theorem aG8 : SlLaysM.n5 Tryz.prog aDh where
 mixed:=by kernel_rfl
 f5:=⟨"slices.Sort[[]int,int]",by decide,Tryz.func245.trans (congrArg some (by kernel_rfl))⟩
 f7:=⟨"slices.pdqsortOrdered[int]",by decide,Tryz.func293.trans (congrArg some (by kernel_rfl))⟩
 f8:=Tryz.func248.trans (congrArg some (by kernel_rfl))
 f10:=⟨"slices.insertionSortOrdered[int]",by decide,Tryz.func342.trans (congrArg some (by kernel_rfl))⟩
 f11:=⟨"slices.heapSortOrdered[int]",by decide,Tryz.func343.trans (congrArg some (by kernel_rfl))⟩
 f12:=⟨"slices.breakPatternsOrdered[int]",by decide,Tryz.func344.trans (congrArg some (by kernel_rfl))⟩
 f13:=⟨"slices.choosePivotOrdered[int]",by decide,Tryz.func345.trans (congrArg some (by kernel_rfl))⟩
 f14:=⟨"slices.reverseRangeOrdered[int]",by decide,Tryz.func346.trans (congrArg some (by kernel_rfl))⟩
 f15:=⟨"slices.partialInsertionSortOrdered[int]",by decide,Tryz.func347.trans (congrArg some (by kernel_rfl))⟩
 f16:=⟨"cmp.Less[int]",by decide,Tryz.func348.trans (congrArg some (by kernel_rfl))⟩
 f17:=⟨"slices.partitionEqualOrdered[int]",by decide,Tryz.func349.trans (congrArg some (by kernel_rfl))⟩
 f18:=⟨"slices.partitionOrdered[int]",by decide,Tryz.func350.trans (congrArg some (by kernel_rfl))⟩
 f19:=Tryz.func302.trans (congrArg some (by kernel_rfl))
 f20:=Tryz.func303.trans (congrArg some (by kernel_rfl))
 f30:=⟨"slices.siftDownOrdered[int]",by decide,Tryz.func381.trans (congrArg some (by kernel_rfl))⟩
 f31:=Tryz.func352.trans (congrArg some (by kernel_rfl))
 f32:=Tryz.func353.trans (congrArg some (by kernel_rfl))
 f33:=⟨"slices.medianAdjacentOrdered[int]",by decide,Tryz.func382.trans (congrArg some (by kernel_rfl))⟩
 f34:=⟨"slices.medianOrdered[int]",by decide,Tryz.func383.trans (congrArg some (by kernel_rfl))⟩
 f35:=⟨"cmp.isNaN[int]",by decide,Tryz.func304.trans (congrArg some (by kernel_rfl))⟩
 f40:=⟨"slices.order2Ordered[int]",by decide,Tryz.func400.trans (congrArg some (by kernel_rfl))⟩
 t0:=Tryz.underlying0
 a0:=Tryz.isAgg0
 z0:=Tryz.sizeOf0
 v0:=Tryz.zeroValue0
 t3:=Tryz.underlying3
 a3:=Tryz.isAgg3
 z3:=Tryz.sizeOf3
 v3:=Tryz.zeroValue3
 t4:=Tryz.underlying4
 a4:=Tryz.isAgg4
 z4:=Tryz.sizeOf4
 v4:=Tryz.zeroValue4
 t5:=Tryz.underlying5
 a5:=Tryz.isAgg5
 z5:=Tryz.sizeOf5
 v5:=Tryz.zeroValue5
 t9:=Tryz.underlying9
 a9:=Tryz.isAgg9
 z9:=Tryz.sizeOf9
 v9:=Tryz.zeroValue9
 t22:=Tryz.underlying24
 a22:=Tryz.isAgg24
 z22:=Tryz.sizeOf24
 v22:=Tryz.zeroValue24
 t23:=Tryz.underlying24
 a23:=Tryz.isAgg24
 z23:=Tryz.sizeOf24
 v23:=Tryz.zeroValue24
 t25:=Tryz.underlying3
 a25:=Tryz.isAgg3
 z25:=Tryz.sizeOf3
 v25:=Tryz.zeroValue3
 t32:=Tryz.underlying303
 a32:=Tryz.isAgg303
 z32:=Tryz.sizeOf303
 v32:=Tryz.zeroValue303
 t35:=Tryz.underlying486
 a35:=Tryz.isAgg486
 z35:=Tryz.sizeOf486
 v35:=Tryz.zeroValue486
 t36:=Tryz.underlying487
 a36:=Tryz.isAgg487
 z36:=Tryz.sizeOf487
 v36:=Tryz.zeroValue487
 t41:=Tryz.underlying339
 a41:=Tryz.isAgg339
 z41:=Tryz.sizeOf339
 v41:=Tryz.zeroValue339
 t44:=Tryz.underlying55
 a44:=Tryz.isAgg55
 z44:=Tryz.sizeOf55
 v44:=Tryz.zeroValue55
 t46:=Tryz.underlying48
 a46:=Tryz.isAgg48
 z46:=Tryz.sizeOf48
 v46:=Tryz.zeroValue48
 t53:=Tryz.underlying542
 a53:=Tryz.isAgg542
 z53:=Tryz.sizeOf542
 v53:=Tryz.zeroValue542
 t57:=Tryz.underlying546
 a57:=Tryz.isAgg546
 z57:=Tryz.sizeOf546
 v57:=Tryz.zeroValue546
 t63:=Tryz.underlying581
 a63:=Tryz.isAgg581
 z63:=Tryz.sizeOf581
 v63:=Tryz.zeroValue581
 t64:=Tryz.underlying351
 a64:=Tryz.isAgg351
 z64:=Tryz.sizeOf351
 v64:=Tryz.zeroValue351
theorem aHk(m:Nat):AnyZI.SortsIn Tryz.prog vN Fence.wide m:=
 ⟨λblk off cap ss W hH hblk hsz=>callsIn_wide.2 (AnyM.slices_Sort_int aG8 blk off cap ss W hH hblk hsz),λp cap W=>callsIn_wide.2 (AnyM.slices_Sort_int_none aG8 p cap W)⟩
theorem aFD(l:List (Int×aP)):FnM Tryz.prog 192 [.mp (eM .i64 aP.enc l)] [.mp 0] (.fn (.func 246) [] [.ref 1 [] 0]) [.mp (eM .i64 aP.enc l),.var (.mp 0)]:=aGA aHE rfl rfl l
theorem aCb : iY Tryz.prog 192:=iL (show kW Tryz.prog 192=true by kernel_rfl)
theorem aCS{l:List (Int×aP)}{r:List Int}(h:aA7 l=some r):FnM Tryz.prog 191 [.mp (eM .i64 aP.enc l),.var (.mp 0)] [.fn (.func 246) [] [.ref 1 [] 0]] (eL 1 j64 r) [.mp (eM .i64 aP.enc l),.var (.mp 0)]:=
 aDx aGg { aHE with } aHk rfl rfl (enters_of Tryz.func245 (by kernel_rfl) rfl) (enters_of Tryz.func246 (by kernel_rfl) rfl) h
theorem aA1 : iY Tryz.prog 191:=iL (show kW Tryz.prog 191=true by kernel_rfl)
def iI(N:Nat)(r2:(List Int)):Nat->Option (Unit)
 | 0=>none
 | k+1=>
  cF (decide (0 < ((r2.length:Int)))) λx4=>
  cond x4 (
   ae (idx r2 0) λe5=>
   none) (
   some (()))
def jJ(N:Nat)(b1:(List (Int×aP))):Option ((List aP)):=
 ae (eV N b1) λr1=>
 ae (aA7 b1) λr2=>
 ae (iI N r2 N ) λp3=>
 some []
theorem qJ{N b1 r}(h:jJ N b1=some r):FnM Tryz.prog 143 [.var (.st 2 [(.mp 1),(.mp 2)]),.mp (eM .i64 aP.enc b1),.mp (.kv [])] [(.ref 0 [] 0)] (eL 40 aP.enc r) [.var (.st 2 [(.mp 1),(.mp 2)]),.mp (eM .i64 aP.enc b1),.mp (.kv [])]:=by
 unfold jJ at h;refine At.f eF hT hmo Tryz.func143 rfl h ?_;refine At.b 2 (λ_ e=>aQ [0,1,2] (jC e)) λr1=>?_;refine At.o 6 (oU [1] (aFD b1) aCb) ?_;refine At.b 0 (λ_ e=>oU [1,3] (aCS e) aA1) λr2=>?_;refine At.L 2 [3] 4 (λp3=>([],[],[])) (λp3 J k=>iI N r2 k  = some p3/\J [0,3,14,15,16] 4 [] [] []) N (λ_ h=>⟨h,jr⟩) (λp3 k s hI=>?_) λp3=>?_
 ·obtain⟨h,hj⟩:=hI;cases k with
  | zero=>cases h
  | succ k=>
   unfold iI at h;dsimp only at h;refine At.jr hj ?_ h;refine lx ?_;intro x4;refine At.c 1 ?_ ?_
   ·refine At.b 0 (λ_ e=>iF hT j64 e) λe5=>?_;exact nn
   ·apply rt;exact At.x 0
 ·apply rt;exact At.r 2
def fN(N:Nat)(a3:(List aP)):Nat->Option (Unit)
 | 0=>none
 | k+1=>
  cF (decide (0 < ((a3.length:Int)))) λx2=>
  cond x2 (
   ae (idx a3 0) λe4=>
   none) (
   some (()))
def iJ(N:Nat)(b1:(List (Int×aP)))(b2 b3:(List (Int×Int)))(a3:(List aP))(a4:Int)(a5:cK):Option (Unit):=
 ae (fN N a3 N ) λp1=>
 some (())
theorem oN{N b1 b2 b3 a3 a4 a5 r}(h:iJ N b1 b2 b3 a3 a4 a5=some r):FnM Tryz.prog 142 [.var (.st 12 [(cK.enc a5),(.mp 1),(.mp 2),(.mp 3)]),.mp (eM .i64 aP.enc b1),.mp (eM .i64 j64 b2),.mp (eM .i64 j64 b3)] [(.ref 0 [] 0),(eL 40 aP.enc a3),(j64 a4)] (.tup []) [.var (.st 12 [(.st 9 [(eL 19 oX.enc a5.gB6),(eL 5 fQ.enc a5.gC0),(eL 2 hQ.enc a5.gC1),(eL 13 jL.enc a5.gC2),(eL 1 k64 a5.gC3),(eL 1 k32 a5.gC4),(k32 a5.gA0),(k32 a5.gB5),(k32 4294967295)]),(.mp 1),(.mp 2),(.mp 3)]),.mp (eM .i64 aP.enc b1),.mp (eM .i64 j64 b2),.mp (eM .i64 j64 b3)]:=by
 unfold iJ at h;refine At.f eF hT hmo Tryz.func142 rfl h ?_;refine At.L 8 [] 4 (λp1=>([],[],[])) (λp1 J k=>fN N a3 k  = some p1/\J [0,2,12,13,14] 4 [] [] []) N (λ_ h=>⟨h,jr⟩) (λp1 k s hI=>?_) λp1=>?_
 ·obtain⟨h,hj⟩:=hI;cases k with
  | zero=>cases h
  | succ k=>
   unfold fN at h;dsimp only at h;refine At.jr hj ?_ h;refine lx ?_;intro x2;refine At.c 1 ?_ ?_
   ·refine At.b 0 (λ_ e=>iF hT aP.enc e) λe4=>?_;exact nn
   ·apply rt;exact At.x 0
 ·apply rt;exact At.z 0
def lE(N:Nat)(a0:Int):Option (Int):=
 ae (cF (decide (a0>=4294967296)) λx2=>
 cond x2 (some ((shr .u64 a0 32,32))) (some ((a0,0)))) λp1=>
 ae (cond (decide (p1.1>=65536)) (
  some ((shr .u64 p1.1 16,I64 (p1.2+16)))) (
  some ((p1.1,p1.2)))) λp3=>
 ae (cond (decide (p3.1>=256)) (some ((shr .u64 p3.1 8,I64 (p3.2+8)))) (some ((p3.1,p3.2)))) λp4=>
 ae (idx str_0.data.toList (U8 p4.1)) λc5=>
 cF (I64 ((UInt8.toNat c5:Int))) λx6=>
 some (I64 (p4.2+x6))
theorem sX{N a0 r}(h:lE N a0=some r):FnM Tryz.prog 303 [] [(k64 a0)] (j64 r) []:=by
 unfold lE at h;refine At.f eF hT hmo Tryz.func303 rfl h ?_;refine At.J 1 1 [] 0 (λp1=>([(0,(k64 p1.1)),(2,(j64 p1.2))],[],[])) (λp1=>?_) λp1=>?_
 ·refine lx ?_;intro x2;refine At.c 2 ?_ ?_
  ·apply rt;exact At.jn 4
  ·apply rt;exact At.jn 0
 ·refine At.J 0 1 [] 0 (λp3=>([(0,(k64 p3.1)),(2,(j64 p3.2))],[],[])) (λp3=>?_) λp3=>?_
  ·refine At.c 2 ?_ ?_
   ·apply rt;exact At.jn 6
   ·apply rt;exact At.jn 0
  ·refine At.J 0 1 [] 0 (λp4=>([(0,(k64 p4.1)),(2,(j64 p4.2))],[],[])) (λp4=>?_) λp4=>?_
   ·refine At.c 2 ?_ ?_
    ·apply rt;exact At.jn 6
    ·apply rt;exact At.jn 0
   ·refine At.b 3 (λ_ e=>aFz hT e (by kernel_rfl) (by kernel_rfl)) λc5=>?_;refine lx ?_;intro x6;apply rt;exact At.r 3
def mI(N:Nat)(a0:Int):Option (Int):=
 ae (lE N a0) λr1=>
 some r1
theorem uH{N a0 r}(h:mI N a0=some r):FnM Tryz.prog 248 [] [(k64 a0)] (j64 r) []:=by
 unfold mI at h;refine At.f eF hT hmo Tryz.func248 rfl h ?_;refine At.b 3 (λ_ e=>aQ [] (sX e)) λr1=>?_;apply rt;exact At.r 1
def bV(N:Nat)(s2 a0:Int):Nat->Option (Unit)
 | 0=>none
 | k+1=>
  ae (cond (decide (s2 > a0)) (
   none) (
   some (()))) λp4=>
  some (())
def bU(N:Nat)(a1 a0:Int):Nat->Int->Option (Unit)
 | 0,_=>none
 | k+1,s2=>
  cond (decide (s2 < a1)) (
   ae (bV N s2 a0 N ) λp3=>
   bU N a1 a0 k (I64 (s2+1))) (
   some (()))
def cA(N:Nat)(a0 a1:Int):Option (Unit):=
 ae (bU N a1 a0 N (I64 (a0+1))) λp1=>
 some (())
theorem eY{N a0 a1 r}(h:cA N a0 a1=some r):FnM Tryz.prog 294 [] [(.v (.slice none 0 0)),(j64 a0),(j64 a1),(.fn (.func 194) [] [])] (.tup []) []:=by
 unfold cA at h;refine At.f eF hT hmo Tryz.func294 rfl h ?_;refine At.L 3 [] 0 (λp1=>([],[],[])) (λp1 J k=>∃s2,bU N a1 a0 k s2=some p1/\J [0,1,2,3] 0 [(8,(j64 s2))] [] []) N (λ_ h=>⟨_,h,jr⟩) (λp1 k s hI=>?_) λp1=>?_
 ·obtain⟨s2,h,hj⟩:=hI;cases k with
  | zero=>cases h
  | succ k=>
   refine At.jr hj ?_ h;refine At.c 3 ?_ ?_
   ·refine At.L 2 [0,1,2,3,8] 0 (λp3=>([],[],[])) (λp3 J k=>bV N s2 a0 k  = some p3/\J [0,1,2,3,8,9] 0 [] [] []) N (λ_ h=>⟨h,jr⟩) (λp3 k s hI=>?_) λp3=>?_
    ·obtain⟨h,hj⟩:=hI;cases k with
     | zero=>cases h
     | succ k=>
      unfold bV at h;dsimp only at h;refine At.jr hj ?_ h;refine At.J 0 0 [0,1,2,3,8,9] 0 (λp4=>([(34,(eB false))],[],[])) (λp4=>?_) λp4=>?_
      ·refine boI (λhc3=>?_) (λhc3=>?_)
       ·exact nn
       ·refine At.d 0 (dE1 3 (λ_=>aFv hc3 rfl (wI hT (im:=false) (by kernel_rfl))) dE0) dF0 ?_;apply rt;exact At.jn 0
      ·apply rt;exact At.x 1
    ·exact λh=>At.k 3 ⟨_,h,jr⟩
   ·apply rt;exact At.x 0
 ·apply rt;exact At.z 0
def cG(N:Nat)(a1 a0 a2:Int):Nat->Option (Sum (Unit) (Unit))
 | 0=>none
 | k+1=>
  cF (decide ((I64 (a1 - a0))<=12)) λx2=>
  cond x2 (
   ae (cA N a0 a1) λr3=>
   some (Sum.inr (()))) (
   cond (a2==0) (
    none) (
    ae (some (())) λp4=>
    none))
def cI(N:Nat)(a0 a1 a2:Int):Option (Unit):=
 ae (cG N a1 a0 a2 N ) λo=>qK o (λp1=>
  none) (λr=>some r)
theorem fT{N a0 a1 a2 r}(h:cI N a0 a1 a2=some r):FnM Tryz.prog 247 [] [(.v (.slice none 0 0)),(j64 a0),(j64 a1),(j64 a2),(.fn (.func 194) [] [])] (.tup []) []:=by
 unfold cI at h;refine At.f eF hT hmo Tryz.func247 rfl h ?_;refine At.LS 2 [] 0 (λp1=>([],[],[])) (λop1 J k=>cG N a1 a0 a2 k  = some op1/\J [0,1,2,3,4,10,11] 0 [] [] []) N (λ_ h=>⟨h,jr⟩) (λop1 g1 k s hI=>?_) λp1=>?_
 ·obtain⟨h,hj⟩:=hI;cases k with
  | zero=>cases h
  | succ k=>
   unfold cG at h;dsimp only at h;refine At.jr hj ?_ h;refine lx ?_;intro x2;refine At.c 6 ?_ ?_
   ·refine At.b 4 (λ_ e=>aQ [] (eY e)) λr3=>?_;intro e;apply aBL g1 e;exact At.r 0
   ·refine At.c 2 ?_ ?_
    ·exact nn
    ·refine At.J 0 1 [0,1,2,3,4,10,11,12] 0 (λp4=>([],[],[])) (λp4=>?_) λp4=>?_
     ·apply rt;exact At.jn 3
     ·exact nn
 ·exact nn
def cH(N:Nat):Option (Unit):=
 ae (mI N (U64 0)) λr1=>
 ae (cI N 0 0 r1) λr2=>
 some (())
theorem fI{N r}(h:cH N=some r):FnM Tryz.prog 193 [] [(.v (.slice none 0 0)),(.fn (.func 194) [] [])] (.tup []) []:=by
 unfold cH at h;refine At.f eF hT hmo Tryz.func193 rfl h ?_;refine At.b 7 (λ_ e=>aQ [] (uH e)) λr1=>?_;refine At.b 1 (λ_ e=>aQ [] (fT e)) λr2=>?_;apply rt;exact At.z 0
def iA(N:Nat)  : Nat->Option (Unit)
 | 0=>none
 | k+1=>
  some (())
def jG(N:Nat)(b1:(List (Int×aP))):Option ((List aO)):=
 ae (eV N b1) λr1=>
 ae (iA N N ) λp2=>
 ae (cH N ) λr3=>
 some []
theorem pL{N b1 r}(h:jG N b1=some r):FnM Tryz.prog 144 [.var (.st 2 [(.mp 1),(.mp 2)]),.mp (eM .i64 aP.enc b1),.mp (.kv [])] [(.ref 0 [] 0)] (eL 16 aO.enc r) [.var (.st 2 [(.mp 1),(.mp 2)]),.mp (eM .i64 aP.enc b1),.mp (.kv [])]:=by
 unfold jG at h;refine At.f eF hT hmo Tryz.func144 rfl h ?_;refine At.b 2 (λ_ e=>aQ [0,1,2] (jC e)) λr1=>?_;refine At.o 6 (aF6 (t:=143) (id:=2) rfl (by kernel_rfl) (by kernel_rfl) (by kernel_rfl)) ?_;refine At.L 0 [3] 4 (λp2=>([],[],[])) (λp2 J k=>iA N k  = some p2/\J [3,12] 4 [] [] []) N (λ_ h=>⟨h,jr⟩) (λp2 k s hI=>?_) λp2=>?_
 ·obtain⟨h,hj⟩:=hI;cases k with
  | zero=>cases h
  | succ k=>
   unfold iA at h;dsimp only at h;refine At.jr hj ?_ h;refine At.o 0 (aGT (id:=3) (m:=2) (by kernel_rfl) (by kernel_rfl) (by kernel_rfl) (by kernel_rfl)) ?_;apply rt;exact At.x 2
 ·refine At.b 1 (λ_ e=>aQ [] (fI e)) λr3=>?_;apply rt;exact At.r 2
def iN(N:Nat)(r5:(List aO)):Nat->Option (Unit)
 | 0=>none
 | k+1=>
  cF (decide (0 < ((r5.length:Int)))) λx7=>
  cond x7 (
   ae (idx r5 0) λe8=>
   none) (
   some (()))
def jM(N:Nat)(b1:(List (Int×aP)))(a1:Int):Option (cK×Int):=
 ae (jR N b1) λr1=>
 cF (cond (decide (a1 < 0)) true (decide (a1>=8))) λx2=>
 cond x2 (
  some ((cK.mk [] [] [] [] [] [] 0 0 0,13))) (
  ae (jJ N b1) λr3=>
  ae (iJ N (([]:(List (Int×aP)))) (([]:(List (Int×Int)))) (([]:(List (Int×Int)))) r3 a1 (cK.mk [] [] [] [] [] [] 0 0 0)) λr4=>
  ae (jG N b1) λr5=>
  ae (iN N r5 N ) λp6=>
  some ((cK.mk ((cK.mk [] [] [] [] [] [] 0 0 0).gB6) ((cK.mk [] [] [] [] [] [] 0 0 0).gC0) ((cK.mk [] [] [] [] [] [] 0 0 0).gC1) ((cK.mk [] [] [] [] [] [] 0 0 0).gC2) ((cK.mk [] [] [] [] [] [] 0 0 0).gC3) ((cK.mk [] [] [] [] [] [] 0 0 0).gC4) ((cK.mk [] [] [] [] [] [] 0 0 0).gA0) ((cK.mk [] [] [] [] [] [] 0 0 0).gB5) 4294967295,0)))
theorem qN{N b1 a1 r}(h:jM N b1 a1=some r):FnM Tryz.prog 103 [.var (.st 2 [(.mp 1),(.mp 2)]),.mp (eM .i64 aP.enc b1),.mp (.kv [])] [(.ref 0 [] 0),(j64 a1)] (.tup [(cK.enc r.1),(j64 r.2)]) [.var (.st 2 [(.mp 1),(.mp 2)]),.mp (eM .i64 aP.enc b1),.mp (.kv [])]:=by
 unfold jM at h;refine At.f eF hT hmo Tryz.func103 rfl h ?_;refine At.b 3 (λ_ e=>aQ [0,1,2] (qL e)) λr1=>?_;refine At.o 0 (pP hT (t:=99) (x:=(.ref 6 [] 0)) (b:=true) (by kernel_rfl) rfl rfl (by kernel_rfl)) ?_;refine lx ?_;intro x2;refine At.c 9 ?_ ?_
 ·apply rt;exact At.r 3
 ·refine At.o 0 (tA .i64 aP.enc (by kernel_rfl) (by kernel_rfl)) ?_;refine At.o 0 (tA .i64 j64 (by kernel_rfl) (by kernel_rfl)) ?_;refine At.o 0 (tA .i64 j64 (by kernel_rfl) (by kernel_rfl)) ?_;refine At.b 5 (λ_ e=>aQ [0,1,2] (qJ e)) λr3=>?_;refine At.b 1 (λ_ e=>aQ [10,7,8,9] (oN e)) λr4=>?_;refine At.b 1 (λ_ e=>aQ [0,1,2] (pL e)) λr5=>?_;refine At.L 2 [4,6] 11 (λp6=>([],[],[])) (λp6 J k=>iN N r5 k  = some p6/\J [1,4,6,33,34,35] 11 [] [] []) N (λ_ h=>⟨h,jr⟩) (λp6 k s hI=>?_) λp6=>?_
  ·obtain⟨h,hj⟩:=hI;cases k with
   | zero=>cases h
   | succ k=>
    unfold iN at h;dsimp only at h;refine At.jr hj ?_ h;refine lx ?_;intro x7;refine At.c 1 ?_ ?_
    ·refine At.b 0 (λ_ e=>iF hT aO.enc e) λe8=>?_;exact nn
    ·apply rt;exact At.x 0
  ·apply rt;exact At.r 6
def hP(N:Nat)(b10:(List (Int×aP)))(a1:Int)(a2:(Vector Int 32))(a3:Int)(a4:aD)(a5:Bool)(a6:Int)(a7:(Vector aC 8))(a8:aD)(a9:Bool)(a10:Int)(a11:(Vector aC 8))(a12:aD)(a13:Bool)(a14:Int)(a15:(Vector aC 8))(a16:aD)(a17:Bool)(a18:Int)(a19:(Vector aC 8))(a20:aD)(a21:Bool)(a22:Int)(a23:(Vector aC 8))(a24:aD)(a25:Bool)(a26:Int)(a27:(Vector aC 8))(a28:aD)(a29:Bool)(a30:Int)(a31:(Vector aC 8))(a32:aD)(a33:Bool)(a34:Int)(a35:(Vector aC 8))(a36:bG)(a37 a38 a39 a40 a41 a42 a43 a44:aE):Option (cK):=
 ae (jM N b10 a1) λr1=>
 some r1.1
theorem nL{N b10 a1 a2 a3 a4 a5 a6 a7 a8 a9 a10 a11 a12 a13 a14 a15 a16 a17 a18 a19 a20 a21 a22 a23 a24 a25 a26 a27 a28 a29 a30 a31 a32 a33 a34 a35 a36 a37 a38 a39 a40 a41 a42 a43 a44 r}(h:hP N b10 a1 a2 a3 a4 a5 a6 a7 a8 a9 a10 a11 a12 a13 a14 a15 a16 a17 a18 a19 a20 a21 a22 a23 a24 a25 a26 a27 a28 a29 a30 a31 a32 a33 a34 a35 a36 a37 a38 a39 a40 a41 a42 a43 a44=some r):FnM Tryz.prog 100 [.var (.st 429 [(eA 32 1 k8 a2),(.ref 1 [] 0),(k32 a3),(.st 392 [(.st 49 [(aD.enc a4),(eB a5),(j64 a6),(.v (.pointer none)),(.ref 2 [] 0),(eA 24 3 aC.enc a7)]),(.st 49 [(aD.enc a8),(eB a9),(j64 a10),(.v (.pointer none)),(.ref 3 [] 0),(eA 24 3 aC.enc a11)]),(.st 49 [(aD.enc a12),(eB a13),(j64 a14),(.v (.pointer none)),(.ref 4 [] 0),(eA 24 3 aC.enc a15)]),(.st 49 [(aD.enc a16),(eB a17),(j64 a18),(.v (.pointer none)),(.ref 5 [] 0),(eA 24 3 aC.enc a19)]),(.st 49 [(aD.enc a20),(eB a21),(j64 a22),(.v (.pointer none)),(.ref 6 [] 0),(eA 24 3 aC.enc a23)]),(.st 49 [(aD.enc a24),(eB a25),(j64 a26),(.v (.pointer none)),(.ref 7 [] 0),(eA 24 3 aC.enc a27)]),(.st 49 [(aD.enc a28),(eB a29),(j64 a30),(.v (.pointer none)),(.ref 8 [] 0),(eA 24 3 aC.enc a31)]),(.st 49 [(aD.enc a32),(eB a33),(j64 a34),(.v (.pointer none)),(.ref 9 [] 0),(eA 24 3 aC.enc a35)])]),(bG.enc a36)]),.var (.st 2 [(.mp 10),(.mp 11)]),.var (aE.enc a37),.var (aE.enc a38),.var (aE.enc a39),.var (aE.enc a40),.var (aE.enc a41),.var (aE.enc a42),.var (aE.enc a43),.var (aE.enc a44),.mp (eM .i64 aP.enc b10),.mp (.kv [])] [(.ref 0 [] 0),(.ref 0 [3,0] 34),(j64 a1)] (.tup [(cK.enc r),(eB false)]) [.var (.st 429 [(eA 32 1 k8 a2),(.ref 1 [] 0),(k32 a3),(.st 392 [(.st 49 [(aD.enc a4),(eB a5),(j64 a6),(.v (.pointer none)),(.ref 2 [] 0),(eA 24 3 aC.enc a7)]),(.st 49 [(aD.enc a8),(eB a9),(j64 a10),(.v (.pointer none)),(.ref 3 [] 0),(eA 24 3 aC.enc a11)]),(.st 49 [(aD.enc a12),(eB a13),(j64 a14),(.v (.pointer none)),(.ref 4 [] 0),(eA 24 3 aC.enc a15)]),(.st 49 [(aD.enc a16),(eB a17),(j64 a18),(.v (.pointer none)),(.ref 5 [] 0),(eA 24 3 aC.enc a19)]),(.st 49 [(aD.enc a20),(eB a21),(j64 a22),(.v (.pointer none)),(.ref 6 [] 0),(eA 24 3 aC.enc a23)]),(.st 49 [(aD.enc a24),(eB a25),(j64 a26),(.v (.pointer none)),(.ref 7 [] 0),(eA 24 3 aC.enc a27)]),(.st 49 [(aD.enc a28),(eB a29),(j64 a30),(.v (.pointer none)),(.ref 8 [] 0),(eA 24 3 aC.enc a31)]),(.st 49 [(aD.enc a32),(eB a33),(j64 a34),(.v (.pointer none)),(.ref 9 [] 0),(eA 24 3 aC.enc a35)])]),(bG.enc a36)]),.var (.st 2 [(.mp 10),(.mp 11)]),.var (aE.enc a37),.var (aE.enc a38),.var (aE.enc a39),.var (aE.enc a40),.var (aE.enc a41),.var (aE.enc a42),.var (aE.enc a43),.var (aE.enc a44),.mp (eM .i64 aP.enc b10),.mp (.kv [])]:=by
 unfold hP at h;refine At.f eF hT hmo Tryz.func100 rfl h ?_;refine At.b 7 (λ_ e=>aQ [1,10,11] (qN e)) λr1=>?_;refine At.d 6 (dE1 5 (λ_=>aGp hT (t:=101) (x:=(.v (.pointer none))) (b:=false) (by kernel_rfl) rfl rfl (by kernel_rfl)) dE0) dF0 ?_;apply rt;exact At.r 0
def iR(N:Nat)(a0:aE):Option (Bool):=
 some (!a0.gB9.gB3)
theorem mP{N a0 r}(h:iR N a0=some r):FnM Tryz.prog 139 [.var (aE.enc a0)] [(.ref 0 [] 0)] (eB r) [.var (aE.enc a0)]:=by
 unfold iR at h;refine At.f eF hT hmo Tryz.func139 rfl h ?_;refine At.o 2 (pP hT (t:=102) (x:=(.ref 0 [] 0)) (b:=true) (by kernel_rfl) rfl rfl (by kernel_rfl)) ?_;refine At.g [5] 9 ?_;apply rt;exact At.r 0
def kP(N:Nat)(a0:aE):Option ((Vector Int 32)):=
 ae (iR N a0) λr1=>
 cond r1 (some (am 32 0)) (some a0.gB9.gC7)
theorem rX{N a0 r}(h:kP N a0=some r):FnM Tryz.prog 101 [.var (aE.enc a0)] [(.ref 0 [] 0)] (eA 32 1 k8 r) [.var (aE.enc a0)]:=by
 unfold kP at h;refine At.f eF hT hmo Tryz.func101 rfl h ?_;refine At.b 2 (λ_ e=>aQ [0] (mP e)) λr1=>?_;refine At.c 0 ?_ ?_
 ·apply rt;exact At.r 2
 ·apply rt;exact At.r 6
def fE(N:Nat)(a0:Bool):Option (Int):=
 cond a0 (some 1) (some 0)
theorem kV{N a0 r}(h:fE N a0=some r):FnM Tryz.prog 99 [] [(eB a0)] (j64 r) []:=by
 unfold fE at h;refine At.f eF hT hmo Tryz.func99 rfl h ?_;refine At.c 2 ?_ ?_
 ·apply rt;exact At.r 1
 ·apply rt;exact At.r 1
def dS(N:Nat)(a0:(List aN)):Option ((List aN)):=
 ae (pQ 64 (([]:List aN)) a0) λz1=>
 some z1
theorem kH{N a0 r}(h:dS N a0=some r):FnM Tryz.prog 140 [] [(eL 36 aN.enc a0)] (eL 36 aN.enc r) []:=by
 unfold dS at h;refine At.f eF hT hmo Tryz.func140 rfl h ?_;refine At.q hT 2 (d:=4) (t:=149) (e:=225) (z:=36) (x:=(eL 36 aN.enc a0)) (es:=List.map aN.enc a0) rfl ?_ (λhe=>?_)
 ·refine At.o 1 (aBg hT aN.enc (k:=36) ([]:List aN) (by kernel_rfl) (by kernel_rfl)) ?_;refine At.b 1 (λ_ e=>kM hT aN.enc (id:=0) (k:=36) e) λz1=>?_;apply rt;exact At.r 1
 ·have h0:a0=[]:=List.map_eq_nil_iff.1 he;subst h0;change some []=_->_;apply rt;exact At.r 2
def jF(N:Nat)(a0:aE):Option ((List aN)):=
 ae (iR N a0) λr1=>
 cond r1 (
  some []) (
  ae (dS N a0.gl) λr2=>
  some r2)
theorem pU{N a0 r}(h:jF N a0=some r):FnM Tryz.prog 102 [.var (aE.enc a0)] [(.ref 0 [] 0)] (eL 36 aN.enc r) [.var (aE.enc a0)]:=by
 unfold jF at h;refine At.f eF hT hmo Tryz.func102 rfl h ?_;refine At.b 2 (λ_ e=>aQ [0] (mP e)) λr1=>?_;refine At.c 0 ?_ ?_
 ·apply rt;exact At.r 1
 ·refine At.b 4 (λ_ e=>aQ [] (kH e)) λr2=>?_;apply rt;exact At.r 1
def oD : Nat->Bool:=imL [5]
def hZ(N:Nat)(b10:(List (Int×aP)))(a1:aF)(a2:(Vector Int 32))(a3:Int)(a4:aD)(a5:Bool)(a6:Int)(a7:(Vector aC 8))(a8:aD)(a9:Bool)(a10:Int)(a11:(Vector aC 8))(a12:aD)(a13:Bool)(a14:Int)(a15:(Vector aC 8))(a16:aD)(a17:Bool)(a18:Int)(a19:(Vector aC 8))(a20:aD)(a21:Bool)(a22:Int)(a23:(Vector aC 8))(a24:aD)(a25:Bool)(a26:Int)(a27:(Vector aC 8))(a28:aD)(a29:Bool)(a30:Int)(a31:(Vector aC 8))(a32:aD)(a33:Bool)(a34:Int)(a35:(Vector aC 8))(a36:bG)(a37 a38 a39 a40 a41 a42 a43 a44:aE):Option (dC):=
 ae (hP N b10 a1.gF a2 a3 a4 a5 a6 a7 a8 a9 a10 a11 a12 a13 a14 a15 a16 a17 a18 a19 a20 a21 a22 a23 a24 a25 a26 a27 a28 a29 a30 a31 a32 a33 a34 a35 a36 a37 a38 a39 a40 a41 a42 a43 a44) λr1=>
 ae (kP N a37) λr2=>
 ae (fE N a5) λr3=>
 ae (fE N false) λr4=>
 ae (jF N a37) λr5=>
 ae (nN r2.toList 0 32) λs6=>
 some (dC.mk 0 ([r3,r4,(r5.length:Int)]) s6)
theorem nO{N b10 a1 a2 a3 a4 a5 a6 a7 a8 a9 a10 a11 a12 a13 a14 a15 a16 a17 a18 a19 a20 a21 a22 a23 a24 a25 a26 a27 a28 a29 a30 a31 a32 a33 a34 a35 a36 a37 a38 a39 a40 a41 a42 a43 a44 r}(h:hZ N b10 a1 a2 a3 a4 a5 a6 a7 a8 a9 a10 a11 a12 a13 a14 a15 a16 a17 a18 a19 a20 a21 a22 a23 a24 a25 a26 a27 a28 a29 a30 a31 a32 a33 a34 a35 a36 a37 a38 a39 a40 a41 a42 a43 a44=some r):FnM Tryz.prog 72 [.var (.st 429 [(eA 32 1 k8 a2),(.ref 1 [] 0),(k32 a3),(.st 392 [(.st 49 [(aD.enc a4),(eB a5),(j64 a6),(.v (.pointer none)),(.ref 2 [] 0),(eA 24 3 aC.enc a7)]),(.st 49 [(aD.enc a8),(eB a9),(j64 a10),(.v (.pointer none)),(.ref 3 [] 0),(eA 24 3 aC.enc a11)]),(.st 49 [(aD.enc a12),(eB a13),(j64 a14),(.v (.pointer none)),(.ref 4 [] 0),(eA 24 3 aC.enc a15)]),(.st 49 [(aD.enc a16),(eB a17),(j64 a18),(.v (.pointer none)),(.ref 5 [] 0),(eA 24 3 aC.enc a19)]),(.st 49 [(aD.enc a20),(eB a21),(j64 a22),(.v (.pointer none)),(.ref 6 [] 0),(eA 24 3 aC.enc a23)]),(.st 49 [(aD.enc a24),(eB a25),(j64 a26),(.v (.pointer none)),(.ref 7 [] 0),(eA 24 3 aC.enc a27)]),(.st 49 [(aD.enc a28),(eB a29),(j64 a30),(.v (.pointer none)),(.ref 8 [] 0),(eA 24 3 aC.enc a31)]),(.st 49 [(aD.enc a32),(eB a33),(j64 a34),(.v (.pointer none)),(.ref 9 [] 0),(eA 24 3 aC.enc a35)])]),(bG.enc a36)]),.var (.st 2 [(.mp 10),(.mp 11)]),.var (aE.enc a37),.var (aE.enc a38),.var (aE.enc a39),.var (aE.enc a40),.var (aE.enc a41),.var (aE.enc a42),.var (aE.enc a43),.var (aE.enc a44),.mp (eM .i64 aP.enc b10),.mp (.kv [])] [(.ref 0 [] 0),(.ref 0 [3,0] 34),(aF.enc a1)] (dC.enc r) [.var (.st 429 [(eA 32 1 k8 a2),(.ref 1 [] 0),(k32 a3),(.st 392 [(.st 49 [(aD.enc a4),(eB a5),(j64 a6),(.v (.pointer none)),(.ref 2 [] 0),(eA 24 3 aC.enc a7)]),(.st 49 [(aD.enc a8),(eB a9),(j64 a10),(.v (.pointer none)),(.ref 3 [] 0),(eA 24 3 aC.enc a11)]),(.st 49 [(aD.enc a12),(eB a13),(j64 a14),(.v (.pointer none)),(.ref 4 [] 0),(eA 24 3 aC.enc a15)]),(.st 49 [(aD.enc a16),(eB a17),(j64 a18),(.v (.pointer none)),(.ref 5 [] 0),(eA 24 3 aC.enc a19)]),(.st 49 [(aD.enc a20),(eB a21),(j64 a22),(.v (.pointer none)),(.ref 6 [] 0),(eA 24 3 aC.enc a23)]),(.st 49 [(aD.enc a24),(eB a25),(j64 a26),(.v (.pointer none)),(.ref 7 [] 0),(eA 24 3 aC.enc a27)]),(.st 49 [(aD.enc a28),(eB a29),(j64 a30),(.v (.pointer none)),(.ref 8 [] 0),(eA 24 3 aC.enc a31)]),(.st 49 [(aD.enc a32),(eB a33),(j64 a34),(.v (.pointer none)),(.ref 9 [] 0),(eA 24 3 aC.enc a35)])]),(bG.enc a36)]),.var (.st 2 [(.mp 10),(.mp 11)]),.var (aE.enc a37),.var (aE.enc a38),.var (aE.enc a39),.var (aE.enc a40),.var (aE.enc a41),.var (aE.enc a42),.var (aE.enc a43),.var (aE.enc a44),.mp (eM .i64 aP.enc b10),.mp (.kv [])]:=by
 unfold hZ at h;refine At.f oD hT hmo Tryz.func72 rfl h ?_;refine At.b 7 (λ_ e=>aQ [0,1,2,3,4,5,6,7,8,9,10,11] (nL e)) λr1=>?_;refine At.b 10 (λ_ e=>aQ [2] (rX e)) λr2=>?_;refine At.gz 2 14 ((eA 32 1 k8 r2)) ?_;refine bi λr3 hr3=>?_;refine bi λr4 hr4=>?_;refine bi λr5 hr5=>?_;refine bi λs6 hs6=>?_;refine At.d 0 (dE2 5 (j64 r3) (λ_=>lA (kV hr3)) (dE2 8 (j64 r4) (λ_=>lA (kV hr4)) (dE1 15 (λ_=>cP hT (x:=(.sl 1 3 [(j64 r3),(j64 r4),(j64 ((r5.length:Int)))]))) (dE1 16 (λ_=>aF8 hT (N:=32) (k:=1) k8 r2 hs6) dE0)))) (dF 13 (eL 36 aN.enc r5) [] [] (bT (aQ [2] (pU hr5))) dF0) ?_;apply rt;exact At.r 0
def qG : Nat->Bool:=imL [5]
def jE(N:Nat)(b10:(List (Int×aP)))(a1:aF)(a2:(Vector Int 32))(a3:Int)(a4:aD)(a5:Bool)(a6:Int)(a7:(Vector aC 8))(a8:aD)(a9:Bool)(a10:Int)(a11:(Vector aC 8))(a12:aD)(a13:Bool)(a14:Int)(a15:(Vector aC 8))(a16:aD)(a17:Bool)(a18:Int)(a19:(Vector aC 8))(a20:aD)(a21:Bool)(a22:Int)(a23:(Vector aC 8))(a24:aD)(a25:Bool)(a26:Int)(a27:(Vector aC 8))(a28:aD)(a29:Bool)(a30:Int)(a31:(Vector aC 8))(a32:aD)(a33:Bool)(a34:Int)(a35:(Vector aC 8))(a36:bG)(a37 a38 a39 a40 a41 a42 a43 a44:aE):Option (dC):=
 cond (a1.gE==5) (
  none) (
  cond (a1.gE==7) (
   none) (
   cond (a1.gE==9) (
    ae (hZ N b10 a1 a2 a3 a4 a5 a6 a7 a8 a9 a10 a11 a12 a13 a14 a15 a16 a17 a18 a19 a20 a21 a22 a23 a24 a25 a26 a27 a28 a29 a30 a31 a32 a33 a34 a35 a36 a37 a38 a39 a40 a41 a42 a43 a44) λr1=>
    some r1) (
    cond (!a5) (
     ae (iP N 13) λr2=>
     some r2) (
     cond (a1.gE==6) (
      none) (
      cF (cond (decide (a1.gJ < 0)) true (decide (a1.gJ>=8))) λx3=>
      cond x3 (
       ae (iP N 2) λr4=>
       some r4) (
       none))))))
theorem pM{N b10 a1 a2 a3 a4 a5 a6 a7 a8 a9 a10 a11 a12 a13 a14 a15 a16 a17 a18 a19 a20 a21 a22 a23 a24 a25 a26 a27 a28 a29 a30 a31 a32 a33 a34 a35 a36 a37 a38 a39 a40 a41 a42 a43 a44 r}(h:jE N b10 a1 a2 a3 a4 a5 a6 a7 a8 a9 a10 a11 a12 a13 a14 a15 a16 a17 a18 a19 a20 a21 a22 a23 a24 a25 a26 a27 a28 a29 a30 a31 a32 a33 a34 a35 a36 a37 a38 a39 a40 a41 a42 a43 a44=some r):FnM Tryz.prog 53 [.var (.st 429 [(eA 32 1 k8 a2),(.ref 1 [] 0),(k32 a3),(.st 392 [(.st 49 [(aD.enc a4),(eB a5),(j64 a6),(.v (.pointer none)),(.ref 2 [] 0),(eA 24 3 aC.enc a7)]),(.st 49 [(aD.enc a8),(eB a9),(j64 a10),(.v (.pointer none)),(.ref 3 [] 0),(eA 24 3 aC.enc a11)]),(.st 49 [(aD.enc a12),(eB a13),(j64 a14),(.v (.pointer none)),(.ref 4 [] 0),(eA 24 3 aC.enc a15)]),(.st 49 [(aD.enc a16),(eB a17),(j64 a18),(.v (.pointer none)),(.ref 5 [] 0),(eA 24 3 aC.enc a19)]),(.st 49 [(aD.enc a20),(eB a21),(j64 a22),(.v (.pointer none)),(.ref 6 [] 0),(eA 24 3 aC.enc a23)]),(.st 49 [(aD.enc a24),(eB a25),(j64 a26),(.v (.pointer none)),(.ref 7 [] 0),(eA 24 3 aC.enc a27)]),(.st 49 [(aD.enc a28),(eB a29),(j64 a30),(.v (.pointer none)),(.ref 8 [] 0),(eA 24 3 aC.enc a31)]),(.st 49 [(aD.enc a32),(eB a33),(j64 a34),(.v (.pointer none)),(.ref 9 [] 0),(eA 24 3 aC.enc a35)])]),(bG.enc a36)]),.var (.st 2 [(.mp 10),(.mp 11)]),.var (aE.enc a37),.var (aE.enc a38),.var (aE.enc a39),.var (aE.enc a40),.var (aE.enc a41),.var (aE.enc a42),.var (aE.enc a43),.var (aE.enc a44),.mp (eM .i64 aP.enc b10),.mp (.kv [])] [(.ref 0 [] 0),(.ref 0 [3,0] 34),(aF.enc a1)] (dC.enc r) [.var (.st 429 [(eA 32 1 k8 a2),(.ref 1 [] 0),(k32 a3),(.st 392 [(.st 49 [(aD.enc a4),(eB a5),(j64 a6),(.v (.pointer none)),(.ref 2 [] 0),(eA 24 3 aC.enc a7)]),(.st 49 [(aD.enc a8),(eB a9),(j64 a10),(.v (.pointer none)),(.ref 3 [] 0),(eA 24 3 aC.enc a11)]),(.st 49 [(aD.enc a12),(eB a13),(j64 a14),(.v (.pointer none)),(.ref 4 [] 0),(eA 24 3 aC.enc a15)]),(.st 49 [(aD.enc a16),(eB a17),(j64 a18),(.v (.pointer none)),(.ref 5 [] 0),(eA 24 3 aC.enc a19)]),(.st 49 [(aD.enc a20),(eB a21),(j64 a22),(.v (.pointer none)),(.ref 6 [] 0),(eA 24 3 aC.enc a23)]),(.st 49 [(aD.enc a24),(eB a25),(j64 a26),(.v (.pointer none)),(.ref 7 [] 0),(eA 24 3 aC.enc a27)]),(.st 49 [(aD.enc a28),(eB a29),(j64 a30),(.v (.pointer none)),(.ref 8 [] 0),(eA 24 3 aC.enc a31)]),(.st 49 [(aD.enc a32),(eB a33),(j64 a34),(.v (.pointer none)),(.ref 9 [] 0),(eA 24 3 aC.enc a35)])]),(bG.enc a36)]),.var (.st 2 [(.mp 10),(.mp 11)]),.var (aE.enc a37),.var (aE.enc a38),.var (aE.enc a39),.var (aE.enc a40),.var (aE.enc a41),.var (aE.enc a42),.var (aE.enc a43),.var (aE.enc a44),.mp (eM .i64 aP.enc b10),.mp (.kv [])]:=by
 unfold jE at h;refine At.f qG hT hmo Tryz.func53 rfl h ?_;refine At.c 6 ?_ ?_
 ·exact nn
 ·refine At.c 2 ?_ ?_
  ·exact nn
  ·refine At.c 2 ?_ ?_
   ·refine At.b 3 (λ_ e=>aQ [0,1,2,3,4,5,6,7,8,9,10,11] (nO e)) λr1=>?_;apply rt;exact At.r 1
   ·refine At.c 6 ?_ ?_
    ·refine At.b 0 (λ_ e=>aQ [] (jY e)) λr2=>?_;apply rt;exact At.r 1
    ·refine At.c 4 ?_ ?_
     ·exact nn
     ·refine lx ?_;intro x3;refine At.c 9 ?_ ?_
      ·refine At.b 0 (λ_ e=>aQ [] (jY e)) λr4=>?_;apply rt;exact At.r 1
      ·exact nn
def rE : Nat->Bool:=imL [3]
def jQ(N:Nat)(b10:(List (Int×aP)))(a1:aF)(a2:(Vector Int 32))(a3:Int)(a4:aD)(a5:Bool)(a6:Int)(a7:(Vector aC 8))(a8:aD)(a9:Bool)(a10:Int)(a11:(Vector aC 8))(a12:aD)(a13:Bool)(a14:Int)(a15:(Vector aC 8))(a16:aD)(a17:Bool)(a18:Int)(a19:(Vector aC 8))(a20:aD)(a21:Bool)(a22:Int)(a23:(Vector aC 8))(a24:aD)(a25:Bool)(a26:Int)(a27:(Vector aC 8))(a28:aD)(a29:Bool)(a30:Int)(a31:(Vector aC 8))(a32:aD)(a33:Bool)(a34:Int)(a35:(Vector aC 8))(a36:bG)(a37 a38 a39 a40 a41 a42 a43 a44:aE):Option (Int×dC):=
 ae (jD N b10 a2 a3 a4 a5 a6 a7 a8 a9 a10 a11 a12 a13 a14 a15 a16 a17 a18 a19 a20 a21 a22 a23 a24 a25 a26 a27 a28 a29 a30 a31 a32 a33 a34 a35 a36 a37 a38 a39 a40 a41 a42 a43 a44) λr1=>
 cond (a1.gE==1) (
  none) (
  cond (a1.gE==2) (
   none) (
   cond (a1.gE==3) (
    none) (
    cond (a1.gE==4) (
     none) (
     cond (a1.gE==10) (
      cF (decide (a1.gA8 > 1048576)) λx2=>
      cF (cond (decide (a1.gA8 < 1)) true x2) λx3=>
      cond x3 (
       ae (iP N 2) λr4=>
       some ((a3,r4))) (
       cF (U64 ((U64 a3)+(U64 a1.gA8))) λx5=>
       cF (U32 (aAp x5 4294967295)) λx6=>
       ae (iP N 0) λr7=>
       some ((x6,r7)))) (
      ae (cond (a1.gE==5) (
       some (a1.gE==5)) (
       cond (a1.gE==6) (
        some (a1.gE==6)) (
        cond (a1.gE==7) (
         some (a1.gE==7)) (
         cond (a1.gE==8) (some (a1.gE==8)) (some (a1.gE==9)))))) λp8=>
      cond p8 (
       ae (dV N b10 a1.gF a2 a3 a4 a5 a6 a7 a8 a9 a10 a11 a12 a13 a14 a15 a16 a17 a18 a19 a20 a21 a22 a23 a24 a25 a26 a27 a28 a29 a30 a31 a32 a33 a34 a35 a36 a37 a38 a39 a40 a41 a42 a43 a44) λq=>
       qK q (λr10=>
        ae (iP N 13) λr12=>
        some ((a3,r12))) (λr11=>
        ae (jE N b10 a1 a2 a3 a4 a5 a6 a7 a8 a9 a10 a11 a12 a13 a14 a15 a16 a17 a18 a19 a20 a21 a22 a23 a24 a25 a26 a27 a28 a29 a30 a31 a32 a33 a34 a35 a36 a37 a38 a39 a40 a41 a42 a43 a44) λr13=>
        some ((a3,r13)))) (
       ae (iP N 2) λr14=>
       some ((a3,r14))))))))
theorem qO{N b10 a1 a2 a3 a4 a5 a6 a7 a8 a9 a10 a11 a12 a13 a14 a15 a16 a17 a18 a19 a20 a21 a22 a23 a24 a25 a26 a27 a28 a29 a30 a31 a32 a33 a34 a35 a36 a37 a38 a39 a40 a41 a42 a43 a44 r}(h:jQ N b10 a1 a2 a3 a4 a5 a6 a7 a8 a9 a10 a11 a12 a13 a14 a15 a16 a17 a18 a19 a20 a21 a22 a23 a24 a25 a26 a27 a28 a29 a30 a31 a32 a33 a34 a35 a36 a37 a38 a39 a40 a41 a42 a43 a44=some r):FnM Tryz.prog 32 [.var (.st 429 [(eA 32 1 k8 a2),(.ref 1 [] 0),(k32 a3),(.st 392 [(.st 49 [(aD.enc a4),(eB a5),(j64 a6),(.v (.pointer none)),(.ref 2 [] 0),(eA 24 3 aC.enc a7)]),(.st 49 [(aD.enc a8),(eB a9),(j64 a10),(.v (.pointer none)),(.ref 3 [] 0),(eA 24 3 aC.enc a11)]),(.st 49 [(aD.enc a12),(eB a13),(j64 a14),(.v (.pointer none)),(.ref 4 [] 0),(eA 24 3 aC.enc a15)]),(.st 49 [(aD.enc a16),(eB a17),(j64 a18),(.v (.pointer none)),(.ref 5 [] 0),(eA 24 3 aC.enc a19)]),(.st 49 [(aD.enc a20),(eB a21),(j64 a22),(.v (.pointer none)),(.ref 6 [] 0),(eA 24 3 aC.enc a23)]),(.st 49 [(aD.enc a24),(eB a25),(j64 a26),(.v (.pointer none)),(.ref 7 [] 0),(eA 24 3 aC.enc a27)]),(.st 49 [(aD.enc a28),(eB a29),(j64 a30),(.v (.pointer none)),(.ref 8 [] 0),(eA 24 3 aC.enc a31)]),(.st 49 [(aD.enc a32),(eB a33),(j64 a34),(.v (.pointer none)),(.ref 9 [] 0),(eA 24 3 aC.enc a35)])]),(bG.enc a36)]),.var (.st 2 [(.mp 10),(.mp 11)]),.var (aE.enc a37),.var (aE.enc a38),.var (aE.enc a39),.var (aE.enc a40),.var (aE.enc a41),.var (aE.enc a42),.var (aE.enc a43),.var (aE.enc a44),.mp (eM .i64 aP.enc b10),.mp (.kv [])] [(.ref 0 [] 0),(aF.enc a1)] (dC.enc r.2) [.var (.st 429 [(eA 32 1 k8 a2),(.ref 1 [] 0),(k32 r.1),(.st 392 [(.st 49 [(aD.enc a4),(eB a5),(j64 a6),(.v (.pointer none)),(.ref 2 [] 0),(eA 24 3 aC.enc a7)]),(.st 49 [(aD.enc a8),(eB a9),(j64 a10),(.v (.pointer none)),(.ref 3 [] 0),(eA 24 3 aC.enc a11)]),(.st 49 [(aD.enc a12),(eB a13),(j64 a14),(.v (.pointer none)),(.ref 4 [] 0),(eA 24 3 aC.enc a15)]),(.st 49 [(aD.enc a16),(eB a17),(j64 a18),(.v (.pointer none)),(.ref 5 [] 0),(eA 24 3 aC.enc a19)]),(.st 49 [(aD.enc a20),(eB a21),(j64 a22),(.v (.pointer none)),(.ref 6 [] 0),(eA 24 3 aC.enc a23)]),(.st 49 [(aD.enc a24),(eB a25),(j64 a26),(.v (.pointer none)),(.ref 7 [] 0),(eA 24 3 aC.enc a27)]),(.st 49 [(aD.enc a28),(eB a29),(j64 a30),(.v (.pointer none)),(.ref 8 [] 0),(eA 24 3 aC.enc a31)]),(.st 49 [(aD.enc a32),(eB a33),(j64 a34),(.v (.pointer none)),(.ref 9 [] 0),(eA 24 3 aC.enc a35)])]),(bG.enc a36)]),.var (.st 2 [(.mp 10),(.mp 11)]),.var (aE.enc a37),.var (aE.enc a38),.var (aE.enc a39),.var (aE.enc a40),.var (aE.enc a41),.var (aE.enc a42),.var (aE.enc a43),.var (aE.enc a44),.mp (eM .i64 aP.enc b10),.mp (.kv [])]:=by
 unfold jQ at h;refine At.f rE hT hmo Tryz.func32 rfl h ?_;refine At.b 3 (λ_ e=>aQ [0,1,2,3,4,5,6,7,8,9,10,11] (pK e)) λr1=>?_;refine At.c 5 ?_ ?_
 ·exact nn
 ·refine At.c 2 ?_ ?_
  ·exact nn
  ·refine At.c 2 ?_ ?_
   ·exact nn
   ·refine At.c 2 ?_ ?_
    ·exact nn
    ·refine At.c 2 ?_ ?_
     ·refine lx ?_;intro x2;refine lx ?_;intro x3;refine At.c 8 ?_ ?_
      ·refine At.b 0 (λ_ e=>aQ [] (jY e)) λr4=>?_;apply rt;exact At.r 1
      ·refine lx ?_;intro x5;refine lx ?_;intro x6;refine At.d 0 dE0 dF0 ?_;refine At.b 0 (λ_ e=>aQ [] (jY e)) λr7=>?_;apply rt;exact At.r 1
     ·refine At.J 0 1 [0,3,4] 13 (λp8=>([(98,(eB p8))],[],[])) (λp8=>?_) λp8=>?_
      ·refine At.c 2 ?_ ?_
       ·apply rt;exact At.jn 0
       ·refine At.c 2 ?_ ?_
        ·apply rt;exact At.jn 0
        ·refine At.c 2 ?_ ?_
         ·apply rt;exact At.jn 0
         ·refine At.c 2 ?_ ?_
          ·apply rt;exact At.jn 0
          ·apply rt;exact At.jn 2
      ·refine At.c 0 ?_ ?_
       ·refine sumI (λr10 hr10=>?_) (λr11 hr11=>?_)
        ·refine At.o 3 (aQ [0,1,2,3,4,5,6,7,8,9,10,11] (nJ hr10)) ?_;refine At.b 8 (λ_ e=>aQ [] (jY e)) λr12=>?_;apply rt;exact At.r 1
        ·refine At.o 3 (aQ [0,1,2,3,4,5,6,7,8,9,10,11] (mZ hr11)) ?_;refine At.b 11 (λ_ e=>aQ [0,1,2,3,4,5,6,7,8,9,10,11] (pM e)) λr13=>?_;apply rt;exact At.r 1
       ·refine At.b 0 (λ_ e=>aQ [] (jY e)) λr14=>?_;apply rt;exact At.r 1
def aAw : Nat->Bool:=imL [2]
def mL(N:Nat)(r1:(List aF)×Int×Int)(a0:(Vector Int 32))(r2:(Vector Int 32)×(Vector Int 32)×(Vector Int 32)×(Vector Int 32)×(Vector Int 32)×(Vector Int 32)×(Vector Int 32)×(Vector Int 32)):Nat->(List Int)->Int->aD->(Vector aC 8)->aD->(Vector aC 8)->aD->(Vector aC 8)->aD->(Vector aC 8)->aD->(Vector aC 8)->aD->(Vector aC 8)->aD->(Vector aC 8)->aD->(Vector aC 8)->bG->Int->Option ((List Int)×Int×aD×(Vector aC 8)×aD×(Vector aC 8)×aD×(Vector aC 8)×aD×(Vector aC 8)×aD×(Vector aC 8)×aD×(Vector aC 8)×aD×(Vector aC 8)×aD×(Vector aC 8)×bG)
 | 0,_,_,_,_,_,_,_,_,_,_,_,_,_,_,_,_,_,_,_,_=>none
 | k+1,s4,s5,s6,s7,s8,s9,s10,s11,s12,s13,s14,s15,s16,s17,s18,s19,s20,s21,s22,s23=>
  cF (decide (s23 < ((r1.1.length:Int)))) λx24=>
  cond x24 (
   ae (idx r1.1 s23) λe25=>
   ae (jQ N (([]:(List (Int×aP)))) e25 a0 s5 s6 false 0 s7 s8 false 0 s9 s10 false 0 s11 s12 false 0 s13 s14 false 0 s15 s16 false 0 s17 s18 false 0 s19 s20 false 0 s21 s22 (aE.mk (eD.mk r2.1 0 true) (([]:(List aN)))) (aE.mk (eD.mk r2.2.1 0 true) (([]:(List aN)))) (aE.mk (eD.mk r2.2.2.1 0 true) (([]:(List aN)))) (aE.mk (eD.mk r2.2.2.2.1 0 true) (([]:(List aN)))) (aE.mk (eD.mk r2.2.2.2.2.1 0 true) (([]:(List aN)))) (aE.mk (eD.mk r2.2.2.2.2.2.1 0 true) (([]:(List aN)))) (aE.mk (eD.mk r2.2.2.2.2.2.2.1 0 true) (([]:(List aN)))) (aE.mk (eD.mk r2.2.2.2.2.2.2.2 0 true) (([]:(List aN))))) λr26=>
   ae (kJ N r26.2) λr27=>
   ae (pQ 1 s4 r27) λz28=>
   mL N r1 a0 r2 k z28 r26.1 s6 s7 s8 s9 s10 s11 s12 s13 s14 s15 s16 s17 s18 s19 s20 s21 s22 (I64 (s23+1))) (
   some ((s4,s5,s6,s7,s8,s9,s10,s11,s12,s13,s14,s15,s16,s17,s18,s19,s20,s21,s22)))
def pS(N:Nat)(a0:(Vector Int 32))(a1:(List Int)):Option ((List Int)):=
 ae (dG N a1) λr1=>
 ae (sO N a0) λr2=>
 ae (mL N r1 a0 r2 N [] 0 (aD.mk 0 0 0 0 0 0 (bC.mk (aG.mk 0 0 0) (aG.mk 0 0 0) (aG.mk 0 0 0) (aG.mk 0 0 0) 0 0) false) (am 8 (aC.mk 0 0 0)) (aD.mk 0 0 0 0 0 0 (bC.mk (aG.mk 0 0 0) (aG.mk 0 0 0) (aG.mk 0 0 0) (aG.mk 0 0 0) 0 0) false) (am 8 (aC.mk 0 0 0)) (aD.mk 0 0 0 0 0 0 (bC.mk (aG.mk 0 0 0) (aG.mk 0 0 0) (aG.mk 0 0 0) (aG.mk 0 0 0) 0 0) false) (am 8 (aC.mk 0 0 0)) (aD.mk 0 0 0 0 0 0 (bC.mk (aG.mk 0 0 0) (aG.mk 0 0 0) (aG.mk 0 0 0) (aG.mk 0 0 0) 0 0) false) (am 8 (aC.mk 0 0 0)) (aD.mk 0 0 0 0 0 0 (bC.mk (aG.mk 0 0 0) (aG.mk 0 0 0) (aG.mk 0 0 0) (aG.mk 0 0 0) 0 0) false) (am 8 (aC.mk 0 0 0)) (aD.mk 0 0 0 0 0 0 (bC.mk (aG.mk 0 0 0) (aG.mk 0 0 0) (aG.mk 0 0 0) (aG.mk 0 0 0) 0 0) false) (am 8 (aC.mk 0 0 0)) (aD.mk 0 0 0 0 0 0 (bC.mk (aG.mk 0 0 0) (aG.mk 0 0 0) (aG.mk 0 0 0) (aG.mk 0 0 0) 0 0) false) (am 8 (aC.mk 0 0 0)) (aD.mk 0 0 0 0 0 0 (bC.mk (aG.mk 0 0 0) (aG.mk 0 0 0) (aG.mk 0 0 0) (aG.mk 0 0 0) 0 0) false) (am 8 (aC.mk 0 0 0)) (bG.mk 0 0 0) 0) λp3=>
 ae (cond (r1.2.2 != 0) (
  ae (kJ N (dC.mk r1.2.2 [] [])) λr30=>
  ae (pQ 1 p3.1 r30) λz31=>
  some z31) (
  some p3.1)) λp29=>
 some p29
theorem yY{N a0 a1 r}(h:pS N a0 a1=some r):FnM Tryz.prog 19 [] [(eA 32 1 k8 a0),(eL 1 k8 a1)] (eL 1 k8 r) []:=by
 unfold pS at h;refine At.f aAw hT hmo Tryz.func19 rfl h ?_;refine At.b 3 (λ_ e=>aQ [] (lS e)) λr1=>?_;refine At.b 8 (λ_ e=>aQ [] (aBw e)) λr2=>?_;refine At.ownn 5 9 1 ?_;refine At.L 0 [7] 13 (λp3=>([(9,(eO 12 1 k8 p3.1))],[(3,.var (.st 429 [(eA 32 1 k8 a0),(.ref 2 [] 0),(k32 p3.2.1),(.st 392 [(.st 49 [(aD.enc p3.2.2.1),(eB false),(j64 0),(.v (.pointer none)),(.ref 4 [] 0),(eA 24 3 aC.enc p3.2.2.2.1)]),(.st 49 [(aD.enc p3.2.2.2.2.1),(eB false),(j64 0),(.v (.pointer none)),(.ref 5 [] 0),(eA 24 3 aC.enc p3.2.2.2.2.2.1)]),(.st 49 [(aD.enc p3.2.2.2.2.2.2.1),(eB false),(j64 0),(.v (.pointer none)),(.ref 6 [] 0),(eA 24 3 aC.enc p3.2.2.2.2.2.2.2.1)]),(.st 49 [(aD.enc p3.2.2.2.2.2.2.2.2.1),(eB false),(j64 0),(.v (.pointer none)),(.ref 7 [] 0),(eA 24 3 aC.enc p3.2.2.2.2.2.2.2.2.2.1)]),(.st 49 [(aD.enc p3.2.2.2.2.2.2.2.2.2.2.1),(eB false),(j64 0),(.v (.pointer none)),(.ref 8 [] 0),(eA 24 3 aC.enc p3.2.2.2.2.2.2.2.2.2.2.2.1)]),(.st 49 [(aD.enc p3.2.2.2.2.2.2.2.2.2.2.2.2.1),(eB false),(j64 0),(.v (.pointer none)),(.ref 9 [] 0),(eA 24 3 aC.enc p3.2.2.2.2.2.2.2.2.2.2.2.2.2.1)]),(.st 49 [(aD.enc p3.2.2.2.2.2.2.2.2.2.2.2.2.2.2.1),(eB false),(j64 0),(.v (.pointer none)),(.ref 10 [] 0),(eA 24 3 aC.enc p3.2.2.2.2.2.2.2.2.2.2.2.2.2.2.2.1)]),(.st 49 [(aD.enc p3.2.2.2.2.2.2.2.2.2.2.2.2.2.2.2.2.1),(eB false),(j64 0),(.v (.pointer none)),(.ref 11 [] 0),(eA 24 3 aC.enc p3.2.2.2.2.2.2.2.2.2.2.2.2.2.2.2.2.2.1)])]),(bG.enc p3.2.2.2.2.2.2.2.2.2.2.2.2.2.2.2.2.2.2)])),(12,.tail (p3.1.length*1))],[])) (λp3 J k=>∃s4 s5 s6 s7 s8 s9 s10 s11 s12 s13 s14 s15 s16 s17 s18 s19 s20 s21 s22 s23,mL N r1 a0 r2 k s4 s5 s6 s7 s8 s9 s10 s11 s12 s13 s14 s15 s16 s17 s18 s19 s20 s21 s22 s23=some p3/\J [7,8,20,21] 13 [(9,(eO 12 1 k8 s4)),(22,(j64 s23))] [(3,.var (.st 429 [(eA 32 1 k8 a0),(.ref 2 [] 0),(k32 s5),(.st 392 [(.st 49 [(aD.enc s6),(eB false),(j64 0),(.v (.pointer none)),(.ref 4 [] 0),(eA 24 3 aC.enc s7)]),(.st 49 [(aD.enc s8),(eB false),(j64 0),(.v (.pointer none)),(.ref 5 [] 0),(eA 24 3 aC.enc s9)]),(.st 49 [(aD.enc s10),(eB false),(j64 0),(.v (.pointer none)),(.ref 6 [] 0),(eA 24 3 aC.enc s11)]),(.st 49 [(aD.enc s12),(eB false),(j64 0),(.v (.pointer none)),(.ref 7 [] 0),(eA 24 3 aC.enc s13)]),(.st 49 [(aD.enc s14),(eB false),(j64 0),(.v (.pointer none)),(.ref 8 [] 0),(eA 24 3 aC.enc s15)]),(.st 49 [(aD.enc s16),(eB false),(j64 0),(.v (.pointer none)),(.ref 9 [] 0),(eA 24 3 aC.enc s17)]),(.st 49 [(aD.enc s18),(eB false),(j64 0),(.v (.pointer none)),(.ref 10 [] 0),(eA 24 3 aC.enc s19)]),(.st 49 [(aD.enc s20),(eB false),(j64 0),(.v (.pointer none)),(.ref 11 [] 0),(eA 24 3 aC.enc s21)])]),(bG.enc s22)])),(12,.tail (s4.length*1))] []) N (λ_ h=>⟨_,_,_,_,_,_,_,_,_,_,_,_,_,_,_,_,_,_,_,_,h,jr⟩) (λp3 k s hI=>?_) λp3=>?_
 ·obtain⟨s4,s5,s6,s7,s8,s9,s10,s11,s12,s13,s14,s15,s16,s17,s18,s19,s20,s21,s22,s23,h,hj⟩:=hI;cases k with
  | zero=>cases h
  | succ k=>
   refine At.jr hj ?_ h;refine lx ?_;intro x24;refine At.c 1 ?_ ?_
   ·refine At.b 0 (λ_ e=>iF hT aF.enc e) λe25=>?_;refine At.b 6 (λ_ e=>aQ [3,2,4,5,6,7,8,9,10,11,0,1] (qO e)) λr26=>?_;refine At.b 0 (λ_ e=>aQ [] (oW e)) λr27=>?_;refine At.b 0 (λ_ e=>kM hT k8 (id:=12) (k:=1) e) λz28=>?_;exact λh=>At.k 3 ⟨_,_,_,_,_,_,_,_,_,_,_,_,_,_,_,_,_,_,_,_,h,jr⟩
   ·apply rt;exact At.x 0
 ·refine At.J 0 1 [] 13 (λp29=>([(9,(eO 12 1 k8 p29))],[(12,.tail (p29.length*1))],[])) (λp29=>?_) λp29=>?_
  ·refine At.c 2 ?_ ?_
   ·refine At.b 3 (λ_ e=>aQ [] (oW e)) λr30=>?_;refine At.b 0 (λ_ e=>kM hT k8 (id:=12) (k:=1) e) λz31=>?_;apply rt;exact At.jn 1
   ·apply rt;exact At.jn 0
  ·apply rt;exact At.r 2
def eR(N:Nat):Option (Bool):=
 ae (pS N (am 32 0) ([9,0])) λr1=>
 cF (((r1.length:Int))==62) λx2=>
 some x2
theorem mQ{N r}(h:eR N=some r):FnM Tryz.prog 10 [] [] (eB r) []:=by
 unfold eR at h;refine At.f eF hT hmo Tryz.func10 rfl h ?_;refine At.o 2 (cP hT (x:=(.sl 1 2 [(k8 9),(k8 0)]))) ?_;refine At.b 0 (λ_ e=>aQ [] (yY e)) λr1=>?_;refine lx ?_;intro x2;apply rt;exact At.r 3
def iK(N:Nat)(a0:(List Int)):Option ((List Int)):=
 cF (aAp ((a0.length:Int)) 9000) λx1=>
 ae (nN a0 0 x1) λs2=>
 some s2
theorem tN{N a0 r}(h:iK N a0=some r):FnM Tryz.prog 11 [] [(eL 1 k8 a0)] (eL 1 k8 r) []:=by
 unfold iK at h;refine At.f eF hT hmo Tryz.func11 rfl h ?_;refine lx ?_;intro x1;refine At.b 5 (λ_ e=>pZ hT (k:=1) k8 e) λs2=>?_;apply rt;exact At.r 1
def eZ(N:Nat)(a0:(List aF))(a1:(List Int)):Option (Bool):=
 cF (aAp ((a0.length:Int)) 60) λx1=>
 ae (nN a0 0 x1) λs2=>
 ae (iK N a1) λr3=>
 ae (ae (cV N s2) λr5=>
 cond (r5.2==0) (
  ae (dG N r5.1) λr6=>
  ae (cV N r6.1) λr7=>
  ae (cF (r6.2.1 != ((r5.1.length:Int))) λx9=>
  cF (cond (r6.2.2 != 0) true x9) λx10=>
  cF (((r6.1.length:Int)) != ((s2.length:Int))) λx11=>
  cF (cond (cond x10 true x11) true (r7.2 != 0)) λx12=>
  cond x12 (
   some true) (
   ae (iC N r5.1 r7.1) λr13=>
   some (!r13))) λp8=>
  cond p8 (some (Sum.inr false)) (some (Sum.inl (())))) (
  some (Sum.inl (())))) λo=>qK o (λp4=>
  ae (dG N r3) λr14=>
  cF (((r14.1.length:Int))==0) λx15=>
  cF (cond (r14.2.2==3) x15 false) λx16=>
  cond x16 (
   ae (eR N ) λr17=>
   some r17) (
   ae (cF (decide (r14.2.1 > ((r3.length:Int)))) λx19=>
   cF (cond (decide (r14.2.1 < 0)) true x19) λx20=>
   cond x20 (
    some true) (
    cF (r14.2.1 != ((r3.length:Int))) λx21=>
    cF (cond (r14.2.2==0) x21 false) λx22=>
    some x22)) λp18=>
   cond p18 (
    some false) (
    ae (cV N r14.1) λr23=>
    ae (cond (r23.2==0) (
     ae (nN r3 0 r14.2.1) λs25=>
     ae (iC N r23.1 s25) λr26=>
     cond r26 (
      ae (eR N ) λr27=>
      some r27) (
      some false)) (
     some false)) λp24=>
    some p24))) (λr=>some r)
theorem oF{N a0 a1 r}(h:eZ N a0 a1=some r):FnM Tryz.prog 4 [] [(eL 46 aF.enc a0),(eL 1 k8 a1)] (eB r) []:=by
 unfold eZ at h;refine At.f eF hT hmo Tryz.func4 rfl h ?_;refine lx ?_;intro x1;refine bi λs2 hs2=>?_;refine bi λr3 hr3=>?_;refine At.d 1 (dE1 4 (λ_=>pZ hT (k:=46) aF.enc hs2) (dE2 6 (eL 1 k8 r3) (λ_=>lA (tN hr3)) dE0)) dF0 ?_;refine At.JS 0 1 [1] 0 (λp4=>([],[],[])) (λop4 g4=>?_) λp4=>?_
 ·refine At.b 1 (λ_ e=>aQ [] (lU e)) λr5=>?_;refine At.c 7 ?_ ?_
  ·refine At.b 1 (λ_ e=>aQ [] (lS e)) λr6=>?_;refine At.b 8 (λ_ e=>aQ [] (lU e)) λr7=>?_;refine At.J 5 0 [1] 0 (λp8=>([(66,(eB p8))],[],[])) (λp8=>?_) λp8=>?_
   ·refine lx ?_;intro x9;refine lx ?_;intro x10;refine lx ?_;intro x11;refine lx ?_;intro x12;refine At.s 61 20 ?_ ?_
    ·refine At.g [61] 5 ?_;apply rt;exact At.jn 0
    ·refine At.g [61] 2 ?_;refine At.b 0 (λ_ e=>aQ [] (qQ e)) λr13=>?_;refine At.g [61] 2 ?_;apply rt;exact At.jn 0
   ·refine At.c 0 ?_ ?_
    ·intro e;apply aBL g4 e;exact At.r 1
    ·apply rt;exact At.jsn 0
  ·apply rt;exact At.jsn 0
 ·refine At.b 1 (λ_ e=>aQ [] (lS e)) λr14=>?_;refine lx ?_;intro x15;refine lx ?_;intro x16;refine At.c 14 ?_ ?_
  ·refine At.b 0 (λ_ e=>aQ [] (mQ e)) λr17=>?_;apply rt;exact At.r 1
  ·refine At.J 0 0 [1,12,13] 0 (λp18=>([(98,(eB p18))],[],[])) (λp18=>?_) λp18=>?_
   ·refine lx ?_;intro x19;refine lx ?_;intro x20;refine At.s 89 9 ?_ ?_
    ·refine At.g [89,92] 9 ?_;apply rt;exact At.jn 0
    ·refine lx ?_;intro x21;refine lx ?_;intro x22;refine At.g [89] 9 ?_;apply rt;exact At.jn 0
   ·refine At.c 0 ?_ ?_
    ·apply rt;exact At.r 1
    ·refine At.b 1 (λ_ e=>aQ [] (lU e)) λr23=>?_;refine At.J 5 0 [] 0 (λp24=>([(4,(eB p24))],[],[])) (λp24=>?_) λp24=>?_
     ·refine At.s 106 3 ?_ ?_
      ·refine At.g [106] 3 ?_;refine At.b 0 (λ_ e=>pZ hT (k:=1) k8 e) λs25=>?_;refine At.b 0 (λ_ e=>aQ [] (qQ e)) λr26=>?_;refine At.g [106] 2 ?_;refine At.s 113 0 ?_ ?_
       ·refine At.b 0 (λ_ e=>aQ [] (mQ e)) λr27=>?_;refine At.g [113] 2 ?_;apply rt;exact At.jn 0
       ·refine At.g [113] 3 ?_;apply rt;exact At.jn 0
      ·refine At.g [106,113] 10 ?_;apply rt;exact At.jn 0
     ·apply rt;exact At.r 0
end Go.UK
