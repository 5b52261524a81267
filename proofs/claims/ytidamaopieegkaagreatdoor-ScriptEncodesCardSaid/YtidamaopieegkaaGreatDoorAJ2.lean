/- A part of the proof: what the functions of the program compute. -/
import Derived.Test.YtidamaopieegkaaGreatDoorAJ1
open Option renaming bind→aa
open Vector renaming replicate→al
namespace Go.UK
open Go Go.Proofs
set_option maxRecDepth 20000
set_option maxHeartbeats 40000000
set_option linter.all false
attribute [local irreducible] adv aBj vA oD brPt aDJ aBb lA rE aDE bT iC cT wZ aBi aAc lPt owp awl aw FnM opS Stab TOK Big
def kX(N:Nat)(r3:bA):Nat->(Vector Int 32)->Int->Option ((Vector Int 32))
 | 0,_,_=>none
 | k+1,s5,s6=>
  cond (decide (s6 < 8)) (
   aa (idx r3.gh.toList s6) λe7=>
   bS (I64 ((I64 (4*s6))+1)) λx8=>
   bS (I64 ((I64 (4*s6))+2)) λx9=>
   bS (I64 ((I64 (4*s6))+3)) λx10=>
   aa (jL (I64 (4*s6)) 32) λ_=>
   aa (s5.toList[(I64 (4*s6)).toNat]?) λe12=>
   aa (jL x8 32) λ_=>
   aa ((s5.setIfInBounds ((I64 (4*s6)).toNat) (U8 (shr .u32 e7 24))).toList[x8.toNat]?) λe14=>
   aa (jL x9 32) λ_=>
   aa (((s5.setIfInBounds ((I64 (4*s6)).toNat) (U8 (shr .u32 e7 24))).setIfInBounds x8.toNat (U8 (shr .u32 e7 16))).toList[x9.toNat]?) λe16=>
   aa (jL x10 32) λ_=>
   aa ((((s5.setIfInBounds ((I64 (4*s6)).toNat) (U8 (shr .u32 e7 24))).setIfInBounds x8.toNat (U8 (shr .u32 e7 16))).setIfInBounds x9.toNat (U8 (shr .u32 e7 8))).toList[x10.toNat]?) λe18=>
   kX N r3 k ((((s5.setIfInBounds ((I64 (4*s6)).toNat) (U8 (shr .u32 e7 24))).setIfInBounds x8.toNat (U8 (shr .u32 e7 16))).setIfInBounds x9.toNat (U8 (shr .u32 e7 8))).setIfInBounds x10.toNat (U8 e7)) (I64 (s6+1))) (
   some s5)
def mG(N:Nat)(a0:bA):Option ((Vector Int 32)):=
 aa (jZ N a0) λr1=>
 cond r1 (
  some (al 32 0)) (
  aa (vD N a0.gn) λr2=>
  aa (iS N ([r2]) a0) λr3=>
  aa (kX N r3 N (al 32 0) 0) λp4=>
  some p4)
theorem uS{N a0 r}(h:mG N a0=some r):FnM Tryz.prog 114 [.var (bA.enc a0)] [(.ref 0 [] 0)] (eA 32 1 k8 r) [.var (bA.enc a0)]:=by
 unfold mG at h;refine At.f dQ hT hmo Tryz.func114 rfl h ?_;refine At.b 2 (λ_ e=>aM [0] (oH e)) λr1=>?_;refine At.c 0 ?_ ?_
 ·apply rt;exact At.r 2
 ·refine At.b 9 (λ_ e=>aM [] (aCb e)) λr2=>?_;refine At.o 0 (bV hT (x:=(.sl 1 1 [(eL 1 k8 r2)]))) ?_;refine At.b 0 (λ_ e=>aM [2] (mS e)) λr3=>?_;refine At.L 4 [2,4] 4 (λp4=>([],[(3,.var (eA 32 1 k8 p4))],[])) (λp4 J k=>∃s5 s6,kX N r3 k s5 s6=some p4/\J [2,4,21] 4 [(22,(j64 s6))] [(3,.var (eA 32 1 k8 s5))] []) N (λ_ h=>⟨_,_,h,jr⟩) (λp4 k s hI=>?_) λp4=>?_
  ·obtain⟨s5,s6,h,hj⟩:=hI;cases k with
   | zero=>cases h
   | succ k=>
    refine At.jr hj ?_ h;refine At.c 1 ?_ ?_
    ·refine At.b 1 (λ_ e=>aFs hT k32 r3.gh e (by kernel_rfl) (by kernel_rfl)) λe7=>?_;refine lx ?_;intro x8;refine lx ?_;intro x9;refine lx ?_;intro x10;refine At.b 24 (λ_ e=>cL hT (k:=1) 3 [] 0 e) λu11=>?_;refine At.b 0 (λ_ e=>qK hT k8 0 s5 e (U8 (shr .u32 e7 24)) (by kernel_rfl) (by kernel_rfl) (H':=[.var (bA.enc a0),.var (eA 32 1 k8 (al 32 0)),.var (bA.enc r3),.var (eA 32 1 k8 (s5.setIfInBounds ((I64 (4*s6)).toNat) (U8 (shr .u32 e7 24))))])) λe12=>?_;refine At.b 0 (λ_ e=>cL hT (k:=1) 3 [] 0 e) λu13=>?_;refine At.b 0 (λ_ e=>qK hT k8 0 (s5.setIfInBounds ((I64 (4*s6)).toNat) (U8 (shr .u32 e7 24))) e (U8 (shr .u32 e7 16)) (by kernel_rfl) (by kernel_rfl) (H':=[.var (bA.enc a0),.var (eA 32 1 k8 (al 32 0)),.var (bA.enc r3),.var (eA 32 1 k8 ((s5.setIfInBounds ((I64 (4*s6)).toNat) (U8 (shr .u32 e7 24))).setIfInBounds x8.toNat (U8 (shr .u32 e7 16))))])) λe14=>?_;refine At.b 0 (λ_ e=>cL hT (k:=1) 3 [] 0 e) λu15=>?_;refine At.b 0 (λ_ e=>qK hT k8 0 ((s5.setIfInBounds ((I64 (4*s6)).toNat) (U8 (shr .u32 e7 24))).setIfInBounds x8.toNat (U8 (shr .u32 e7 16))) e (U8 (shr .u32 e7 8)) (by kernel_rfl) (by kernel_rfl) (H':=[.var (bA.enc a0),.var (eA 32 1 k8 (al 32 0)),.var (bA.enc r3),.var (eA 32 1 k8 (((s5.setIfInBounds ((I64 (4*s6)).toNat) (U8 (shr .u32 e7 24))).setIfInBounds x8.toNat (U8 (shr .u32 e7 16))).setIfInBounds x9.toNat (U8 (shr .u32 e7 8))))])) λe16=>?_;refine At.b 0 (λ_ e=>cL hT (k:=1) 3 [] 0 e) λu17=>?_;refine At.b 0 (λ_ e=>qK hT k8 0 (((s5.setIfInBounds ((I64 (4*s6)).toNat) (U8 (shr .u32 e7 24))).setIfInBounds x8.toNat (U8 (shr .u32 e7 16))).setIfInBounds x9.toNat (U8 (shr .u32 e7 8))) e (U8 e7) (by kernel_rfl) (by kernel_rfl) (H':=[.var (bA.enc a0),.var (eA 32 1 k8 (al 32 0)),.var (bA.enc r3),.var (eA 32 1 k8 ((((s5.setIfInBounds ((I64 (4*s6)).toNat) (U8 (shr .u32 e7 24))).setIfInBounds x8.toNat (U8 (shr .u32 e7 16))).setIfInBounds x9.toNat (U8 (shr .u32 e7 8))).setIfInBounds x10.toNat (U8 e7)))])) λe18=>?_;exact λh=>At.k 2 ⟨_,_,h,jr⟩
    ·apply rt;exact At.x 0
  ·apply rt;exact At.r 2
def vK(N:Nat)(a0:(List (List Int))):Option ((Vector Int 32)):=
 aa (uY N ) λr1=>
 aa (iS N a0 (bA.mk (#v[1779033703,3144134277,1013904242,2773480762,1359893119,2600822924,528734635,1541459225]) (al 64 0) 0)) λr2=>
 aa (mG N r2) λr3=>
 some r3
theorem aCe{N a0 r}(h:vK N a0=some r):FnM Tryz.prog 75 [] [(eL 1 (eL 1 k8) a0)] (eA 32 1 k8 r) []:=by
 unfold vK at h;refine At.f dQ hT hmo Tryz.func75 rfl h ?_;refine At.b 1 (λ_ e=>aM [] (aB6 e)) λr1=>?_;refine At.b 3 (λ_ e=>aM [1] (mS e)) λr2=>?_;refine At.b 1 (λ_ e=>aM [1] (uS e)) λr3=>?_;apply rt;exact At.r 1
def pB(N:Nat)(a0:Int):Option ((Vector Int 32)):=
 aa (cN N (([117,109,98,114,97,32,97,117,100,105,116,32,99,104,97,105,110]:List Int)) 8 ([a0])) λr1=>
 aa (vK N ([r1.1])) λr2=>
 some r2
theorem yU{N a0 r}(h:pB N a0=some r):FnM Tryz.prog 56 [] [(j64 a0)] (eA 32 1 k8 r) []:=by
 unfold pB at h;refine At.f dQ hT hmo Tryz.func56 rfl h ?_;refine At.l2 hT 1 (d1:=6) (d2:=7) (t:=25) (e:=5) k8 (z:=1) ([117,109,98,114,97,32,97,117,100,105,116,32,99,104,97,105,110]:List Int) rfl rfl rfl ?_;refine At.o 1 (bV hT (x:=(.sl 1 1 [(j64 a0)]))) ?_;refine At.b 0 (λ_ e=>aM [] (lI e)) λr1=>?_;refine At.wk 6 13 ((eL 1 k8 r1.1)) ?_;refine At.o 0 (bV hT (x:=(.sl 1 1 [(eL 1 k8 r1.1)]))) ?_;refine At.b 0 (λ_ e=>aM [] (aCe e)) λr2=>?_;apply rt;exact At.r 1
def fV(N:Nat)(a0:Int):Option ((Vector Int 32)):=
 aa (pB N a0) λr1=>
 some r1
theorem iI{N a0 r}(h:fV N a0=some r):FnM Tryz.prog 44 [] [(j64 a0)] (.ref 0 [] 0) [.var (.st 35 [(.st 34 [(eA 32 1 k8 r),(k32 0),(eB true)]),(eL 36 aO.enc (([]:(List aO))))])]:=by
 unfold fV at h;refine At.f dQ hT hmo Tryz.func44 rfl h ?_;refine At.b 2 (λ_ e=>aM [] (yU e)) λr1=>?_;apply rt;exact At.r 4
def aCQ : Nat->Bool:=imL [1]
def tT(N:Nat)(a0:(Vector Int 32)):Option ((Vector Int 32)×(Vector Int 32)×(Vector Int 32)×(Vector Int 32)×(Vector Int 32)×(Vector Int 32)×(Vector Int 32)×(Vector Int 32)):=
 aa (rN N ) λr1=>
 aa (fV N 0) λr2=>
 aa (fV N 1) λr3=>
 aa (fV N 2) λr4=>
 aa (fV N 3) λr5=>
 aa (fV N 4) λr6=>
 aa (fV N 5) λr7=>
 aa (fV N 6) λr8=>
 aa (fV N 7) λr9=>
 some ((r2,r3,r4,r5,r6,r7,r8,r9))
theorem aBs{N a0 r}(h:tT N a0=some r):FnM Tryz.prog 31 [] [(eA 32 1 k8 a0)] (.ref 3 [] 0) [.mp (eM .i64 aQ.enc []),.mp (.kv []),.var (.st 2 [(.mp 0),(.mp 1)]),.var (.st 429 [(eA 32 1 k8 a0),(.ref 2 [] 0),(k32 0),(.st 392 [(.st 49 [eT,(eB false),(j64 0),(.v (.pointer none)),(.ref 4 [] 0),(eA 24 3 aA.enc (al 8 (aA.mk 0 0 0)))]),(.st 49 [eT,(eB false),(j64 0),(.v (.pointer none)),(.ref 5 [] 0),(eA 24 3 aA.enc (al 8 (aA.mk 0 0 0)))]),(.st 49 [eT,(eB false),(j64 0),(.v (.pointer none)),(.ref 6 [] 0),(eA 24 3 aA.enc (al 8 (aA.mk 0 0 0)))]),(.st 49 [eT,(eB false),(j64 0),(.v (.pointer none)),(.ref 7 [] 0),(eA 24 3 aA.enc (al 8 (aA.mk 0 0 0)))]),(.st 49 [eT,(eB false),(j64 0),(.v (.pointer none)),(.ref 8 [] 0),(eA 24 3 aA.enc (al 8 (aA.mk 0 0 0)))]),(.st 49 [eT,(eB false),(j64 0),(.v (.pointer none)),(.ref 9 [] 0),(eA 24 3 aA.enc (al 8 (aA.mk 0 0 0)))]),(.st 49 [eT,(eB false),(j64 0),(.v (.pointer none)),(.ref 10 [] 0),(eA 24 3 aA.enc (al 8 (aA.mk 0 0 0)))]),(.st 49 [eT,(eB false),(j64 0),(.v (.pointer none)),(.ref 11 [] 0),(eA 24 3 aA.enc (al 8 (aA.mk 0 0 0)))])]),(.st 3 [(j64 0),(j64 0),(j64 0)])]),.var (.st 35 [(.st 34 [(eA 32 1 k8 r.1),(k32 0),(eB true)]),(eL 36 aO.enc (([]:(List aO))))]),.var (.st 35 [(.st 34 [(eA 32 1 k8 r.2.1),(k32 0),(eB true)]),(eL 36 aO.enc (([]:(List aO))))]),.var (.st 35 [(.st 34 [(eA 32 1 k8 r.2.2.1),(k32 0),(eB true)]),(eL 36 aO.enc (([]:(List aO))))]),.var (.st 35 [(.st 34 [(eA 32 1 k8 r.2.2.2.1),(k32 0),(eB true)]),(eL 36 aO.enc (([]:(List aO))))]),.var (.st 35 [(.st 34 [(eA 32 1 k8 r.2.2.2.2.1),(k32 0),(eB true)]),(eL 36 aO.enc (([]:(List aO))))]),.var (.st 35 [(.st 34 [(eA 32 1 k8 r.2.2.2.2.2.1),(k32 0),(eB true)]),(eL 36 aO.enc (([]:(List aO))))]),.var (.st 35 [(.st 34 [(eA 32 1 k8 r.2.2.2.2.2.2.1),(k32 0),(eB true)]),(eL 36 aO.enc (([]:(List aO))))]),.var (.st 35 [(.st 34 [(eA 32 1 k8 r.2.2.2.2.2.2.2),(k32 0),(eB true)]),(eL 36 aO.enc (([]:(List aO))))])]:=by
 unfold tT at h;refine At.f aCQ hT hmo Tryz.func31 rfl h ?_;refine bi λr1 hr1=>?_;refine At.d 2 dE0 (dF 1 (.ref 2 [] 0) [] [.mp (eM .i64 aQ.enc []),.mp (.kv []),.var (.st 2 [(.mp 0),(.mp 1)])] (bK (aM [] (aAv hr1))) dF0) ?_;refine At.u 40 1 ?_;refine bi λr2 hr2=>?_;refine At.d 4 dE0 (dF 3 (.ref 4 [] 0) [] [.var (.st 35 [(.st 34 [(eA 32 1 k8 r2),(k32 0),(eB true)]),(eL 36 aO.enc (([]:(List aO))))])] (bK (aM [] (iI hr2))) dF0) ?_;refine bi λr3 hr3=>?_;refine At.d 6 dE0 (dF 3 (.ref 5 [] 0) [] [.var (.st 35 [(.st 34 [(eA 32 1 k8 r3),(k32 0),(eB true)]),(eL 36 aO.enc (([]:(List aO))))])] (bK (aM [] (iI hr3))) dF0) ?_;refine bi λr4 hr4=>?_;refine At.d 6 dE0 (dF 3 (.ref 6 [] 0) [] [.var (.st 35 [(.st 34 [(eA 32 1 k8 r4),(k32 0),(eB true)]),(eL 36 aO.enc (([]:(List aO))))])] (bK (aM [] (iI hr4))) dF0) ?_;refine bi λr5 hr5=>?_;refine At.d 6 dE0 (dF 3 (.ref 7 [] 0) [] [.var (.st 35 [(.st 34 [(eA 32 1 k8 r5),(k32 0),(eB true)]),(eL 36 aO.enc (([]:(List aO))))])] (bK (aM [] (iI hr5))) dF0) ?_;refine bi λr6 hr6=>?_;refine At.d 6 dE0 (dF 3 (.ref 8 [] 0) [] [.var (.st 35 [(.st 34 [(eA 32 1 k8 r6),(k32 0),(eB true)]),(eL 36 aO.enc (([]:(List aO))))])] (bK (aM [] (iI hr6))) dF0) ?_;refine bi λr7 hr7=>?_;refine At.d 6 dE0 (dF 3 (.ref 9 [] 0) [] [.var (.st 35 [(.st 34 [(eA 32 1 k8 r7),(k32 0),(eB true)]),(eL 36 aO.enc (([]:(List aO))))])] (bK (aM [] (iI hr7))) dF0) ?_;refine bi λr8 hr8=>?_;refine At.d 6 dE0 (dF 3 (.ref 10 [] 0) [] [.var (.st 35 [(.st 34 [(eA 32 1 k8 r8),(k32 0),(eB true)]),(eL 36 aO.enc (([]:(List aO))))])] (bK (aM [] (iI hr8))) dF0) ?_;refine bi λr9 hr9=>?_;refine At.d 6 dE0 (dF 3 (.ref 11 [] 0) [] [.var (.st 35 [(.st 34 [(eA 32 1 k8 r9),(k32 0),(eB true)]),(eL 36 aO.enc (([]:(List aO))))])] (bK (aM [] (iI hr9))) dF0) ?_;apply rt;exact At.r 6
def jS(N:Nat)(b10:(List (Int×aQ)))(a1:(Vector Int 32))(a2:Int)(a3:aB)(a4:Bool)(a5:Int)(a6:(Vector aA 8))(a7:aB)(a8:Bool)(a9:Int)(a10:(Vector aA 8))(a11:aB)(a12:Bool)(a13:Int)(a14:(Vector aA 8))(a15:aB)(a16:Bool)(a17:Int)(a18:(Vector aA 8))(a19:aB)(a20:Bool)(a21:Int)(a22:(Vector aA 8))(a23:aB)(a24:Bool)(a25:Int)(a26:(Vector aA 8))(a27:aB)(a28:Bool)(a29:Int)(a30:(Vector aA 8))(a31:aB)(a32:Bool)(a33:Int)(a34:(Vector aA 8))(a35:aY)(a36 a37 a38 a39 a40 a41 a42 a43:aD):Option (Unit):=
 some (())
theorem qG{N b10 a1 a2 a3 a4 a5 a6 a7 a8 a9 a10 a11 a12 a13 a14 a15 a16 a17 a18 a19 a20 a21 a22 a23 a24 a25 a26 a27 a28 a29 a30 a31 a32 a33 a34 a35 a36 a37 a38 a39 a40 a41 a42 a43 r}(h:jS N b10 a1 a2 a3 a4 a5 a6 a7 a8 a9 a10 a11 a12 a13 a14 a15 a16 a17 a18 a19 a20 a21 a22 a23 a24 a25 a26 a27 a28 a29 a30 a31 a32 a33 a34 a35 a36 a37 a38 a39 a40 a41 a42 a43=some r):FnM Tryz.prog 45 [.var (.st 429 [(eA 32 1 k8 a1),(.ref 1 [] 0),(k32 a2),(.st 392 [(.st 49 [(aB.enc a3),(eB a4),(j64 a5),(.v (.pointer none)),(.ref 2 [] 0),(eA 24 3 aA.enc a6)]),(.st 49 [(aB.enc a7),(eB a8),(j64 a9),(.v (.pointer none)),(.ref 3 [] 0),(eA 24 3 aA.enc a10)]),(.st 49 [(aB.enc a11),(eB a12),(j64 a13),(.v (.pointer none)),(.ref 4 [] 0),(eA 24 3 aA.enc a14)]),(.st 49 [(aB.enc a15),(eB a16),(j64 a17),(.v (.pointer none)),(.ref 5 [] 0),(eA 24 3 aA.enc a18)]),(.st 49 [(aB.enc a19),(eB a20),(j64 a21),(.v (.pointer none)),(.ref 6 [] 0),(eA 24 3 aA.enc a22)]),(.st 49 [(aB.enc a23),(eB a24),(j64 a25),(.v (.pointer none)),(.ref 7 [] 0),(eA 24 3 aA.enc a26)]),(.st 49 [(aB.enc a27),(eB a28),(j64 a29),(.v (.pointer none)),(.ref 8 [] 0),(eA 24 3 aA.enc a30)]),(.st 49 [(aB.enc a31),(eB a32),(j64 a33),(.v (.pointer none)),(.ref 9 [] 0),(eA 24 3 aA.enc a34)])]),(aY.enc a35)]),.var (.st 2 [(.mp 10),(.mp 11)]),.var (aD.enc a36),.var (aD.enc a37),.var (aD.enc a38),.var (aD.enc a39),.var (aD.enc a40),.var (aD.enc a41),.var (aD.enc a42),.var (aD.enc a43),.mp (eM .i64 aQ.enc b10),.mp (.kv [])] [(.ref 0 [] 0)] (eB false) [.var (.st 429 [(eA 32 1 k8 a1),(.ref 1 [] 0),(k32 a2),(.st 392 [(.st 49 [(aB.enc a3),(eB a4),(j64 a5),(.v (.pointer none)),(.ref 2 [] 0),(eA 24 3 aA.enc a6)]),(.st 49 [(aB.enc a7),(eB a8),(j64 a9),(.v (.pointer none)),(.ref 3 [] 0),(eA 24 3 aA.enc a10)]),(.st 49 [(aB.enc a11),(eB a12),(j64 a13),(.v (.pointer none)),(.ref 4 [] 0),(eA 24 3 aA.enc a14)]),(.st 49 [(aB.enc a15),(eB a16),(j64 a17),(.v (.pointer none)),(.ref 5 [] 0),(eA 24 3 aA.enc a18)]),(.st 49 [(aB.enc a19),(eB a20),(j64 a21),(.v (.pointer none)),(.ref 6 [] 0),(eA 24 3 aA.enc a22)]),(.st 49 [(aB.enc a23),(eB a24),(j64 a25),(.v (.pointer none)),(.ref 7 [] 0),(eA 24 3 aA.enc a26)]),(.st 49 [(aB.enc a27),(eB a28),(j64 a29),(.v (.pointer none)),(.ref 8 [] 0),(eA 24 3 aA.enc a30)]),(.st 49 [(aB.enc a31),(eB a32),(j64 a33),(.v (.pointer none)),(.ref 9 [] 0),(eA 24 3 aA.enc a34)])]),(aY.enc a35)]),.var (.st 2 [(.mp 10),(.mp 11)]),.var (aD.enc a36),.var (aD.enc a37),.var (aD.enc a38),.var (aD.enc a39),.var (aD.enc a40),.var (aD.enc a41),.var (aD.enc a42),.var (aD.enc a43),.mp (eM .i64 aQ.enc b10),.mp (.kv [])]:=by
 unfold jS at h;refine At.f dQ hT hmo Tryz.func45 rfl h ?_;refine At.o 2 (qC hT (t:=85) (x:=(.ref 0 [] 0)) (b:=true) (by kernel_rfl) rfl rfl (by kernel_rfl)) ?_;refine At.g [5] 5 ?_;refine At.o 0 (qC hT (t:=99) (x:=(.ref 1 [] 0)) (b:=true) (by kernel_rfl) rfl rfl (by kernel_rfl)) ?_;refine At.g [5] 2 ?_;apply rt;exact At.r 0
def jD(N:Nat)(a0:Int):Option (aU):=
 some (aU.mk a0 [] [])
theorem kS{N a0 r}(h:jD N a0=some r):FnM Tryz.prog 46 [] [(j64 a0)] (aU.enc r) []:=by
 unfold jD at h;refine At.f dQ hT hmo Tryz.func46 rfl h ?_;apply rt;exact At.r 4
def dS(N:Nat)(b10:(List (Int×aQ)))(a1:Int)(a2:(Vector Int 32))(a3:Int)(a4:aB)(a5:Bool)(a6:Int)(a7:(Vector aA 8))(a8:aB)(a9:Bool)(a10:Int)(a11:(Vector aA 8))(a12:aB)(a13:Bool)(a14:Int)(a15:(Vector aA 8))(a16:aB)(a17:Bool)(a18:Int)(a19:(Vector aA 8))(a20:aB)(a21:Bool)(a22:Int)(a23:(Vector aA 8))(a24:aB)(a25:Bool)(a26:Int)(a27:(Vector aA 8))(a28:aB)(a29:Bool)(a30:Int)(a31:(Vector aA 8))(a32:aB)(a33:Bool)(a34:Int)(a35:(Vector aA 8))(a36:aY)(a37 a38 a39 a40 a41 a42 a43 a44:aD):Option (Sum (Unit) (Unit)):=
 bS (cond (decide (a1 < 0)) true (decide (a1>=8))) λx1=>
 cond x1 (
  some (Sum.inl (()))) (
  aa (isO a1 0) λ_=>
  some (Sum.inr (())))
theorem lD{N b10 a1 a2 a3 a4 a5 a6 a7 a8 a9 a10 a11 a12 a13 a14 a15 a16 a17 a18 a19 a20 a21 a22 a23 a24 a25 a26 a27 a28 a29 a30 a31 a32 a33 a34 a35 a36 a37 a38 a39 a40 a41 a42 a43 a44 r}(h:dS N b10 a1 a2 a3 a4 a5 a6 a7 a8 a9 a10 a11 a12 a13 a14 a15 a16 a17 a18 a19 a20 a21 a22 a23 a24 a25 a26 a27 a28 a29 a30 a31 a32 a33 a34 a35 a36 a37 a38 a39 a40 a41 a42 a43 a44=some r):FnM Tryz.prog 52 [.var (.st 429 [(eA 32 1 k8 a2),(.ref 1 [] 0),(k32 a3),(.st 392 [(.st 49 [(aB.enc a4),(eB a5),(j64 a6),(.v (.pointer none)),(.ref 2 [] 0),(eA 24 3 aA.enc a7)]),(.st 49 [(aB.enc a8),(eB a9),(j64 a10),(.v (.pointer none)),(.ref 3 [] 0),(eA 24 3 aA.enc a11)]),(.st 49 [(aB.enc a12),(eB a13),(j64 a14),(.v (.pointer none)),(.ref 4 [] 0),(eA 24 3 aA.enc a15)]),(.st 49 [(aB.enc a16),(eB a17),(j64 a18),(.v (.pointer none)),(.ref 5 [] 0),(eA 24 3 aA.enc a19)]),(.st 49 [(aB.enc a20),(eB a21),(j64 a22),(.v (.pointer none)),(.ref 6 [] 0),(eA 24 3 aA.enc a23)]),(.st 49 [(aB.enc a24),(eB a25),(j64 a26),(.v (.pointer none)),(.ref 7 [] 0),(eA 24 3 aA.enc a27)]),(.st 49 [(aB.enc a28),(eB a29),(j64 a30),(.v (.pointer none)),(.ref 8 [] 0),(eA 24 3 aA.enc a31)]),(.st 49 [(aB.enc a32),(eB a33),(j64 a34),(.v (.pointer none)),(.ref 9 [] 0),(eA 24 3 aA.enc a35)])]),(aY.enc a36)]),.var (.st 2 [(.mp 10),(.mp 11)]),.var (aD.enc a37),.var (aD.enc a38),.var (aD.enc a39),.var (aD.enc a40),.var (aD.enc a41),.var (aD.enc a42),.var (aD.enc a43),.var (aD.enc a44),.mp (eM .i64 aQ.enc b10),.mp (.kv [])] [(.ref 0 [] 0),(j64 a1)] (selS r (λr=>(.tup [(.v (.pointer none)),(eB false)])) (λr=>(.tup [(.ref 0 [3,0] 34),(eB true)]))) (selS r (λr=>[.var (.st 429 [(eA 32 1 k8 a2),(.ref 1 [] 0),(k32 a3),(.st 392 [(.st 49 [(aB.enc a4),(eB a5),(j64 a6),(.v (.pointer none)),(.ref 2 [] 0),(eA 24 3 aA.enc a7)]),(.st 49 [(aB.enc a8),(eB a9),(j64 a10),(.v (.pointer none)),(.ref 3 [] 0),(eA 24 3 aA.enc a11)]),(.st 49 [(aB.enc a12),(eB a13),(j64 a14),(.v (.pointer none)),(.ref 4 [] 0),(eA 24 3 aA.enc a15)]),(.st 49 [(aB.enc a16),(eB a17),(j64 a18),(.v (.pointer none)),(.ref 5 [] 0),(eA 24 3 aA.enc a19)]),(.st 49 [(aB.enc a20),(eB a21),(j64 a22),(.v (.pointer none)),(.ref 6 [] 0),(eA 24 3 aA.enc a23)]),(.st 49 [(aB.enc a24),(eB a25),(j64 a26),(.v (.pointer none)),(.ref 7 [] 0),(eA 24 3 aA.enc a27)]),(.st 49 [(aB.enc a28),(eB a29),(j64 a30),(.v (.pointer none)),(.ref 8 [] 0),(eA 24 3 aA.enc a31)]),(.st 49 [(aB.enc a32),(eB a33),(j64 a34),(.v (.pointer none)),(.ref 9 [] 0),(eA 24 3 aA.enc a35)])]),(aY.enc a36)]),.var (.st 2 [(.mp 10),(.mp 11)]),.var (aD.enc a37),.var (aD.enc a38),.var (aD.enc a39),.var (aD.enc a40),.var (aD.enc a41),.var (aD.enc a42),.var (aD.enc a43),.var (aD.enc a44),.mp (eM .i64 aQ.enc b10),.mp (.kv [])]) (λr=>[.var (.st 429 [(eA 32 1 k8 a2),(.ref 1 [] 0),(k32 a3),(.st 392 [(.st 49 [(aB.enc a4),(eB a5),(j64 a6),(.v (.pointer none)),(.ref 2 [] 0),(eA 24 3 aA.enc a7)]),(.st 49 [(aB.enc a8),(eB a9),(j64 a10),(.v (.pointer none)),(.ref 3 [] 0),(eA 24 3 aA.enc a11)]),(.st 49 [(aB.enc a12),(eB a13),(j64 a14),(.v (.pointer none)),(.ref 4 [] 0),(eA 24 3 aA.enc a15)]),(.st 49 [(aB.enc a16),(eB a17),(j64 a18),(.v (.pointer none)),(.ref 5 [] 0),(eA 24 3 aA.enc a19)]),(.st 49 [(aB.enc a20),(eB a21),(j64 a22),(.v (.pointer none)),(.ref 6 [] 0),(eA 24 3 aA.enc a23)]),(.st 49 [(aB.enc a24),(eB a25),(j64 a26),(.v (.pointer none)),(.ref 7 [] 0),(eA 24 3 aA.enc a27)]),(.st 49 [(aB.enc a28),(eB a29),(j64 a30),(.v (.pointer none)),(.ref 8 [] 0),(eA 24 3 aA.enc a31)]),(.st 49 [(aB.enc a32),(eB a33),(j64 a34),(.v (.pointer none)),(.ref 9 [] 0),(eA 24 3 aA.enc a35)])]),(aY.enc a36)]),.var (.st 2 [(.mp 10),(.mp 11)]),.var (aD.enc a37),.var (aD.enc a38),.var (aD.enc a39),.var (aD.enc a40),.var (aD.enc a41),.var (aD.enc a42),.var (aD.enc a43),.var (aD.enc a44),.mp (eM .i64 aQ.enc b10),.mp (.kv [])])):=by
 unfold dS at h;refine At.f dQ hT hmo Tryz.func52 rfl h ?_;refine lx ?_;intro x1;refine At.c 8 ?_ ?_
 ·apply rt;exact At.r 2
 ·refine At.b 4 (λ_ e=>aGK hT 8 (k:=49) 0 [3] 34 e (by kernel_rfl) (by kernel_rfl)) λu2=>?_;apply rt;exact At.r 2
theorem oC{N b10 a1 a2 a3 a4 a5 a6 a7 a8 a9 a10 a11 a12 a13 a14 a15 a16 a17 a18 a19 a20 a21 a22 a23 a24 a25 a26 a27 a28 a29 a30 a31 a32 a33 a34 a35 a36 a37 a38 a39 a40 a41 a42 a43 a44 r}(h:dS N b10 a1 a2 a3 a4 a5 a6 a7 a8 a9 a10 a11 a12 a13 a14 a15 a16 a17 a18 a19 a20 a21 a22 a23 a24 a25 a26 a27 a28 a29 a30 a31 a32 a33 a34 a35 a36 a37 a38 a39 a40 a41 a42 a43 a44=some (Sum.inl r)):FnM Tryz.prog 52 [.var (.st 429 [(eA 32 1 k8 a2),(.ref 1 [] 0),(k32 a3),(.st 392 [(.st 49 [(aB.enc a4),(eB a5),(j64 a6),(.v (.pointer none)),(.ref 2 [] 0),(eA 24 3 aA.enc a7)]),(.st 49 [(aB.enc a8),(eB a9),(j64 a10),(.v (.pointer none)),(.ref 3 [] 0),(eA 24 3 aA.enc a11)]),(.st 49 [(aB.enc a12),(eB a13),(j64 a14),(.v (.pointer none)),(.ref 4 [] 0),(eA 24 3 aA.enc a15)]),(.st 49 [(aB.enc a16),(eB a17),(j64 a18),(.v (.pointer none)),(.ref 5 [] 0),(eA 24 3 aA.enc a19)]),(.st 49 [(aB.enc a20),(eB a21),(j64 a22),(.v (.pointer none)),(.ref 6 [] 0),(eA 24 3 aA.enc a23)]),(.st 49 [(aB.enc a24),(eB a25),(j64 a26),(.v (.pointer none)),(.ref 7 [] 0),(eA 24 3 aA.enc a27)]),(.st 49 [(aB.enc a28),(eB a29),(j64 a30),(.v (.pointer none)),(.ref 8 [] 0),(eA 24 3 aA.enc a31)]),(.st 49 [(aB.enc a32),(eB a33),(j64 a34),(.v (.pointer none)),(.ref 9 [] 0),(eA 24 3 aA.enc a35)])]),(aY.enc a36)]),.var (.st 2 [(.mp 10),(.mp 11)]),.var (aD.enc a37),.var (aD.enc a38),.var (aD.enc a39),.var (aD.enc a40),.var (aD.enc a41),.var (aD.enc a42),.var (aD.enc a43),.var (aD.enc a44),.mp (eM .i64 aQ.enc b10),.mp (.kv [])] [(.ref 0 [] 0),(j64 a1)] (.tup [(.v (.pointer none)),(eB false)]) [.var (.st 429 [(eA 32 1 k8 a2),(.ref 1 [] 0),(k32 a3),(.st 392 [(.st 49 [(aB.enc a4),(eB a5),(j64 a6),(.v (.pointer none)),(.ref 2 [] 0),(eA 24 3 aA.enc a7)]),(.st 49 [(aB.enc a8),(eB a9),(j64 a10),(.v (.pointer none)),(.ref 3 [] 0),(eA 24 3 aA.enc a11)]),(.st 49 [(aB.enc a12),(eB a13),(j64 a14),(.v (.pointer none)),(.ref 4 [] 0),(eA 24 3 aA.enc a15)]),(.st 49 [(aB.enc a16),(eB a17),(j64 a18),(.v (.pointer none)),(.ref 5 [] 0),(eA 24 3 aA.enc a19)]),(.st 49 [(aB.enc a20),(eB a21),(j64 a22),(.v (.pointer none)),(.ref 6 [] 0),(eA 24 3 aA.enc a23)]),(.st 49 [(aB.enc a24),(eB a25),(j64 a26),(.v (.pointer none)),(.ref 7 [] 0),(eA 24 3 aA.enc a27)]),(.st 49 [(aB.enc a28),(eB a29),(j64 a30),(.v (.pointer none)),(.ref 8 [] 0),(eA 24 3 aA.enc a31)]),(.st 49 [(aB.enc a32),(eB a33),(j64 a34),(.v (.pointer none)),(.ref 9 [] 0),(eA 24 3 aA.enc a35)])]),(aY.enc a36)]),.var (.st 2 [(.mp 10),(.mp 11)]),.var (aD.enc a37),.var (aD.enc a38),.var (aD.enc a39),.var (aD.enc a40),.var (aD.enc a41),.var (aD.enc a42),.var (aD.enc a43),.var (aD.enc a44),.mp (eM .i64 aQ.enc b10),.mp (.kv [])]:=lD h
theorem oF{N b10 a1 a2 a3 a4 a5 a6 a7 a8 a9 a10 a11 a12 a13 a14 a15 a16 a17 a18 a19 a20 a21 a22 a23 a24 a25 a26 a27 a28 a29 a30 a31 a32 a33 a34 a35 a36 a37 a38 a39 a40 a41 a42 a43 a44 r}(h:dS N b10 a1 a2 a3 a4 a5 a6 a7 a8 a9 a10 a11 a12 a13 a14 a15 a16 a17 a18 a19 a20 a21 a22 a23 a24 a25 a26 a27 a28 a29 a30 a31 a32 a33 a34 a35 a36 a37 a38 a39 a40 a41 a42 a43 a44=some (Sum.inr r)):FnM Tryz.prog 52 [.var (.st 429 [(eA 32 1 k8 a2),(.ref 1 [] 0),(k32 a3),(.st 392 [(.st 49 [(aB.enc a4),(eB a5),(j64 a6),(.v (.pointer none)),(.ref 2 [] 0),(eA 24 3 aA.enc a7)]),(.st 49 [(aB.enc a8),(eB a9),(j64 a10),(.v (.pointer none)),(.ref 3 [] 0),(eA 24 3 aA.enc a11)]),(.st 49 [(aB.enc a12),(eB a13),(j64 a14),(.v (.pointer none)),(.ref 4 [] 0),(eA 24 3 aA.enc a15)]),(.st 49 [(aB.enc a16),(eB a17),(j64 a18),(.v (.pointer none)),(.ref 5 [] 0),(eA 24 3 aA.enc a19)]),(.st 49 [(aB.enc a20),(eB a21),(j64 a22),(.v (.pointer none)),(.ref 6 [] 0),(eA 24 3 aA.enc a23)]),(.st 49 [(aB.enc a24),(eB a25),(j64 a26),(.v (.pointer none)),(.ref 7 [] 0),(eA 24 3 aA.enc a27)]),(.st 49 [(aB.enc a28),(eB a29),(j64 a30),(.v (.pointer none)),(.ref 8 [] 0),(eA 24 3 aA.enc a31)]),(.st 49 [(aB.enc a32),(eB a33),(j64 a34),(.v (.pointer none)),(.ref 9 [] 0),(eA 24 3 aA.enc a35)])]),(aY.enc a36)]),.var (.st 2 [(.mp 10),(.mp 11)]),.var (aD.enc a37),.var (aD.enc a38),.var (aD.enc a39),.var (aD.enc a40),.var (aD.enc a41),.var (aD.enc a42),.var (aD.enc a43),.var (aD.enc a44),.mp (eM .i64 aQ.enc b10),.mp (.kv [])] [(.ref 0 [] 0),(j64 a1)] (.tup [(.ref 0 [3,0] 34),(eB true)]) [.var (.st 429 [(eA 32 1 k8 a2),(.ref 1 [] 0),(k32 a3),(.st 392 [(.st 49 [(aB.enc a4),(eB a5),(j64 a6),(.v (.pointer none)),(.ref 2 [] 0),(eA 24 3 aA.enc a7)]),(.st 49 [(aB.enc a8),(eB a9),(j64 a10),(.v (.pointer none)),(.ref 3 [] 0),(eA 24 3 aA.enc a11)]),(.st 49 [(aB.enc a12),(eB a13),(j64 a14),(.v (.pointer none)),(.ref 4 [] 0),(eA 24 3 aA.enc a15)]),(.st 49 [(aB.enc a16),(eB a17),(j64 a18),(.v (.pointer none)),(.ref 5 [] 0),(eA 24 3 aA.enc a19)]),(.st 49 [(aB.enc a20),(eB a21),(j64 a22),(.v (.pointer none)),(.ref 6 [] 0),(eA 24 3 aA.enc a23)]),(.st 49 [(aB.enc a24),(eB a25),(j64 a26),(.v (.pointer none)),(.ref 7 [] 0),(eA 24 3 aA.enc a27)]),(.st 49 [(aB.enc a28),(eB a29),(j64 a30),(.v (.pointer none)),(.ref 8 [] 0),(eA 24 3 aA.enc a31)]),(.st 49 [(aB.enc a32),(eB a33),(j64 a34),(.v (.pointer none)),(.ref 9 [] 0),(eA 24 3 aA.enc a35)])]),(aY.enc a36)]),.var (.st 2 [(.mp 10),(.mp 11)]),.var (aD.enc a37),.var (aD.enc a38),.var (aD.enc a39),.var (aD.enc a40),.var (aD.enc a41),.var (aD.enc a42),.var (aD.enc a43),.var (aD.enc a44),.mp (eM .i64 aQ.enc b10),.mp (.kv [])]:=lD h
def eX(N:Nat)(b1:(List (Int×aQ))):Option (Unit):=
 some (())
theorem jU{N b1 r}(h:eX N b1=some r):FnM Tryz.prog 62 [.var (.st 2 [(.mp 1),(.mp 2)]),.mp (eM .i64 aQ.enc b1),.mp (.kv [])] [(.ref 0 [] 0)] (eB false) [.var (.st 2 [(.mp 1),(.mp 2)]),.mp (eM .i64 aQ.enc b1),.mp (.kv [])]:=by
 unfold eX at h;refine At.f dQ hT hmo Tryz.func62 rfl h ?_;refine At.o 2 (qC hT (t:=99) (x:=(.ref 0 [] 0)) (b:=true) (by kernel_rfl) rfl rfl (by kernel_rfl)) ?_;refine At.g [5] 5 ?_;refine At.o 0 (aFy (t:=142) (kt:=3) (et:=161) (x:=(.mp 1)) (b:=true) (by kernel_rfl) rfl rfl (by kernel_rfl)) ?_;refine At.g [5] 2 ?_;apply rt;exact At.r 0
def aCa : Go.Shelf.Ren:=⟨λ | 5=>186 | 7=>239 | n=>n,λ | 23=>142 | 25=>3 | 3=>161 | 4=>4 | 20=>20 | n=>n,λ | n=>n⟩
theorem aHZ : SlLaysW.n5 Tryz.prog aCa where
 mixed:=by kernel_rfl
 f5:=⟨"maps.Clone[map[int]umbra/api.Row,int,umbra/api.Row]",by decide,Tryz.func186.trans (congrArg some (by kernel_rfl))⟩
 f7:=Tryz.func239.trans (congrArg some (by kernel_rfl))
 t4:=Tryz.underlying4
 a4:=Tryz.isAgg4
 z4:=Tryz.sizeOf4
 v4:=Tryz.zeroValue4
 t20:=Tryz.underlying20
 a20:=Tryz.isAgg20
 z20:=Tryz.sizeOf20
 v20:=Tryz.zeroValue20
 t23:=Tryz.underlying142
 a23:=Tryz.isAgg142
 z23:=Tryz.sizeOf142
 v23:=Tryz.zeroValue142
theorem aDl(l:List (Int×aQ)):FnM Tryz.prog 186 [.mp (eM .i64 aQ.enc l)] [.mp 0] (.mp 1) [.mp (eM .i64 aQ.enc l),.mp (eM .i64 aQ.enc l)]:=aBF aHZ rfl l
theorem aBn : jM Tryz.prog 186:=iY (show lT Tryz.prog 186=true by kernel_rfl)
def aCm : Go.Shelf.Ren:=⟨λ | 5=>187 | 7=>239 | n=>n,λ | 23=>143 | 25=>167 | 3=>45 | 4=>4 | 20=>20 | n=>n,λ | n=>n⟩
theorem aHG : SlLaysW.n5 Tryz.prog aCm where
 mixed:=by kernel_rfl
 f5:=⟨"maps.Clone[map[umbra/table.name]umbra/api.Affine,umbra/table.name,umbra/api.Affine]",by decide,Tryz.func187.trans (congrArg some (by kernel_rfl))⟩
 f7:=Tryz.func239.trans (congrArg some (by kernel_rfl))
 t4:=Tryz.underlying4
 a4:=Tryz.isAgg4
 z4:=Tryz.sizeOf4
 v4:=Tryz.zeroValue4
 t20:=Tryz.underlying20
 a20:=Tryz.isAgg20
 z20:=Tryz.sizeOf20
 v20:=Tryz.zeroValue20
 t23:=Tryz.underlying143
 a23:=Tryz.isAgg143
 z23:=Tryz.sizeOf143
 v23:=Tryz.zeroValue143
theorem aD3 : FnM Tryz.prog 187 [.mp (.kv [])] [.mp 0] (.mp 1) [.mp (.kv []),.mp (.kv [])]:=aBF (q := .i64) (F:=j64) aHG rfl []
theorem aBI : jM Tryz.prog 187:=iY (show lT Tryz.prog 187=true by kernel_rfl)
def kF(N:Nat)(b1:(List (Int×aQ))):Option (Unit):=
 aa (eX N b1) λr1=>
 some (())
theorem qZ{N b1 r}(h:kF N b1=some r):FnM Tryz.prog 141 [.var (.st 2 [(.mp 1),(.mp 2)]),.mp (eM .i64 aQ.enc b1),.mp (.kv [])] [(.ref 0 [] 0)] (.ref 5 [] 0) [.var (.st 2 [(.mp 1),(.mp 2)]),.mp (eM .i64 aQ.enc b1),.mp (.kv []),.mp (eM .i64 aQ.enc b1),.mp (.kv []),.var (.st 2 [(.mp 3),(.mp 4)])]:=by
 unfold kF at h;refine At.f dQ hT hmo Tryz.func141 rfl h ?_;refine At.b 2 (λ_ e=>aM [0,1,2] (jU e)) λr1=>?_;refine At.d 1 dE0 (dF 4 (.mp 3) [] [.mp (eM .i64 aQ.enc b1)] (bK (pW [1] (aDl b1) aBn)) (dF 9 (.mp 4) [] [.mp (.kv [])] (bK (pW [2] aD3 aBI)) dF0)) ?_;apply rt;exact At.r 0
def aDR : Go.Shelf.Ren:=⟨λ | 7=>192 | 10=>246 | n=>n,λ | 23=>142 | 26=>3 | 3=>161 | 28=>334 | 0=>0 | 27=>333 | 33=>394 | 4=>4 | n=>n,λ | n=>n⟩
theorem aGs : SlLaysZI.n7 Tryz.prog aDR where
 mixed:=by kernel_rfl
 f7:=⟨"maps.Keys[map[int]umbra/api.Row,int,umbra/api.Row]",by decide,Tryz.func192.trans (congrArg some (by kernel_rfl))⟩
 f10:=⟨"maps.Keys[map[int]umbra/api.Row,int,umbra/api.Row]$1",by decide,Tryz.func246.trans (congrArg some (by kernel_rfl))⟩
 t0:=Tryz.underlying0
 a0:=Tryz.isAgg0
 z0:=Tryz.sizeOf0
 v0:=Tryz.zeroValue0
 t4:=Tryz.underlying4
 a4:=Tryz.isAgg4
 z4:=Tryz.sizeOf4
 v4:=Tryz.zeroValue4
 t23:=Tryz.underlying142
 a23:=Tryz.isAgg142
 z23:=Tryz.sizeOf142
 v23:=Tryz.zeroValue142
 t26:=Tryz.underlying3
 a26:=Tryz.isAgg3
 z26:=Tryz.sizeOf3
 v26:=Tryz.zeroValue3
 t27:=Tryz.underlying333
 a27:=Tryz.isAgg333
 z27:=Tryz.sizeOf333
 v27:=Tryz.zeroValue333
 t28:=Tryz.underlying334
 a28:=Tryz.isAgg334
 z28:=Tryz.sizeOf334
 v28:=Tryz.zeroValue334
 t33:=Tryz.underlying394
 a33:=Tryz.isAgg394
 z33:=Tryz.sizeOf394
 v33:=Tryz.zeroValue394
def wG : Go.Shelf.Ren:=⟨λ | 6=>191 | 8=>244 | 9=>245 | 11=>292 | 13=>248 | 12=>293 | 23=>302 | 24=>303 | 14=>342 | 15=>343 | 16=>344 | 17=>345 | 18=>346 | 19=>347 | 20=>348 | 21=>349 | 22=>350 | 25=>381 | 26=>352 | 27=>353 | 28=>382 | 29=>383 | 30=>304 | 31=>400 | n=>n,λ | 26=>3 | 28=>334 | 24=>24 | 0=>0 | 3=>3 | 37=>303 | 48=>55 | 50=>48 | 4=>4 | 40=>487 | 39=>486 | 45=>339 | 5=>5 | 9=>9 | 51=>542 | 55=>546 | 57=>581 | 58=>351 | 33=>394 | n=>n,λ | n=>n⟩
theorem aGI : SlLaysZI.n6 Tryz.prog wG where
 mixed:=by kernel_rfl
 f6:=⟨"slices.Sorted[int]",by decide,Tryz.func191.trans (congrArg some (by kernel_rfl))⟩
 f8:=⟨"slices.Collect[int]",by decide,Tryz.func244.trans (congrArg some (by kernel_rfl))⟩
 f11:=⟨"slices.AppendSeq[[]int,int]",by decide,Tryz.func292.trans (congrArg some (by kernel_rfl))⟩
 t0:=Tryz.underlying0
 a0:=Tryz.isAgg0
 z0:=Tryz.sizeOf0
 v0:=Tryz.zeroValue0
 t24:=Tryz.underlying24
 a24:=Tryz.isAgg24
 z24:=Tryz.sizeOf24
 v24:=Tryz.zeroValue24
 t26:=Tryz.underlying3
 a26:=Tryz.isAgg3
 z26:=Tryz.sizeOf3
 v26:=Tryz.zeroValue3
 t28:=Tryz.underlying334
 a28:=Tryz.isAgg334
 z28:=Tryz.sizeOf334
 v28:=Tryz.zeroValue334
 i26:=by kernel_rfl
def aD4 : Go.Shelf.Ren:=⟨λ | 5=>245 | 8=>248 | 7=>293 | 19=>302 | 20=>303 | 10=>342 | 11=>343 | 12=>344 | 13=>345 | 14=>346 | 15=>347 | 16=>348 | 17=>349 | 18=>350 | 30=>381 | 31=>352 | 32=>353 | 33=>382 | 34=>383 | 35=>304 | 40=>400 | n=>n,λ | 23=>24 | 25=>3 | 3=>3 | 32=>303 | 22=>24 | 0=>0 | 44=>55 | 46=>48 | 4=>4 | 36=>487 | 35=>486 | 41=>339 | 5=>5 | 9=>9 | 53=>542 | 57=>546 | 63=>581 | 64=>351 | n=>n,λ | n=>n⟩
theorem aGw : SlLaysM.n5 Tryz.prog aD4 where
 mixed:=by kernel_rfl
 f5:=⟨"slices.Sort[[]int,int]",by decide,Tryz.func245.trans (congrArg some (by kernel_rfl))⟩
 f7:=⟨"slices.pdqsortOrdered[int]",by decide,Tryz.func293.trans (congrArg some (by kernel_rfl))⟩
 f8:=Tryz.func248.trans (congrArg some (by kernel_rfl))
 f10:=⟨"slices.insertionSortOrdered[int]",by decide,Tryz.func342.trans (congrArg some (by kernel_rfl))⟩
 f11:=⟨"slices.heapSortOrdered[int]",by decide,Tryz.func343.trans (congrArg some (by kernel_rfl))⟩
 f12:=⟨"slices.breakPatternsOrdered[int]",by decide,Tryz.func344.trans (congrArg some (by kernel_rfl))⟩
 f13:=⟨"slices.choosePivotOrdered[int]",by decide,Tryz.func345.trans (congrArg some (by kernel_rfl))⟩
 f14:=⟨"slices.reverseRangeOrdered[int]",by decide,Tryz.func346.trans (congrArg some (by kernel_rfl))⟩
 f15:=⟨"slices.partialInsertionSortOrdered[int]",by decide,Tryz.func347.trans (congrArg some (by kernel_rfl))⟩
 f16:=⟨"cmp.Less[int]",by decide,Tryz.func348.trans (congrArg some (by kernel_rfl))⟩
 f17:=⟨"slices.partitionEqualOrdered[int]",by decide,Tryz.func349.trans (congrArg some (by kernel_rfl))⟩
 f18:=⟨"slices.partitionOrdered[int]",by decide,Tryz.func350.trans (congrArg some (by kernel_rfl))⟩
 f19:=Tryz.func302.trans (congrArg some (by kernel_rfl))
 f20:=Tryz.func303.trans (congrArg some (by kernel_rfl))
 f30:=⟨"slices.siftDownOrdered[int]",by decide,Tryz.func381.trans (congrArg some (by kernel_rfl))⟩
 f31:=Tryz.func352.trans (congrArg some (by kernel_rfl))
 f32:=Tryz.func353.trans (congrArg some (by kernel_rfl))
 f33:=⟨"slices.medianAdjacentOrdered[int]",by decide,Tryz.func382.trans (congrArg some (by kernel_rfl))⟩
 f34:=⟨"slices.medianOrdered[int]",by decide,Tryz.func383.trans (congrArg some (by kernel_rfl))⟩
 f35:=⟨"cmp.isNaN[int]",by decide,Tryz.func304.trans (congrArg some (by kernel_rfl))⟩
 f40:=⟨"slices.order2Ordered[int]",by decide,Tryz.func400.trans (congrArg some (by kernel_rfl))⟩
 t0:=Tryz.underlying0
 a0:=Tryz.isAgg0
 z0:=Tryz.sizeOf0
 v0:=Tryz.zeroValue0
 t3:=Tryz.underlying3
 a3:=Tryz.isAgg3
 z3:=Tryz.sizeOf3
 v3:=Tryz.zeroValue3
 t4:=Tryz.underlying4
 a4:=Tryz.isAgg4
 z4:=Tryz.sizeOf4
 v4:=Tryz.zeroValue4
 t5:=Tryz.underlying5
 a5:=Tryz.isAgg5
 z5:=Tryz.sizeOf5
 v5:=Tryz.zeroValue5
 t9:=Tryz.underlying9
 a9:=Tryz.isAgg9
 z9:=Tryz.sizeOf9
 v9:=Tryz.zeroValue9
 t22:=Tryz.underlying24
 a22:=Tryz.isAgg24
 z22:=Tryz.sizeOf24
 v22:=Tryz.zeroValue24
 t23:=Tryz.underlying24
 a23:=Tryz.isAgg24
 z23:=Tryz.sizeOf24
 v23:=Tryz.zeroValue24
 t25:=Tryz.underlying3
 a25:=Tryz.isAgg3
 z25:=Tryz.sizeOf3
 v25:=Tryz.zeroValue3
 t32:=Tryz.underlying303
 a32:=Tryz.isAgg303
 z32:=Tryz.sizeOf303
 v32:=Tryz.zeroValue303
 t35:=Tryz.underlying486
 a35:=Tryz.isAgg486
 z35:=Tryz.sizeOf486
 v35:=Tryz.zeroValue486
 t36:=Tryz.underlying487
 a36:=Tryz.isAgg487
 z36:=Tryz.sizeOf487
 v36:=Tryz.zeroValue487
 t41:=Tryz.underlying339
 a41:=Tryz.isAgg339
 z41:=Tryz.sizeOf339
 v41:=Tryz.zeroValue339
 t44:=Tryz.underlying55
 a44:=Tryz.isAgg55
 z44:=Tryz.sizeOf55
 v44:=Tryz.zeroValue55
 t46:=Tryz.underlying48
 a46:=Tryz.isAgg48
 z46:=Tryz.sizeOf48
 v46:=Tryz.zeroValue48
 t53:=Tryz.underlying542
 a53:=Tryz.isAgg542
 z53:=Tryz.sizeOf542
 v53:=Tryz.zeroValue542
 t57:=Tryz.underlying546
 a57:=Tryz.isAgg546
 z57:=Tryz.sizeOf546
 v57:=Tryz.zeroValue546
 t63:=Tryz.underlying581
 a63:=Tryz.isAgg581
 z63:=Tryz.sizeOf581
 v63:=Tryz.zeroValue581
 t64:=Tryz.underlying351
 a64:=Tryz.isAgg351
 z64:=Tryz.sizeOf351
 v64:=Tryz.zeroValue351
theorem aHW(m:Nat):AnyZI.SortsIn Tryz.prog wG Fence.wide m:=
 ⟨λblk off cap ss W hH hblk hsz=>callsIn_wide.2 (AnyM.slices_Sort_int aGw blk off cap ss W hH hblk hsz),λp cap W=>callsIn_wide.2 (AnyM.slices_Sort_int_none aGw p cap W)⟩
theorem aEj(l:List (Int×aQ)):FnM Tryz.prog 192 [.mp (eM .i64 aQ.enc l)] [.mp 0] (.fn (.func 246) [] [.ref 1 [] 0]) [.mp (eM .i64 aQ.enc l),.var (.mp 0)]:=aGE aGs rfl rfl l
theorem aCF : jM Tryz.prog 192:=iY (show lT Tryz.prog 192=true by kernel_rfl)
theorem aCG{l:List (Int×aQ)}{r:List Int}(h:aBe l=some r):FnM Tryz.prog 191 [.mp (eM .i64 aQ.enc l),.var (.mp 0)] [.fn (.func 246) [] [.ref 1 [] 0]] (eL 1 j64 r) [.mp (eM .i64 aQ.enc l),.var (.mp 0)]:=
 aDu aGI { aGs with } aHW rfl rfl (enters_of Tryz.func245 (by kernel_rfl) rfl) (enters_of Tryz.func246 (by kernel_rfl) rfl) h
theorem aA4 : jM Tryz.prog 191:=iY (show lT Tryz.prog 191=true by kernel_rfl)
def iW(N:Nat)(r2:(List Int)):Nat->Option (Unit)
 | 0=>none
 | k+1=>
  bS (decide (0 < ((r2.length:Int)))) λx4=>
  cond x4 (
   aa (idx r2 0) λe5=>
   none) (
   some (()))
def kD(N:Nat)(b1:(List (Int×aQ))):Option ((List aQ)):=
 aa (eX N b1) λr1=>
 aa (aBe b1) λr2=>
 aa (iW N r2 N ) λp3=>
 some []
theorem rG{N b1 r}(h:kD N b1=some r):FnM Tryz.prog 143 [.var (.st 2 [(.mp 1),(.mp 2)]),.mp (eM .i64 aQ.enc b1),.mp (.kv [])] [(.ref 0 [] 0)] (eL 40 aQ.enc r) [.var (.st 2 [(.mp 1),(.mp 2)]),.mp (eM .i64 aQ.enc b1),.mp (.kv [])]:=by
 unfold kD at h;refine At.f dQ hT hmo Tryz.func143 rfl h ?_;refine At.b 2 (λ_ e=>aM [0,1,2] (jU e)) λr1=>?_;refine At.o 6 (pW [1] (aEj b1) aCF) ?_;refine At.b 0 (λ_ e=>pW [1,3] (aCG e) aA4) λr2=>?_;refine At.L 2 [3] 4 (λp3=>([],[],[])) (λp3 J k=>iW N r2 k  = some p3/\J [0,3,14,15,16] 4 [] [] []) N (λ_ h=>⟨h,jr⟩) (λp3 k s hI=>?_) λp3=>?_
 ·obtain⟨h,hj⟩:=hI;cases k with
  | zero=>cases h
  | succ k=>
   unfold iW at h;dsimp only at h;refine At.jr hj ?_ h;refine lx ?_;intro x4;refine At.c 1 ?_ ?_
   ·refine At.b 0 (λ_ e=>dW hT j64 e) λe5=>?_;exact nn
   ·apply rt;exact At.x 0
 ·apply rt;exact At.r 2
def hP(N:Nat)(a3:(List aQ)):Nat->Option (Unit)
 | 0=>none
 | k+1=>
  bS (decide (0 < ((a3.length:Int)))) λx2=>
  cond x2 (
   aa (idx a3 0) λe4=>
   none) (
   some (()))
def iZ(N:Nat)(b1:(List (Int×aQ)))(b2 b3:(List (Int×Int)))(a3:(List aQ))(a4:Int)(a5:cE):Option (Unit):=
 aa (hP N a3 N ) λp1=>
 some (())
theorem pH{N b1 b2 b3 a3 a4 a5 r}(h:iZ N b1 b2 b3 a3 a4 a5=some r):FnM Tryz.prog 142 [.var (.st 12 [(cE.enc a5),(.mp 1),(.mp 2),(.mp 3)]),.mp (eM .i64 aQ.enc b1),.mp (eM .i64 j64 b2),.mp (eM .i64 j64 b3)] [(.ref 0 [] 0),(eL 40 aQ.enc a3),(j64 a4)] (.tup []) [.var (.st 12 [(.st 9 [(eL 19 pV.enc a5.gB8),(eL 5 fZ.enc a5.gC0),(eL 2 iQ.enc a5.gC1),(eL 13 kM.enc a5.gC2),(eL 1 k64 a5.gC3),(eL 1 k32 a5.gC4),(k32 a5.gA0),(k32 a5.gB7),(k32 4294967295)]),(.mp 1),(.mp 2),(.mp 3)]),.mp (eM .i64 aQ.enc b1),.mp (eM .i64 j64 b2),.mp (eM .i64 j64 b3)]:=by
 unfold iZ at h;refine At.f dQ hT hmo Tryz.func142 rfl h ?_;refine At.L 8 [] 4 (λp1=>([],[],[])) (λp1 J k=>hP N a3 k  = some p1/\J [0,2,12,13,14] 4 [] [] []) N (λ_ h=>⟨h,jr⟩) (λp1 k s hI=>?_) λp1=>?_
 ·obtain⟨h,hj⟩:=hI;cases k with
  | zero=>cases h
  | succ k=>
   unfold hP at h;dsimp only at h;refine At.jr hj ?_ h;refine lx ?_;intro x2;refine At.c 1 ?_ ?_
   ·refine At.b 0 (λ_ e=>dW hT aQ.enc e) λe4=>?_;exact nn
   ·apply rt;exact At.x 0
 ·apply rt;exact At.z 0
def lW(N:Nat)(a0:Int):Option (Int):=
 aa (bS (decide (a0>=4294967296)) λx2=>
 cond x2 (some ((shr .u64 a0 32,32))) (some ((a0,0)))) λp1=>
 aa (cond (decide (p1.1>=65536)) (
  some ((shr .u64 p1.1 16,I64 (p1.2+16)))) (
  some ((p1.1,p1.2)))) λp3=>
 aa (cond (decide (p3.1>=256)) (some ((shr .u64 p3.1 8,I64 (p3.2+8)))) (some ((p3.1,p3.2)))) λp4=>
 aa (idx str_0.data.toList (U8 p4.1)) λc5=>
 bS (I64 ((UInt8.toNat c5:Int))) λx6=>
 some (I64 (p4.2+x6))
theorem tB{N a0 r}(h:lW N a0=some r):FnM Tryz.prog 303 [] [(k64 a0)] (j64 r) []:=by
 unfold lW at h;refine At.f dQ hT hmo Tryz.func303 rfl h ?_;refine At.J 1 1 [] 0 (λp1=>([(0,(k64 p1.1)),(2,(j64 p1.2))],[],[])) (λp1=>?_) λp1=>?_
 ·refine lx ?_;intro x2;refine At.c 2 ?_ ?_
  ·apply rt;exact At.jn 4
  ·apply rt;exact At.jn 0
 ·refine At.J 0 1 [] 0 (λp3=>([(0,(k64 p3.1)),(2,(j64 p3.2))],[],[])) (λp3=>?_) λp3=>?_
  ·refine At.c 2 ?_ ?_
   ·apply rt;exact At.jn 6
   ·apply rt;exact At.jn 0
  ·refine At.J 0 1 [] 0 (λp4=>([(0,(k64 p4.1)),(2,(j64 p4.2))],[],[])) (λp4=>?_) λp4=>?_
   ·refine At.c 2 ?_ ?_
    ·apply rt;exact At.jn 6
    ·apply rt;exact At.jn 0
   ·refine At.b 3 (λ_ e=>aGY hT e (by kernel_rfl) (by kernel_rfl)) λc5=>?_;refine lx ?_;intro x6;apply rt;exact At.r 3
def nG(N:Nat)(a0:Int):Option (Int):=
 aa (lW N a0) λr1=>
 some r1
theorem vN{N a0 r}(h:nG N a0=some r):FnM Tryz.prog 248 [] [(k64 a0)] (j64 r) []:=by
 unfold nG at h;refine At.f dQ hT hmo Tryz.func248 rfl h ?_;refine At.b 3 (λ_ e=>aM [] (tB e)) λr1=>?_;apply rt;exact At.r 1
def bP(N:Nat)(s2 a0:Int):Nat->Option (Unit)
 | 0=>none
 | k+1=>
  aa (cond (decide (s2 > a0)) (
   none) (
   some (()))) λp4=>
  some (())
def bO(N:Nat)(a1 a0:Int):Nat->Int->Option (Unit)
 | 0,_=>none
 | k+1,s2=>
  cond (decide (s2 < a1)) (
   aa (bP N s2 a0 N ) λp3=>
   bO N a1 a0 k (I64 (s2+1))) (
   some (()))
def bR(N:Nat)(a0 a1:Int):Option (Unit):=
 aa (bO N a1 a0 N (I64 (a0+1))) λp1=>
 some (())
theorem fD{N a0 a1 r}(h:bR N a0 a1=some r):FnM Tryz.prog 294 [] [(.v (.slice none 0 0)),(j64 a0),(j64 a1),(.fn (.func 194) [] [])] (.tup []) []:=by
 unfold bR at h;refine At.f dQ hT hmo Tryz.func294 rfl h ?_;refine At.L 3 [] 0 (λp1=>([],[],[])) (λp1 J k=>∃s2,bO N a1 a0 k s2=some p1/\J [0,1,2,3] 0 [(8,(j64 s2))] [] []) N (λ_ h=>⟨_,h,jr⟩) (λp1 k s hI=>?_) λp1=>?_
 ·obtain⟨s2,h,hj⟩:=hI;cases k with
  | zero=>cases h
  | succ k=>
   refine At.jr hj ?_ h;refine At.c 3 ?_ ?_
   ·refine At.L 2 [0,1,2,3,8] 0 (λp3=>([],[],[])) (λp3 J k=>bP N s2 a0 k  = some p3/\J [0,1,2,3,8,9] 0 [] [] []) N (λ_ h=>⟨h,jr⟩) (λp3 k s hI=>?_) λp3=>?_
    ·obtain⟨h,hj⟩:=hI;cases k with
     | zero=>cases h
     | succ k=>
      unfold bP at h;dsimp only at h;refine At.jr hj ?_ h;refine At.J 0 0 [0,1,2,3,8,9] 0 (λp4=>([(34,(eB false))],[],[])) (λp4=>?_) λp4=>?_
      ·refine boI (λhc3=>?_) (λhc3=>?_)
       ·exact nn
       ·refine At.d 0 (dE1 3 (λ_=>mN hc3 rfl (kO hT (im:=false) (by kernel_rfl))) dE0) dF0 ?_;apply rt;exact At.jn 0
      ·apply rt;exact At.x 1
    ·exact λh=>At.k 3 ⟨_,h,jr⟩
   ·apply rt;exact At.x 0
 ·apply rt;exact At.z 0
def cA(N:Nat)(a1 a0 a2:Int):Nat->Option (Sum (Unit) (Unit))
 | 0=>none
 | k+1=>
  bS (decide ((I64 (a1 - a0))<=12)) λx2=>
  cond x2 (
   aa (bR N a0 a1) λr3=>
   some (Sum.inr (()))) (
   cond (a2==0) (
    none) (
    aa (some (())) λp4=>
    none))
def cC(N:Nat)(a0 a1 a2:Int):Option (Unit):=
 aa (cA N a1 a0 a2 N ) λo=>rH o (λp1=>
  none) (λr=>some r)
theorem iB{N a0 a1 a2 r}(h:cC N a0 a1 a2=some r):FnM Tryz.prog 247 [] [(.v (.slice none 0 0)),(j64 a0),(j64 a1),(j64 a2),(.fn (.func 194) [] [])] (.tup []) []:=by
 unfold cC at h;refine At.f dQ hT hmo Tryz.func247 rfl h ?_;refine At.LS 2 [] 0 (λp1=>([],[],[])) (λop1 J k=>cA N a1 a0 a2 k  = some op1/\J [0,1,2,3,4,10,11] 0 [] [] []) N (λ_ h=>⟨h,jr⟩) (λop1 g1 k s hI=>?_) λp1=>?_
 ·obtain⟨h,hj⟩:=hI;cases k with
  | zero=>cases h
  | succ k=>
   unfold cA at h;dsimp only at h;refine At.jr hj ?_ h;refine lx ?_;intro x2;refine At.c 6 ?_ ?_
   ·refine At.b 4 (λ_ e=>aM [] (fD e)) λr3=>?_;intro e;apply zV g1 e;exact At.r 0
   ·refine At.c 2 ?_ ?_
    ·exact nn
    ·refine At.J 0 1 [0,1,2,3,4,10,11,12] 0 (λp4=>([],[],[])) (λp4=>?_) λp4=>?_
     ·apply rt;exact At.jn 3
     ·exact nn
 ·exact nn
def bZ(N:Nat):Option (Unit):=
 aa (nG N (U64 0)) λr1=>
 aa (cC N 0 0 r1) λr2=>
 some (())
theorem fQ{N r}(h:bZ N=some r):FnM Tryz.prog 193 [] [(.v (.slice none 0 0)),(.fn (.func 194) [] [])] (.tup []) []:=by
 unfold bZ at h;refine At.f dQ hT hmo Tryz.func193 rfl h ?_;refine At.b 7 (λ_ e=>aM [] (vN e)) λr1=>?_;refine At.b 1 (λ_ e=>aM [] (iB e)) λr2=>?_;apply rt;exact At.z 0
def iP(N:Nat)  : Nat->Option (Unit)
 | 0=>none
 | k+1=>
  some (())
def jT(N:Nat)(b1:(List (Int×aQ))):Option ((List bI)):=
 aa (eX N b1) λr1=>
 aa (iP N N ) λp2=>
 aa (bZ N ) λr3=>
 some []
theorem qT{N b1 r}(h:jT N b1=some r):FnM Tryz.prog 144 [.var (.st 2 [(.mp 1),(.mp 2)]),.mp (eM .i64 aQ.enc b1),.mp (.kv [])] [(.ref 0 [] 0)] (eL 16 bI.enc r) [.var (.st 2 [(.mp 1),(.mp 2)]),.mp (eM .i64 aQ.enc b1),.mp (.kv [])]:=by
 unfold jT at h;refine At.f dQ hT hmo Tryz.func144 rfl h ?_;refine At.b 2 (λ_ e=>aM [0,1,2] (jU e)) λr1=>?_;refine At.o 6 (aGO (t:=143) (id:=2) rfl (by kernel_rfl) (by kernel_rfl) (by kernel_rfl)) ?_;refine At.L 0 [3] 4 (λp2=>([],[],[])) (λp2 J k=>iP N k  = some p2/\J [3,12] 4 [] [] []) N (λ_ h=>⟨h,jr⟩) (λp2 k s hI=>?_) λp2=>?_
 ·obtain⟨h,hj⟩:=hI;cases k with
  | zero=>cases h
  | succ k=>
   unfold iP at h;dsimp only at h;refine At.jr hj ?_ h;refine At.o 0 (aGF (id:=3) (m:=2) (by kernel_rfl) (by kernel_rfl) (by kernel_rfl) (by kernel_rfl)) ?_;apply rt;exact At.x 2
 ·refine At.b 1 (λ_ e=>aM [] (fQ e)) λr3=>?_;apply rt;exact At.r 2
def iV(N:Nat)(r5:(List bI)):Nat->Option (Unit)
 | 0=>none
 | k+1=>
  bS (decide (0 < ((r5.length:Int)))) λx7=>
  cond x7 (
   aa (idx r5 0) λe8=>
   none) (
   some (()))
def kB(N:Nat)(b1:(List (Int×aQ)))(a1:Int):Option (cE×Int):=
 aa (kF N b1) λr1=>
 bS (cond (decide (a1 < 0)) true (decide (a1>=8))) λx2=>
 cond x2 (
  some ((cE.mk [] [] [] [] [] [] 0 0 0,13))) (
  aa (kD N b1) λr3=>
  aa (iZ N (([]:(List (Int×aQ)))) (([]:(List (Int×Int)))) (([]:(List (Int×Int)))) r3 a1 (cE.mk [] [] [] [] [] [] 0 0 0)) λr4=>
  aa (jT N b1) λr5=>
  aa (iV N r5 N ) λp6=>
  some ((cE.mk ((cE.mk [] [] [] [] [] [] 0 0 0).gB8) ((cE.mk [] [] [] [] [] [] 0 0 0).gC0) ((cE.mk [] [] [] [] [] [] 0 0 0).gC1) ((cE.mk [] [] [] [] [] [] 0 0 0).gC2) ((cE.mk [] [] [] [] [] [] 0 0 0).gC3) ((cE.mk [] [] [] [] [] [] 0 0 0).gC4) ((cE.mk [] [] [] [] [] [] 0 0 0).gA0) ((cE.mk [] [] [] [] [] [] 0 0 0).gB7) 4294967295,0)))
theorem rI{N b1 a1 r}(h:kB N b1 a1=some r):FnM Tryz.prog 103 [.var (.st 2 [(.mp 1),(.mp 2)]),.mp (eM .i64 aQ.enc b1),.mp (.kv [])] [(.ref 0 [] 0),(j64 a1)] (.tup [(cE.enc r.1),(j64 r.2)]) [.var (.st 2 [(.mp 1),(.mp 2)]),.mp (eM .i64 aQ.enc b1),.mp (.kv [])]:=by
 unfold kB at h;refine At.f dQ hT hmo Tryz.func103 rfl h ?_;refine At.b 3 (λ_ e=>aM [0,1,2] (qZ e)) λr1=>?_;refine At.o 0 (qC hT (t:=99) (x:=(.ref 6 [] 0)) (b:=true) (by kernel_rfl) rfl rfl (by kernel_rfl)) ?_;refine lx ?_;intro x2;refine At.c 9 ?_ ?_
 ·apply rt;exact At.r 3
 ·refine At.o 0 (uV .i64 aQ.enc (by kernel_rfl) (by kernel_rfl)) ?_;refine At.o 0 (uV .i64 j64 (by kernel_rfl) (by kernel_rfl)) ?_;refine At.o 0 (uV .i64 j64 (by kernel_rfl) (by kernel_rfl)) ?_;refine At.b 5 (λ_ e=>aM [0,1,2] (rG e)) λr3=>?_;refine At.b 1 (λ_ e=>aM [10,7,8,9] (pH e)) λr4=>?_;refine At.b 1 (λ_ e=>aM [0,1,2] (qT e)) λr5=>?_;refine At.L 2 [4,6] 11 (λp6=>([],[],[])) (λp6 J k=>iV N r5 k  = some p6/\J [1,4,6,33,34,35] 11 [] [] []) N (λ_ h=>⟨h,jr⟩) (λp6 k s hI=>?_) λp6=>?_
  ·obtain⟨h,hj⟩:=hI;cases k with
   | zero=>cases h
   | succ k=>
    unfold iV at h;dsimp only at h;refine At.jr hj ?_ h;refine lx ?_;intro x7;refine At.c 1 ?_ ?_
    ·refine At.b 0 (λ_ e=>dW hT bI.enc e) λe8=>?_;exact nn
    ·apply rt;exact At.x 0
  ·apply rt;exact At.r 6
def iO(N:Nat)(b10:(List (Int×aQ)))(a1:Int)(a2:(Vector Int 32))(a3:Int)(a4:aB)(a5:Bool)(a6:Int)(a7:(Vector aA 8))(a8:aB)(a9:Bool)(a10:Int)(a11:(Vector aA 8))(a12:aB)(a13:Bool)(a14:Int)(a15:(Vector aA 8))(a16:aB)(a17:Bool)(a18:Int)(a19:(Vector aA 8))(a20:aB)(a21:Bool)(a22:Int)(a23:(Vector aA 8))(a24:aB)(a25:Bool)(a26:Int)(a27:(Vector aA 8))(a28:aB)(a29:Bool)(a30:Int)(a31:(Vector aA 8))(a32:aB)(a33:Bool)(a34:Int)(a35:(Vector aA 8))(a36:aY)(a37 a38 a39 a40 a41 a42 a43 a44:aD):Option (cE):=
 aa (kB N b10 a1) λr1=>
 some r1.1
theorem oN{N b10 a1 a2 a3 a4 a5 a6 a7 a8 a9 a10 a11 a12 a13 a14 a15 a16 a17 a18 a19 a20 a21 a22 a23 a24 a25 a26 a27 a28 a29 a30 a31 a32 a33 a34 a35 a36 a37 a38 a39 a40 a41 a42 a43 a44 r}(h:iO N b10 a1 a2 a3 a4 a5 a6 a7 a8 a9 a10 a11 a12 a13 a14 a15 a16 a17 a18 a19 a20 a21 a22 a23 a24 a25 a26 a27 a28 a29 a30 a31 a32 a33 a34 a35 a36 a37 a38 a39 a40 a41 a42 a43 a44=some r):FnM Tryz.prog 100 [.var (.st 429 [(eA 32 1 k8 a2),(.ref 1 [] 0),(k32 a3),(.st 392 [(.st 49 [(aB.enc a4),(eB a5),(j64 a6),(.v (.pointer none)),(.ref 2 [] 0),(eA 24 3 aA.enc a7)]),(.st 49 [(aB.enc a8),(eB a9),(j64 a10),(.v (.pointer none)),(.ref 3 [] 0),(eA 24 3 aA.enc a11)]),(.st 49 [(aB.enc a12),(eB a13),(j64 a14),(.v (.pointer none)),(.ref 4 [] 0),(eA 24 3 aA.enc a15)]),(.st 49 [(aB.enc a16),(eB a17),(j64 a18),(.v (.pointer none)),(.ref 5 [] 0),(eA 24 3 aA.enc a19)]),(.st 49 [(aB.enc a20),(eB a21),(j64 a22),(.v (.pointer none)),(.ref 6 [] 0),(eA 24 3 aA.enc a23)]),(.st 49 [(aB.enc a24),(eB a25),(j64 a26),(.v (.pointer none)),(.ref 7 [] 0),(eA 24 3 aA.enc a27)]),(.st 49 [(aB.enc a28),(eB a29),(j64 a30),(.v (.pointer none)),(.ref 8 [] 0),(eA 24 3 aA.enc a31)]),(.st 49 [(aB.enc a32),(eB a33),(j64 a34),(.v (.pointer none)),(.ref 9 [] 0),(eA 24 3 aA.enc a35)])]),(aY.enc a36)]),.var (.st 2 [(.mp 10),(.mp 11)]),.var (aD.enc a37),.var (aD.enc a38),.var (aD.enc a39),.var (aD.enc a40),.var (aD.enc a41),.var (aD.enc a42),.var (aD.enc a43),.var (aD.enc a44),.mp (eM .i64 aQ.enc b10),.mp (.kv [])] [(.ref 0 [] 0),(.ref 0 [3,0] 34),(j64 a1)] (.tup [(cE.enc r),(eB false)]) [.var (.st 429 [(eA 32 1 k8 a2),(.ref 1 [] 0),(k32 a3),(.st 392 [(.st 49 [(aB.enc a4),(eB a5),(j64 a6),(.v (.pointer none)),(.ref 2 [] 0),(eA 24 3 aA.enc a7)]),(.st 49 [(aB.enc a8),(eB a9),(j64 a10),(.v (.pointer none)),(.ref 3 [] 0),(eA 24 3 aA.enc a11)]),(.st 49 [(aB.enc a12),(eB a13),(j64 a14),(.v (.pointer none)),(.ref 4 [] 0),(eA 24 3 aA.enc a15)]),(.st 49 [(aB.enc a16),(eB a17),(j64 a18),(.v (.pointer none)),(.ref 5 [] 0),(eA 24 3 aA.enc a19)]),(.st 49 [(aB.enc a20),(eB a21),(j64 a22),(.v (.pointer none)),(.ref 6 [] 0),(eA 24 3 aA.enc a23)]),(.st 49 [(aB.enc a24),(eB a25),(j64 a26),(.v (.pointer none)),(.ref 7 [] 0),(eA 24 3 aA.enc a27)]),(.st 49 [(aB.enc a28),(eB a29),(j64 a30),(.v (.pointer none)),(.ref 8 [] 0),(eA 24 3 aA.enc a31)]),(.st 49 [(aB.enc a32),(eB a33),(j64 a34),(.v (.pointer none)),(.ref 9 [] 0),(eA 24 3 aA.enc a35)])]),(aY.enc a36)]),.var (.st 2 [(.mp 10),(.mp 11)]),.var (aD.enc a37),.var (aD.enc a38),.var (aD.enc a39),.var (aD.enc a40),.var (aD.enc a41),.var (aD.enc a42),.var (aD.enc a43),.var (aD.enc a44),.mp (eM .i64 aQ.enc b10),.mp (.kv [])]:=by
 unfold iO at h;refine At.f dQ hT hmo Tryz.func100 rfl h ?_;refine At.b 7 (λ_ e=>aM [1,10,11] (rI e)) λr1=>?_;refine At.d 6 (dE1 5 (λ_=>aGA hT (t:=101) (x:=(.v (.pointer none))) (b:=false) (by kernel_rfl) rfl rfl (by kernel_rfl)) dE0) dF0 ?_;apply rt;exact At.r 0
def jF(N:Nat)(a0:aD):Option (Bool):=
 some (!a0.gB9.gB5)
theorem nI{N a0 r}(h:jF N a0=some r):FnM Tryz.prog 139 [.var (aD.enc a0)] [(.ref 0 [] 0)] (eB r) [.var (aD.enc a0)]:=by
 unfold jF at h;refine At.f dQ hT hmo Tryz.func139 rfl h ?_;refine At.o 2 (qC hT (t:=102) (x:=(.ref 0 [] 0)) (b:=true) (by kernel_rfl) rfl rfl (by kernel_rfl)) ?_;refine At.g [5] 9 ?_;apply rt;exact At.r 0
def lL(N:Nat)(a0:aD):Option ((Vector Int 32)):=
 aa (jF N a0) λr1=>
 cond r1 (some (al 32 0)) (some a0.gB9.gC7)
theorem sU{N a0 r}(h:lL N a0=some r):FnM Tryz.prog 101 [.var (aD.enc a0)] [(.ref 0 [] 0)] (eA 32 1 k8 r) [.var (aD.enc a0)]:=by
 unfold lL at h;refine At.f dQ hT hmo Tryz.func101 rfl h ?_;refine At.b 2 (λ_ e=>aM [0] (nI e)) λr1=>?_;refine At.c 0 ?_ ?_
 ·apply rt;exact At.r 2
 ·apply rt;exact At.r 6
def fS(N:Nat)(a0:Bool):Option (Int):=
 cond a0 (some 1) (some 0)
theorem lU{N a0 r}(h:fS N a0=some r):FnM Tryz.prog 99 [] [(eB a0)] (j64 r) []:=by
 unfold fS at h;refine At.f dQ hT hmo Tryz.func99 rfl h ?_;refine At.c 2 ?_ ?_
 ·apply rt;exact At.r 1
 ·apply rt;exact At.r 1
def dP(N:Nat)(a0:(List aO)):Option ((List aO)):=
 aa (nR 64 (([]:List aO)) a0) λz1=>
 some z1
theorem lE{N a0 r}(h:dP N a0=some r):FnM Tryz.prog 140 [] [(eL 36 aO.enc a0)] (eL 36 aO.enc r) []:=by
 unfold dP at h;refine At.f dQ hT hmo Tryz.func140 rfl h ?_;refine At.q hT 2 (d:=4) (t:=149) (e:=225) (z:=36) (x:=(eL 36 aO.enc a0)) (es:=List.map aO.enc a0) rfl ?_ (λhe=>?_)
 ·refine At.o 1 (xQ hT aO.enc (k:=36) ([]:List aO) (by kernel_rfl) (by kernel_rfl)) ?_;refine At.b 1 (λ_ e=>iH hT aO.enc (id:=0) (k:=36) e) λz1=>?_;apply rt;exact At.r 1
 ·have h0:a0=[]:=List.map_eq_nil_iff.1 he;subst h0;change some []=_->_;apply rt;exact At.r 2
def jW(N:Nat)(a0:aD):Option ((List aO)):=
 aa (jF N a0) λr1=>
 cond r1 (
  some []) (
  aa (dP N a0.gl) λr2=>
  some r2)
theorem qU{N a0 r}(h:jW N a0=some r):FnM Tryz.prog 102 [.var (aD.enc a0)] [(.ref 0 [] 0)] (eL 36 aO.enc r) [.var (aD.enc a0)]:=by
 unfold jW at h;refine At.f dQ hT hmo Tryz.func102 rfl h ?_;refine At.b 2 (λ_ e=>aM [0] (nI e)) λr1=>?_;refine At.c 0 ?_ ?_
 ·apply rt;exact At.r 1
 ·refine At.b 4 (λ_ e=>aM [] (lE e)) λr2=>?_;apply rt;exact At.r 1
def pE : Nat->Bool:=imL [5]
def iN(N:Nat)(b10:(List (Int×aQ)))(a1:aL)(a2:(Vector Int 32))(a3:Int)(a4:aB)(a5:Bool)(a6:Int)(a7:(Vector aA 8))(a8:aB)(a9:Bool)(a10:Int)(a11:(Vector aA 8))(a12:aB)(a13:Bool)(a14:Int)(a15:(Vector aA 8))(a16:aB)(a17:Bool)(a18:Int)(a19:(Vector aA 8))(a20:aB)(a21:Bool)(a22:Int)(a23:(Vector aA 8))(a24:aB)(a25:Bool)(a26:Int)(a27:(Vector aA 8))(a28:aB)(a29:Bool)(a30:Int)(a31:(Vector aA 8))(a32:aB)(a33:Bool)(a34:Int)(a35:(Vector aA 8))(a36:aY)(a37 a38 a39 a40 a41 a42 a43 a44:aD):Option (aU):=
 aa (iO N b10 a1.gF a2 a3 a4 a5 a6 a7 a8 a9 a10 a11 a12 a13 a14 a15 a16 a17 a18 a19 a20 a21 a22 a23 a24 a25 a26 a27 a28 a29 a30 a31 a32 a33 a34 a35 a36 a37 a38 a39 a40 a41 a42 a43 a44) λr1=>
 aa (lL N a37) λr2=>
 aa (fS N a5) λr3=>
 aa (fS N false) λr4=>
 aa (jW N a37) λr5=>
 aa (pM r2.toList 0 32) λs6=>
 some (aU.mk 0 ([r3,r4,(r5.length:Int)]) s6)
theorem oL{N b10 a1 a2 a3 a4 a5 a6 a7 a8 a9 a10 a11 a12 a13 a14 a15 a16 a17 a18 a19 a20 a21 a22 a23 a24 a25 a26 a27 a28 a29 a30 a31 a32 a33 a34 a35 a36 a37 a38 a39 a40 a41 a42 a43 a44 r}(h:iN N b10 a1 a2 a3 a4 a5 a6 a7 a8 a9 a10 a11 a12 a13 a14 a15 a16 a17 a18 a19 a20 a21 a22 a23 a24 a25 a26 a27 a28 a29 a30 a31 a32 a33 a34 a35 a36 a37 a38 a39 a40 a41 a42 a43 a44=some r):FnM Tryz.prog 72 [.var (.st 429 [(eA 32 1 k8 a2),(.ref 1 [] 0),(k32 a3),(.st 392 [(.st 49 [(aB.enc a4),(eB a5),(j64 a6),(.v (.pointer none)),(.ref 2 [] 0),(eA 24 3 aA.enc a7)]),(.st 49 [(aB.enc a8),(eB a9),(j64 a10),(.v (.pointer none)),(.ref 3 [] 0),(eA 24 3 aA.enc a11)]),(.st 49 [(aB.enc a12),(eB a13),(j64 a14),(.v (.pointer none)),(.ref 4 [] 0),(eA 24 3 aA.enc a15)]),(.st 49 [(aB.enc a16),(eB a17),(j64 a18),(.v (.pointer none)),(.ref 5 [] 0),(eA 24 3 aA.enc a19)]),(.st 49 [(aB.enc a20),(eB a21),(j64 a22),(.v (.pointer none)),(.ref 6 [] 0),(eA 24 3 aA.enc a23)]),(.st 49 [(aB.enc a24),(eB a25),(j64 a26),(.v (.pointer none)),(.ref 7 [] 0),(eA 24 3 aA.enc a27)]),(.st 49 [(aB.enc a28),(eB a29),(j64 a30),(.v (.pointer none)),(.ref 8 [] 0),(eA 24 3 aA.enc a31)]),(.st 49 [(aB.enc a32),(eB a33),(j64 a34),(.v (.pointer none)),(.ref 9 [] 0),(eA 24 3 aA.enc a35)])]),(aY.enc a36)]),.var (.st 2 [(.mp 10),(.mp 11)]),.var (aD.enc a37),.var (aD.enc a38),.var (aD.enc a39),.var (aD.enc a40),.var (aD.enc a41),.var (aD.enc a42),.var (aD.enc a43),.var (aD.enc a44),.mp (eM .i64 aQ.enc b10),.mp (.kv [])] [(.ref 0 [] 0),(.ref 0 [3,0] 34),(aL.enc a1)] (aU.enc r) [.var (.st 429 [(eA 32 1 k8 a2),(.ref 1 [] 0),(k32 a3),(.st 392 [(.st 49 [(aB.enc a4),(eB a5),(j64 a6),(.v (.pointer none)),(.ref 2 [] 0),(eA 24 3 aA.enc a7)]),(.st 49 [(aB.enc a8),(eB a9),(j64 a10),(.v (.pointer none)),(.ref 3 [] 0),(eA 24 3 aA.enc a11)]),(.st 49 [(aB.enc a12),(eB a13),(j64 a14),(.v (.pointer none)),(.ref 4 [] 0),(eA 24 3 aA.enc a15)]),(.st 49 [(aB.enc a16),(eB a17),(j64 a18),(.v (.pointer none)),(.ref 5 [] 0),(eA 24 3 aA.enc a19)]),(.st 49 [(aB.enc a20),(eB a21),(j64 a22),(.v (.pointer none)),(.ref 6 [] 0),(eA 24 3 aA.enc a23)]),(.st 49 [(aB.enc a24),(eB a25),(j64 a26),(.v (.pointer none)),(.ref 7 [] 0),(eA 24 3 aA.enc a27)]),(.st 49 [(aB.enc a28),(eB a29),(j64 a30),(.v (.pointer none)),(.ref 8 [] 0),(eA 24 3 aA.enc a31)]),(.st 49 [(aB.enc a32),(eB a33),(j64 a34),(.v (.pointer none)),(.ref 9 [] 0),(eA 24 3 aA.enc a35)])]),(aY.enc a36)]),.var (.st 2 [(.mp 10),(.mp 11)]),.var (aD.enc a37),.var (aD.enc a38),.var (aD.enc a39),.var (aD.enc a40),.var (aD.enc a41),.var (aD.enc a42),.var (aD.enc a43),.var (aD.enc a44),.mp (eM .i64 aQ.enc b10),.mp (.kv [])]:=by
 unfold iN at h;refine At.f pE hT hmo Tryz.func72 rfl h ?_;refine At.b 7 (λ_ e=>aM [0,1,2,3,4,5,6,7,8,9,10,11] (oN e)) λr1=>?_;refine At.b 10 (λ_ e=>aM [2] (sU e)) λr2=>?_;refine At.gz 2 14 ((eA 32 1 k8 r2)) ?_;refine bi λr3 hr3=>?_;refine bi λr4 hr4=>?_;refine bi λr5 hr5=>?_;refine bi λs6 hs6=>?_;refine At.d 0 (dE2 5 (j64 r3) (λ_=>eZ (lU hr3)) (dE2 8 (j64 r4) (λ_=>eZ (lU hr4)) (dE1 15 (λ_=>bV hT (x:=(.sl 1 3 [(j64 r3),(j64 r4),(j64 ((r5.length:Int)))]))) (dE1 16 (λ_=>aGL hT (N:=32) (k:=1) k8 r2 hs6) dE0)))) (dF 13 (eL 36 aO.enc r5) [] [] (bK (aM [2] (qU hr5))) dF0) ?_;apply rt;exact At.r 0
def rB : Nat->Bool:=imL [5]
def jV(N:Nat)(b10:(List (Int×aQ)))(a1:aL)(a2:(Vector Int 32))(a3:Int)(a4:aB)(a5:Bool)(a6:Int)(a7:(Vector aA 8))(a8:aB)(a9:Bool)(a10:Int)(a11:(Vector aA 8))(a12:aB)(a13:Bool)(a14:Int)(a15:(Vector aA 8))(a16:aB)(a17:Bool)(a18:Int)(a19:(Vector aA 8))(a20:aB)(a21:Bool)(a22:Int)(a23:(Vector aA 8))(a24:aB)(a25:Bool)(a26:Int)(a27:(Vector aA 8))(a28:aB)(a29:Bool)(a30:Int)(a31:(Vector aA 8))(a32:aB)(a33:Bool)(a34:Int)(a35:(Vector aA 8))(a36:aY)(a37 a38 a39 a40 a41 a42 a43 a44:aD):Option (aU):=
 cond (a1.gC==5) (
  none) (
  cond (a1.gC==7) (
   none) (
   cond (a1.gC==9) (
    aa (iN N b10 a1 a2 a3 a4 a5 a6 a7 a8 a9 a10 a11 a12 a13 a14 a15 a16 a17 a18 a19 a20 a21 a22 a23 a24 a25 a26 a27 a28 a29 a30 a31 a32 a33 a34 a35 a36 a37 a38 a39 a40 a41 a42 a43 a44) λr1=>
    some r1) (
    cond (!a5) (
     aa (jD N 13) λr2=>
     some r2) (
     cond (a1.gC==6) (
      none) (
      bS (cond (decide (a1.gI < 0)) true (decide (a1.gI>=8))) λx3=>
      cond x3 (
       aa (jD N 2) λr4=>
       some r4) (
       none))))))
theorem qH{N b10 a1 a2 a3 a4 a5 a6 a7 a8 a9 a10 a11 a12 a13 a14 a15 a16 a17 a18 a19 a20 a21 a22 a23 a24 a25 a26 a27 a28 a29 a30 a31 a32 a33 a34 a35 a36 a37 a38 a39 a40 a41 a42 a43 a44 r}(h:jV N b10 a1 a2 a3 a4 a5 a6 a7 a8 a9 a10 a11 a12 a13 a14 a15 a16 a17 a18 a19 a20 a21 a22 a23 a24 a25 a26 a27 a28 a29 a30 a31 a32 a33 a34 a35 a36 a37 a38 a39 a40 a41 a42 a43 a44=some r):FnM Tryz.prog 53 [.var (.st 429 [(eA 32 1 k8 a2),(.ref 1 [] 0),(k32 a3),(.st 392 [(.st 49 [(aB.enc a4),(eB a5),(j64 a6),(.v (.pointer none)),(.ref 2 [] 0),(eA 24 3 aA.enc a7)]),(.st 49 [(aB.enc a8),(eB a9),(j64 a10),(.v (.pointer none)),(.ref 3 [] 0),(eA 24 3 aA.enc a11)]),(.st 49 [(aB.enc a12),(eB a13),(j64 a14),(.v (.pointer none)),(.ref 4 [] 0),(eA 24 3 aA.enc a15)]),(.st 49 [(aB.enc a16),(eB a17),(j64 a18),(.v (.pointer none)),(.ref 5 [] 0),(eA 24 3 aA.enc a19)]),(.st 49 [(aB.enc a20),(eB a21),(j64 a22),(.v (.pointer none)),(.ref 6 [] 0),(eA 24 3 aA.enc a23)]),(.st 49 [(aB.enc a24),(eB a25),(j64 a26),(.v (.pointer none)),(.ref 7 [] 0),(eA 24 3 aA.enc a27)]),(.st 49 [(aB.enc a28),(eB a29),(j64 a30),(.v (.pointer none)),(.ref 8 [] 0),(eA 24 3 aA.enc a31)]),(.st 49 [(aB.enc a32),(eB a33),(j64 a34),(.v (.pointer none)),(.ref 9 [] 0),(eA 24 3 aA.enc a35)])]),(aY.enc a36)]),.var (.st 2 [(.mp 10),(.mp 11)]),.var (aD.enc a37),.var (aD.enc a38),.var (aD.enc a39),.var (aD.enc a40),.var (aD.enc a41),.var (aD.enc a42),.var (aD.enc a43),.var (aD.enc a44),.mp (eM .i64 aQ.enc b10),.mp (.kv [])] [(.ref 0 [] 0),(.ref 0 [3,0] 34),(aL.enc a1)] (aU.enc r) [.var (.st 429 [(eA 32 1 k8 a2),(.ref 1 [] 0),(k32 a3),(.st 392 [(.st 49 [(aB.enc a4),(eB a5),(j64 a6),(.v (.pointer none)),(.ref 2 [] 0),(eA 24 3 aA.enc a7)]),(.st 49 [(aB.enc a8),(eB a9),(j64 a10),(.v (.pointer none)),(.ref 3 [] 0),(eA 24 3 aA.enc a11)]),(.st 49 [(aB.enc a12),(eB a13),(j64 a14),(.v (.pointer none)),(.ref 4 [] 0),(eA 24 3 aA.enc a15)]),(.st 49 [(aB.enc a16),(eB a17),(j64 a18),(.v (.pointer none)),(.ref 5 [] 0),(eA 24 3 aA.enc a19)]),(.st 49 [(aB.enc a20),(eB a21),(j64 a22),(.v (.pointer none)),(.ref 6 [] 0),(eA 24 3 aA.enc a23)]),(.st 49 [(aB.enc a24),(eB a25),(j64 a26),(.v (.pointer none)),(.ref 7 [] 0),(eA 24 3 aA.enc a27)]),(.st 49 [(aB.enc a28),(eB a29),(j64 a30),(.v (.pointer none)),(.ref 8 [] 0),(eA 24 3 aA.enc a31)]),(.st 49 [(aB.enc a32),(eB a33),(j64 a34),(.v (.pointer none)),(.ref 9 [] 0),(eA 24 3 aA.enc a35)])]),(aY.enc a36)]),.var (.st 2 [(.mp 10),(.mp 11)]),.var (aD.enc a37),.var (aD.enc a38),.var (aD.enc a39),.var (aD.enc a40),.var (aD.enc a41),.var (aD.enc a42),.var (aD.enc a43),.var (aD.enc a44),.mp (eM .i64 aQ.enc b10),.mp (.kv [])]:=by
 unfold jV at h;refine At.f rB hT hmo Tryz.func53 rfl h ?_;refine At.c 6 ?_ ?_
 ·exact nn
 ·refine At.c 2 ?_ ?_
  ·exact nn
  ·refine At.c 2 ?_ ?_
   ·refine At.b 3 (λ_ e=>aM [0,1,2,3,4,5,6,7,8,9,10,11] (oL e)) λr1=>?_;apply rt;exact At.r 1
   ·refine At.c 6 ?_ ?_
    ·refine At.b 0 (λ_ e=>aM [] (kS e)) λr2=>?_;apply rt;exact At.r 1
    ·refine At.c 4 ?_ ?_
     ·exact nn
     ·refine lx ?_;intro x3;refine At.c 9 ?_ ?_
      ·refine At.b 0 (λ_ e=>aM [] (kS e)) λr4=>?_;apply rt;exact At.r 1
      ·exact nn
def rZ : Nat->Bool:=imL [3]
def kH(N:Nat)(b10:(List (Int×aQ)))(a1:aL)(a2:(Vector Int 32))(a3:Int)(a4:aB)(a5:Bool)(a6:Int)(a7:(Vector aA 8))(a8:aB)(a9:Bool)(a10:Int)(a11:(Vector aA 8))(a12:aB)(a13:Bool)(a14:Int)(a15:(Vector aA 8))(a16:aB)(a17:Bool)(a18:Int)(a19:(Vector aA 8))(a20:aB)(a21:Bool)(a22:Int)(a23:(Vector aA 8))(a24:aB)(a25:Bool)(a26:Int)(a27:(Vector aA 8))(a28:aB)(a29:Bool)(a30:Int)(a31:(Vector aA 8))(a32:aB)(a33:Bool)(a34:Int)(a35:(Vector aA 8))(a36:aY)(a37 a38 a39 a40 a41 a42 a43 a44:aD):Option (Int×aU):=
 aa (jS N b10 a2 a3 a4 a5 a6 a7 a8 a9 a10 a11 a12 a13 a14 a15 a16 a17 a18 a19 a20 a21 a22 a23 a24 a25 a26 a27 a28 a29 a30 a31 a32 a33 a34 a35 a36 a37 a38 a39 a40 a41 a42 a43 a44) λr1=>
 cond (a1.gC==1) (
  none) (
  cond (a1.gC==2) (
   none) (
   cond (a1.gC==3) (
    none) (
    cond (a1.gC==4) (
     none) (
     cond (a1.gC==10) (
      bS (decide (a1.gA2 > 1048576)) λx2=>
      bS (cond (decide (a1.gA2 < 1)) true x2) λx3=>
      cond x3 (
       aa (jD N 2) λr4=>
       some ((a3,r4))) (
       bS (U64 ((U64 a3)+(U64 a1.gA2))) λx5=>
       bS (U32 (rW x5 4294967295)) λx6=>
       aa (jD N 0) λr7=>
       some ((x6,r7)))) (
      aa (cond (a1.gC==5) (
       some (a1.gC==5)) (
       cond (a1.gC==6) (
        some (a1.gC==6)) (
        cond (a1.gC==7) (
         some (a1.gC==7)) (
         cond (a1.gC==8) (some (a1.gC==8)) (some (a1.gC==9)))))) λp8=>
      cond p8 (
       aa (dS N b10 a1.gF a2 a3 a4 a5 a6 a7 a8 a9 a10 a11 a12 a13 a14 a15 a16 a17 a18 a19 a20 a21 a22 a23 a24 a25 a26 a27 a28 a29 a30 a31 a32 a33 a34 a35 a36 a37 a38 a39 a40 a41 a42 a43 a44) λq=>
       rH q (λr10=>
        aa (jD N 13) λr12=>
        some ((a3,r12))) (λr11=>
        aa (jV N b10 a1 a2 a3 a4 a5 a6 a7 a8 a9 a10 a11 a12 a13 a14 a15 a16 a17 a18 a19 a20 a21 a22 a23 a24 a25 a26 a27 a28 a29 a30 a31 a32 a33 a34 a35 a36 a37 a38 a39 a40 a41 a42 a43 a44) λr13=>
        some ((a3,r13)))) (
       aa (jD N 2) λr14=>
       some ((a3,r14))))))))
theorem rA{N b10 a1 a2 a3 a4 a5 a6 a7 a8 a9 a10 a11 a12 a13 a14 a15 a16 a17 a18 a19 a20 a21 a22 a23 a24 a25 a26 a27 a28 a29 a30 a31 a32 a33 a34 a35 a36 a37 a38 a39 a40 a41 a42 a43 a44 r}(h:kH N b10 a1 a2 a3 a4 a5 a6 a7 a8 a9 a10 a11 a12 a13 a14 a15 a16 a17 a18 a19 a20 a21 a22 a23 a24 a25 a26 a27 a28 a29 a30 a31 a32 a33 a34 a35 a36 a37 a38 a39 a40 a41 a42 a43 a44=some r):FnM Tryz.prog 32 [.var (.st 429 [(eA 32 1 k8 a2),(.ref 1 [] 0),(k32 a3),(.st 392 [(.st 49 [(aB.enc a4),(eB a5),(j64 a6),(.v (.pointer none)),(.ref 2 [] 0),(eA 24 3 aA.enc a7)]),(.st 49 [(aB.enc a8),(eB a9),(j64 a10),(.v (.pointer none)),(.ref 3 [] 0),(eA 24 3 aA.enc a11)]),(.st 49 [(aB.enc a12),(eB a13),(j64 a14),(.v (.pointer none)),(.ref 4 [] 0),(eA 24 3 aA.enc a15)]),(.st 49 [(aB.enc a16),(eB a17),(j64 a18),(.v (.pointer none)),(.ref 5 [] 0),(eA 24 3 aA.enc a19)]),(.st 49 [(aB.enc a20),(eB a21),(j64 a22),(.v (.pointer none)),(.ref 6 [] 0),(eA 24 3 aA.enc a23)]),(.st 49 [(aB.enc a24),(eB a25),(j64 a26),(.v (.pointer none)),(.ref 7 [] 0),(eA 24 3 aA.enc a27)]),(.st 49 [(aB.enc a28),(eB a29),(j64 a30),(.v (.pointer none)),(.ref 8 [] 0),(eA 24 3 aA.enc a31)]),(.st 49 [(aB.enc a32),(eB a33),(j64 a34),(.v (.pointer none)),(.ref 9 [] 0),(eA 24 3 aA.enc a35)])]),(aY.enc a36)]),.var (.st 2 [(.mp 10),(.mp 11)]),.var (aD.enc a37),.var (aD.enc a38),.var (aD.enc a39),.var (aD.enc a40),.var (aD.enc a41),.var (aD.enc a42),.var (aD.enc a43),.var (aD.enc a44),.mp (eM .i64 aQ.enc b10),.mp (.kv [])] [(.ref 0 [] 0),(aL.enc a1)] (aU.enc r.2) [.var (.st 429 [(eA 32 1 k8 a2),(.ref 1 [] 0),(k32 r.1),(.st 392 [(.st 49 [(aB.enc a4),(eB a5),(j64 a6),(.v (.pointer none)),(.ref 2 [] 0),(eA 24 3 aA.enc a7)]),(.st 49 [(aB.enc a8),(eB a9),(j64 a10),(.v (.pointer none)),(.ref 3 [] 0),(eA 24 3 aA.enc a11)]),(.st 49 [(aB.enc a12),(eB a13),(j64 a14),(.v (.pointer none)),(.ref 4 [] 0),(eA 24 3 aA.enc a15)]),(.st 49 [(aB.enc a16),(eB a17),(j64 a18),(.v (.pointer none)),(.ref 5 [] 0),(eA 24 3 aA.enc a19)]),(.st 49 [(aB.enc a20),(eB a21),(j64 a22),(.v (.pointer none)),(.ref 6 [] 0),(eA 24 3 aA.enc a23)]),(.st 49 [(aB.enc a24),(eB a25),(j64 a26),(.v (.pointer none)),(.ref 7 [] 0),(eA 24 3 aA.enc a27)]),(.st 49 [(aB.enc a28),(eB a29),(j64 a30),(.v (.pointer none)),(.ref 8 [] 0),(eA 24 3 aA.enc a31)]),(.st 49 [(aB.enc a32),(eB a33),(j64 a34),(.v (.pointer none)),(.ref 9 [] 0),(eA 24 3 aA.enc a35)])]),(aY.enc a36)]),.var (.st 2 [(.mp 10),(.mp 11)]),.var (aD.enc a37),.var (aD.enc a38),.var (aD.enc a39),.var (aD.enc a40),.var (aD.enc a41),.var (aD.enc a42),.var (aD.enc a43),.var (aD.enc a44),.mp (eM .i64 aQ.enc b10),.mp (.kv [])]:=by
 unfold kH at h;refine At.f rZ hT hmo Tryz.func32 rfl h ?_;refine At.b 3 (λ_ e=>aM [0,1,2,3,4,5,6,7,8,9,10,11] (qG e)) λr1=>?_;refine At.c 5 ?_ ?_
 ·exact nn
 ·refine At.c 2 ?_ ?_
  ·exact nn
  ·refine At.c 2 ?_ ?_
   ·exact nn
   ·refine At.c 2 ?_ ?_
    ·exact nn
    ·refine At.c 2 ?_ ?_
     ·refine lx ?_;intro x2;refine lx ?_;intro x3;refine At.c 8 ?_ ?_
      ·refine At.b 0 (λ_ e=>aM [] (kS e)) λr4=>?_;apply rt;exact At.r 1
      ·refine lx ?_;intro x5;refine lx ?_;intro x6;refine At.d 0 dE0 dF0 ?_;refine At.b 0 (λ_ e=>aM [] (kS e)) λr7=>?_;apply rt;exact At.r 1
     ·refine At.J 0 1 [0,3,4] 13 (λp8=>([(98,(eB p8))],[],[])) (λp8=>?_) λp8=>?_
      ·refine At.c 2 ?_ ?_
       ·apply rt;exact At.jn 0
       ·refine At.c 2 ?_ ?_
        ·apply rt;exact At.jn 0
        ·refine At.c 2 ?_ ?_
         ·apply rt;exact At.jn 0
         ·refine At.c 2 ?_ ?_
          ·apply rt;exact At.jn 0
          ·apply rt;exact At.jn 2
      ·refine At.c 0 ?_ ?_
       ·refine sumI (λr10 hr10=>?_) (λr11 hr11=>?_)
        ·refine At.o 3 (aM [0,1,2,3,4,5,6,7,8,9,10,11] (oC hr10)) ?_;refine At.b 8 (λ_ e=>aM [] (kS e)) λr12=>?_;apply rt;exact At.r 1
        ·refine At.o 3 (aM [0,1,2,3,4,5,6,7,8,9,10,11] (oF hr11)) ?_;refine At.b 11 (λ_ e=>aM [0,1,2,3,4,5,6,7,8,9,10,11] (qH e)) λr13=>?_;apply rt;exact At.r 1
       ·refine At.b 0 (λ_ e=>aM [] (kS e)) λr14=>?_;apply rt;exact At.r 1
def aAi : Nat->Bool:=imL [2]
def nA(N:Nat)(r1:(List aL)×Int×Int)(a0:(Vector Int 32))(r2:(Vector Int 32)×(Vector Int 32)×(Vector Int 32)×(Vector Int 32)×(Vector Int 32)×(Vector Int 32)×(Vector Int 32)×(Vector Int 32)):Nat->(List Int)->Int->aB->(Vector aA 8)->aB->(Vector aA 8)->aB->(Vector aA 8)->aB->(Vector aA 8)->aB->(Vector aA 8)->aB->(Vector aA 8)->aB->(Vector aA 8)->aB->(Vector aA 8)->aY->Int->Option ((List Int)×Int×aB×(Vector aA 8)×aB×(Vector aA 8)×aB×(Vector aA 8)×aB×(Vector aA 8)×aB×(Vector aA 8)×aB×(Vector aA 8)×aB×(Vector aA 8)×aB×(Vector aA 8)×aY)
 | 0,_,_,_,_,_,_,_,_,_,_,_,_,_,_,_,_,_,_,_,_=>none
 | k+1,s4,s5,s6,s7,s8,s9,s10,s11,s12,s13,s14,s15,s16,s17,s18,s19,s20,s21,s22,s23=>
  bS (decide (s23 < ((r1.1.length:Int)))) λx24=>
  cond x24 (
   aa (idx r1.1 s23) λe25=>
   aa (kH N (([]:(List (Int×aQ)))) e25 a0 s5 s6 false 0 s7 s8 false 0 s9 s10 false 0 s11 s12 false 0 s13 s14 false 0 s15 s16 false 0 s17 s18 false 0 s19 s20 false 0 s21 s22 (aD.mk (eH.mk r2.1 0 true) (([]:(List aO)))) (aD.mk (eH.mk r2.2.1 0 true) (([]:(List aO)))) (aD.mk (eH.mk r2.2.2.1 0 true) (([]:(List aO)))) (aD.mk (eH.mk r2.2.2.2.1 0 true) (([]:(List aO)))) (aD.mk (eH.mk r2.2.2.2.2.1 0 true) (([]:(List aO)))) (aD.mk (eH.mk r2.2.2.2.2.2.1 0 true) (([]:(List aO)))) (aD.mk (eH.mk r2.2.2.2.2.2.2.1 0 true) (([]:(List aO)))) (aD.mk (eH.mk r2.2.2.2.2.2.2.2 0 true) (([]:(List aO))))) λr26=>
   aa (fF N r26.2) λr27=>
   aa (nR 1 s4 r27) λz28=>
   nA N r1 a0 r2 k z28 r26.1 s6 s7 s8 s9 s10 s11 s12 s13 s14 s15 s16 s17 s18 s19 s20 s21 s22 (I64 (s23+1))) (
   some ((s4,s5,s6,s7,s8,s9,s10,s11,s12,s13,s14,s15,s16,s17,s18,s19,s20,s21,s22)))
def pY(N:Nat)(a0:(Vector Int 32))(a1:(List Int)):Option ((List Int)):=
 aa (nB N a1) λr1=>
 aa (tT N a0) λr2=>
 aa (nA N r1 a0 r2 N [] 0 (aB.mk 0 0 0 0 0 0 (aV.mk (aF.mk 0 0 0) (aF.mk 0 0 0) (aF.mk 0 0 0) (aF.mk 0 0 0) 0 0) false) (al 8 (aA.mk 0 0 0)) (aB.mk 0 0 0 0 0 0 (aV.mk (aF.mk 0 0 0) (aF.mk 0 0 0) (aF.mk 0 0 0) (aF.mk 0 0 0) 0 0) false) (al 8 (aA.mk 0 0 0)) (aB.mk 0 0 0 0 0 0 (aV.mk (aF.mk 0 0 0) (aF.mk 0 0 0) (aF.mk 0 0 0) (aF.mk 0 0 0) 0 0) false) (al 8 (aA.mk 0 0 0)) (aB.mk 0 0 0 0 0 0 (aV.mk (aF.mk 0 0 0) (aF.mk 0 0 0) (aF.mk 0 0 0) (aF.mk 0 0 0) 0 0) false) (al 8 (aA.mk 0 0 0)) (aB.mk 0 0 0 0 0 0 (aV.mk (aF.mk 0 0 0) (aF.mk 0 0 0) (aF.mk 0 0 0) (aF.mk 0 0 0) 0 0) false) (al 8 (aA.mk 0 0 0)) (aB.mk 0 0 0 0 0 0 (aV.mk (aF.mk 0 0 0) (aF.mk 0 0 0) (aF.mk 0 0 0) (aF.mk 0 0 0) 0 0) false) (al 8 (aA.mk 0 0 0)) (aB.mk 0 0 0 0 0 0 (aV.mk (aF.mk 0 0 0) (aF.mk 0 0 0) (aF.mk 0 0 0) (aF.mk 0 0 0) 0 0) false) (al 8 (aA.mk 0 0 0)) (aB.mk 0 0 0 0 0 0 (aV.mk (aF.mk 0 0 0) (aF.mk 0 0 0) (aF.mk 0 0 0) (aF.mk 0 0 0) 0 0) false) (al 8 (aA.mk 0 0 0)) (aY.mk 0 0 0) 0) λp3=>
 aa (cond (r1.2.2 != 0) (
  aa (fF N (aU.mk r1.2.2 [] [])) λr30=>
  aa (nR 1 p3.1 r30) λz31=>
  some z31) (
  some p3.1)) λp29=>
 some p29
theorem zL{N a0 a1 r}(h:pY N a0 a1=some r):FnM Tryz.prog 19 [] [(eA 32 1 k8 a0),(eL 1 k8 a1)] (eL 1 k8 r) []:=by
 unfold pY at h;refine At.f aAi hT hmo Tryz.func19 rfl h ?_;refine At.b 3 (λ_ e=>aM [] (vT e)) λr1=>?_;refine At.b 8 (λ_ e=>aM [] (aBs e)) λr2=>?_;refine At.ownn 5 9 1 ?_;refine At.L 0 [7] 13 (λp3=>([(9,(eO 12 1 k8 p3.1))],[(3,.var (.st 429 [(eA 32 1 k8 a0),(.ref 2 [] 0),(k32 p3.2.1),(.st 392 [(.st 49 [(aB.enc p3.2.2.1),(eB false),(j64 0),(.v (.pointer none)),(.ref 4 [] 0),(eA 24 3 aA.enc p3.2.2.2.1)]),(.st 49 [(aB.enc p3.2.2.2.2.1),(eB false),(j64 0),(.v (.pointer none)),(.ref 5 [] 0),(eA 24 3 aA.enc p3.2.2.2.2.2.1)]),(.st 49 [(aB.enc p3.2.2.2.2.2.2.1),(eB false),(j64 0),(.v (.pointer none)),(.ref 6 [] 0),(eA 24 3 aA.enc p3.2.2.2.2.2.2.2.1)]),(.st 49 [(aB.enc p3.2.2.2.2.2.2.2.2.1),(eB false),(j64 0),(.v (.pointer none)),(.ref 7 [] 0),(eA 24 3 aA.enc p3.2.2.2.2.2.2.2.2.2.1)]),(.st 49 [(aB.enc p3.2.2.2.2.2.2.2.2.2.2.1),(eB false),(j64 0),(.v (.pointer none)),(.ref 8 [] 0),(eA 24 3 aA.enc p3.2.2.2.2.2.2.2.2.2.2.2.1)]),(.st 49 [(aB.enc p3.2.2.2.2.2.2.2.2.2.2.2.2.1),(eB false),(j64 0),(.v (.pointer none)),(.ref 9 [] 0),(eA 24 3 aA.enc p3.2.2.2.2.2.2.2.2.2.2.2.2.2.1)]),(.st 49 [(aB.enc p3.2.2.2.2.2.2.2.2.2.2.2.2.2.2.1),(eB false),(j64 0),(.v (.pointer none)),(.ref 10 [] 0),(eA 24 3 aA.enc p3.2.2.2.2.2.2.2.2.2.2.2.2.2.2.2.1)]),(.st 49 [(aB.enc p3.2.2.2.2.2.2.2.2.2.2.2.2.2.2.2.2.1),(eB false),(j64 0),(.v (.pointer none)),(.ref 11 [] 0),(eA 24 3 aA.enc p3.2.2.2.2.2.2.2.2.2.2.2.2.2.2.2.2.2.1)])]),(aY.enc p3.2.2.2.2.2.2.2.2.2.2.2.2.2.2.2.2.2.2)])),(12,.tail (p3.1.length*1))],[])) (λp3 J k=>∃s4 s5 s6 s7 s8 s9 s10 s11 s12 s13 s14 s15 s16 s17 s18 s19 s20 s21 s22 s23,nA N r1 a0 r2 k s4 s5 s6 s7 s8 s9 s10 s11 s12 s13 s14 s15 s16 s17 s18 s19 s20 s21 s22 s23=some p3/\J [7,8,20,21] 13 [(9,(eO 12 1 k8 s4)),(22,(j64 s23))] [(3,.var (.st 429 [(eA 32 1 k8 a0),(.ref 2 [] 0),(k32 s5),(.st 392 [(.st 49 [(aB.enc s6),(eB false),(j64 0),(.v (.pointer none)),(.ref 4 [] 0),(eA 24 3 aA.enc s7)]),(.st 49 [(aB.enc s8),(eB false),(j64 0),(.v (.pointer none)),(.ref 5 [] 0),(eA 24 3 aA.enc s9)]),(.st 49 [(aB.enc s10),(eB false),(j64 0),(.v (.pointer none)),(.ref 6 [] 0),(eA 24 3 aA.enc s11)]),(.st 49 [(aB.enc s12),(eB false),(j64 0),(.v (.pointer none)),(.ref 7 [] 0),(eA 24 3 aA.enc s13)]),(.st 49 [(aB.enc s14),(eB false),(j64 0),(.v (.pointer none)),(.ref 8 [] 0),(eA 24 3 aA.enc s15)]),(.st 49 [(aB.enc s16),(eB false),(j64 0),(.v (.pointer none)),(.ref 9 [] 0),(eA 24 3 aA.enc s17)]),(.st 49 [(aB.enc s18),(eB false),(j64 0),(.v (.pointer none)),(.ref 10 [] 0),(eA 24 3 aA.enc s19)]),(.st 49 [(aB.enc s20),(eB false),(j64 0),(.v (.pointer none)),(.ref 11 [] 0),(eA 24 3 aA.enc s21)])]),(aY.enc s22)])),(12,.tail (s4.length*1))] []) N (λ_ h=>⟨_,_,_,_,_,_,_,_,_,_,_,_,_,_,_,_,_,_,_,_,h,jr⟩) (λp3 k s hI=>?_) λp3=>?_
 ·obtain⟨s4,s5,s6,s7,s8,s9,s10,s11,s12,s13,s14,s15,s16,s17,s18,s19,s20,s21,s22,s23,h,hj⟩:=hI;cases k with
  | zero=>cases h
  | succ k=>
   refine At.jr hj ?_ h;refine lx ?_;intro x24;refine At.c 1 ?_ ?_
   ·refine At.b 0 (λ_ e=>dW hT aL.enc e) λe25=>?_;refine At.b 6 (λ_ e=>aM [3,2,4,5,6,7,8,9,10,11,0,1] (rA e)) λr26=>?_;refine At.b 0 (λ_ e=>aM [] (kU e)) λr27=>?_;refine At.b 0 (λ_ e=>iH hT k8 (id:=12) (k:=1) e) λz28=>?_;exact λh=>At.k 3 ⟨_,_,_,_,_,_,_,_,_,_,_,_,_,_,_,_,_,_,_,_,h,jr⟩
   ·apply rt;exact At.x 0
 ·refine At.J 0 1 [] 13 (λp29=>([(9,(eO 12 1 k8 p29))],[(12,.tail (p29.length*1))],[])) (λp29=>?_) λp29=>?_
  ·refine At.c 2 ?_ ?_
   ·refine At.b 3 (λ_ e=>aM [] (kU e)) λr30=>?_;refine At.b 0 (λ_ e=>iH hT k8 (id:=12) (k:=1) e) λz31=>?_;apply rt;exact At.jn 1
   ·apply rt;exact At.jn 0
  ·apply rt;exact At.r 2
def hQ(N:Nat):Option (Bool):=
 aa (pY N (al 32 0) ([9,0])) λr1=>
 bS (((r1.length:Int))==62) λx2=>
 some x2
theorem sV{N r}(h:hQ N=some r):FnM Tryz.prog 10 [] [] (eB r) []:=by
 unfold hQ at h;refine At.f dQ hT hmo Tryz.func10 rfl h ?_;refine At.o 2 (bV hT (x:=(.sl 1 2 [(k8 9),(k8 0)]))) ?_;refine At.b 0 (λ_ e=>aM [] (zL e)) λr1=>?_;refine lx ?_;intro x2;apply rt;exact At.r 3
def eC(N:Nat)(a0:(List aL))(a1:aU):Option (Bool):=
 bS (rW ((a0.length:Int)) 60) λx1=>
 aa (pM a0 0 x1) λs2=>
 bS ((a1.gG.length:Int)) λx3=>
 aa (pM a1.gG 0 (rW x3 300)) λs4=>
 bS ((a1.gJ.length:Int)) λx5=>
 aa (pM a1.gJ 0 (rW x5 300)) λs6=>
 aa (jK N s2) λr7=>
 aa (fH N s2) λr8=>
 aa (aa (jQ N r7.1 r8.1) λr10=>
 cond r10 (
  cond (r7.2==r8.2) (
   aa (fF N (aU.mk a1.gA3 s4 s6)) λr11=>
   aa (fI N (aU.mk a1.gA3 s4 s6)) λr12=>
   aa (jQ N r11 r12) λr13=>
   cond r13 (
    aa (hQ N ) λr14=>
    some r14) (
    some false)) (
   some false)) (
  some false)) λp9=>
 some p9
theorem nL{N a0 a1 r}(h:eC N a0 a1=some r):FnM Tryz.prog 3 [] [(eL 46 aL.enc a0),(aU.enc a1)] (eB r) []:=by
 unfold eC at h;refine At.f dQ hT hmo Tryz.func3 rfl h ?_;refine lx ?_;intro x1;refine At.b 6 (λ_ e=>oQ hT (k:=46) aL.enc e) λs2=>?_;refine lx ?_;intro x3;refine bi λs4 hs4=>?_;refine lx ?_;intro x5;refine bi λs6 hs6=>?_;refine At.d 1 (dE1 6 (λ_=>oQ hT (k:=1) j64 hs4) (dE1 13 (λ_=>oQ hT (k:=1) k8 hs6) dE0)) dF0 ?_;refine At.b 1 (λ_ e=>aM [] (vB e)) λr7=>?_;refine At.b 6 (λ_ e=>aM [] (sD e)) λr8=>?_;refine At.J 5 0 [] 1 (λp9=>([(4,(eB p9))],[],[])) (λp9=>?_) λp9=>?_
 ·refine bi λr10 hr10=>?_;refine boI (λhc3=>?_) (λhc3=>?_)
  ·refine boI (λhc8=>?_) (λhc8=>?_)
   ·refine bi λr11 hr11=>?_;refine bi λr12 hr12=>?_;refine bi λr13 hr13=>?_;refine boI (λhc15=>?_) (λhc15=>?_)
    ·refine bi λr14 hr14=>?_;refine At.d 0 (dE2 2 (eB r10) (λ_=>eZ (jA hr10)) (dE1 3 (λ_=>mN hc3 rfl (kO hT (im:=false) (by kernel_rfl))) (dE1 8 (λ_=>mN hc8 rfl (kO hT (im:=false) (by kernel_rfl))) (dE2 10 (eL 1 k8 r11) (λ_=>eZ (kU hr11)) (dE2 12 (eL 1 k8 r12) (λ_=>eZ (mQ hr12)) (dE2 13 (eB r13) (λ_=>eZ (jA hr13)) (dE1 15 (λ_=>mN hc15 rfl (kO hT (im:=false) (by kernel_rfl))) (dE2 16 (eB r14) (λ_=>eZ (sV hr14)) dE0)))))))) dF0 ?_;apply rt;exact At.jn 0
    ·refine At.d 0 (dE2 2 (eB r10) (λ_=>eZ (jA hr10)) (dE1 3 (λ_=>mN hc3 rfl (kO hT (im:=false) (by kernel_rfl))) (dE1 8 (λ_=>mN hc8 rfl (kO hT (im:=false) (by kernel_rfl))) (dE2 10 (eL 1 k8 r11) (λ_=>eZ (kU hr11)) (dE2 12 (eL 1 k8 r12) (λ_=>eZ (mQ hr12)) (dE2 13 (eB r13) (λ_=>eZ (jA hr13)) (dE1 15 (λ_=>mN hc15 rfl (kO hT (im:=false) (by kernel_rfl))) dE0))))))) dF0 ?_;apply rt;exact At.jn 0
   ·refine At.d 0 (dE2 2 (eB r10) (λ_=>eZ (jA hr10)) (dE1 3 (λ_=>mN hc3 rfl (kO hT (im:=false) (by kernel_rfl))) (dE1 8 (λ_=>mN hc8 rfl (kO hT (im:=false) (by kernel_rfl))) dE0))) dF0 ?_;apply rt;exact At.jn 0
  ·refine At.d 0 (dE2 2 (eB r10) (λ_=>eZ (jA hr10)) (dE1 3 (λ_=>mN hc3 rfl (kO hT (im:=false) (by kernel_rfl))) dE0)) dF0 ?_;apply rt;exact At.jn 0
 ·apply rt;exact At.r 0
end Go.UK
