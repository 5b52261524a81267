/- A part of the proof: what the functions of the program compute. -/
import Derived.Test.YtljnaeghnleipaaGreatBT
open Int renaming tdiv→cz,tmod→cf,toNat→af
open List renaming length_map→ce,map→gc,replicate→am
open Option renaming bind→ae
open Vector renaming replicate→ah
namespace Go.UK
open Go Go.Proofs
set_option maxRecDepth 20000
set_option maxHeartbeats 40000000
set_option linter.all false
attribute [local irreducible] adv aHk aDM xM brPt aJ9 aEw pO yR aKi dH nW eT aD7 aIO aGz lPt owp awl aw FnM aIl opS Stab TOK Big
def aC9 : Nat->Bool:=imL [1]
def rY(N:Nat)(a0:aM):Option (aM):=
 aO ((a0.gF.length:Int)) λx1=>
 ae (eU a0.gF 0 (lP x1 70)) λs2=>
 aO (lP ((a0.gJ.length:Int)) 70) λx3=>
 ae (eU a0.gJ 0 x3) λs4=>
 aO ((a0.gI.length:Int)) λx5=>
 ae (eU a0.gI 0 (lP x5 70)) λs6=>
 some (aM.mk s2 s4 s6)
theorem aCX{N a0 r}(h:rY N a0=some r):FnM Tryz.prog 17 [] [(aM.enc a0)] (aM.enc r) []:=by
 unfold rY at h;refine At.f aC9 hT hmo Tryz.func17 rfl h ?_;refine lx ?_;intro x1;refine bi λs2 hs2=>?_;refine lx ?_;intro x3;refine bi λs4 hs4=>?_;refine lx ?_;intro x5;refine bi λs6 hs6=>?_;refine At.d 2 (dE1 6 (λ_=>jV hT (k:=3) aB.enc hs2) (dE1 13 (λ_=>jV hT (k:=2) (eA 2 1 j64) hs4) (dE1 20 (λ_=>jV hT (k:=3) (eA 3 1 j64) hs6) dE0))) dF0 ?_;apply rt;exact At.r 0
def pR(N:Nat)(a0:aE):Option (aE):=
 ae (rY N a0.gQ) λr1=>
 aO ((a0.gW.gK.length:Int)) λx2=>
 ae (eU a0.gW.gK 0 (lP x2 260)) λs3=>
 some (aE.mk a0.gC r1 (aI.mk a0.gW.gN s3) a0.gG a0.gD)
theorem aCW{N a0 r}(h:pR N a0=some r):FnM Tryz.prog 5 [] [(aE.enc a0)] (aE.enc r) []:=by
 unfold pR at h;refine At.f fZ hT hmo Tryz.func5 rfl h ?_;refine At.b 4 (λ_ e=>aK [] (aCX e)) λr1=>?_;refine lx ?_;intro x2;refine At.b 10 (λ_ e=>jV hT (k:=3) (eA 3 1 j64) e) λs3=>?_;apply rt;exact At.r 5
def aFS : Nat->Bool:=imL [1]
def nZ(N:Nat)(a0:aB):Option (Bool):=
 ae (aO (decide ((tM (tM a0.gX a0.gY) a0.gZ) > 4096)) λx2=>
 cond x2 (
  some true) (
  aO (decide ((lP (lP a0.gX a0.gY) a0.gZ) < (-4096))) λx3=>
  some x3)) λp1=>
 some p1
theorem aEE{N a0 r}(h:nZ N a0=some r):FnM Tryz.prog 129 [] [(aB.enc a0)] (eB r) []:=by
 unfold nZ at h;refine At.f aFS hT hmo Tryz.func129 rfl h ?_;refine At.J 2 0 [] 0 (λp1=>([(2,(eB p1))],[],[])) (λp1=>?_) λp1=>?_
 ·refine At.o 6 (aCG (k := .i64) (i:=a0.gX) (j:=a0.gY) (l:=a0.gZ) (by kernel_rfl) (by kernel_rfl)) ?_;refine lx ?_;intro x2;refine At.s 11 2 ?_ ?_
  ·refine At.g [11] 10 ?_;apply rt;exact At.jn 0
  ·refine At.g [11] 6 ?_;refine At.o 0 (aCP (k := .i64) (i:=a0.gX) (j:=a0.gY) (l:=a0.gZ) (by kernel_rfl) (by kernel_rfl)) ?_;refine lx ?_;intro x3;refine At.g [11] 3 ?_;apply rt;exact At.jn 0
 ·apply rt;exact At.r 0
def aP(N:Nat)(a0:(List aB)):Nat->Int->Option (Sum (Unit) (Int))
 | 0,_=>none
 | k+1,s2=>
  aO (decide (s2 < ((a0.length:Int)))) λx3=>
  cond x3 (
   ae (idx a0 s2) λe4=>
   ae (nZ N e4) λr5=>
   cond r5 (
    some (Sum.inr s2)) (
    aP N a0 k (I64 (s2+1)))) (
   some (Sum.inl (())))
def bQ(N:Nat)(a0:(List aB)):Option (Int):=
 ae (aP N a0 N 0) λo=>oP o (λp1=>
  some (-1)) (λr=>some r)
theorem oY{N a0 r}(h:bQ N a0=some r):FnM Tryz.prog 148 [] [(eL 3 aB.enc a0),(.fn (.func 129) [] [])] (j64 r) []:=by
 unfold bQ at h;refine At.f fZ hT hmo Tryz.func148 rfl h ?_;refine At.LS 4 [] 0 (λp1=>([],[],[])) (λop1 J k=>∃s2,aP N a0 k s2=some op1/\J [0,1,7] 0 [(8,(j64 s2))] [] []) N (λ_ h=>⟨_,h,jr⟩) (λop1 g1 k s hI=>?_) λp1=>?_
 ·obtain⟨s2,h,hj⟩:=hI;cases k with
  | zero=>cases h
  | succ k=>
   refine At.jr hj ?_ h;refine lx ?_;intro x3;refine At.c 1 ?_ ?_
   ·refine At.b 5 (λ_ e=>bF hT aB.enc e) λe4=>?_;refine At.b 1 (λ_ e=>aK [] (aEE e)) λr5=>?_;refine At.c 0 ?_ ?_
    ·intro e;apply wT g1 e;exact At.r 2
    ·exact λh=>At.k 2 ⟨_,h,jr⟩
   ·apply rt;exact At.xs 0
 ·apply rt;exact At.r 1
def bM(N:Nat)(a0:(List aB)):Option (Bool):=
 ae (bQ N a0) λr1=>
 some (decide (r1>=0))
theorem nS{N a0 r}(h:bM N a0=some r):FnM Tryz.prog 132 [] [(eL 3 aB.enc a0),(.fn (.func 129) [] [])] (eB r) []:=by
 unfold bM at h;refine At.f fZ hT hmo Tryz.func132 rfl h ?_;refine At.b 3 (λ_ e=>aK [] (oY e)) λr1=>?_;apply rt;exact At.r 2
def aEl : Nat->Bool:=imL [1]
def oJ(N:Nat)(a0:(Vector Int 2)):Option (Bool):=
 ae (ae (idx a0.toList 0) λe2=>
 ae (idx a0.toList 1) λe3=>
 aO (decide ((lP e2 e3) < 0)) λx4=>
 cond x4 (
  some true) (
  ae (idx a0.toList 0) λe5=>
  ae (idx a0.toList 1) λe6=>
  aO (decide ((tM e5 e6) > 65535)) λx7=>
  some x7)) λp1=>
 some p1
theorem aEB{N a0 r}(h:oJ N a0=some r):FnM Tryz.prog 130 [] [(eA 2 1 j64 a0)] (eB r) []:=by
 unfold oJ at h;refine At.f aEl hT hmo Tryz.func130 rfl h ?_;refine At.J 2 0 [] 0 (λp1=>([(2,(eB p1))],[],[])) (λp1=>?_) λp1=>?_
 ·refine At.b 0 (λ_ e=>bN hT (N:=2) (k:=1) j64 a0 e) λe2=>?_;refine At.b 1 (λ_ e=>bN hT (N:=2) (k:=1) j64 a0 e) λe3=>?_;refine lx ?_;intro x4;refine At.s 9 4 ?_ ?_
  ·refine At.g [9] 8 ?_;apply rt;exact At.jn 0
  ·refine At.b 0 (λ_ e=>bN hT (N:=2) (k:=1) j64 a0 e) λe5=>?_;refine At.g [9] 1 ?_;refine At.b 0 (λ_ e=>bN hT (N:=2) (k:=1) j64 a0 e) λe6=>?_;refine lx ?_;intro x7;refine At.g [9] 5 ?_;apply rt;exact At.jn 0
 ·apply rt;exact At.r 0
def aZ(N:Nat)(a0:(List (Vector Int 2))):Nat->Int->Option (Sum (Unit) (Int))
 | 0,_=>none
 | k+1,s2=>
  aO (decide (s2 < ((a0.length:Int)))) λx3=>
  cond x3 (
   ae (idx a0 s2) λe4=>
   ae (oJ N e4) λr5=>
   cond r5 (
    some (Sum.inr s2)) (
    aZ N a0 k (I64 (s2+1)))) (
   some (Sum.inl (())))
def cK(N:Nat)(a0:(List (Vector Int 2))):Option (Int):=
 ae (aZ N a0 N 0) λo=>oP o (λp1=>
  some (-1)) (λr=>some r)
theorem rC{N a0 r}(h:cK N a0=some r):FnM Tryz.prog 149 [] [(eL 2 (eA 2 1 j64) a0),(.fn (.func 130) [] [])] (j64 r) []:=by
 unfold cK at h;refine At.f fZ hT hmo Tryz.func149 rfl h ?_;refine At.LS 4 [] 0 (λp1=>([],[],[])) (λop1 J k=>∃s2,aZ N a0 k s2=some op1/\J [0,1,7] 0 [(8,(j64 s2))] [] []) N (λ_ h=>⟨_,h,jr⟩) (λop1 g1 k s hI=>?_) λp1=>?_
 ·obtain⟨s2,h,hj⟩:=hI;cases k with
  | zero=>cases h
  | succ k=>
   refine At.jr hj ?_ h;refine lx ?_;intro x3;refine At.c 1 ?_ ?_
   ·refine At.b 5 (λ_ e=>bF hT (eA 2 1 j64) e) λe4=>?_;refine At.b 1 (λ_ e=>aK [] (aEB e)) λr5=>?_;refine At.c 0 ?_ ?_
    ·intro e;apply wT g1 e;exact At.r 2
    ·exact λh=>At.k 2 ⟨_,h,jr⟩
   ·apply rt;exact At.xs 0
 ·apply rt;exact At.r 1
def bZ(N:Nat)(a0:(List (Vector Int 2))):Option (Bool):=
 ae (cK N a0) λr1=>
 some (decide (r1>=0))
theorem qG{N a0 r}(h:bZ N a0=some r):FnM Tryz.prog 133 [] [(eL 2 (eA 2 1 j64) a0),(.fn (.func 130) [] [])] (eB r) []:=by
 unfold bZ at h;refine At.f fZ hT hmo Tryz.func133 rfl h ?_;refine At.b 3 (λ_ e=>aK [] (rC e)) λr1=>?_;apply rt;exact At.r 2
def aCC : Nat->Bool:=imL [2]
def kI(N:Nat)(a0:(Vector Int 3))(a1:aM):Option (Bool):=
 ae (ae (idx a0.toList 0) λe2=>
 ae (idx a0.toList 1) λe3=>
 ae (idx a0.toList 2) λe4=>
 aO (decide ((lP (lP e2 e3) e4) < 0)) λx5=>
 cond x5 (
  some true) (
  ae (idx a0.toList 0) λe6=>
  ae (idx a0.toList 1) λe7=>
  ae (idx a0.toList 2) λe8=>
  aO ((a1.gF.length:Int)) λx9=>
  aO (decide ((tM (tM e6 e7) e8)>=x9)) λx10=>
  cond x10 (
   some true) (
   ae (idx a0.toList 0) λe11=>
   ae (idx a0.toList 1) λe12=>
   cond (e11==e12) (
    some true) (
    ae (idx a0.toList 1) λe13=>
    ae (idx a0.toList 2) λe14=>
    cond (e13==e14) (
     some true) (
     ae (idx a0.toList 2) λe15=>
     ae (idx a0.toList 0) λe16=>
     some (e15==e16)))))) λp1=>
 some p1
theorem aBY{N a0 a1 r}(h:kI N a0 a1=some r):FnM Tryz.prog 131 [] [(eA 3 1 j64 a0),(.im (aM.enc a1))] (eB r) []:=by
 unfold kI at h;refine At.f aCC hT hmo Tryz.func131 rfl h ?_;refine At.J 2 0 [] 0 (λp1=>([(3,(eB p1))],[],[])) (λp1=>?_) λp1=>?_
 ·refine At.b 0 (λ_ e=>bN hT (N:=3) (k:=1) j64 a0 e) λe2=>?_;refine At.b 1 (λ_ e=>bN hT (N:=3) (k:=1) j64 a0 e) λe3=>?_;refine At.b 1 (λ_ e=>bN hT (N:=3) (k:=1) j64 a0 e) λe4=>?_;refine At.o 1 (aCP (k := .i64) (i:=e2) (j:=e3) (l:=e4) (by kernel_rfl) (by kernel_rfl)) ?_;refine lx ?_;intro x5;refine At.s 12 2 ?_ ?_
  ·refine At.g [12,25,32,39] 34 ?_;apply rt;exact At.jn 0
  ·refine At.b 0 (λ_ e=>bN hT (N:=3) (k:=1) j64 a0 e) λe6=>?_;refine At.g [12] 1 ?_;refine At.b 0 (λ_ e=>bN hT (N:=3) (k:=1) j64 a0 e) λe7=>?_;refine At.g [12] 1 ?_;refine At.b 0 (λ_ e=>bN hT (N:=3) (k:=1) j64 a0 e) λe8=>?_;refine At.g [12] 1 ?_;refine At.o 0 (aCG (k := .i64) (i:=e6) (j:=e7) (l:=e8) (by kernel_rfl) (by kernel_rfl)) ?_;refine lx ?_;intro x9;refine lx ?_;intro x10;refine At.g [12] 6 ?_;refine At.s 25 0 ?_ ?_
   ·refine At.g [25,32,39] 21 ?_;apply rt;exact At.jn 0
   ·refine At.b 0 (λ_ e=>bN hT (N:=3) (k:=1) j64 a0 e) λe11=>?_;refine At.g [25] 1 ?_;refine At.b 0 (λ_ e=>bN hT (N:=3) (k:=1) j64 a0 e) λe12=>?_;refine At.g [25] 4 ?_;refine At.s 32 0 ?_ ?_
    ·refine At.g [32,39] 14 ?_;apply rt;exact At.jn 0
    ·refine At.b 0 (λ_ e=>bN hT (N:=3) (k:=1) j64 a0 e) λe13=>?_;refine At.g [32] 1 ?_;refine At.b 0 (λ_ e=>bN hT (N:=3) (k:=1) j64 a0 e) λe14=>?_;refine At.g [32] 4 ?_;refine At.s 39 0 ?_ ?_
     ·refine At.g [39] 7 ?_;apply rt;exact At.jn 0
     ·refine At.b 0 (λ_ e=>bN hT (N:=3) (k:=1) j64 a0 e) λe15=>?_;refine At.g [39] 1 ?_;refine At.b 0 (λ_ e=>bN hT (N:=3) (k:=1) j64 a0 e) λe16=>?_;refine At.g [39] 4 ?_;apply rt;exact At.jn 0
 ·apply rt;exact At.r 0
def bA(N:Nat)(a0:(List (Vector Int 3)))(a1:aM):Nat->Int->Option (Sum (Unit) (Int))
 | 0,_=>none
 | k+1,s2=>
  aO (decide (s2 < ((a0.length:Int)))) λx3=>
  cond x3 (
   ae (idx a0 s2) λe4=>
   ae (kI N e4 a1) λr5=>
   cond r5 (
    some (Sum.inr s2)) (
    bA N a0 a1 k (I64 (s2+1)))) (
   some (Sum.inl (())))
def cJ(N:Nat)(a0:(List (Vector Int 3)))(a1:aM):Option (Int):=
 ae (bA N a0 a1 N 0) λo=>oP o (λp1=>
  some (-1)) (λr=>some r)
theorem rE{N a0 a1 r}(h:cJ N a0 a1=some r):FnM Tryz.prog 150 [] [(eL 3 (eA 3 1 j64) a0),(.fn (.func 131) [] [(.im (aM.enc a1))])] (j64 r) []:=by
 unfold cJ at h;refine At.f fZ hT hmo Tryz.func150 rfl h ?_;refine At.LS 4 [] 0 (λp1=>([],[],[])) (λop1 J k=>∃s2,bA N a0 a1 k s2=some op1/\J [0,1,7] 0 [(8,(j64 s2))] [] []) N (λ_ h=>⟨_,h,jr⟩) (λop1 g1 k s hI=>?_) λp1=>?_
 ·obtain⟨s2,h,hj⟩:=hI;cases k with
  | zero=>cases h
  | succ k=>
   refine At.jr hj ?_ h;refine lx ?_;intro x3;refine At.c 1 ?_ ?_
   ·refine At.b 5 (λ_ e=>bF hT (eA 3 1 j64) e) λe4=>?_;refine At.b 1 (λ_ e=>aK [] (aBY e)) λr5=>?_;refine At.c 0 ?_ ?_
    ·intro e;apply wT g1 e;exact At.r 2
    ·exact λh=>At.k 2 ⟨_,h,jr⟩
   ·apply rt;exact At.xs 0
 ·apply rt;exact At.r 1
def bY(N:Nat)(a0:(List (Vector Int 3)))(a1:aM):Option (Bool):=
 ae (cJ N a0 a1) λr1=>
 some (decide (r1>=0))
theorem qK{N a0 a1 r}(h:bY N a0 a1=some r):FnM Tryz.prog 134 [] [(eL 3 (eA 3 1 j64) a0),(.fn (.func 131) [] [(.im (aM.enc a1))])] (eB r) []:=by
 unfold bY at h;refine At.f fZ hT hmo Tryz.func134 rfl h ?_;refine At.b 3 (λ_ e=>aK [] (rE e)) λr1=>?_;apply rt;exact At.r 2
def aHJ : Nat->Bool:=imL [1]
def jT(N:Nat)(a0:aM):Option (Int):=
 aO ((a0.gF.length:Int)) λx1=>
 aO ((a0.gI.length:Int)) λx2=>
 aO (cond (decide (x1 > 64)) true (decide (x2 > 64))) λx3=>
 cond x3 (
  some 3) (
  aO ((a0.gF.length:Int)) λx4=>
  aO ((a0.gI.length:Int)) λx5=>
  aO (cond (x4==0) true (x5==0)) λx6=>
  aO ((a0.gF.length:Int)) λx7=>
  aO (((a0.gJ.length:Int)) != x7) λx8=>
  cond (cond x6 true x8) (
   some 5) (
   ae (bM N a0.gF) λr9=>
   cond r9 (
    some 8) (
    ae (ae (bZ N a0.gJ) λr11=>
    cond r11 (
     some true) (
     ae (bY N a0.gI a0) λr12=>
     some r12)) λp10=>
    cond p10 (some 5) (some 0))))
theorem xV{N a0 r}(h:jT N a0=some r):FnM Tryz.prog 107 [] [(aM.enc a0)] (j64 r) []:=by
 unfold jT at h;refine At.f aHJ hT hmo Tryz.func107 rfl h ?_;refine At.o 4 (aHM (x:=(.fn (.func 131) [] [(.im (aM.enc a0))])) (by kernel_rfl) (by kernel_rfl)) ?_;refine lx ?_;intro x1;refine lx ?_;intro x2;refine lx ?_;intro x3;refine At.c 12 ?_ ?_
 ·apply rt;exact At.r 1
 ·refine lx ?_;intro x4;refine lx ?_;intro x5;refine lx ?_;intro x6;refine lx ?_;intro x7;refine lx ?_;intro x8;refine At.c 20 ?_ ?_
  ·apply rt;exact At.r 1
  ·refine At.b 3 (λ_ e=>aK [] (nS e)) λr9=>?_;refine At.c 1 ?_ ?_
   ·apply rt;exact At.r 1
   ·refine At.J 0 0 [] 0 (λp10=>([(43,(eB p10))],[],[])) (λp10=>?_) λp10=>?_
    ·refine At.b 3 (λ_ e=>aK [] (qG e)) λr11=>?_;refine At.s 48 1 ?_ ?_
     ·refine At.g [48] 6 ?_;apply rt;exact At.jn 0
     ·refine At.g [48] 3 ?_;refine At.b 0 (λ_ e=>aK [] (qK e)) λr12=>?_;refine At.g [48] 2 ?_;apply rt;exact At.jn 0
    ·refine At.c 0 ?_ ?_
     ·apply rt;exact At.r 1
     ·apply rt;exact At.r 1
def cT(N:Nat)(a0:(List Int))(a1:Int):Nat->Int->Option (Sum (Unit) (Int))
 | 0,_=>none
 | k+1,s2=>
  aO (decide (s2 < ((a0.length:Int)))) λx3=>
  cond x3 (
   ae (idx a0 s2) λe4=>
   cond (a1==e4) (
    some (Sum.inr s2)) (
    cT N a0 a1 k (I64 (s2+1)))) (
   some (Sum.inl (())))
def kS(N:Nat)(a0:(List Int))(a1:Int):Option (Int):=
 ae (cT N a0 a1 N 0) λo=>oP o (λp1=>
  some (-1)) (λr=>some r)
theorem yF{N a0 a1 r}(h:kS N a0 a1=some r):FnM Tryz.prog 151 [] [(eL 1 j64 a0),(j64 a1)] (j64 r) []:=by
 unfold kS at h;refine At.f fZ hT hmo Tryz.func151 rfl h ?_;refine At.LS 4 [] 0 (λp1=>([],[],[])) (λop1 J k=>∃s2,cT N a0 a1 k s2=some op1/\J [0,1,7] 0 [(8,(j64 s2))] [] []) N (λ_ h=>⟨_,h,jr⟩) (λop1 g1 k s hI=>?_) λp1=>?_
 ·obtain⟨s2,h,hj⟩:=hI;cases k with
  | zero=>cases h
  | succ k=>
   refine At.jr hj ?_ h;refine lx ?_;intro x3;refine At.c 1 ?_ ?_
   ·refine At.b 5 (λ_ e=>bF hT j64 e) λe4=>?_;refine At.c 2 ?_ ?_
    ·intro e;apply wT g1 e;exact At.r 2
    ·exact λh=>At.k 2 ⟨_,h,jr⟩
   ·apply rt;exact At.xs 0
 ·apply rt;exact At.r 1
def eY(N:Nat)(a0:(List Int))(a1:Int):Option (Bool):=
 ae (kS N a0 a1) λr1=>
 some (decide (r1>=0))
theorem wJ{N a0 a1 r}(h:eY N a0 a1=some r):FnM Tryz.prog 135 [] [(eL 1 j64 a0),(j64 a1)] (eB r) []:=by
 unfold eY at h;refine At.f fZ hT hmo Tryz.func135 rfl h ?_;refine At.b 3 (λ_ e=>aK [] (yF e)) λr1=>?_;apply rt;exact At.r 2
def aD3 : Nat->Bool:=imL [1]
def hU(N:Nat)(x5:Int)(a0:aI):Nat->Int->Option (Sum (Unit) (Int))
 | 0,_=>none
 | k+1,s7=>
  cond (decide (s7 < x5)) (
   ae (idx a0.gK s7) λe8=>
   ae (ae (aQ 0 3) λ_=>
   ae (e8.toList[(af 0)]?) λe11=>
   ae (aQ 1 3) λ_=>
   ae (e8.toList[(af 1)]?) λe13=>
   ae (aQ 2 3) λ_=>
   ae (e8.toList[(af 2)]?) λe15=>
   aO (decide ((lP (lP e11 e13) e15) < 0)) λx16=>
   cond x16 (
    some true) (
    ae (aQ 0 3) λ_=>
    ae (e8.toList[(af 0)]?) λe18=>
    ae (aQ 1 3) λ_=>
    ae (e8.toList[(af 1)]?) λe20=>
    ae (aQ 2 3) λ_=>
    ae (e8.toList[(af 2)]?) λe22=>
    aO (decide ((tM (tM e18 e20) e22) > 255)) λx23=>
    some x23)) λp9=>
   cond p9 (some (Sum.inr 5)) (hU N x5 a0 k (I64 (s7+1)))) (
   some (Sum.inl (())))
def eE(N:Nat)(a0:aI):Option (Int):=
 ae (eY N ([1,2,4,8,16]) a0.gN) λr1=>
 aO ((a0.gK.length:Int)) λx2=>
 aO (I64 (a0.gN*a0.gN)) λx3=>
 aO (cond (!r1) true (x2 != x3)) λx4=>
 cond x4 (
  some 5) (
  aO ((a0.gK.length:Int)) λx5=>
  ae (hU N x5 a0 N 0) λo=>oP o (λp6=>
   some 0) (λr=>some r))
theorem uH{N a0 r}(h:eE N a0=some r):FnM Tryz.prog 108 [] [(aI.enc a0)] (j64 r) []:=by
 unfold eE at h;refine At.f aD3 hT hmo Tryz.func108 rfl h ?_;refine At.o 2 (bI hT (x:=(.sl 1 5 [(j64 1),(j64 2),(j64 4),(j64 8),(j64 16)]))) ?_;refine At.b 2 (λ_ e=>aK [] (wJ e)) λr1=>?_;refine lx ?_;intro x2;refine lx ?_;intro x3;refine lx ?_;intro x4;refine At.c 12 ?_ ?_
 ·apply rt;exact At.r 1
 ·refine lx ?_;intro x5;refine At.LS 4 [] 0 (λp6=>([],[],[])) (λop6 J k=>∃s7,hU N x5 a0 k s7=some op6/\J [22,23] 0 [(24,(j64 s7))] [] []) N (λ_ h=>⟨_,h,jr⟩) (λop6 g6 k s hI=>?_) λp6=>?_
  ·obtain⟨s7,h,hj⟩:=hI;cases k with
   | zero=>cases h
   | succ k=>
    refine At.jr hj ?_ h;refine At.c 1 ?_ ?_
    ·refine At.b 0 (λ_ e=>bF hT (eA 3 1 j64) e) λe8=>?_;refine At.J 3 0 [22,23,24] 1 (λp9=>([(45,(eB p9))],[],[])) (λp9=>?_) λp9=>?_
     ·refine At.b 0 (λ_ e=>aG hT (k:=1) 0 [] 0 e) λu10=>?_;refine At.b 0 (λ_ e=>aY hT j64 0 e) λe11=>?_;refine At.b 0 (λ_ e=>aG hT (k:=1) 0 [] 0 e) λu12=>?_;refine At.b 0 (λ_ e=>aY hT j64 0 e) λe13=>?_;refine At.b 0 (λ_ e=>aG hT (k:=1) 0 [] 0 e) λu14=>?_;refine At.b 0 (λ_ e=>aY hT j64 0 e) λe15=>?_;refine At.o 0 (aCP (k := .i64) (i:=e11) (j:=e13) (l:=e15) (by kernel_rfl) (by kernel_rfl)) ?_;refine lx ?_;intro x16;refine At.s 36 2 ?_ ?_
      ·refine At.g [36] 9 ?_;apply rt;exact At.jn 0
      ·refine At.b 0 (λ_ e=>aG hT (k:=1) 0 [] 0 e) λu17=>?_;refine At.b 0 (λ_ e=>aY hT j64 0 e) λe18=>?_;refine At.b 0 (λ_ e=>aG hT (k:=1) 0 [] 0 e) λu19=>?_;refine At.b 0 (λ_ e=>aY hT j64 0 e) λe20=>?_;refine At.b 0 (λ_ e=>aG hT (k:=1) 0 [] 0 e) λu21=>?_;refine At.b 0 (λ_ e=>aY hT j64 0 e) λe22=>?_;refine At.o 0 (aCG (k := .i64) (i:=e18) (j:=e20) (l:=e22) (by kernel_rfl) (by kernel_rfl)) ?_;refine lx ?_;intro x23;refine At.g [36] 2 ?_;apply rt;exact At.jn 0
     ·refine At.c 0 ?_ ?_
      ·intro e;apply wT g6 e;exact At.r 1
      ·exact λh=>At.k 2 ⟨_,h,jr⟩
    ·apply rt;exact At.xs 0
  ·apply rt;exact At.r 1
def oQ(N:Nat)(a0 a1:Int):Option (Bool):=
 aO (cond (decide (a0 < 0)) true (decide (a0 > a1))) λx1=>
 some x1
theorem aAC{N a0 a1 r}(h:oQ N a0 a1=some r):FnM Tryz.prog 153 [] [(j64 a0),(.im (j64 a1))] (eB r) []:=by
 unfold oQ at h;refine At.f fZ hT hmo Tryz.func153 rfl h ?_;refine lx ?_;intro x1;apply rt;exact At.r 9
def bD(N:Nat)(a0:(List Int))(a1:Int):Nat->Int->Option (Sum (Unit) (Int))
 | 0,_=>none
 | k+1,s2=>
  aO (decide (s2 < ((a0.length:Int)))) λx3=>
  cond x3 (
   ae (idx a0 s2) λe4=>
   ae (oQ N e4 a1) λr5=>
   cond r5 (
    some (Sum.inr s2)) (
    bD N a0 a1 k (I64 (s2+1)))) (
   some (Sum.inl (())))
def cV(N:Nat)(a0:(List Int))(a1:Int):Option (Int):=
 ae (bD N a0 a1 N 0) λo=>oP o (λp1=>
  some (-1)) (λr=>some r)
theorem rT{N a0 a1 r}(h:cV N a0 a1=some r):FnM Tryz.prog 161 [] [(eL 1 j64 a0),(.fn (.func 153) [] [(.im (j64 a1))])] (j64 r) []:=by
 unfold cV at h;refine At.f fZ hT hmo Tryz.func161 rfl h ?_;refine At.LS 4 [] 0 (λp1=>([],[],[])) (λop1 J k=>∃s2,bD N a0 a1 k s2=some op1/\J [0,1,7] 0 [(8,(j64 s2))] [] []) N (λ_ h=>⟨_,h,jr⟩) (λop1 g1 k s hI=>?_) λp1=>?_
 ·obtain⟨s2,h,hj⟩:=hI;cases k with
  | zero=>cases h
  | succ k=>
   refine At.jr hj ?_ h;refine lx ?_;intro x3;refine At.c 1 ?_ ?_
   ·refine At.b 5 (λ_ e=>bF hT j64 e) λe4=>?_;refine At.b 1 (λ_ e=>aK [] (aAC e)) λr5=>?_;refine At.c 0 ?_ ?_
    ·intro e;apply wT g1 e;exact At.r 2
    ·exact λh=>At.k 2 ⟨_,h,jr⟩
   ·apply rt;exact At.xs 0
 ·apply rt;exact At.r 1
def cD(N:Nat)(a0:(List Int))(a1:Int):Option (Bool):=
 ae (cV N a0 a1) λr1=>
 some (decide (r1>=0))
theorem qU{N a0 a1 r}(h:cD N a0 a1=some r):FnM Tryz.prog 152 [] [(eL 1 j64 a0),(.fn (.func 153) [] [(.im (j64 a1))])] (eB r) []:=by
 unfold cD at h;refine At.f fZ hT hmo Tryz.func152 rfl h ?_;refine At.b 3 (λ_ e=>aK [] (rT e)) λr1=>?_;apply rt;exact At.r 2
def aEH : Nat->Bool:=imL [2]
def iD(N:Nat)(a0:Int)(a1:(List Int)):Option (Bool):=
 ae (cD N a1 a0) λr1=>
 some r1
theorem sA{N a0 a1 r}(h:iD N a0 a1=some r):FnM Tryz.prog 136 [] [(j64 a0),(eL 1 j64 a1)] (eB r) []:=by
 unfold iD at h;refine At.f aEH hT hmo Tryz.func136 rfl h ?_;refine At.o 3 (aHM (x:=(.fn (.func 153) [] [(.im (j64 a0))])) (by kernel_rfl) (by kernel_rfl)) ?_;refine At.b 0 (λ_ e=>aK [] (qU e)) λr1=>?_;apply rt;exact At.r 1
def aCv : Nat->Bool:=imL [1]
def lZ(N:Nat)(a0:aF):Option (Int):=
 ae (ae (iD N 4 ([a0.gC])) λr2=>
 cond r2 (
  some true) (
  ae (idx a0.gE.toList 0) λe3=>
  ae (idx a0.gE.toList 1) λe4=>
  ae (idx a0.gE.toList 2) λe5=>
  ae (iD N 65535 ([e3,e4,e5,a0.gA1])) λr6=>
  some r6)) λp1=>
 cond p1 (some 5) (some 0)
theorem aCY{N a0 r}(h:lZ N a0=some r):FnM Tryz.prog 111 [] [(aF.enc a0)] (j64 r) []:=by
 unfold lZ at h;refine At.f aCv hT hmo Tryz.func111 rfl h ?_;refine At.J 2 0 [] 0 (λp1=>([(21,(eB p1))],[],[])) (λp1=>?_) λp1=>?_
 ·refine At.o 2 (bI hT (x:=(.sl 1 1 [(j64 a0.gC)]))) ?_;refine At.b 0 (λ_ e=>aK [] (sA e)) λr2=>?_;refine At.s 7 1 ?_ ?_
  ·refine At.g [7] 14 ?_;apply rt;exact At.jn 0
  ·refine At.g [7] 1 ?_;refine At.b 0 (λ_ e=>bN hT (N:=3) (k:=1) j64 a0.gE e) λe3=>?_;refine At.g [7] 2 ?_;refine At.b 0 (λ_ e=>bN hT (N:=3) (k:=1) j64 a0.gE e) λe4=>?_;refine At.g [7] 2 ?_;refine At.b 0 (λ_ e=>bN hT (N:=3) (k:=1) j64 a0.gE e) λe5=>?_;refine At.g [7] 3 ?_;refine At.o 0 (bI hT (x:=(.sl 1 4 [(j64 e3),(j64 e4),(j64 e5),(j64 a0.gA1)]))) ?_;refine At.b 0 (λ_ e=>aK [] (sA e)) λr6=>?_;refine At.g [7] 1 ?_;apply rt;exact At.jn 0
 ·refine At.c 0 ?_ ?_
  ·apply rt;exact At.r 1
  ·apply rt;exact At.r 1
def aED : Nat->Bool:=imL [1]
def mU(N:Nat)(a0:aB):Option (Bool):=
 ae (aO (decide ((tM (tM a0.gX a0.gY) a0.gZ) > 4096)) λx2=>
 cond x2 (
  some true) (
  aO (decide ((lP (lP a0.gX a0.gY) a0.gZ) < (-4096))) λx3=>
  some x3)) λp1=>
 some p1
theorem uE{N a0 r}(h:mU N a0=some r):FnM Tryz.prog 137 [] [(aB.enc a0)] (eB r) []:=by
 unfold mU at h;refine At.f aED hT hmo Tryz.func137 rfl h ?_;refine At.J 2 0 [] 0 (λp1=>([(2,(eB p1))],[],[])) (λp1=>?_) λp1=>?_
 ·refine At.o 6 (aCG (k := .i64) (i:=a0.gX) (j:=a0.gY) (l:=a0.gZ) (by kernel_rfl) (by kernel_rfl)) ?_;refine lx ?_;intro x2;refine At.s 11 2 ?_ ?_
  ·refine At.g [11] 10 ?_;apply rt;exact At.jn 0
  ·refine At.g [11] 6 ?_;refine At.o 0 (aCP (k := .i64) (i:=a0.gX) (j:=a0.gY) (l:=a0.gZ) (by kernel_rfl) (by kernel_rfl)) ?_;refine lx ?_;intro x3;refine At.g [11] 3 ?_;apply rt;exact At.jn 0
 ·apply rt;exact At.r 0
def aF1 : Nat->Bool:=imL [1]
def pG(N:Nat)(a0:aJ):Option (Int):=
 ae (ae (iD N 2 ([a0.gC])) λr2=>
 cond r2 (
  some true) (
  ae (eU a0.gE.toList 0 3) λs3=>
  ae (iD N 1048576 s3) λr4=>
  some r4)) λp1=>
 cond p1 (
  some 5) (
  ae (ae (mU N a0.gAt) λr6=>
  cond r6 (
   some true) (
   ae (mU N a0.gU) λr7=>
   cond r7 (
    some true) (
    ae (mU N a0.gV) λr8=>
    some r8))) λp5=>
  cond p5 (
   some 8) (
   ae (cond (a0.gC==2) (
    cond (!(aB.eq a0.gAt (aB.mk 0 0 0))) (
     some (Sum.inr 5)) (
     ae (aO (!(aB.eq a0.gU (aB.mk 0 0 0))) λx11=>
     cond x11 (
      some true) (
      some (!(aB.eq a0.gV (aB.mk 0 0 0))))) λp10=>
     cond p10 (some (Sum.inr 5)) (some (Sum.inl (()))))) (
    cond (a0.gC==0) (
     ae (aO (!(aB.eq a0.gU (aB.mk 0 0 0))) λx13=>
     cond x13 (
      some true) (
      some (!(aB.eq a0.gV (aB.mk 0 0 0))))) λp12=>
     cond p12 (some (Sum.inr 5)) (some (Sum.inl (())))) (
     some (Sum.inl (()))))) λo=>oP o (λp9=>
    some 0) (λr=>some r)))
theorem aFQ{N a0 r}(h:pG N a0=some r):FnM Tryz.prog 112 [] [(aJ.enc a0)] (j64 r) []:=by
 unfold pG at h;refine At.f aF1 hT hmo Tryz.func112 rfl h ?_;refine At.J 6 0 [1,3,4] 1 (λp1=>([(6,(eB p1))],[],[])) (λp1=>?_) λp1=>?_
 ·refine At.o 2 (bI hT (x:=(.sl 1 1 [(j64 a0.gC)]))) ?_;refine At.b 0 (λ_ e=>aK [] (sA e)) λr2=>?_;refine At.s 11 1 ?_ ?_
  ·refine At.g [11] 5 ?_;apply rt;exact At.jn 0
  ·refine At.g [11] 1 ?_;refine At.b 0 (λ_ e=>mC hT (N:=3) (k:=1) j64 a0.gE e) λs3=>?_;refine At.b 0 (λ_ e=>aK [] (sA e)) λr4=>?_;refine At.g [11] 2 ?_;apply rt;exact At.jn 0
 ·refine At.c 0 ?_ ?_
  ·apply rt;exact At.r 1
  ·refine At.J 0 0 [1,4] 1 (λp5=>([(16,(eB p5))],[],[])) (λp5=>?_) λp5=>?_
   ·refine At.b 3 (λ_ e=>aK [] (uE e)) λr6=>?_;refine At.s 21 1 ?_ ?_
    ·refine At.g [21,27] 12 ?_;apply rt;exact At.jn 0
    ·refine At.g [21] 3 ?_;refine At.b 0 (λ_ e=>aK [] (uE e)) λr7=>?_;refine At.g [21] 2 ?_;refine At.s 27 0 ?_ ?_
     ·refine At.g [27] 6 ?_;apply rt;exact At.jn 0
     ·refine At.g [27] 3 ?_;refine At.b 0 (λ_ e=>aK [] (uE e)) λr8=>?_;refine At.g [27] 2 ?_;apply rt;exact At.jn 0
   ·refine At.c 0 ?_ ?_
    ·apply rt;exact At.r 1
    ·refine At.JS 0 1 [] 1 (λp9=>([],[],[])) (λop9 g9=>?_) λp9=>?_
     ·refine At.c 4 ?_ ?_
      ·refine At.o 3 (mB tP (a0.gAt:aB) (aB.mk 0 0 0:aB) (by kernel_rfl) (by kernel_rfl) (λ_=>rfl) (λ_=>rfl) (by kernel_rfl) (by kernel_rfl)) ?_;refine At.c 0 ?_ ?_
       ·intro e;apply wT g9 e;exact At.r 1
       ·refine At.J 0 0 [] 1 (λp10=>([(52,(eB p10))],[],[])) (λp10=>?_) λp10=>?_
        ·refine At.o 3 (mB tP (a0.gU:aB) (aB.mk 0 0 0:aB) (by kernel_rfl) (by kernel_rfl) (λ_=>rfl) (λ_=>rfl) (by kernel_rfl) (by kernel_rfl)) ?_;refine lx ?_;intro x11;refine At.s 47 1 ?_ ?_
         ·refine At.g [47] 5 ?_;apply rt;exact At.jn 0
         ·refine At.g [47] 3 ?_;refine At.o 0 (mB tP (a0.gV:aB) (aB.mk 0 0 0:aB) (by kernel_rfl) (by kernel_rfl) (λ_=>rfl) (λ_=>rfl) (by kernel_rfl) (by kernel_rfl)) ?_;refine At.g [47] 1 ?_;apply rt;exact At.jn 0
        ·refine At.c 0 ?_ ?_
         ·intro e;apply wT g9 e;exact At.r 1
         ·apply rt;exact At.jsn 0
      ·refine At.c 2 ?_ ?_
       ·refine At.J 0 0 [] 1 (λp12=>([(52,(eB p12))],[],[])) (λp12=>?_) λp12=>?_
        ·refine At.o 3 (mB tP (a0.gU:aB) (aB.mk 0 0 0:aB) (by kernel_rfl) (by kernel_rfl) (λ_=>rfl) (λ_=>rfl) (by kernel_rfl) (by kernel_rfl)) ?_;refine lx ?_;intro x13;refine At.s 47 1 ?_ ?_
         ·refine At.g [47] 5 ?_;apply rt;exact At.jn 0
         ·refine At.g [47] 3 ?_;refine At.o 0 (mB tP (a0.gV:aB) (aB.mk 0 0 0:aB) (by kernel_rfl) (by kernel_rfl) (λ_=>rfl) (λ_=>rfl) (by kernel_rfl) (by kernel_rfl)) ?_;refine At.g [47] 1 ?_;apply rt;exact At.jn 0
        ·refine At.c 0 ?_ ?_
         ·intro e;apply wT g9 e;exact At.r 1
         ·apply rt;exact At.jsn 0
       ·apply rt;exact At.jsn 0
     ·apply rt;exact At.r 1
def aHz : Nat->Bool:=imL [1]
def mN(N:Nat)(a0:aE):Option (Int):=
 cond (a0.gC==1) (
  ae (jT N a0.gQ) λr1=>
  some r1) (
  cond (a0.gC==2) (
   ae (eE N a0.gW) λr2=>
   some r2) (
   cond (a0.gC==3) (
    ae (lZ N a0.gG) λr3=>
    some r3) (
    cond (a0.gC==4) (
     ae (pG N a0.gD) λr4=>
     some r4) (
     some 12))))
theorem aHN{N a0 r}(h:mN N a0=some r):FnM Tryz.prog 77 [] [(aE.enc a0)] (j64 r) []:=by
 unfold mN at h;refine At.f aHz hT hmo Tryz.func77 rfl h ?_;refine At.c 6 ?_ ?_
 ·refine At.b 2 (λ_ e=>aK [] (xV e)) λr1=>?_;apply rt;exact At.r 1
 ·refine At.c 2 ?_ ?_
  ·refine At.b 2 (λ_ e=>aK [] (uH e)) λr2=>?_;apply rt;exact At.r 1
  ·refine At.c 2 ?_ ?_
   ·refine At.b 2 (λ_ e=>aK [] (aCY e)) λr3=>?_;apply rt;exact At.r 1
   ·refine At.c 2 ?_ ?_
    ·refine At.b 2 (λ_ e=>aK [] (aFQ e)) λr4=>?_;apply rt;exact At.r 1
    ·apply rt;exact At.r 1
def tR(N:Nat)(a0:aE):Option (aE):=
 ae (cond (a0.gC==1) (
  some (([],[],[],a0.gW.gN,a0.gW.gK,a0.gG.gC,a0.gG.gE,a0.gG.gA1,a0.gD.gC,a0.gD.gE,a0.gD.gAt.gX,a0.gD.gAt.gY,a0.gD.gAt.gZ,a0.gD.gU.gX,a0.gD.gU.gY,a0.gD.gU.gZ,a0.gD.gV.gX,a0.gD.gV.gY,a0.gD.gV.gZ))) (
  cond (a0.gC==2) (
   some ((a0.gQ.gF,a0.gQ.gJ,a0.gQ.gI,0,[],a0.gG.gC,a0.gG.gE,a0.gG.gA1,a0.gD.gC,a0.gD.gE,a0.gD.gAt.gX,a0.gD.gAt.gY,a0.gD.gAt.gZ,a0.gD.gU.gX,a0.gD.gU.gY,a0.gD.gU.gZ,a0.gD.gV.gX,a0.gD.gV.gY,a0.gD.gV.gZ))) (
   cond (a0.gC==3) (
    some ((a0.gQ.gF,a0.gQ.gJ,a0.gQ.gI,a0.gW.gN,a0.gW.gK,0,#v[0,0,0],0,a0.gD.gC,a0.gD.gE,a0.gD.gAt.gX,a0.gD.gAt.gY,a0.gD.gAt.gZ,a0.gD.gU.gX,a0.gD.gU.gY,a0.gD.gU.gZ,a0.gD.gV.gX,a0.gD.gV.gY,a0.gD.gV.gZ))) (
    cond (a0.gC==4) (
     some ((a0.gQ.gF,a0.gQ.gJ,a0.gQ.gI,a0.gW.gN,a0.gW.gK,a0.gG.gC,a0.gG.gE,a0.gG.gA1,0,#v[0,0,0],0,0,0,0,0,0,0,0,0))) (
     some ((a0.gQ.gF,a0.gQ.gJ,a0.gQ.gI,a0.gW.gN,a0.gW.gK,a0.gG.gC,a0.gG.gE,a0.gG.gA1,a0.gD.gC,a0.gD.gE,a0.gD.gAt.gX,a0.gD.gAt.gY,a0.gD.gAt.gZ,a0.gD.gU.gX,a0.gD.gU.gY,a0.gD.gU.gZ,a0.gD.gV.gX,a0.gD.gV.gY,a0.gD.gV.gZ))))))) λp1=>
 some (aE.mk a0.gC (aM.mk p1.1 p1.2.1 p1.2.2.1) (aI.mk p1.2.2.2.1 p1.2.2.2.2.1) (aF.mk p1.2.2.2.2.2.1 p1.2.2.2.2.2.2.1 p1.2.2.2.2.2.2.2.1) (aJ.mk p1.2.2.2.2.2.2.2.2.1 p1.2.2.2.2.2.2.2.2.2.1 (aB.mk p1.2.2.2.2.2.2.2.2.2.2.1 p1.2.2.2.2.2.2.2.2.2.2.2.1 p1.2.2.2.2.2.2.2.2.2.2.2.2.1) (aB.mk p1.2.2.2.2.2.2.2.2.2.2.2.2.2.1 p1.2.2.2.2.2.2.2.2.2.2.2.2.2.2.1 p1.2.2.2.2.2.2.2.2.2.2.2.2.2.2.2.1) (aB.mk p1.2.2.2.2.2.2.2.2.2.2.2.2.2.2.2.2.1 p1.2.2.2.2.2.2.2.2.2.2.2.2.2.2.2.2.2.1 p1.2.2.2.2.2.2.2.2.2.2.2.2.2.2.2.2.2.2)))
theorem aF5{N a0 r}(h:tR N a0=some r):FnM Tryz.prog 79 [] [(aE.enc a0)] (aE.enc r) []:=by
 unfold tR at h;refine At.f fZ hT hmo Tryz.func79 rfl h ?_;refine At.J 2 1 [1,2] 2 (λp1=>([],[(0,.var (.st 24 [(j64 a0.gC),(.st 3 [(eL 3 aB.enc p1.1),(eL 2 (eA 2 1 j64) p1.2.1),(eL 3 (eA 3 1 j64) p1.2.2.1)]),(.st 2 [(j64 p1.2.2.2.1),(eL 3 (eA 3 1 j64) p1.2.2.2.2.1)]),(.st 5 [(j64 p1.2.2.2.2.2.1),(eA 3 1 j64 p1.2.2.2.2.2.2.1),(j64 p1.2.2.2.2.2.2.2.1)]),(.st 13 [(j64 p1.2.2.2.2.2.2.2.2.1),(eA 3 1 j64 p1.2.2.2.2.2.2.2.2.2.1),(.st 3 [(j64 p1.2.2.2.2.2.2.2.2.2.2.1),(j64 p1.2.2.2.2.2.2.2.2.2.2.2.1),(j64 p1.2.2.2.2.2.2.2.2.2.2.2.2.1)]),(.st 3 [(j64 p1.2.2.2.2.2.2.2.2.2.2.2.2.2.1),(j64 p1.2.2.2.2.2.2.2.2.2.2.2.2.2.2.1),(j64 p1.2.2.2.2.2.2.2.2.2.2.2.2.2.2.2.1)]),(.st 3 [(j64 p1.2.2.2.2.2.2.2.2.2.2.2.2.2.2.2.2.1),(j64 p1.2.2.2.2.2.2.2.2.2.2.2.2.2.2.2.2.2.1),(j64 p1.2.2.2.2.2.2.2.2.2.2.2.2.2.2.2.2.2.2)])])]))],[])) (λp1=>?_) λp1=>?_
 ·refine At.c 4 ?_ ?_
  ·apply rt;exact At.jn 3
  ·refine At.c 2 ?_ ?_
   ·apply rt;exact At.jn 3
   ·refine At.c 2 ?_ ?_
    ·apply rt;exact At.jn 3
    ·refine At.c 2 ?_ ?_
     ·apply rt;exact At.jn 3
     ·apply rt;exact At.jn 0
 ·apply rt;exact At.r 2
def eJ(N:Nat)(a0 a1:(List aB)):Nat->Int->Option (Sum (Unit) (Bool))
 | 0,_=>none
 | k+1,s3=>
  aO (decide (s3 < ((a0.length:Int)))) λx4=>
  cond x4 (
   ae (idx a0 s3) λe5=>
   ae (idx a1 s3) λe6=>
   cond (!(aB.eq e5 e6)) (
    some (Sum.inr false)) (
    eJ N a0 a1 k (I64 (s3+1)))) (
   some (Sum.inl (())))
def kG(N:Nat)(a0 a1:(List aB)):Option (Bool):=
 aO (((a0.length:Int)) != ((a1.length:Int))) λx1=>
 cond x1 (
  some false) (
  ae (eJ N a0 a1 N 0) λo=>oP o (λp2=>
   some true) (λr=>some r))
theorem xW{N a0 a1 r}(h:kG N a0 a1=some r):FnM Tryz.prog 113 [] [(eL 3 aB.enc a0),(eL 3 aB.enc a1)] (eB r) []:=by
 unfold kG at h;refine At.f fZ hT hmo Tryz.func113 rfl h ?_;refine lx ?_;intro x1;refine At.c 6 ?_ ?_
 ·apply rt;exact At.r 1
 ·refine At.LS 3 [] 0 (λp2=>([],[],[])) (λop2 J k=>∃s3,eJ N a0 a1 k s3=some op2/\J [0,1,12] 0 [(13,(j64 s3))] [] []) N (λ_ h=>⟨_,h,jr⟩) (λop2 g2 k s hI=>?_) λp2=>?_
  ·obtain⟨s3,h,hj⟩:=hI;cases k with
   | zero=>cases h
   | succ k=>
    refine At.jr hj ?_ h;refine lx ?_;intro x4;refine At.c 1 ?_ ?_
    ·refine bi λe5 he5=>?_;refine bi λe6 he6=>?_;refine At.d 2 (dE1 2 (λ_=>bF hT aB.enc he5) (dE1 6 (λ_=>bF hT aB.enc he6) (dE1 8 (λ_=>mB tP (e5:aB) (e6:aB) (by kernel_rfl) (by kernel_rfl) (λ_=>rfl) (λ_=>rfl) (by kernel_rfl) (by kernel_rfl)) dE0))) dF0 ?_;refine At.c 0 ?_ ?_
     ·intro e;apply wT g2 e;exact At.r 1
     ·exact λh=>At.k 2 ⟨_,h,jr⟩
    ·apply rt;exact At.xs 0
  ·apply rt;exact At.r 1
def iE(N:Nat)(a0 a1:(List (Vector Int 2))):Nat->Int->Option (Sum (Unit) (Bool))
 | 0,_=>none
 | k+1,s3=>
  aO (decide (s3 < ((a0.length:Int)))) λx4=>
  cond x4 (
   ae (idx a0 s3) λe5=>
   ae (idx a1 s3) λe6=>
   cond (!((eqV (λa b=>a==b)) e5 e6)) (
    some (Sum.inr false)) (
    iE N a0 a1 k (I64 (s3+1)))) (
   some (Sum.inl (())))
def nC(N:Nat)(a0 a1:(List (Vector Int 2))):Option (Bool):=
 aO (((a0.length:Int)) != ((a1.length:Int))) λx1=>
 cond x1 (
  some false) (
  ae (iE N a0 a1 N 0) λo=>oP o (λp2=>
   some true) (λr=>some r))
theorem aAG{N a0 a1 r}(h:nC N a0 a1=some r):FnM Tryz.prog 114 [] [(eL 2 (eA 2 1 j64) a0),(eL 2 (eA 2 1 j64) a1)] (eB r) []:=by
 unfold nC at h;refine At.f fZ hT hmo Tryz.func114 rfl h ?_;refine lx ?_;intro x1;refine At.c 6 ?_ ?_
 ·apply rt;exact At.r 1
 ·refine At.LS 3 [] 0 (λp2=>([],[],[])) (λop2 J k=>∃s3,iE N a0 a1 k s3=some op2/\J [0,1,12] 0 [(13,(j64 s3))] [] []) N (λ_ h=>⟨_,h,jr⟩) (λop2 g2 k s hI=>?_) λp2=>?_
  ·obtain⟨s3,h,hj⟩:=hI;cases k with
   | zero=>cases h
   | succ k=>
    refine At.jr hj ?_ h;refine lx ?_;intro x4;refine At.c 1 ?_ ?_
    ·refine bi λe5 he5=>?_;refine bi λe6 he6=>?_;refine At.d 2 (dE1 2 (λ_=>bF hT (eA 2 1 j64) he5) (dE1 6 (λ_=>bF hT (eA 2 1 j64) he6) (dE1 8 (λ_=>mB aOV (e5:(Vector Int 2)) (e6:(Vector Int 2)) (by kernel_rfl) (by kernel_rfl) (λ_=>rfl) (λ_=>rfl) (by kernel_rfl) (by kernel_rfl)) dE0))) dF0 ?_;refine At.c 0 ?_ ?_
     ·intro e;apply wT g2 e;exact At.r 1
     ·exact λh=>At.k 2 ⟨_,h,jr⟩
    ·apply rt;exact At.xs 0
  ·apply rt;exact At.r 1
def iJ(N:Nat)(a0 a1:(List (Vector Int 3))):Nat->Int->Option (Sum (Unit) (Bool))
 | 0,_=>none
 | k+1,s3=>
  aO (decide (s3 < ((a0.length:Int)))) λx4=>
  cond x4 (
   ae (idx a0 s3) λe5=>
   ae (idx a1 s3) λe6=>
   cond (!((eqV (λa b=>a==b)) e5 e6)) (
    some (Sum.inr false)) (
    iJ N a0 a1 k (I64 (s3+1)))) (
   some (Sum.inl (())))
def lD(N:Nat)(a0 a1:(List (Vector Int 3))):Option (Bool):=
 aO (((a0.length:Int)) != ((a1.length:Int))) λx1=>
 cond x1 (
  some false) (
  ae (iJ N a0 a1 N 0) λo=>oP o (λp2=>
   some true) (λr=>some r))
theorem uV{N a0 a1 r}(h:lD N a0 a1=some r):FnM Tryz.prog 115 [] [(eL 3 (eA 3 1 j64) a0),(eL 3 (eA 3 1 j64) a1)] (eB r) []:=by
 unfold lD at h;refine At.f fZ hT hmo Tryz.func115 rfl h ?_;refine lx ?_;intro x1;refine At.c 6 ?_ ?_
 ·apply rt;exact At.r 1
 ·refine At.LS 3 [] 0 (λp2=>([],[],[])) (λop2 J k=>∃s3,iJ N a0 a1 k s3=some op2/\J [0,1,12] 0 [(13,(j64 s3))] [] []) N (λ_ h=>⟨_,h,jr⟩) (λop2 g2 k s hI=>?_) λp2=>?_
  ·obtain⟨s3,h,hj⟩:=hI;cases k with
   | zero=>cases h
   | succ k=>
    refine At.jr hj ?_ h;refine lx ?_;intro x4;refine At.c 1 ?_ ?_
    ·refine bi λe5 he5=>?_;refine bi λe6 he6=>?_;refine At.d 2 (dE1 2 (λ_=>bF hT (eA 3 1 j64) he5) (dE1 6 (λ_=>bF hT (eA 3 1 j64) he6) (dE1 8 (λ_=>mB aJV (e5:(Vector Int 3)) (e6:(Vector Int 3)) (by kernel_rfl) (by kernel_rfl) (λ_=>rfl) (λ_=>rfl) (by kernel_rfl) (by kernel_rfl)) dE0))) dF0 ?_;refine At.c 0 ?_ ?_
     ·intro e;apply wT g2 e;exact At.r 1
     ·exact λh=>At.k 2 ⟨_,h,jr⟩
    ·apply rt;exact At.xs 0
  ·apply rt;exact At.r 1
def aG9 : Nat->Bool:=imL [2,3]
def qI(N:Nat)(a0 a1:aE):Option (Bool):=
 ae (cond (a0.gC != a1.gC) (
  some true) (
  aO (!(aF.eq a0.gG a1.gG)) λx2=>
  cond x2 (
   some true) (
   aO (!(aJ.eq a0.gD a1.gD)) λx3=>
   aO (a0.gW.gN != a1.gW.gN) λx4=>
   some (cond x3 true x4)))) λp1=>
 cond p1 (
  some false) (
  ae (ae (kG N a0.gQ.gF a1.gQ.gF) λr6=>
  cond r6 (
   ae (nC N a0.gQ.gJ a1.gQ.gJ) λr7=>
   cond r7 (
    ae (lD N a0.gQ.gI a1.gQ.gI) λr8=>
    cond r8 (
     ae (lD N a0.gW.gK a1.gW.gK) λr9=>
     some r9) (
     some false)) (
    some false)) (
   some false)) λp5=>
  some p5)
theorem aFv{N a0 a1 r}(h:qI N a0 a1=some r):FnM Tryz.prog 78 [] [(aE.enc a0),(aE.enc a1)] (eB r) []:=by
 unfold qI at h;refine At.f aG9 hT hmo Tryz.func78 rfl h ?_;refine At.J 3 0 [2,3] 0 (λp1=>([(32,(eB p1))],[],[])) (λp1=>?_) λp1=>?_
 ·refine At.s 10 6 ?_ ?_
  ·refine At.g [10,17,24] 22 ?_;apply rt;exact At.jn 0
  ·refine At.g [10] 4 ?_;refine At.o 0 (mB aHV (a0.gG:aF) (a1.gG:aF) (by kernel_rfl) (by kernel_rfl) (λ_=>rfl) (λ_=>rfl) (by kernel_rfl) (by kernel_rfl)) ?_;refine lx ?_;intro x2;refine At.g [10] 2 ?_;refine At.s 17 0 ?_ ?_
   ·refine At.g [17,24] 15 ?_;apply rt;exact At.jn 0
   ·refine At.g [17] 4 ?_;refine At.o 0 (mB aGx (a0.gD:aJ) (a1.gD:aJ) (by kernel_rfl) (by kernel_rfl) (λ_=>rfl) (λ_=>rfl) (by kernel_rfl) (by kernel_rfl)) ?_;refine lx ?_;intro x3;refine lx ?_;intro x4;refine At.g [17] 10 ?_;apply rt;exact At.jn 0
 ·refine At.c 0 ?_ ?_
  ·apply rt;exact At.r 1
  ·refine At.J 0 0 [] 0 (λp5=>([(4,(eB p5))],[],[])) (λp5=>?_) λp5=>?_
   ·refine At.b 6 (λ_ e=>aK [] (xW e)) λr6=>?_;refine At.s 40 1 ?_ ?_
    ·refine At.g [40] 6 ?_;refine At.b 0 (λ_ e=>aK [] (aAG e)) λr7=>?_;refine At.g [40] 2 ?_;refine At.s 49 0 ?_ ?_
     ·refine At.g [49] 6 ?_;refine At.b 0 (λ_ e=>aK [] (uV e)) λr8=>?_;refine At.g [49] 2 ?_;refine At.s 58 0 ?_ ?_
      ·refine At.g [58] 6 ?_;refine At.b 0 (λ_ e=>aK [] (uV e)) λr9=>?_;refine At.g [58] 2 ?_;apply rt;exact At.jn 0
      ·refine At.g [58] 9 ?_;apply rt;exact At.jn 0
     ·refine At.g [49,58] 18 ?_;apply rt;exact At.jn 0
    ·refine At.g [40,49,58] 27 ?_;apply rt;exact At.jn 0
   ·apply rt;exact At.r 0
def fJ(N:Nat)(a0:(List Int)):Option ((List Int)):=
 ae (mH 1 (([]:List Int)) a0) λz1=>
 some z1
theorem sC{N a0 r}(h:fJ N a0=some r):FnM Tryz.prog 51 [] [(eL 1 k8 a0)] (eO 0 1 k8 r) [.tail (r.length*1)]:=by
 unfold fJ at h;refine At.f fZ hT hmo Tryz.func51 rfl h ?_;refine At.q hT 2 (d:=4) (t:=47) (e:=5) (z:=1) (x:=(eL 1 k8 a0)) (es:=gc k8 a0) rfl ?_ (λhe=>?_)
 ·refine At.o 1 (sK hT k8 (k:=1) ([]:List Int) (by kernel_rfl) (by kernel_rfl)) ?_;refine At.b 1 (λ_ e=>cH hT k8 (id:=0) (k:=1) e) λz1=>?_;apply rt;exact At.r 1
 ·have h0:a0=[]:=List.map_eq_nil_iff.1 he;subst h0;change some []=_->_;refine At.ownn 2 2 1 ?_;apply rt;exact At.r 0
def nU(N:Nat)(a1 e7:Int):Nat->(List Int)->Int->Option ((List Int))
 | 0,_,_=>none
 | k+1,s11,s12=>
  cond (decide (s12 < a1)) (
   ae (yG .u64 e7 (I64 (8*s12))) λx13=>
   ae (mH 1 s11 (([U8 x13]:List Int))) λz14=>
   nU N a1 e7 k z14 (I64 (s12+1))) (
   some s11)
def pV(N:Nat)(a2:(List Int))(a1:Int):Nat->(List Int)->Int->Option (Sum ((List Int)) ((List Int)×Int))
 | 0,_,_=>none
 | k+1,s4,s5=>
  aO (decide (s5 < ((a2.length:Int)))) λx6=>
  cond x6 (
   ae (idx a2 s5) λe7=>
   ae (cond (decide (a1 < 8)) (
    ae (yG .u64 e7 (I64 (8*a1))) λx9=>
    some (decide (x9 > 0))) (
    some false)) λp8=>
   cond p8 (
    some (Sum.inr (([],3)))) (
    ae (nU N a1 e7 N s4 0) λp10=>
    pV N a2 a1 k p10 (I64 (s5+1)))) (
   some (Sum.inl s4))
def bO(N:Nat)(a0:(List Int))(a1:Int)(a2:(List Int)):Option ((List Int)×Int):=
 aO (cond (decide (a1 < 1)) true (decide (a1 > 8))) λx1=>
 cond x1 (
  some (([],2))) (
  ae (fJ N a0) λr2=>
  ae (pV N a2 a1 N r2 0) λo=>oP o (λp3=>
   some ((p3,0))) (λr=>some r))
theorem kM{N a0 a1 a2 r}(h:bO N a0 a1 a2=some r):FnM Tryz.prog 24 [] [(eL 1 k8 a0),(j64 a1),(eL 1 k64 a2)] (.tup [(eO 0 1 k8 r.1),(j64 r.2)]) [.tail (r.1.length*1)]:=by
 unfold bO at h;refine At.f fZ hT hmo Tryz.func24 rfl h ?_;refine lx ?_;intro x1;refine At.c 8 ?_ ?_
 ·refine At.ownn 2 6 1 ?_;apply rt;exact At.r 0
 ·refine At.b 1 (λ_ e=>aK [] (sC e)) λr2=>?_;refine At.LS 4 [] 1 (λp3=>([(8,(eO 0 1 k8 p3))],[(0,.tail (p3.length*1))],[])) (λop3 J k=>∃s4 s5,pV N a2 a1 k s4 s5=some op3/\J [1,20,21] 1 [(8,(eO 0 1 k8 s4)),(22,(j64 s5))] [(0,.tail (s4.length*1))] []) N (λ_ h=>⟨_,_,h,jr⟩) (λop3 g3 k s hI=>?_) λp3=>?_
  ·obtain⟨s4,s5,h,hj⟩:=hI;cases k with
   | zero=>cases h
   | succ k=>
    refine At.jr hj ?_ h;refine lx ?_;intro x6;refine At.c 1 ?_ ?_
    ·refine At.b 0 (λ_ e=>bF hT k64 e) λe7=>?_;refine At.J 2 0 [1,8,10,20,21,22] 1 (λp8=>([(34,(eB p8))],[],[])) (λp8=>?_) λp8=>?_
     ·refine At.s 28 3 ?_ ?_
      ·refine At.g [28] 3 ?_;refine At.b 0 (λ_ e=>pM hT (k' := .i64) e (by kernel_rfl) (by kernel_rfl)) λx9=>?_;refine At.g [28] 2 ?_;apply rt;exact At.jn 0
      ·refine At.g [28] 6 ?_;apply rt;exact At.jn 0
     ·refine At.c 0 ?_ ?_
      ·refine At.ownn 2 6 1 ?_;refine At.sw 0 1 0 ?_;intro e;apply wT g3 e;exact At.r 0
      ·refine At.L 2 [1,20,21,22] 1 (λp10=>([(8,(eO 0 1 k8 p10))],[(0,.tail (p10.length*1))],[])) (λp10 J k=>∃s11 s12,nU N a1 e7 k s11 s12=some p10/\J [1,10,20,21,22,35] 1 [(8,(eO 0 1 k8 s11)),(36,(j64 s12))] [(0,.tail (s11.length*1))] []) N (λ_ h=>⟨_,_,h,jr⟩) (λp10 k s hI=>?_) λp10=>?_
       ·obtain⟨s11,s12,h,hj⟩:=hI;cases k with
        | zero=>cases h
        | succ k=>
         refine At.jr hj ?_ h;refine At.c 1 ?_ ?_
         ·refine At.b 6 (λ_ e=>pM hT (k' := .i64) e (by kernel_rfl) (by kernel_rfl)) λx13=>?_;refine At.o 1 (bI hT (x:=(.sl 1 1 [(k8 (U8 x13))]))) ?_;refine At.b 0 (λ_ e=>cH hT k8 (id:=0) (k:=1) e) λz14=>?_;exact λh=>At.k 3 ⟨_,_,h,jr⟩
         ·apply rt;exact At.x 0
       ·exact λh=>At.k 2 ⟨_,_,h,jr⟩
    ·apply rt;exact At.xs 0
  ·apply rt;exact At.r 3
def mP(N:Nat)(a2:(List Int))(a1:Int):Nat->(List Int)->Int->Option (Sum ((List Int)) ((List Int)×Int))
 | 0,_,_=>none
 | k+1,s3,s4=>
  aO (decide (s4 < ((a2.length:Int)))) λx5=>
  cond x5 (
   ae (idx a2 s4) λe6=>
   aO (I64 (64 - (I64 (8*a1)))) λx7=>
   ae (aD9 .i64 e6 x7) λx8=>
   aO (I64 (64 - (I64 (8*a1)))) λx9=>
   ae (yG .i64 x8 x9) λx10=>
   cond (x10 != e6) (
    some (Sum.inr (([],3)))) (
    aO (I64 (64 - (I64 (8*a1)))) λx11=>
    ae (aD9 .u64 (U64 e6) x11) λx12=>
    aO (I64 (64 - (I64 (8*a1)))) λx13=>
    ae (yG .u64 x12 x13) λx14=>
    ae (mH 8 s3 (([x14]:List Int))) λz15=>
    mP N a2 a1 k z15 (I64 (s4+1)))) (
   some (Sum.inl s3))
def kW(N:Nat)(a0:(List Int))(a1:Int)(a2:(List Int)):Option ((List Int)×Int):=
 aO (cond (decide (a1 < 1)) true (decide (a1 > 8))) λx1=>
 cond x1 (
  some (([],2))) (
  ae (mP N a2 a1 N [] 0) λo=>oP o (λp2=>
   ae (bO N a0 a1 p2) λr16=>
   some ((r16.1,r16.2))) (λr=>some r))
theorem zV{N a0 a1 a2 r}(h:kW N a0 a1 a2=some r):FnM Tryz.prog 83 [] [(eL 1 k8 a0),(j64 a1),(eL 1 j64 a2)] (.tup [(eO 0 1 k8 r.1),(j64 r.2)]) [.tail (r.1.length*1)]:=by
 unfold kW at h;refine At.f fZ hT hmo Tryz.func83 rfl h ?_;refine lx ?_;intro x1;refine At.c 8 ?_ ?_
 ·refine At.ownn 2 6 1 ?_;apply rt;exact At.r 0
 ·refine At.ownn 4 8 1 ?_;refine At.LS 0 [0,1] 1 (λp2=>([(8,(eO 0 1 k64 p2))],[(0,.tail (p2.length*1))],[])) (λop2 J k=>∃s3 s4,mP N a2 a1 k s3 s4=some op2/\J [0,1,18,19] 1 [(8,(eO 0 1 k64 s3)),(20,(j64 s4))] [(0,.tail (s3.length*1))] []) N (λ_ h=>⟨_,_,h,jr⟩) (λop2 g2 k s hI=>?_) λp2=>?_
  ·obtain⟨s3,s4,h,hj⟩:=hI;cases k with
   | zero=>cases h
   | succ k=>
    refine At.jr hj ?_ h;refine lx ?_;intro x5;refine At.c 1 ?_ ?_
    ·refine At.b 0 (λ_ e=>bF hT j64 e) λe6=>?_;refine lx ?_;intro x7;refine At.b 6 (λ_ e=>vR hT (k' := .i64) e (by kernel_rfl) (by kernel_rfl)) λx8=>?_;refine lx ?_;intro x9;refine At.b 3 (λ_ e=>pM hT (k' := .i64) e (by kernel_rfl) (by kernel_rfl)) λx10=>?_;refine At.c 4 ?_ ?_
     ·refine At.ownn 2 6 1 ?_;refine At.sw 0 1 0 ?_;intro e;apply wT g2 e;exact At.r 0
     ·refine lx ?_;intro x11;refine At.b 6 (λ_ e=>vR hT (k' := .i64) e (by kernel_rfl) (by kernel_rfl)) λx12=>?_;refine lx ?_;intro x13;refine At.b 3 (λ_ e=>pM hT (k' := .i64) e (by kernel_rfl) (by kernel_rfl)) λx14=>?_;refine At.o 0 (bI hT (x:=(.sl 1 1 [(k64 x14)]))) ?_;refine At.b 0 (λ_ e=>cH hT k64 (id:=0) (k:=1) e) λz15=>?_;exact λh=>At.k 3 ⟨_,_,h,jr⟩
    ·apply rt;exact At.xs 0
  ·refine At.b 3 (λ_ e=>aK [] (kM e)) λr16=>?_;refine At.sw 4 1 0 ?_;apply rt;exact At.r 0
def aFu : Nat->Bool:=imL [1]
def nP(N:Nat)(x4:Int)(a0:aM):Nat->(List Int)->Int->Option ((List Int))
 | 0,_,_=>none
 | k+1,s6,s7=>
  cond (decide (s7 < x4)) (
   ae (idx a0.gF s7) λe8=>
   ae (kW N s6 2 ([e8.gX,e8.gY,e8.gZ])) λr9=>
   nP N x4 a0 k r9.1 (I64 (s7+1))) (
   some s6)
def nQ(N:Nat)(a0:aM):Nat->(List Int)->Int->Option ((List Int))
 | 0,_,_=>none
 | k+1,s11,s12=>
  aO (decide (s12 < ((a0.gJ.length:Int)))) λx13=>
  cond x13 (
   ae (idx a0.gJ s12) λe14=>
   ae (aQ 0 2) λ_=>
   ae (e14.toList[(af 0)]?) λe16=>
   ae (aQ 1 2) λ_=>
   ae (e14.toList[(af 1)]?) λe18=>
   ae (bO N s11 2 ([U64 e16,U64 e18])) λr19=>
   nQ N a0 k r19.1 (I64 (s12+1))) (
   some s11)
def kC(N:Nat)(x20:Int)(a0:aM):Nat->(List Int)->Int->Option ((List Int))
 | 0,_,_=>none
 | k+1,s22,s23=>
  cond (decide (s23 < x20)) (
   ae (idx a0.gI s23) λe24=>
   ae (aQ 0 3) λ_=>
   ae (e24.toList[(af 0)]?) λe26=>
   ae (aQ 1 3) λ_=>
   ae (e24.toList[(af 1)]?) λe28=>
   ae (aQ 2 3) λ_=>
   ae (e24.toList[(af 2)]?) λe30=>
   ae (mH 1 s22 (([U8 e26,U8 e28,U8 e30]:List Int))) λz31=>
   kC N x20 a0 k z31 (I64 (s23+1))) (
   some s22)
def sN(N:Nat)(a0:aM):Option ((List Int)×Int):=
 ae (jT N a0) λr1=>
 cond (r1 != 0) (
  some (([],r1))) (
  aO ((a0.gF.length:Int)) λx2=>
  aO ((a0.gI.length:Int)) λx3=>
  aO ((a0.gF.length:Int)) λx4=>
  ae (nP N x4 a0 N (([U8 x2,U8 x3]:List Int)) 0) λp5=>
  ae (nQ N a0 N p5 0) λp10=>
  aO ((a0.gI.length:Int)) λx20=>
  ae (kC N x20 a0 N p10 0) λp21=>
  some ((p21,0)))
theorem aFK{N a0 r}(h:sN N a0=some r):FnM Tryz.prog 81 [] [(aM.enc a0)] (.tup [(eL 1 k8 r.1),(j64 r.2)]) []:=by
 unfold sN at h;refine At.f aFu hT hmo Tryz.func81 rfl h ?_;refine At.b 4 (λ_ e=>aK [] (xV e)) λr1=>?_;refine At.c 3 ?_ ?_
 ·apply rt;exact At.r 3
 ·refine lx ?_;intro x2;refine lx ?_;intro x3;refine At.o 8 (sK hT k8 (k:=1) ([U8 x2,U8 x3]:List Int) (by kernel_rfl) (by kernel_rfl)) ?_;refine lx ?_;intro x4;refine At.L 5 [1] 1 (λp5=>([(5,(eO 0 1 k8 p5))],[(0,.tail (p5.length*1))],[])) (λp5 J k=>∃s6 s7,nP N x4 a0 k s6 s7=some p5/\J [1,27,28] 1 [(5,(eO 0 1 k8 s6)),(29,(j64 s7))] [(0,.tail (s6.length*1))] []) N (λ_ h=>⟨_,_,h,jr⟩) (λp5 k s hI=>?_) λp5=>?_
  ·obtain⟨s6,s7,h,hj⟩:=hI;cases k with
   | zero=>cases h
   | succ k=>
    refine At.jr hj ?_ h;refine At.c 1 ?_ ?_
    ·refine At.b 0 (λ_ e=>bF hT aB.enc e) λe8=>?_;refine At.o 10 (bI hT (x:=(.sl 1 3 [(j64 e8.gX),(j64 e8.gY),(j64 e8.gZ)]))) ?_;refine At.b 0 (λ_ e=>aK [] (zV e)) λr9=>?_;exact λh=>At.k 6 ⟨_,_,h,(aKF 2 0 (by kernel_rfl) jr)⟩
    ·apply rt;exact At.x 0
  ·refine At.L 4 [1] 1 (λp10=>([(5,(eO 0 1 k8 p10))],[(0,.tail (p10.length*1))],[])) (λp10 J k=>∃s11 s12,nQ N a0 k s11 s12=some p10/\J [1,47,48] 1 [(5,(eO 0 1 k8 s11)),(49,(j64 s12))] [(0,.tail (s11.length*1))] []) N (λ_ h=>⟨_,_,h,jr⟩) (λp10 k s hI=>?_) λp10=>?_
   ·obtain⟨s11,s12,h,hj⟩:=hI;cases k with
    | zero=>cases h
    | succ k=>
     refine At.jr hj ?_ h;refine lx ?_;intro x13;refine At.c 1 ?_ ?_
     ·refine At.b 0 (λ_ e=>bF hT (eA 2 1 j64) e) λe14=>?_;refine At.b 4 (λ_ e=>aG hT (k:=1) 1 [] 0 e) λu15=>?_;refine At.b 0 (λ_ e=>aY hT j64 0 e) λe16=>?_;refine At.b 1 (λ_ e=>aG hT (k:=1) 1 [] 0 e) λu17=>?_;refine At.b 0 (λ_ e=>aY hT j64 0 e) λe18=>?_;refine At.o 1 (bI hT (x:=(.sl 1 2 [(k64 (U64 e16)),(k64 (U64 e18))]))) ?_;refine At.b 0 (λ_ e=>aK [] (kM e)) λr19=>?_;exact λh=>At.k 6 ⟨_,_,h,(aKF 2 0 (by kernel_rfl) jr)⟩
     ·apply rt;exact At.x 0
   ·refine lx ?_;intro x20;refine At.L 4 [] 1 (λp21=>([(5,(eO 0 1 k8 p21))],[(0,.tail (p21.length*1))],[])) (λp21 J k=>∃s22 s23,kC N x20 a0 k s22 s23=some p21/\J [67,68] 1 [(5,(eO 0 1 k8 s22)),(69,(j64 s23))] [(0,.tail (s22.length*1))] []) N (λ_ h=>⟨_,_,h,jr⟩) (λp21 k s hI=>?_) λp21=>?_
    ·obtain⟨s22,s23,h,hj⟩:=hI;cases k with
     | zero=>cases h
     | succ k=>
      refine At.jr hj ?_ h;refine At.c 1 ?_ ?_
      ·refine At.b 0 (λ_ e=>bF hT (eA 3 1 j64) e) λe24=>?_;refine At.b 4 (λ_ e=>aG hT (k:=1) 1 [] 0 e) λu25=>?_;refine At.b 0 (λ_ e=>aY hT j64 0 e) λe26=>?_;refine At.b 1 (λ_ e=>aG hT (k:=1) 1 [] 0 e) λu27=>?_;refine At.b 0 (λ_ e=>aY hT j64 0 e) λe28=>?_;refine At.b 1 (λ_ e=>aG hT (k:=1) 1 [] 0 e) λu29=>?_;refine At.b 0 (λ_ e=>aY hT j64 0 e) λe30=>?_;refine At.o 1 (bI hT (x:=(.sl 1 3 [(k8 (U8 e26)),(k8 (U8 e28)),(k8 (U8 e30))]))) ?_;refine At.b 0 (λ_ e=>cH hT k8 (id:=0) (k:=1) e) λz31=>?_;exact λh=>At.k 3 ⟨_,_,h,jr⟩
      ·apply rt;exact At.x 0
    ·apply rt;exact At.r 3
def aCx : Nat->Bool:=imL [1]
def fN(N:Nat)(x2:Int)(a0:aI):Nat->(List Int)->Int->Option ((List Int))
 | 0,_,_=>none
 | k+1,s4,s5=>
  cond (decide (s5 < x2)) (
   ae (idx a0.gK s5) λe6=>
   ae (aQ 0 3) λ_=>
   ae (e6.toList[(af 0)]?) λe8=>
   ae (aQ 1 3) λ_=>
   ae (e6.toList[(af 1)]?) λe10=>
   ae (aQ 2 3) λ_=>
   ae (e6.toList[(af 2)]?) λe12=>
   ae (mH 1 s4 (([U8 e8,U8 e10,U8 e12]:List Int))) λz13=>
   fN N x2 a0 k z13 (I64 (s5+1))) (
   some s4)
def pT(N:Nat)(a0:aI):Option ((List Int)×Int):=
 ae (eE N a0) λr1=>
 cond (r1 != 0) (
  some (([],r1))) (
  aO ((a0.gK.length:Int)) λx2=>
  ae (fN N x2 a0 N (([U8 a0.gN]:List Int)) 0) λp3=>
  some ((p3,0)))
theorem aB9{N a0 r}(h:pT N a0=some r):FnM Tryz.prog 82 [] [(aI.enc a0)] (.tup [(eL 1 k8 r.1),(j64 r.2)]) []:=by
 unfold pT at h;refine At.f aCx hT hmo Tryz.func82 rfl h ?_;refine At.b 4 (λ_ e=>aK [] (uH e)) λr1=>?_;refine At.c 3 ?_ ?_
 ·apply rt;exact At.r 3
 ·refine At.o 3 (sK hT k8 (k:=1) ([U8 a0.gN]:List Int) (by kernel_rfl) (by kernel_rfl)) ?_;refine lx ?_;intro x2;refine At.L 5 [] 1 (λp3=>([(5,(eO 0 1 k8 p3))],[(0,.tail (p3.length*1))],[])) (λp3 J k=>∃s4 s5,fN N x2 a0 k s4 s5=some p3/\J [18,19] 1 [(5,(eO 0 1 k8 s4)),(20,(j64 s5))] [(0,.tail (s4.length*1))] []) N (λ_ h=>⟨_,_,h,jr⟩) (λp3 k s hI=>?_) λp3=>?_
  ·obtain⟨s4,s5,h,hj⟩:=hI;cases k with
   | zero=>cases h
   | succ k=>
    refine At.jr hj ?_ h;refine At.c 1 ?_ ?_
    ·refine At.b 0 (λ_ e=>bF hT (eA 3 1 j64) e) λe6=>?_;refine At.b 4 (λ_ e=>aG hT (k:=1) 1 [] 0 e) λu7=>?_;refine At.b 0 (λ_ e=>aY hT j64 0 e) λe8=>?_;refine At.b 1 (λ_ e=>aG hT (k:=1) 1 [] 0 e) λu9=>?_;refine At.b 0 (λ_ e=>aY hT j64 0 e) λe10=>?_;refine At.b 1 (λ_ e=>aG hT (k:=1) 1 [] 0 e) λu11=>?_;refine At.b 0 (λ_ e=>aY hT j64 0 e) λe12=>?_;refine At.o 1 (bI hT (x:=(.sl 1 3 [(k8 (U8 e8)),(k8 (U8 e10)),(k8 (U8 e12))]))) ?_;refine At.b 0 (λ_ e=>cH hT k8 (id:=0) (k:=1) e) λz13=>?_;exact λh=>At.k 3 ⟨_,_,h,jr⟩
    ·apply rt;exact At.x 0
  ·apply rt;exact At.r 3
def aFh : Nat->Bool:=imL [1]
def mR(N:Nat)(e4 e6 e8:Int)(a0:aE):Nat->(List Int)->Int->Option ((List Int))
 | 0,_,_=>none
 | k+1,s10,s11=>
  cond (decide (s11 < 4)) (
   ae (idx ([e4,e6,e8,a0.gG.gA1]) s11) λe12=>
   ae (bO N s10 2 ([U64 e12])) λr13=>
   mR N e4 e6 e8 a0 k r13.1 (I64 (s11+1))) (
   some s10)
def mO(N:Nat)(a0:aE):Nat->(List Int)->Int->Option ((List Int))
 | 0,_,_=>none
 | k+1,s22,s23=>
  cond (decide (s23 < 3)) (
   ae (idx ([a0.gD.gAt,a0.gD.gU,a0.gD.gV]) s23) λe24=>
   ae (kW N s22 2 ([e24.gX,e24.gY,e24.gZ])) λr25=>
   mO N a0 k r25.1 (I64 (s23+1))) (
   some s22)
def pQ(N:Nat)(a0:aE):Option ((List Int)):=
 cond (a0.gC==1) (
  ae (sN N a0.gQ) λr1=>
  some r1.1) (
  cond (a0.gC==2) (
   ae (pT N a0.gW) λr2=>
   some r2.1) (
   cond (a0.gC==3) (
    ae (aQ 0 3) λ_=>
    ae (a0.gG.gE.toList[(af 0)]?) λe4=>
    ae (aQ 1 3) λ_=>
    ae (a0.gG.gE.toList[(af 1)]?) λe6=>
    ae (aQ 2 3) λ_=>
    ae (a0.gG.gE.toList[(af 2)]?) λe8=>
    ae (mR N e4 e6 e8 a0 N ([U8 a0.gG.gC]) 0) λp9=>
    some p9) (
    ae (aQ 0 3) λ_=>
    ae (a0.gD.gE.toList[(af 0)]?) λe15=>
    ae (aQ 1 3) λ_=>
    ae (a0.gD.gE.toList[(af 1)]?) λe17=>
    ae (aQ 2 3) λ_=>
    ae (a0.gD.gE.toList[(af 2)]?) λe19=>
    ae (bO N ([U8 a0.gD.gC]) 4 ([U64 e15,U64 e17,U64 e19])) λr20=>
    ae (mO N a0 N r20.1 0) λp21=>
    some p21)))
theorem zT{N a0 r}(h:pQ N a0=some r):FnM Tryz.prog 45 [] [(aE.enc a0)] (eL 1 k8 r) []:=by
 unfold pQ at h;refine At.f aFh hT hmo Tryz.func45 rfl h ?_;refine At.c 6 ?_ ?_
 ·refine At.b 2 (λ_ e=>aK [] (aFK e)) λr1=>?_;apply rt;exact At.r 7
 ·refine At.c 2 ?_ ?_
  ·refine At.b 2 (λ_ e=>aK [] (aB9 e)) λr2=>?_;apply rt;exact At.r 7
  ·refine At.c 2 ?_ ?_
   ·refine At.o 7 (bI hT (x:=(.sl 1 1 [(k8 (U8 a0.gG.gC))]))) ?_;refine At.b 2 (λ_ e=>aG hT (k:=1) 0 [1] 1 e) λu3=>?_;refine At.b 0 (λ_ e=>aY hT j64 1 e) λe4=>?_;refine At.b 1 (λ_ e=>aG hT (k:=1) 0 [1] 1 e) λu5=>?_;refine At.b 0 (λ_ e=>aY hT j64 1 e) λe6=>?_;refine At.b 1 (λ_ e=>aG hT (k:=1) 0 [1] 1 e) λu7=>?_;refine At.b 0 (λ_ e=>aY hT j64 1 e) λe8=>?_;refine At.o 2 (bI hT (x:=(.sl 1 4 [(j64 e4),(j64 e6),(j64 e8),(j64 a0.gG.gA1)]))) ?_;refine At.L 2 [] 1 (λp9=>([(8,(eL 1 k8 p9))],[],[])) (λp9 J k=>∃s10 s11,mR N e4 e6 e8 a0 k s10 s11=some p9/\J [55,56] 1 [(8,(eL 1 k8 s10)),(57,(j64 s11))] [] []) N (λ_ h=>⟨_,_,h,jr⟩) (λp9 k s hI=>?_) λp9=>?_
    ·obtain⟨s10,s11,h,hj⟩:=hI;cases k with
     | zero=>cases h
     | succ k=>
      refine At.jr hj ?_ h;refine At.c 1 ?_ ?_
      ·refine At.b 0 (λ_ e=>bF hT j64 e) λe12=>?_;refine At.o 5 (bI hT (x:=(.sl 1 1 [(k64 (U64 e12))]))) ?_;refine At.b 0 (λ_ e=>aK [] (kM e)) λr13=>?_;exact λh=>At.k 6 ⟨_,_,h,jr⟩
      ·apply rt;exact At.x 0
    ·apply rt;exact At.r 2
   ·refine At.o 7 (bI hT (x:=(.sl 1 1 [(k8 (U8 a0.gD.gC))]))) ?_;refine At.b 1 (λ_ e=>aG hT (k:=1) 0 [1] 1 e) λu14=>?_;refine At.b 0 (λ_ e=>aY hT j64 1 e) λe15=>?_;refine At.b 2 (λ_ e=>aG hT (k:=1) 0 [1] 1 e) λu16=>?_;refine At.b 0 (λ_ e=>aY hT j64 1 e) λe17=>?_;refine At.b 2 (λ_ e=>aG hT (k:=1) 0 [1] 1 e) λu18=>?_;refine At.b 0 (λ_ e=>aY hT j64 1 e) λe19=>?_;refine At.o 1 (bI hT (x:=(.sl 1 3 [(k64 (U64 e15)),(k64 (U64 e17)),(k64 (U64 e19))]))) ?_;refine At.b 0 (λ_ e=>aK [] (kM e)) λr20=>?_;refine At.o 11 (bI hT (x:=(.sl 3 3 [(aB.enc a0.gD.gAt),(aB.enc a0.gD.gU),(aB.enc a0.gD.gV)]))) ?_;refine At.L 2 [] 2 (λp21=>([(12,(eO 1 1 k8 p21))],[(1,.tail (p21.length*1))],[])) (λp21 J k=>∃s22 s23,mO N a0 k s22 s23=some p21/\J [100,101] 2 [(12,(eO 1 1 k8 s22)),(102,(j64 s23))] [(1,.tail (s22.length*1))] []) N (λ_ h=>⟨_,_,h,jr⟩) (λp21 k s hI=>?_) λp21=>?_
    ·obtain⟨s22,s23,h,hj⟩:=hI;cases k with
     | zero=>cases h
     | succ k=>
      refine At.jr hj ?_ h;refine At.c 1 ?_ ?_
      ·refine At.b 0 (λ_ e=>bF hT aB.enc e) λe24=>?_;refine At.o 10 (bI hT (x:=(.sl 1 3 [(j64 e24.gX),(j64 e24.gY),(j64 e24.gZ)]))) ?_;refine At.b 0 (λ_ e=>aK [] (zV e)) λr25=>?_;exact λh=>At.k 6 ⟨_,_,h,(aKF 3 1 (by kernel_rfl) jr)⟩
      ·apply rt;exact At.x 0
    ·apply rt;exact At.r 2
def qA(N:Nat)(a0:Int):Option (Int):=
 aO (cond (decide (a0 < 0)) true (decide (a0>=5))) λx1=>
 cond x1 (
  some 0) (
  ae (aQ a0 5) λ_=>
  ae ((#v[0,2048,1024,64,64]).toList[a0.toNat]?) λe3=>
  some e3)
theorem zP{N a0 r}(h:qA N a0=some r):FnM Tryz.prog 80 [] [(j64 a0)] (j64 r) []:=by
 unfold qA at h;refine At.f fZ hT hmo Tryz.func80 rfl h ?_;refine lx ?_;intro x1;refine At.c 10 ?_ ?_
 ·apply rt;exact At.r 1
 ·refine At.b 1 (λ_ e=>aG hT (k:=1) 0 [] 0 e) λu2=>?_;refine At.b 0 (λ_ e=>aY hT j64 0 e) λe3=>?_;apply rt;exact At.r 1
def aGJ : Nat->Bool:=imL [1]
def mD(N:Nat)(a0:aE):Option (Int):=
 ae (mN N a0) λr1=>
 cond (r1 != 0) (
  some r1) (
  ae (tR N a0) λr2=>
  ae (qI N r2 (aE.mk a0.gC (aM.mk [] [] []) (aI.mk 0 []) (aF.mk 0 (#v[0,0,0]) 0) (aJ.mk 0 (#v[0,0,0]) (aB.mk 0 0 0) (aB.mk 0 0 0) (aB.mk 0 0 0)))) λr3=>
  cond (!r3) (
   some 5) (
   ae (pQ N a0) λr4=>
   ae (qA N a0.gC) λr5=>
   aO (decide (((r4.length:Int)) > r5)) λx6=>
   cond x6 (some 9) (some 0)))
theorem aAV{N a0 r}(h:mD N a0=some r):FnM Tryz.prog 44 [] [(aE.enc a0)] (j64 r) []:=by
 unfold mD at h;refine At.f aGJ hT hmo Tryz.func44 rfl h ?_;refine At.b 3 (λ_ e=>aK [] (aHN e)) λr1=>?_;refine At.c 3 ?_ ?_
 ·apply rt;exact At.r 2
 ·refine bi λr2 hr2=>?_;refine bi λr3 hr3=>?_;refine At.d 0 (dE2 1 (aE.enc r2) (λ_=>cM (aF5 hr2)) (dE2 5 (eB r3) (λ_=>cM (aFv hr3)) dE0)) dF0 ?_;refine At.c 0 ?_ ?_
  ·apply rt;exact At.r 1
  ·refine bi λr4 hr4=>?_;refine bi λr5 hr5=>?_;refine lx ?_;intro x6;refine At.d 0 (dE2 1 (eL 1 k8 r4) (λ_=>cM (zT hr4)) (dE2 5 (j64 r5) (λ_=>cM (zP hr5)) dE0)) dF0 ?_;refine At.c 0 ?_ ?_
   ·apply rt;exact At.r 1
   ·apply rt;exact At.r 1
def aFb : Nat->Bool:=imL [1]
def nY(N:Nat)(a0:aE):Option ((List Int)×Int):=
 ae (mD N a0) λr1=>
 cond (r1 != 0) (
  some (([],r1))) (
  ae (pQ N a0) λr2=>
  some ((r2,0)))
theorem aEC{N a0 r}(h:nY N a0=some r):FnM Tryz.prog 18 [] [(aE.enc a0)] (.tup [(eL 1 k8 r.1),(j64 r.2)]) []:=by
 unfold nY at h;refine At.f aFb hT hmo Tryz.func18 rfl h ?_;refine At.b 4 (λ_ e=>aK [] (aAV e)) λr1=>?_;refine At.c 3 ?_ ?_
 ·apply rt;exact At.r 3
 ·refine At.b 1 (λ_ e=>aK [] (zT e)) λr2=>?_;apply rt;exact At.r 2
def mQ(N:Nat)(a0:Int):Option (Int):=
 cond (decide (a0 < 1)) (
  some 0) (
  aO (I64 (cz (I64 (a0 - 1)) 256)) λx1=>
  some (I64 (x1+1)))
theorem wH{N a0 r}(h:mQ N a0=some r):FnM Tryz.prog 19 [] [(j64 a0)] (j64 r) []:=by
 unfold mQ at h;refine At.f fZ hT hmo Tryz.func19 rfl h ?_;refine At.c 3 ?_ ?_
 ·apply rt;exact At.r 1
 ·refine lx ?_;intro x1;apply rt;exact At.r 5
def aC6 : Nat->Bool:=imL [1]
def iU(N:Nat)(a0:aD):Nat->Int->Option (Sum (Unit) (Int))
 | 0,_=>none
 | k+1,s3=>
  cond (decide (s3 < 8)) (
   ae (idx a0.gR.toList s3) λe4=>
   cond (decide (e4 > 15)) (some (Sum.inr 5)) (iU N a0 k (I64 (s3+1)))) (
   some (Sum.inl (())))
def nO(N:Nat)(a0:aD):Option (Int):=
 ae (qA N a0.gC) λr1=>
 cond (r1==0) (
  some 12) (
  ae (iU N a0 N 0) λo=>oP o (λp2=>
   aO (decide (a0.gT > a0.gTo)) λx5=>
   aO (cond x5 true (decide (a0.gP < 1))) λx6=>
   cond x6 (
    some 5) (
    cond (decide (a0.gP > r1)) (
     some 9) (
     ae (mQ N a0.gP) λr7=>
     cond (a0.gA3 != r7) (some 5) (some 0)))) (λr=>some r))
theorem xG{N a0 r}(h:nO N a0=some r):FnM Tryz.prog 46 [] [(aD.enc a0)] (j64 r) []:=by
 unfold nO at h;refine At.f aC6 hT hmo Tryz.func46 rfl h ?_;refine At.b 4 (λ_ e=>aK [] (zP e)) λr1=>?_;refine At.c 3 ?_ ?_
 ·apply rt;exact At.r 1
 ·refine At.LS 3 [1,3] 0 (λp2=>([],[],[])) (λop2 J k=>∃s3,iU N a0 k s3=some op2/\J [1,3,12] 0 [(13,(j64 s3))] [] []) N (λ_ h=>⟨_,h,jr⟩) (λop2 g2 k s hI=>?_) λp2=>?_
  ·obtain⟨s3,h,hj⟩:=hI;cases k with
   | zero=>cases h
   | succ k=>
    refine At.jr hj ?_ h;refine At.c 1 ?_ ?_
    ·refine At.b 0 (λ_ e=>aHF hT k8 a0.gR e (by kernel_rfl) (by kernel_rfl)) λe4=>?_;refine At.c 3 ?_ ?_
     ·intro e;apply wT g2 e;exact At.r 1
     ·exact λh=>At.k 2 ⟨_,h,jr⟩
    ·apply rt;exact At.xs 0
  ·refine lx ?_;intro x5;refine lx ?_;intro x6;refine At.c 11 ?_ ?_
   ·apply rt;exact At.r 1
   ·refine At.c 5 ?_ ?_
    ·apply rt;exact At.r 1
    ·refine bi λr7 hr7=>?_;refine At.d 0 (dE2 4 (j64 r7) (λ_=>cM (wH hr7)) dE0) dF0 ?_;refine At.c 0 ?_ ?_
     ·apply rt;exact At.r 1
     ·apply rt;exact At.r 1
def aCa : Nat->Bool:=imL [1]
def kV(N:Nat)(a0:aD):Option ((List Int)×Int):=
 ae (nO N a0) λr1=>
 cond (r1 != 0) (
  some (([],r1))) (
  ae (bO N [] 8 ([a0.gId])) λr2=>
  ae (bO N r2.1 1 ([U64 a0.gC])) λr3=>
  ae (bO N r3.1 4 ([U64 a0.gA2])) λr4=>
  ae (eU a0.gR.toList 0 8) λs5=>
  ae (mH 1 r4.1 s5) λz6=>
  ae (bO N z6 4 ([U64 a0.gT,U64 a0.gTo,U64 a0.gP])) λr7=>
  ae (bO N r7.1 2 ([U64 a0.gA3])) λr8=>
  some ((r8.1,r8.2)))
theorem aBy{N a0 r}(h:kV N a0=some r):FnM Tryz.prog 20 [] [(aD.enc a0)] (.tup [(eL 1 k8 r.1),(j64 r.2)]) []:=by
 unfold kV at h;refine At.f aCa hT hmo Tryz.func20 rfl h ?_;refine At.b 4 (λ_ e=>aK [] (xG e)) λr1=>?_;refine At.c 3 ?_ ?_
 ·apply rt;exact At.r 3
 ·refine At.o 2 (bI hT (x:=(.sl 1 1 [(k64 a0.gId)]))) ?_;refine At.b 0 (λ_ e=>aK [] (kM e)) λr2=>?_;refine At.o 9 (bI hT (x:=(.sl 1 1 [(k64 (U64 a0.gC))]))) ?_;refine At.b 0 (λ_ e=>aK [] (kM e)) λr3=>?_;refine At.o 8 (bI hT (x:=(.sl 1 1 [(k64 (U64 a0.gA2))]))) ?_;refine At.b 0 (λ_ e=>aK [] (kM e)) λr4=>?_;refine At.b 6 (λ_ e=>mC hT (N:=8) (k:=1) k8 a0.gR e) λs5=>?_;refine At.b 0 (λ_ e=>cH hT k8 (id:=2) (k:=1) e) λz6=>?_;refine At.o 11 (bI hT (x:=(.sl 1 3 [(k64 (U64 a0.gT)),(k64 (U64 a0.gTo)),(k64 (U64 a0.gP))]))) ?_;refine At.b 0 (λ_ e=>aK [] (kM e)) λr7=>?_;refine At.o 8 (bI hT (x:=(.sl 1 1 [(k64 (U64 a0.gA3))]))) ?_;refine At.b 0 (λ_ e=>aK [] (kM e)) λr8=>?_;apply rt;exact At.r 4
def aOQ : Go.Shelf.Ren:=⟨λ | 4=>47 | n=>n,λ | 0=>0 | 3=>3 | 4=>4 | 9=>9 | 20=>20 | 22=>47 | 25=>5 | n=>n,λn=>n⟩
theorem aOS : Lays8.n4 Tryz.prog aOQ:={ mixed:=by kernel_rfl,f4:=⟨Tryz.f47.name,by decide,Tryz.func47.trans (congrArg some (by kernel_rfl))⟩,t0:=Tryz.underlying0,a0:=Tryz.isAgg0,z0:=Tryz.sizeOf0,v0:=Tryz.zeroValue0,t3:=Tryz.underlying3,a3:=Tryz.isAgg3,z3:=Tryz.sizeOf3,v3:=Tryz.zeroValue3,t4:=Tryz.underlying4,a4:=Tryz.isAgg4,z4:=Tryz.sizeOf4,v4:=Tryz.zeroValue4,t9:=Tryz.underlying9,a9:=Tryz.isAgg9,z9:=Tryz.sizeOf9,v9:=Tryz.zeroValue9,t20:=Tryz.underlying20,a20:=Tryz.isAgg20,z20:=Tryz.sizeOf20,v20:=Tryz.zeroValue20,t22:=Tryz.underlying47,a22:=Tryz.isAgg47,z22:=Tryz.sizeOf47,v22:=Tryz.zeroValue47 }
theorem aN4{n:Int}{r:List Int}(h:aFB Int 1 n=some r):FnM Tryz.prog 47 [] [.v (.slice none 0 0),.v (.int .i64 n)] (eO 0 1 k8 r) [.tail (r.length*1)]:=
 aOY (i0:=Tryz.t5) aOS rfl k8 (by kernel_rfl) rfl (by kernel_rfl) (by kernel_rfl) (by kernel_rfl) (by decide) h
theorem aLI : sO Tryz.prog 47:=tK (show wB Tryz.prog 47=true by kernel_rfl)
def fH(N:Nat)(a0:(List (List Int))):Nat->Int->Int->Option (Int)
 | 0,_,_=>none
 | k+1,s2,s3=>
  aO (decide (s3 < ((a0.length:Int)))) λx4=>
  cond x4 (
   ae (idx a0 s3) λe5=>
   aO (I64 (s2+((e5.length:Int)))) λx6=>
   cond (decide (x6 < 0)) (none) (fH N a0 k x6 (I64 (s3+1)))) (
   some s2)
def dK(N:Nat)(a0:(List (List Int))):Nat->(List Int)->Int->Option ((List Int))
 | 0,_,_=>none
 | k+1,s9,s10=>
  aO (decide (s10 < ((a0.length:Int)))) λx11=>
  cond x11 (
   ae (idx a0 s10) λe12=>
   ae (mH 1 s9 e12) λz13=>
   dK N a0 k z13 (I64 (s10+1))) (
   some s9)
def cS(N:Nat)(a0:(List (List Int))):Option ((List Int)):=
 ae (fH N a0 N 0 0) λp1=>
 ae (aFB Int 1 p1) λr7=>
 ae (dK N a0 N r7 0) λp8=>
 some p8
theorem kJ{N a0 r}(h:cS N a0=some r):FnM Tryz.prog 21 [] [(eL 1 (eL 1 k8) a0)] (eO 0 1 k8 r) [.tail (r.length*1)]:=by
 unfold cS at h;refine At.f fZ hT hmo Tryz.func21 rfl h ?_;refine At.L 5 [0] 0 (λp1=>([(3,(j64 p1))],[],[])) (λp1 J k=>∃s2 s3,fH N a0 k s2 s3=some p1/\J [0,9,10] 0 [(3,(j64 s2)),(11,(j64 s3))] [] []) N (λ_ h=>⟨_,_,h,jr⟩) (λp1 k s hI=>?_) λp1=>?_
 ·obtain⟨s2,s3,h,hj⟩:=hI;cases k with
  | zero=>cases h
  | succ k=>
   refine At.jr hj ?_ h;refine lx ?_;intro x4;refine At.c 1 ?_ ?_
   ·refine At.b 0 (λ_ e=>bF hT (eL 1 k8) e) λe5=>?_;refine lx ?_;intro x6;refine At.c 9 ?_ ?_
    ·exact nn
    ·exact λh=>At.k 2 ⟨_,_,h,jr⟩
   ·apply rt;exact At.x 0
 ·refine At.b 1 (λ_ e=>aEu [] (aN4 e) aLI) λr7=>?_;refine At.L 4 [] 1 (λp8=>([(6,(eO 0 1 k8 p8))],[(0,.tail (p8.length*1))],[])) (λp8 J k=>∃s9 s10,dK N a0 k s9 s10=some p8/\J [25,26] 1 [(6,(eO 0 1 k8 s9)),(27,(j64 s10))] [(0,.tail (s9.length*1))] []) N (λ_ h=>⟨_,_,h,jr⟩) (λp8 k s hI=>?_) λp8=>?_
  ·obtain⟨s9,s10,h,hj⟩:=hI;cases k with
   | zero=>cases h
   | succ k=>
    refine At.jr hj ?_ h;refine lx ?_;intro x11;refine At.c 1 ?_ ?_
    ·refine At.b 0 (λ_ e=>bF hT (eL 1 k8) e) λe12=>?_;refine At.b 4 (λ_ e=>cH hT k8 (id:=0) (k:=1) e) λz13=>?_;exact λh=>At.k 3 ⟨_,_,h,jr⟩
    ·apply rt;exact At.x 0
  ·apply rt;exact At.r 2
def aEj : Nat->Bool:=imL [2]
def fW(N:Nat)(a1:Int):Nat->(Vector Int 12)->Int->Option ((Vector Int 12))
 | 0,_,_=>none
 | k+1,s5,s6=>
  cond (decide (s6 < 4)) (
   ae (yG .i64 a1 (I64 (8*s6))) λx7=>
   ae (aQ (I64 (8+s6)) 12) λ_=>
   ae (s5.toList[(I64 (8+s6)).toNat]?) λe9=>
   fW N a1 k (s5.setIfInBounds ((I64 (8+s6)).toNat) (U8 x7)) (I64 (s6+1))) (
   some s5)
def eF(N:Nat)(a0:(Vector Int 8))(a1:Int):Option ((Vector Int 12)):=
 ae (aF3 12 0 12) λ_=>
 ae (eU a0.toList 0 8) λs2=>
 ae (cpV (ah 12 0) s2 0 12) λv3=>
 ae (fW N a1 N v3 0) λp4=>
 some p4
theorem oL{N a0 a1 r}(h:eF N a0 a1=some r):FnM Tryz.prog 9 [] [(eA 8 1 k8 a0),(j64 a1)] (eA 12 1 k8 r) []:=by
 unfold eF at h;refine At.f aEj hT hmo Tryz.func9 rfl h ?_;refine bi λs1 hs1=>?_;refine bi λs2 hs2=>?_;refine bi λv3 hv3=>?_;refine At.d 3 (dE1 0 (λ_=>aG7 hT (k:=1) 1 [] 0 hs1 (by kernel_rfl) (by kernel_rfl) (by decide)) (dE1 1 (λ_=>mC hT (N:=8) (k:=1) k8 a0 hs2) dE0)) (dF 2 (j64 (((min s2.length 12:Nat):Int))) [(1,.var (eA 12 1 k8 v3))] [] (bG (aFF hT k8 (id:=1) (path:=[]) (off:=0) (H':=[.var (eA 12 1 k8 (ah 12 0)),.var (eA 12 1 k8 v3)]) hv3 (by kernel_rfl) (by kernel_rfl) (by kernel_rfl))) dF0) ?_;refine At.L 1 [4,5] 2 (λp4=>([],[(1,.var (eA 12 1 k8 p4))],[])) (λp4 J k=>∃s5 s6,fW N a1 k s5 s6=some p4/\J [1,4,5] 2 [(10,(j64 s6))] [(1,.var (eA 12 1 k8 s5))] []) N (λ_ h=>⟨_,_,h,jr⟩) (λp4 k s hI=>?_) λp4=>?_
 ·obtain⟨s5,s6,h,hj⟩:=hI;cases k with
  | zero=>cases h
  | succ k=>
   refine At.jr hj ?_ h;refine At.c 1 ?_ ?_
   ·refine At.b 7 (λ_ e=>pM hT (k' := .i64) e (by kernel_rfl) (by kernel_rfl)) λx7=>?_;refine At.b 1 (λ_ e=>aG hT (k:=1) 1 [] 0 e) λu8=>?_;refine At.b 0 (λ_ e=>bE hT k8 0 s5 e (U8 x7) (by kernel_rfl) (by kernel_rfl) (H':=[.var (eA 12 1 k8 (ah 12 0)),.var (eA 12 1 k8 (s5.setIfInBounds ((I64 (8+s6)).toNat) (U8 x7)))])) λe9=>?_;exact λh=>At.k 2 ⟨_,_,h,jr⟩
   ·apply rt;exact At.x 0
 ·apply rt;exact At.r 2
def jS(N:Nat)(a0:(List Int)):Option (Int):=
 ae (idx a0 0) λe1=>
 ae (idx a0 1) λe2=>
 aO (bor .u32 (U32 e1) (shl .u32 (U32 e2) 8)) λx3=>
 ae (idx a0 2) λe4=>
 aO (bor .u32 x3 (shl .u32 (U32 e4) 16)) λx5=>
 ae (idx a0 3) λe6=>
 aO (bor .u32 x5 (shl .u32 (U32 e6) 24)) λx7=>
 some x7
theorem yC{N a0 r}(h:jS N a0=some r):FnM Tryz.prog 154 [] [(eL 1 k8 a0)] (k32 r) []:=by
 unfold jS at h;refine At.f fZ hT hmo Tryz.func154 rfl h ?_;refine bi λe1 he1=>?_;refine bi λe2 he2=>?_;refine lx ?_;intro x3;refine bi λe4 he4=>?_;refine lx ?_;intro x5;refine bi λe6 he6=>?_;refine lx ?_;intro x7;refine At.d 1 (dE1 1 (λ_=>bF hT k8 he1) (dE1 5 (λ_=>bF hT k8 he2) (dE1 11 (λ_=>bF hT k8 he4) (dE1 17 (λ_=>bF hT k8 he6) dE0)))) dF0 ?_;apply rt;exact At.r 0
def aFi : Nat->Bool:=imL [3,5]
def dM(N:Nat)(a0:(Vector Int 32)):Nat->(Vector Int 16)->Int->Option ((Vector Int 16))
 | 0,_,_=>none
 | k+1,s2,s3=>
  cond (decide (s3 < 8)) (
   ae (eU a0.toList (I64 (4*s3)) 32) λs4=>
   ae (jS N s4) λr5=>
   ae (aQ (I64 (4+s3)) 16) λ_=>
   ae (s2.toList[(I64 (4+s3)).toNat]?) λe7=>
   dM N a0 k (s2.setIfInBounds ((I64 (4+s3)).toNat) r5) (I64 (s3+1))) (
   some s2)
def dO(N:Nat)(a2:(Vector Int 12)):Nat->(Vector Int 16)->Int->Option ((Vector Int 16))
 | 0,_,_=>none
 | k+1,s9,s10=>
  cond (decide (s10 < 3)) (
   ae (eU a2.toList (I64 (4*s10)) 12) λs11=>
   ae (jS N s11) λr12=>
   ae (aQ (I64 (13+s10)) 16) λ_=>
   ae (s9.toList[(I64 (13+s10)).toNat]?) λe14=>
   dO N a2 k (s9.setIfInBounds ((I64 (13+s10)).toNat) r12) (I64 (s10+1))) (
   some s9)
def oG(N:Nat)(a0:(Vector Int 32))(a1:Int)(a2:(Vector Int 12)):Option ((Vector Int 16)):=
 ae (dM N a0 N (#v[1634760805,857760878,2036477234,1797285236,0,0,0,0,0,0,0,0,a1,0,0,0]) 0) λp1=>
 ae (dO N a2 N p1 0) λp8=>
 some p8
theorem aD5{N a0 a1 a2 r}(h:oG N a0 a1 a2=some r):FnM Tryz.prog 138 [] [(eA 32 1 k8 a0),(k32 a1),(eA 12 1 k8 a2)] (eA 16 1 k32 r) []:=by
 unfold oG at h;refine At.f aFi hT hmo Tryz.func138 rfl h ?_;refine At.L 8 [5,6,7] 2 (λp1=>([],[(1,.var (eA 16 1 k32 p1))],[])) (λp1 J k=>∃s2 s3,dM N a0 k s2 s3=some p1/\J [3,5,6,7] 2 [(12,(j64 s3))] [(1,.var (eA 16 1 k32 s2))] []) N (λ_ h=>⟨_,_,h,jr⟩) (λp1 k s hI=>?_) λp1=>?_
 ·obtain⟨s2,s3,h,hj⟩:=hI;cases k with
  | zero=>cases h
  | succ k=>
   refine At.jr hj ?_ h;refine At.c 1 ?_ ?_
   ·refine At.b 6 (λ_ e=>mC hT (N:=32) (k:=1) k8 a0 e) λs4=>?_;refine At.b 0 (λ_ e=>aK [] (yC e)) λr5=>?_;refine At.b 0 (λ_ e=>aG hT (k:=1) 1 [] 0 e) λu6=>?_;refine At.b 0 (λ_ e=>bE hT k32 0 s2 e r5 (by kernel_rfl) (by kernel_rfl) (H':=[.var (eA 16 1 k32 (ah 16 0)),.var (eA 16 1 k32 (s2.setIfInBounds ((I64 (4+s3)).toNat) r5))])) λe7=>?_;exact λh=>At.k 2 ⟨_,_,h,jr⟩
   ·apply rt;exact At.x 0
 ·refine At.L 1 [6,7] 2 (λp8=>([],[(1,.var (eA 16 1 k32 p8))],[])) (λp8 J k=>∃s9 s10,dO N a2 k s9 s10=some p8/\J [5,6,7] 2 [(23,(j64 s10))] [(1,.var (eA 16 1 k32 s9))] []) N (λ_ h=>⟨_,_,h,jr⟩) (λp8 k s hI=>?_) λp8=>?_
  ·obtain⟨s9,s10,h,hj⟩:=hI;cases k with
   | zero=>cases h
   | succ k=>
    refine At.jr hj ?_ h;refine At.c 1 ?_ ?_
    ·refine At.b 6 (λ_ e=>mC hT (N:=12) (k:=1) k8 a2 e) λs11=>?_;refine At.b 0 (λ_ e=>aK [] (yC e)) λr12=>?_;refine At.b 0 (λ_ e=>aG hT (k:=1) 1 [] 0 e) λu13=>?_;refine At.b 0 (λ_ e=>bE hT k32 0 s9 e r12 (by kernel_rfl) (by kernel_rfl) (H':=[.var (eA 16 1 k32 (ah 16 0)),.var (eA 16 1 k32 (s9.setIfInBounds ((I64 (13+s10)).toNat) r12))])) λe14=>?_;exact λh=>At.k 2 ⟨_,_,h,jr⟩
    ·apply rt;exact At.x 0
  ·apply rt;exact At.r 2
def bH(N:Nat)(a0 a1:Int):Option (Int):=
 ae (aD9 .u32 a0 (dD .u64 (U64 a1) 31)) λx1=>
 aO (U64 (32 - (dD .u64 (U64 a1) 31))) λx2=>
 ae (yG .u32 a0 x2) λx3=>
 some (bor .u32 x1 x3)
theorem lI{N a0 a1 r}(h:bH N a0 a1=some r):FnM Tryz.prog 155 [] [(k32 a0),(j64 a1)] (k32 r) []:=by
 unfold bH at h;refine At.f fZ hT hmo Tryz.func155 rfl h ?_;refine At.b 7 (λ_ e=>vR hT (k' := .u64) e (by kernel_rfl) (by kernel_rfl)) λx1=>?_;refine lx ?_;intro x2;refine At.b 3 (λ_ e=>pM hT (k' := .u64) e (by kernel_rfl) (by kernel_rfl)) λx3=>?_;apply rt;exact At.r 2
def aDF : Nat->Bool:=imL [1]
def lT(N:Nat)(a0:(Vector Int 4)):Option ((Vector Int 4)):=
 ae (idx a0.toList 0) λe1=>
 ae (idx a0.toList 1) λe2=>
 ae (idx a0.toList 2) λe3=>
 ae (idx a0.toList 3) λe4=>
 aO (wV .u32 e4 (U32 (e1+e2))) λx5=>
 ae (bH N x5 16) λr6=>
 aO (wV .u32 e2 (U32 (e3+r6))) λx7=>
 ae (bH N x7 12) λr8=>
 aO (U32 ((U32 (e1+e2))+r8)) λx9=>
 ae (bH N (wV .u32 r6 x9) 8) λr10=>
 aO (U32 ((U32 (e3+r6))+r10)) λx11=>
 ae (bH N (wV .u32 r8 x11) 7) λr12=>
 some (#v[x9,r12,x11,r10])
theorem aB7{N a0 r}(h:lT N a0=some r):FnM Tryz.prog 139 [] [(eA 4 1 k32 a0)] (eA 4 1 k32 r) []:=by
 unfold lT at h;refine At.f aDF hT hmo Tryz.func139 rfl h ?_;refine bi λe1 he1=>?_;refine bi λe2 he2=>?_;refine bi λe3 he3=>?_;refine bi λe4 he4=>?_;refine At.d 2 (dE1 0 (λ_=>bN hT (N:=4) (k:=1) k32 a0 he1) (dE1 2 (λ_=>bN hT (N:=4) (k:=1) k32 a0 he2) (dE1 4 (λ_=>bN hT (N:=4) (k:=1) k32 a0 he3) (dE1 6 (λ_=>bN hT (N:=4) (k:=1) k32 a0 he4) dE0)))) dF0 ?_;refine lx ?_;intro x5;refine At.b 7 (λ_ e=>aK [] (lI e)) λr6=>?_;refine lx ?_;intro x7;refine At.b 8 (λ_ e=>aK [] (lI e)) λr8=>?_;refine lx ?_;intro x9;refine At.b 8 (λ_ e=>aK [] (lI e)) λr10=>?_;refine lx ?_;intro x11;refine At.b 8 (λ_ e=>aK [] (lI e)) λr12=>?_;apply rt;exact At.r 7
def aFa : Nat->Bool:=imL [3,5]
def aR(N:Nat)  : Nat->(Vector Int 16)->Int->Option ((Vector Int 16))
 | 0,_,_=>none
 | k+1,s6,s7=>
  cond (decide (s7 < 8)) (
   ae (idx (#v[#v[0,4,8,12],#v[1,5,9,13],#v[2,6,10,14],#v[3,7,11,15],#v[0,5,10,15],#v[1,6,11,12],#v[2,7,8,13],#v[3,4,9,14]]).toList s7) λe8=>
   ae (aQ 0 4) λ_=>
   ae (e8.toList[(af 0)]?) λe10=>
   ae (aQ e10 16) λ_=>
   ae (s6.toList[e10.toNat]?) λe12=>
   ae (aQ 1 4) λ_=>
   ae (e8.toList[(af 1)]?) λe14=>
   ae (aQ e14 16) λ_=>
   ae (s6.toList[e14.toNat]?) λe16=>
   ae (aQ 2 4) λ_=>
   ae (e8.toList[(af 2)]?) λe18=>
   ae (aQ e18 16) λ_=>
   ae (s6.toList[e18.toNat]?) λe20=>
   ae (aQ 3 4) λ_=>
   ae (e8.toList[(af 3)]?) λe22=>
   ae (aQ e22 16) λ_=>
   ae (s6.toList[e22.toNat]?) λe24=>
   ae (lT N (#v[e12,e16,e20,e24])) λr25=>
   ae (aQ 0 4) λ_=>
   ae (e8.toList[(af 0)]?) λe27=>
   ae (aQ 1 4) λ_=>
   ae (e8.toList[(af 1)]?) λe29=>
   ae (aQ 2 4) λ_=>
   ae (e8.toList[(af 2)]?) λe31=>
   ae (aQ 3 4) λ_=>
   ae (e8.toList[(af 3)]?) λe33=>
   ae (aQ 0 4) λ_=>
   ae (r25.toList[(af 0)]?) λe35=>
   ae (aQ 1 4) λ_=>
   ae (r25.toList[(af 1)]?) λe37=>
   ae (aQ 2 4) λ_=>
   ae (r25.toList[(af 2)]?) λe39=>
   ae (aQ 3 4) λ_=>
   ae (r25.toList[(af 3)]?) λe41=>
   ae (aQ e27 16) λ_=>
   ae (s6.toList[e27.toNat]?) λe43=>
   ae (aQ e29 16) λ_=>
   ae ((s6.setIfInBounds e27.toNat e35).toList[e29.toNat]?) λe45=>
   ae (aQ e31 16) λ_=>
   ae (((s6.setIfInBounds e27.toNat e35).setIfInBounds e29.toNat e37).toList[e31.toNat]?) λe47=>
   ae (aQ e33 16) λ_=>
   ae ((((s6.setIfInBounds e27.toNat e35).setIfInBounds e29.toNat e37).setIfInBounds e31.toNat e39).toList[e33.toNat]?) λe49=>
   aR N k ((((s6.setIfInBounds e27.toNat e35).setIfInBounds e29.toNat e37).setIfInBounds e31.toNat e39).setIfInBounds e33.toNat e41) (I64 (s7+1))) (
   some s6)
def fY(N:Nat)  : Nat->(Vector Int 16)->Int->Option ((Vector Int 16))
 | 0,_,_=>none
 | k+1,s3,s4=>
  cond (decide (s4 < 10)) (
   ae (aR N N s3 0) λp5=>
   fY N k p5 (I64 (s4+1))) (
   some s3)
def eN(N:Nat)(p2 r1:(Vector Int 16)):Nat->(Vector Int 64)->Int->Option ((Vector Int 64))
 | 0,_,_=>none
 | k+1,s51,s52=>
  cond (decide (s52 < 16)) (
   ae (idx p2.toList s52) λe53=>
   ae (aQ s52 16) λ_=>
   ae (r1.toList[s52.toNat]?) λe55=>
   aO (I64 ((I64 (4*s52))+1)) λx56=>
   aO (I64 ((I64 (4*s52))+2)) λx57=>
   aO (I64 ((I64 (4*s52))+3)) λx58=>
   aO (shr .u32 (U32 (e53+e55)) 8) λx59=>
   aO (shr .u32 (U32 (e53+e55)) 16) λx60=>
   aO (shr .u32 (U32 (e53+e55)) 24) λx61=>
   ae (aQ (I64 (4*s52)) 64) λ_=>
   ae (s51.toList[(I64 (4*s52)).toNat]?) λe63=>
   ae (aQ x56 64) λ_=>
   ae ((s51.setIfInBounds ((I64 (4*s52)).toNat) (U8 (U32 (e53+e55)))).toList[x56.toNat]?) λe65=>
   ae (aQ x57 64) λ_=>
   ae (((s51.setIfInBounds ((I64 (4*s52)).toNat) (U8 (U32 (e53+e55)))).setIfInBounds x56.toNat (U8 x59)).toList[x57.toNat]?) λe67=>
   ae (aQ x58 64) λ_=>
   ae ((((s51.setIfInBounds ((I64 (4*s52)).toNat) (U8 (U32 (e53+e55)))).setIfInBounds x56.toNat (U8 x59)).setIfInBounds x57.toNat (U8 x60)).toList[x58.toNat]?) λe69=>
   eN N p2 r1 k ((((s51.setIfInBounds ((I64 (4*s52)).toNat) (U8 (U32 (e53+e55)))).setIfInBounds x56.toNat (U8 x59)).setIfInBounds x57.toNat (U8 x60)).setIfInBounds x58.toNat (U8 x61)) (I64 (s52+1))) (
   some s51)
def jO(N:Nat)(a0:(Vector Int 32))(a1:Int)(a2:(Vector Int 12)):Option ((Vector Int 64)):=
 ae (oG N a0 a1 a2) λr1=>
 ae (fY N N r1 0) λp2=>
 ae (eN N p2 r1 N (ah 64 0) 0) λp50=>
 some p50
theorem zO{N a0 a1 a2 r}(h:jO N a0 a1 a2=some r):FnM Tryz.prog 116 [] [(eA 32 1 k8 a0),(k32 a1),(eA 12 1 k8 a2)] (eA 64 1 k8 r) []:=by
 unfold jO at h;refine At.f aFa hT hmo Tryz.func116 rfl h ?_;refine At.b 6 (λ_ e=>aK [] (aD5 e)) λr1=>?_;refine At.L 17 [6,7,8] 4 (λp2=>([],[(2,.var (eA 16 1 k32 p2))],[])) (λp2 J k=>∃s3 s4,fY N k s3 s4=some p2/\J [6,7,8,9] 4 [(30,(j64 s4))] [(2,.var (eA 16 1 k32 s3))] []) N (λ_ h=>⟨_,_,h,jr⟩) (λp2 k s hI=>?_) λp2=>?_
 ·obtain⟨s3,s4,h,hj⟩:=hI;cases k with
  | zero=>cases h
  | succ k=>
   refine At.jr hj ?_ h;refine At.c 1 ?_ ?_
   ·refine At.L 2 [6,7,8,9,30] 4 (λp5=>([],[(2,.var (eA 16 1 k32 p5))],[])) (λp5 J k=>∃s6 s7,aR N k s6 s7=some p5/\J [6,7,8,9,30,32] 4 [(33,(j64 s7))] [(2,.var (eA 16 1 k32 s6))] []) N (λ_ h=>⟨_,_,h,jr⟩) (λp5 k s hI=>?_) λp5=>?_
    ·obtain⟨s6,s7,h,hj⟩:=hI;cases k with
     | zero=>cases h
     | succ k=>
      refine At.jr hj ?_ h;refine At.c 1 ?_ ?_
      ·refine At.b 0 (λ_ e=>aHF hT (eA 4 1 j64) (#v[#v[0,4,8,12],#v[1,5,9,13],#v[2,6,10,14],#v[3,7,11,15],#v[0,5,10,15],#v[1,6,11,12],#v[2,7,8,13],#v[3,4,9,14]]) e (by kernel_rfl) (by kernel_rfl)) λe8=>?_;refine bi λu9 hu9=>?_;refine bi λe10 he10=>?_;refine bi λu11 hu11=>?_;refine bi λe12 he12=>?_;refine bi λu13 hu13=>?_;refine bi λe14 he14=>?_;refine bi λu15 hu15=>?_;refine bi λe16 he16=>?_;refine bi λu17 hu17=>?_;refine bi λe18 he18=>?_;refine bi λu19 hu19=>?_;refine bi λe20 he20=>?_;refine bi λu21 hu21=>?_;refine bi λe22 he22=>?_;refine bi λu23 hu23=>?_;refine bi λe24 he24=>?_;refine bi λr25 hr25=>?_;refine At.d 2 (dE1 0 (λ_=>aG hT (k:=1) 4 [] 0 hu9) (dEL hT 1 (j64 e10) j64 0 he10 (dE1 2 (λ_=>aG hT (k:=1) 2 [] 0 hu11) (dEL hT 3 (k32 e12) k32 0 he12 (dE1 4 (λ_=>aG hT (k:=1) 4 [] 0 hu13) (dEL hT 5 (j64 e14) j64 0 he14 (dE1 6 (λ_=>aG hT (k:=1) 2 [] 0 hu15) (dEL hT 7 (k32 e16) k32 0 he16 (dE1 8 (λ_=>aG hT (k:=1) 4 [] 0 hu17) (dEL hT 9 (j64 e18) j64 0 he18 (dE1 10 (λ_=>aG hT (k:=1) 2 [] 0 hu19) (dEL hT 11 (k32 e20) k32 0 he20 (dE1 12 (λ_=>aG hT (k:=1) 4 [] 0 hu21) (dEL hT 13 (j64 e22) j64 0 he22 (dE1 14 (λ_=>aG hT (k:=1) 2 [] 0 hu23) (dEL hT 15 (k32 e24) k32 0 he24 (dE2 17 (eA 4 1 k32 r25) (λ_=>cM (aB7 hr25)) dE0))))))))))))))))) dF0 ?_;refine bi λu26 hu26=>?_;refine bi λe27 he27=>?_;refine bi λu28 hu28=>?_;refine bi λe29 he29=>?_;refine bi λu30 hu30=>?_;refine bi λe31 he31=>?_;refine bi λu32 hu32=>?_;refine bi λe33 he33=>?_;refine bi λu34 hu34=>?_;refine bi λe35 he35=>?_;refine bi λu36 hu36=>?_;refine bi λe37 he37=>?_;refine bi λu38 hu38=>?_;refine bi λe39 he39=>?_;refine bi λu40 hu40=>?_;refine bi λe41 he41=>?_;refine bi λu42 hu42=>?_;refine bi λe43 he43=>?_;refine bi λu44 hu44=>?_;refine bi λe45 he45=>?_;refine bi λu46 hu46=>?_;refine bi λe47 he47=>?_;refine bi λu48 hu48=>?_;refine bi λe49 he49=>?_;refine At.d 0 (dE1 0 (λ_=>aG hT (k:=1) 4 [] 0 hu26) (dEL hT 1 (j64 e27) j64 0 he27 (dE1 2 (λ_=>aG hT (k:=1) 4 [] 0 hu28) (dEL hT 3 (j64 e29) j64 0 he29 (dE1 4 (λ_=>aG hT (k:=1) 4 [] 0 hu30) (dEL hT 5 (j64 e31) j64 0 he31 (dE1 6 (λ_=>aG hT (k:=1) 4 [] 0 hu32) (dEL hT 7 (j64 e33) j64 0 he33 (dE1 8 (λ_=>aG hT (k:=1) 5 [] 0 hu34) (dEL hT 9 (k32 e35) k32 0 he35 (dE1 10 (λ_=>aG hT (k:=1) 5 [] 0 hu36) (dEL hT 11 (k32 e37) k32 0 he37 (dE1 12 (λ_=>aG hT (k:=1) 5 [] 0 hu38) (dEL hT 13 (k32 e39) k32 0 he39 (dE1 14 (λ_=>aG hT (k:=1) 5 [] 0 hu40) (dEL hT 15 (k32 e41) k32 0 he41 (dE1 16 (λ_=>aG hT (k:=1) 2 [] 0 hu42) (dE1 18 (λ_=>aG hT (k:=1) 2 [] 0 hu44) (dE1 20 (λ_=>aG hT (k:=1) 2 [] 0 hu46) (dE1 22 (λ_=>aG hT (k:=1) 2 [] 0 hu48) dE0)))))))))))))))))))) (dF 17 (.v (.bool false)) [(2,.var (eA 16 1 k32 (s6.setIfInBounds e27.toNat e35)))] [] (bG (bE hT k32 0 s6 he43 e35 (by kernel_rfl) (by kernel_rfl) (H':=[.var (eA 64 1 k8 (ah 64 0)),.var (eA 16 1 k32 r1),.var (eA 16 1 k32 (s6.setIfInBounds e27.toNat e35)),.var aIq,.var (eA 4 1 j64 e8),.var (eA 4 1 k32 r25)]))) (dF 19 (.v (.bool false)) [(2,.var (eA 16 1 k32 ((s6.setIfInBounds e27.toNat e35).setIfInBounds e29.toNat e37)))] [] (bG (bE hT k32 0 (s6.setIfInBounds e27.toNat e35) he45 e37 (by kernel_rfl) (by kernel_rfl) (H':=[.var (eA 64 1 k8 (ah 64 0)),.var (eA 16 1 k32 r1),.var (eA 16 1 k32 ((s6.setIfInBounds e27.toNat e35).setIfInBounds e29.toNat e37)),.var aIq,.var (eA 4 1 j64 e8),.var (eA 4 1 k32 r25)]))) (dF 21 (.v (.bool false)) [(2,.var (eA 16 1 k32 (((s6.setIfInBounds e27.toNat e35).setIfInBounds e29.toNat e37).setIfInBounds e31.toNat e39)))] [] (bG (bE hT k32 0 ((s6.setIfInBounds e27.toNat e35).setIfInBounds e29.toNat e37) he47 e39 (by kernel_rfl) (by kernel_rfl) (H':=[.var (eA 64 1 k8 (ah 64 0)),.var (eA 16 1 k32 r1),.var (eA 16 1 k32 (((s6.setIfInBounds e27.toNat e35).setIfInBounds e29.toNat e37).setIfInBounds e31.toNat e39)),.var aIq,.var (eA 4 1 j64 e8),.var (eA 4 1 k32 r25)]))) (dF 23 (.v (.bool false)) [(2,.var (eA 16 1 k32 ((((s6.setIfInBounds e27.toNat e35).setIfInBounds e29.toNat e37).setIfInBounds e31.toNat e39).setIfInBounds e33.toNat e41)))] [] (bG (bE hT k32 0 (((s6.setIfInBounds e27.toNat e35).setIfInBounds e29.toNat e37).setIfInBounds e31.toNat e39) he49 e41 (by kernel_rfl) (by kernel_rfl) (H':=[.var (eA 64 1 k8 (ah 64 0)),.var (eA 16 1 k32 r1),.var (eA 16 1 k32 ((((s6.setIfInBounds e27.toNat e35).setIfInBounds e29.toNat e37).setIfInBounds e31.toNat e39).setIfInBounds e33.toNat e41)),.var aIq,.var (eA 4 1 j64 e8),.var (eA 4 1 k32 r25)]))) dF0)))) ?_;exact λh=>At.k 2 ⟨_,_,h,jr⟩
      ·apply rt;exact At.x 0
    ·exact λh=>At.k 2 ⟨_,_,h,jr⟩
   ·apply rt;exact At.x 0
 ·refine At.L 3 [6,13] 5 (λp50=>([],[(4,.var (eA 64 1 k8 p50))],[])) (λp50 J k=>∃s51 s52,eN N p2 r1 k s51 s52=some p50/\J [6,7,13,76] 5 [(77,(j64 s52))] [(4,.var (eA 64 1 k8 s51))] []) N (λ_ h=>⟨_,_,h,jr⟩) (λp50 k s hI=>?_) λp50=>?_
  ·obtain⟨s51,s52,h,hj⟩:=hI;cases k with
   | zero=>cases h
   | succ k=>
    refine At.jr hj ?_ h;refine At.c 1 ?_ ?_
    ·refine At.b 1 (λ_ e=>aHF hT k32 p2 e (by kernel_rfl) (by kernel_rfl)) λe53=>?_;refine At.b 4 (λ_ e=>aG hT (k:=1) 1 [] 0 e) λu54=>?_;refine At.b 0 (λ_ e=>aY hT k32 0 e) λe55=>?_;refine lx ?_;intro x56;refine lx ?_;intro x57;refine lx ?_;intro x58;refine lx ?_;intro x59;refine lx ?_;intro x60;refine lx ?_;intro x61;refine At.b 24 (λ_ e=>aG hT (k:=1) 4 [] 0 e) λu62=>?_;refine At.b 0 (λ_ e=>bE hT k8 0 s51 e (U8 (U32 (e53+e55))) (by kernel_rfl) (by kernel_rfl) (H':=[.var (eA 64 1 k8 (ah 64 0)),.var (eA 16 1 k32 r1),.var (eA 16 1 k32 p2),.var aIq,.var (eA 64 1 k8 (s51.setIfInBounds ((I64 (4*s52)).toNat) (U8 (U32 (e53+e55)))))])) λe63=>?_;refine At.b 0 (λ_ e=>aG hT (k:=1) 4 [] 0 e) λu64=>?_;refine At.b 0 (λ_ e=>bE hT k8 0 (s51.setIfInBounds ((I64 (4*s52)).toNat) (U8 (U32 (e53+e55)))) e (U8 x59) (by kernel_rfl) (by kernel_rfl) (H':=[.var (eA 64 1 k8 (ah 64 0)),.var (eA 16 1 k32 r1),.var (eA 16 1 k32 p2),.var aIq,.var (eA 64 1 k8 ((s51.setIfInBounds ((I64 (4*s52)).toNat) (U8 (U32 (e53+e55)))).setIfInBounds x56.toNat (U8 x59)))])) λe65=>?_;refine At.b 0 (λ_ e=>aG hT (k:=1) 4 [] 0 e) λu66=>?_;refine At.b 0 (λ_ e=>bE hT k8 0 ((s51.setIfInBounds ((I64 (4*s52)).toNat) (U8 (U32 (e53+e55)))).setIfInBounds x56.toNat (U8 x59)) e (U8 x60) (by kernel_rfl) (by kernel_rfl) (H':=[.var (eA 64 1 k8 (ah 64 0)),.var (eA 16 1 k32 r1),.var (eA 16 1 k32 p2),.var aIq,.var (eA 64 1 k8 (((s51.setIfInBounds ((I64 (4*s52)).toNat) (U8 (U32 (e53+e55)))).setIfInBounds x56.toNat (U8 x59)).setIfInBounds x57.toNat (U8 x60)))])) λe67=>?_;refine At.b 0 (λ_ e=>aG hT (k:=1) 4 [] 0 e) λu68=>?_;refine At.b 0 (λ_ e=>bE hT k8 0 (((s51.setIfInBounds ((I64 (4*s52)).toNat) (U8 (U32 (e53+e55)))).setIfInBounds x56.toNat (U8 x59)).setIfInBounds x57.toNat (U8 x60)) e (U8 x61) (by kernel_rfl) (by kernel_rfl) (H':=[.var (eA 64 1 k8 (ah 64 0)),.var (eA 16 1 k32 r1),.var (eA 16 1 k32 p2),.var aIq,.var (eA 64 1 k8 ((((s51.setIfInBounds ((I64 (4*s52)).toNat) (U8 (U32 (e53+e55)))).setIfInBounds x56.toNat (U8 x59)).setIfInBounds x57.toNat (U8 x60)).setIfInBounds x58.toNat (U8 x61)))])) λe69=>?_;exact λh=>At.k 2 ⟨_,_,h,jr⟩
    ·apply rt;exact At.x 0
  ·apply rt;exact At.r 2
def aD1 : Nat->Bool:=imL [4,6]
def jX(N:Nat)(a3:Int)(a0:(Vector Int 32))(a2:(Vector Int 12)):Nat->(List Int)->Int->Option ((List Int))
 | 0,_,_=>none
 | k+1,s2,s3=>
  aO (decide (((s2.length:Int)) < (lP a3 65536))) λx4=>
  cond x4 (
   ae (jO N a0 s3 a2) λr5=>
   aO (I64 ((lP a3 65536) - ((s2.length:Int)))) λx6=>
   ae (eU r5.toList 0 (lP 64 x6)) λs8=>
   ae (mH 1 s2 s8) λz9=>
   jX N a3 a0 a2 k z9 (U32 (s3+1))) (
   some s2)
def jR(N:Nat)(a0:(Vector Int 32))(a1:Int)(a2:(Vector Int 12))(a3:Int):Option ((List Int)):=
 ae (jX N a3 a0 a2 N [] a1) λp1=>
 some p1
theorem aDD{N a0 a1 a2 a3 r}(h:jR N a0 a1 a2 a3=some r):FnM Tryz.prog 84 [] [(eA 32 1 k8 a0),(k32 a1),(eA 12 1 k8 a2),(j64 a3)] (eL 1 k8 r) []:=by
 unfold jR at h;refine At.f aD1 hT hmo Tryz.func84 rfl h ?_;refine At.ownn 7 9 1 ?_;refine At.L 0 [] 1 (λp1=>([(9,(eO 0 1 k8 p1))],[(0,.tail (p1.length*1))],[])) (λp1 J k=>∃s2 s3,jX N a3 a0 a2 k s2 s3=some p1/\J [3,4,6] 1 [(1,(k32 s3)),(9,(eO 0 1 k8 s2))] [(0,.tail (s2.length*1))] []) N (λ_ h=>⟨_,_,h,jr⟩) (λp1 k s hI=>?_) λp1=>?_
 ·obtain⟨s2,s3,h,hj⟩:=hI;cases k with
  | zero=>cases h
  | succ k=>
   refine At.jr hj ?_ h;refine lx ?_;intro x4;refine At.c 4 ?_ ?_
   ·refine At.b 3 (λ_ e=>aK [] (zO e)) λr5=>?_;refine lx ?_;intro x6;refine At.gz 8 1 ((eA 64 1 k8 r5)) ?_;refine At.b 0 (λ_ e=>mC hT (N:=64) (k:=1) k8 r5 e) λs8=>?_;refine At.b 0 (λ_ e=>cH hT k8 (id:=0) (k:=1) e) λz9=>?_;exact λh=>At.k 4 ⟨_,_,h,jr⟩
   ·apply rt;exact At.x 0
 ·apply rt;exact At.r 2
def aHc : Nat->Bool:=imL [4,6]
def lH(N:Nat)(a3:(List (List Int))):Nat->(List Int)->Int->Option ((List Int))
 | 0,_,_=>none
 | k+1,s2,s3=>
  aO (decide (s3 < ((a3.length:Int)))) λx4=>
  cond x4 (
   ae (idx a3 s3) λe5=>
   aO (I64 (65536 - ((s2.length:Int)))) λx6=>
   aO (lP ((e5.length:Int)) x6) λx7=>
   ae (eU e5 0 x7) λs8=>
   ae (mH 1 s2 s8) λz9=>
   lH N a3 k z9 (I64 (s3+1))) (
   some s2)
def oN(N:Nat)(r10:(List Int)):Nat->(List Int)->Int->Option ((List Int))
 | 0,_,_=>none
 | k+1,s12,s13=>
  aO (decide (s13 < ((r10.length:Int)))) λx14=>
  cond x14 (
   ae (idx r10 s13) λe15=>
   ae (aQ s13 s12.length) λ_=>
   ae (s12[s13.toNat]?) λe17=>
   ae (aQ s13 s12.length) λ_=>
   ae (aLU s12 s13.toNat (wV .u8 e17 e15)) λz19=>
   oN N r10 k z19 (I64 (s13+1))) (
   some s12)
def rU(N:Nat)(a0:(Vector Int 32))(a1:Int)(a2:(Vector Int 12))(a3:(List (List Int))):Option ((List Int)):=
 ae (lH N a3 N [] 0) λp1=>
 ae (jR N a0 a1 a2 ((p1.length:Int))) λr10=>
 ae (oN N r10 N p1 0) λp11=>
 some p11
theorem aBG{N a0 a1 a2 a3 r}(h:rU N a0 a1 a2 a3=some r):FnM Tryz.prog 48 [] [(eA 32 1 k8 a0),(k32 a1),(eA 12 1 k8 a2),(eL 1 (eL 1 k8) a3)] (eL 1 k8 r) []:=by
 unfold rU at h;refine At.f aHc hT hmo Tryz.func48 rfl h ?_;refine At.gron 7 9 1 ?_;refine At.L 0 [1,4,6] 1 (λp1=>([(9,(.gro 0 1 p1.length .all))],[(0,.gro 1 (gc k8 p1))],[])) (λp1 J k=>∃s2 s3,lH N a3 k s2 s3=some p1/\J [1,4,6,14,15] 1 [(9,(.gro 0 1 s2.length .all)),(16,(j64 s3))] [(0,.gro 1 (gc k8 s2))] []) N (λ_ h=>⟨_,_,h,jr⟩) (λp1 k s hI=>?_) λp1=>?_
 ·obtain⟨s2,s3,h,hj⟩:=hI;cases k with
  | zero=>cases h
  | succ k=>
   refine At.jr hj ?_ h;refine lx ?_;intro x4;refine At.c 1 ?_ ?_
   ·refine At.b 0 (λ_ e=>bF hT (eL 1 k8) e) λe5=>?_;refine lx ?_;intro x6;refine lx ?_;intro x7;refine At.b 10 (λ_ e=>jV hT (k:=1) k8 e) λs8=>?_;refine At.b 0 (λz9 e=>aK6 hT k8 (id:=0) (k:=1) e (by kernel_rfl) (by kernel_rfl) (H':=[.gro 1 (gc k8 z9)]) (by kernel_rfl)) λz9=>?_;exact λh=>At.k 3 ⟨_,_,h,jr⟩
   ·apply rt;exact At.x 0
 ·refine At.b 5 (λ_ e=>aK [] (aDD e)) λr10=>?_;refine At.L 2 [] 1 (λp11=>([(9,(.gro 0 1 p11.length .all))],[(0,.gro 1 (gc k8 p11))],[])) (λp11 J k=>∃s12 s13,oN N r10 k s12 s13=some p11/\J [36,37] 1 [(9,(.gro 0 1 s12.length .all)),(38,(j64 s13))] [(0,.gro 1 (gc k8 s12))] []) N (λ_ h=>⟨_,_,h,jr⟩) (λp11 k s hI=>?_) λp11=>?_
  ·obtain⟨s12,s13,h,hj⟩:=hI;cases k with
   | zero=>cases h
   | succ k=>
    refine At.jr hj ?_ h;refine lx ?_;intro x14;refine At.c 1 ?_ ?_
    ·refine At.b 1 (λ_ e=>bF hT k8 e) λe15=>?_;refine At.b 5 (λ_ e=>aKI hT (id:=0) (k:=1) e (by kernel_rfl) (by kernel_rfl)) λu16=>?_;refine At.b 0 (λ_ e=>aNg hT k8 [] e rfl (by kernel_rfl) (by kernel_rfl)) λe17=>?_;refine At.b 2 (λ_ e=>aKI hT (id:=0) (k:=1) e (by kernel_rfl) (by kernel_rfl)) λu18=>?_;refine bi λz19 hz19=>?_;refine At.o 0 (aMY hT k8 (k:=1) (wV .u8 e17 e15) hz19 rfl (by kernel_rfl) (λ_=>by kernel_rfl) (by kernel_rfl) (H':=[.gro 1 (gc k8 z19)]) (by kernel_rfl)) ?_;refine At.gl 0 [9,49] [] 0 s12.length z19.length ((aMn hz19).2.2) ?_;exact λh=>At.k 2 ⟨_,_,h,jr⟩
    ·apply rt;exact At.x 0
  ·refine At.fz 2 0 1 p11.length _ (gc k8 p11) (ce _) (ce _) ?_;apply rt;exact At.r 0
def aIz : Nat->Bool:=imL [2,3]
def sX(N:Nat)(a0:(Vector Int 32))(a1:(Vector Int 12)):Option ((Vector Int 32)):=
 ae (jO N a0 0 a1) λr1=>
 ae (eU r1.toList 0 32) λs3=>
 ae (aD2 32 s3) λv4=>
 some v4
theorem aH1{N a0 a1 r}(h:sX N a0 a1=some r):FnM Tryz.prog 87 [] [(eA 32 1 k8 a0),(eA 12 1 k8 a1)] (eA 32 1 k8 r) []:=by
 unfold sX at h;refine At.f aIz hT hmo Tryz.func87 rfl h ?_;refine At.b 5 (λ_ e=>aK [] (zO e)) λr1=>?_;refine At.gz 2 1 ((eA 64 1 k8 r1)) ?_;refine At.b 0 (λ_ e=>mC hT (N:=64) (k:=1) k8 r1 e) λs3=>?_;refine At.b 0 (λv4 e=>aB4 hT k8 s3 v4 e rfl (by kernel_rfl) (by kernel_rfl)) λv4=>?_;apply rt;exact At.r 2
def oU(N:Nat)(a0:(List Int)):Option ((List Int)):=
 aO (cf ((a0.length:Int)) 16) λx1=>
 aO (cf (I64 (16 - x1)) 16) λx2=>
 ae (mkO 1 x2) λ_=>
 ae (aH6 (am x2.toNat (0:Int)) x2.toNat) λ_=>
 some (am x2.toNat (0:Int))
theorem aBJ{N a0 r}(h:oU N a0=some r):FnM Tryz.prog 85 [] [(eL 1 k8 a0)] (eL 1 k8 r) []:=by
 unfold oU at h;refine At.f fZ hT hmo Tryz.func85 rfl h ?_;refine lx ?_;intro x1;refine lx ?_;intro x2;refine At.b 6 (λ_ e=>aPd hT k8 ((0:Int)) (k:=1) (kd := .int .u8) e (by kernel_rfl) (by kernel_rfl) rfl) λu3=>?_;refine bi λu4 hu4=>?_;refine At.fz 1 0 1 x2.toNat _ (gc k8 (am x2.toNat (0:Int))) (ce _) (lenM k8 hu4) ?_;apply rt;exact At.r 0
def jQ(N:Nat)  : Nat->(Vector Int 16)->Int->Option ((Vector Int 16))
 | 0,_,_=>none
 | k+1,s2,s3=>
  cond (decide (s3 < 4)) (
   ae (aO (I64 ((I64 (4*s3))+3)) λx5=>
   ae (aQ x5 16) λ_=>
   ae (s2.toList[x5.toNat]?) λe7=>
   ae (aQ x5 16) λ_=>
   ae (s2.toList[x5.toNat]?) λe9=>
   cond (decide (s3 > 0)) (
    ae (aQ (I64 (4*s3)) 16) λ_=>
    ae ((s2.setIfInBounds x5.toNat (dD .u8 e7 15)).toList[(I64 (4*s3)).toNat]?) λe11=>
    ae (aQ (I64 (4*s3)) 16) λ_=>
    ae ((s2.setIfInBounds x5.toNat (dD .u8 e7 15)).toList[(I64 (4*s3)).toNat]?) λe13=>
    some ((s2.setIfInBounds x5.toNat (dD .u8 e7 15)).setIfInBounds ((I64 (4*s3)).toNat) (dD .u8 e11 252))) (
    some (s2.setIfInBounds x5.toNat (dD .u8 e7 15)))) λp4=>
   jQ N k p4 (I64 (s3+1))) (
   some s2)
def pB(N:Nat)(a0:(Vector Int 16)):Option ((Vector Int 16)):=
 ae (jQ N N a0 0) λp1=>
 some p1
theorem aF8{N a0 r}(h:pB N a0=some r):FnM Tryz.prog 140 [] [(eA 16 1 k8 a0)] (eA 16 1 k8 r) []:=by
 unfold pB at h;refine At.f fZ hT hmo Tryz.func140 rfl h ?_;refine At.L 3 [1,2] 2 (λp1=>([],[(0,.var (eA 16 1 k8 p1))],[])) (λp1 J k=>∃s2 s3,jQ N k s2 s3=some p1/\J [1,2] 2 [(4,(j64 s3))] [(0,.var (eA 16 1 k8 s2))] []) N (λ_ h=>⟨_,_,h,jr⟩) (λp1 k s hI=>?_) λp1=>?_
 ·obtain⟨s2,s3,h,hj⟩:=hI;cases k with
  | zero=>cases h
  | succ k=>
   refine At.jr hj ?_ h;refine At.c 1 ?_ ?_
   ·refine At.J 0 2 [1,2,4] 2 (λp4=>([],[(0,.var (eA 16 1 k8 p4))],[])) (λp4=>?_) λp4=>?_
    ·refine lx ?_;intro x5;refine At.b 5 (λ_ e=>aG hT (k:=1) 0 [] 0 e) λu6=>?_;refine At.b 0 (λ_ e=>aY hT k8 0 e) λe7=>?_;refine At.b 1 (λ_ e=>aG hT (k:=1) 0 [] 0 e) λu8=>?_;refine At.b 0 (λ_ e=>bE hT k8 0 s2 e (dD .u8 e7 15) (by kernel_rfl) (by kernel_rfl) (H':=[.var (eA 16 1 k8 (s2.setIfInBounds x5.toNat (dD .u8 e7 15))),.var (eA 16 1 k8 (ah 16 0))])) λe9=>?_;refine At.c 2 ?_ ?_
     ·refine At.b 2 (λ_ e=>aG hT (k:=1) 0 [] 0 e) λu10=>?_;refine At.b 0 (λ_ e=>aY hT k8 0 e) λe11=>?_;refine At.b 1 (λ_ e=>aG hT (k:=1) 0 [] 0 e) λu12=>?_;refine At.b 0 (λ_ e=>bE hT k8 0 (s2.setIfInBounds x5.toNat (dD .u8 e7 15)) e (dD .u8 e11 252) (by kernel_rfl) (by kernel_rfl) (H':=[.var (eA 16 1 k8 ((s2.setIfInBounds x5.toNat (dD .u8 e7 15)).setIfInBounds ((I64 (4*s3)).toNat) (dD .u8 e11 252))),.var (eA 16 1 k8 (ah 16 0))])) λe13=>?_;apply rt;exact At.jn 0
     ·apply rt;exact At.jn 0
    ·exact λh=>At.k 2 ⟨_,_,h,jr⟩
   ·apply rt;exact At.x 0
 ·apply rt;exact At.r 2
def iF(N:Nat)(a0:(List Int)):Nat->Int->Int->Option (Int)
 | 0,_,_=>none
 | k+1,s2,s3=>
  cond (decide (s3 < 8)) (
   ae (idx a0 s3) λe4=>
   ae (aD9 .u64 (U64 e4) (I64 (8*s3))) λx5=>
   iF N a0 k (bor .u64 s2 x5) (I64 (s3+1))) (
   some s2)
def cQ(N:Nat)(a0:(List Int)):Option (Int):=
 ae (iF N a0 N 0 0) λp1=>
 some p1
theorem mK{N a0 r}(h:cQ N a0=some r):FnM Tryz.prog 141 [] [(eL 1 k8 a0)] (k64 r) []:=by
 unfold cQ at h;refine At.f fZ hT hmo Tryz.func141 rfl h ?_;refine At.L 3 [] 0 (λp1=>([(3,(k64 p1))],[],[])) (λp1 J k=>∃s2 s3,iF N a0 k s2 s3=some p1/\J [0] 0 [(3,(k64 s2)),(5,(j64 s3))] [] []) N (λ_ h=>⟨_,_,h,jr⟩) (λp1 k s hI=>?_) λp1=>?_
 ·obtain⟨s2,s3,h,hj⟩:=hI;cases k with
  | zero=>cases h
  | succ k=>
   refine At.jr hj ?_ h;refine At.c 1 ?_ ?_
   ·refine At.b 5 (λ_ e=>bF hT k8 e) λe4=>?_;refine At.b 4 (λ_ e=>vR hT (k' := .i64) e (by kernel_rfl) (by kernel_rfl)) λx5=>?_;exact λh=>At.k 4 ⟨_,_,h,jr⟩
   ·apply rt;exact At.x 0
 ·apply rt;exact At.r 2
def aJe : Nat->Bool:=imL [1]
def sZ(N:Nat)(a0:(Vector Int 32)):Option (Int×Int×Int×Int):=
 ae (eU a0.toList 0 16) λs1=>
 ae (aD2 16 s1) λv2=>
 ae (pB N v2) λr3=>
 ae (eU r3.toList 0 16) λs4=>
 ae (cQ N s4) λr5=>
 ae (eU r3.toList 8 16) λs6=>
 ae (cQ N s6) λr7=>
 ae (eU a0.toList 16 32) λs8=>
 ae (cQ N s8) λr9=>
 ae (eU a0.toList 24 32) λs10=>
 ae (cQ N s10) λr11=>
 some ((r5,r7,r9,r11))
theorem aHq{N a0 r}(h:sZ N a0=some r):FnM Tryz.prog 117 [] [(eA 32 1 k8 a0)] (.ref 1 [] 0) [.dead,.var (.st 10 [(.st 3 [(.arr 3 1 [(k64 0),(k64 0),(k64 0)])]),(eB true),(k64 r.1),(k64 r.2.1),(k64 r.2.2.1),(k64 r.2.2.2),(.v (.slice none 0 0)),(j64 0)])]:=by
 unfold sZ at h;refine At.f aJe hT hmo Tryz.func117 rfl h ?_;refine At.b 2 (λ_ e=>mC hT (N:=32) (k:=1) k8 a0 e) λs1=>?_;refine At.b 0 (λv2 e=>aB4 hT k8 s1 v2 e rfl (by kernel_rfl) (by kernel_rfl)) λv2=>?_;refine At.b 1 (λ_ e=>aK [] (aF8 e)) λr3=>?_;refine At.gz 2 0 ((eA 16 1 k8 r3)) ?_;refine bi λs4 hs4=>?_;refine bi λr5 hr5=>?_;refine bi λs6 hs6=>?_;refine bi λr7 hr7=>?_;refine bi λs8 hs8=>?_;refine bi λr9 hr9=>?_;refine bi λs10 hs10=>?_;refine bi λr11 hr11=>?_;refine At.d 0 (dE1 0 (λ_=>mC hT (N:=16) (k:=1) k8 r3 hs4) (dE2 1 (k64 r5) (λ_=>cM (mK hr5)) (dE1 2 (λ_=>mC hT (N:=16) (k:=1) k8 r3 hs6) (dE2 3 (k64 r7) (λ_=>cM (mK hr7)) (dE1 4 (λ_=>mC hT (N:=32) (k:=1) k8 a0 hs8) (dE2 5 (k64 r9) (λ_=>cM (mK hr9)) (dE1 6 (λ_=>mC hT (N:=32) (k:=1) k8 a0 hs10) (dE2 7 (k64 r11) (λ_=>cM (mK hr11)) dE0)))))))) dF0 ?_;apply rt;exact At.r 0
def kD(N:Nat)  : Nat->(List (Vector Int 17))->(List Int)->Option ((List (Vector Int 17)))
 | 0,_,_=>none
 | k+1,s4,s5=>
  aO (decide (((s5.length:Int)) > 0)) λx6=>
  cond x6 (
   ae (aF3 17 0 16) λ_=>
   ae (cpV (ah 17 0) s5 0 16) λv8=>
   aO (((min s5.length 16:Nat):Int)) λx9=>
   ae (aQ x9 17) λ_=>
   ae (v8.toList[x9.toNat]?) λe11=>
   ae (mH 17 s4 (([v8.setIfInBounds x9.toNat 1]:List (Vector Int 17)))) λz12=>
   ae (eU s5 x9 ((s5.length:Int))) λs13=>
   kD N k z12 s13) (
   some s4)
def jN(N:Nat)(a0:(List Int)):Option ((List (Vector Int 17))):=
 aO (lP ((a0.length:Int)) 65536) λx1=>
 ae (eU a0 0 x1) λs2=>
 ae (kD N N [] s2) λp3=>
 some p3
theorem aAO{N a0 r}(h:jN N a0=some r):FnM Tryz.prog 143 [] [(eL 1 k8 a0)] (eL 17 (eA 17 1 k8) r) []:=by
 unfold jN at h;refine At.f fZ hT hmo Tryz.func143 rfl h ?_;refine lx ?_;intro x1;refine At.b 5 (λ_ e=>jV hT (k:=1) k8 e) λs2=>?_;refine At.ownn 2 3 17 ?_;refine At.L 0 [] 1 (λp3=>([(3,(eO 0 17 (eA 17 1 k8) p3))],[(0,.tail (p3.length*17))],[])) (λp3 J k=>∃s4 s5,kD N k s4 s5=some p3/\J [] 1 [(0,(eL 1 k8 s5)),(3,(eO 0 17 (eA 17 1 k8) s4))] [(0,.tail (s4.length*17))] []) N (λ_ h=>⟨_,_,h,jr⟩) (λp3 k s hI=>?_) λp3=>?_
 ·obtain⟨s4,s5,h,hj⟩:=hI;cases k with
  | zero=>cases h
  | succ k=>
   refine At.jr hj ?_ h;refine lx ?_;intro x6;refine At.c 3 ?_ ?_
   ·refine At.b 1 (λ_ e=>aG7 hT (k:=1) 1 [] 0 e (by kernel_rfl) (by kernel_rfl) (by decide)) λs7=>?_;refine At.b 1 (λv8 e=>aFF hT k8 (id:=1) (path:=[]) (off:=0) (H':=[.tail (s4.length*17),.var (eA 17 1 k8 v8)]) e (by kernel_rfl) (by kernel_rfl) (by kernel_rfl)) λv8=>?_;refine lx ?_;intro x9;refine At.b 2 (λ_ e=>aG hT (k:=1) 1 [] 0 e) λu10=>?_;refine At.b 0 (λ_ e=>bE hT k8 0 v8 e 1 (by kernel_rfl) (by kernel_rfl) (H':=[.tail (s4.length*17),.var (eA 17 1 k8 (v8.setIfInBounds x9.toNat 1))])) λe11=>?_;refine At.o 2 (bI hT (x:=(.sl 17 1 [(eA 17 1 k8 (v8.setIfInBounds x9.toNat 1))]))) ?_;refine At.b 0 (λ_ e=>cH hT (eA 17 1 k8) (id:=0) (k:=17) e) λz12=>?_;refine At.b 3 (λ_ e=>jV hT (k:=1) k8 e) λs13=>?_;exact λh=>At.k 1 ⟨_,_,h,jr⟩
   ·apply rt;exact At.x 0
 ·apply rt;exact At.r 2
theorem eQ{x y c:Int}{r:Int×Int}(h:cU x y c=some r):aIl Tryz.prog 156 [.int .u64 x,.int .u64 y,.int .u64 c] (.tuple #[.int .u64 r.1,.int .u64 r.2]):=
 aKr Tryz.func156 (by kernel_rfl) (by kernel_rfl) (by kernel_rfl) (by kernel_rfl) h
def bT(N:Nat)(a0 a1:Int):Option (Int×Int):=
 aO (dD .u64 a0 4294967295) λx1=>
 aO (dD .u64 a1 4294967295) λx2=>
 aO (U64 ((shr .u64 a0 32)*x2)) λx3=>
 aO (shr .u64 (U64 (x1*x2)) 32) λx4=>
 aO (dD .u64 (U64 (x3+x4)) 4294967295) λx5=>
 aO (shr .u64 (U64 (x3+x4)) 32) λx6=>
 aO (U64 (x1*(shr .u64 a1 32))) λx7=>
 aO (U64 ((shr .u64 a0 32)*(shr .u64 a1 32))) λx8=>
 aO (shr .u64 (U64 (x5+x7)) 32) λx9=>
 aO (U64 ((U64 (x8+x6))+x9)) λx10=>
 some ((x10,U64 (a0*a1)))
theorem hZ{N a0 a1 r}(h:bT N a0 a1=some r):FnM Tryz.prog 157 [] [(k64 a0),(k64 a1)] (.tup [(k64 r.1),(k64 r.2)]) []:=by
 unfold bT at h;refine At.f fZ hT hmo Tryz.func157 rfl h ?_;refine lx ?_;intro x1;refine lx ?_;intro x2;refine lx ?_;intro x3;refine lx ?_;intro x4;refine lx ?_;intro x5;refine lx ?_;intro x6;refine lx ?_;intro x7;refine lx ?_;intro x8;refine lx ?_;intro x9;refine lx ?_;intro x10;apply rt;exact At.r 50
def eX(N:Nat)(a0 a1:Int)(a2:aN):Option ((Vector Int 3)):=
 ae (aQ 0 3) λ_=>
 ae (a2.gA0.gh.toList[(af 0)]?) λe2=>
 ae (cU e2 a0 0) λr3=>
 ae (aQ 0 3) λ_=>
 ae (a2.gA0.gh.toList[(af 0)]?) λe5=>
 ae (aQ 1 3) λ_=>
 ae ((a2.gA0.gh.setIfInBounds ((af 0)) r3.1).toList[(af 1)]?) λe7=>
 ae (cU e7 a1 r3.2) λr8=>
 ae (aQ 1 3) λ_=>
 ae ((a2.gA0.gh.setIfInBounds ((af 0)) r3.1).toList[(af 1)]?) λe10=>
 ae (aQ 2 3) λ_=>
 ae (((a2.gA0.gh.setIfInBounds ((af 0)) r3.1).setIfInBounds ((af 1)) r8.1).toList[(af 2)]?) λe12=>
 ae (aQ 2 3) λ_=>
 ae (((a2.gA0.gh.setIfInBounds ((af 0)) r3.1).setIfInBounds ((af 1)) r8.1).toList[(af 2)]?) λe14=>
 some (((a2.gA0.gh.setIfInBounds ((af 0)) r3.1).setIfInBounds ((af 1)) r8.1).setIfInBounds ((af 2)) (U64 (e12+r8.2)))
theorem tZ{N a0 a1 a2 r}(h:eX N a0 a1 a2=some r):FnM Tryz.prog 158 [.var (aN.enc a2)] [(.ref 0 [0] 0),(k64 a0),(k64 a1)] (.tup []) [.var (.st 10 [(.st 3 [(eA 3 1 k64 r)]),(eB a2.gA),(k64 a2.gr0),(k64 a2.gr1),(k64 a2.gs0),(k64 a2.gs1),(eL 1 k8 a2.gL),(j64 a2.gO)])]:=by
 unfold eX at h;refine At.f fZ hT hmo Tryz.func158 rfl h ?_;refine bi λu1 hu1=>?_;refine bi λe2 he2=>?_;refine bi λr3 hr3=>?_;refine bi λu4 hu4=>?_;refine bi λe5 he5=>?_;refine At.d 1 (dE1 4 (λ_=>aG hT (k:=1) 0 [0,0] 0 hu1) (dEL hT 5 (k64 e2) k64 2 he2 (dE1 7 (λ_=>eR (eQ hr3) (λ_=>eP)) (dE1 13 (λ_=>aG hT (k:=1) 0 [0,0] 0 hu4) dE0)))) (dF 14 (.v (.bool false)) [(0,.var (.st 10 [(.st 3 [(eA 3 1 k64 (a2.gA0.gh.setIfInBounds ((af 0)) r3.1))]),(eB a2.gA),(k64 a2.gr0),(k64 a2.gr1),(k64 a2.gs0),(k64 a2.gs1),(eL 1 k8 a2.gL),(j64 a2.gO)]))] [] (bG (bE hT k64 2 a2.gA0.gh he5 r3.1 (by kernel_rfl) (by kernel_rfl) (H':=[.var (.st 10 [(.st 3 [(eA 3 1 k64 (a2.gA0.gh.setIfInBounds ((af 0)) r3.1))]),(eB a2.gA),(k64 a2.gr0),(k64 a2.gr1),(k64 a2.gs0),(k64 a2.gs1),(eL 1 k8 a2.gL),(j64 a2.gO)])]))) dF0) ?_;refine bi λu6 hu6=>?_;refine bi λe7 he7=>?_;refine bi λr8 hr8=>?_;refine bi λu9 hu9=>?_;refine bi λe10 he10=>?_;refine At.d 0 (dE1 4 (λ_=>aG hT (k:=1) 0 [0,0] 0 hu6) (dEL hT 5 (k64 e7) k64 2 he7 (dE1 8 (λ_=>eR (eQ hr8) (λ_=>eP)) (dE1 14 (λ_=>aG hT (k:=1) 0 [0,0] 0 hu9) dE0)))) (dF 15 (.v (.bool false)) [(0,.var (.st 10 [(.st 3 [(eA 3 1 k64 ((a2.gA0.gh.setIfInBounds ((af 0)) r3.1).setIfInBounds ((af 1)) r8.1))]),(eB a2.gA),(k64 a2.gr0),(k64 a2.gr1),(k64 a2.gs0),(k64 a2.gs1),(eL 1 k8 a2.gL),(j64 a2.gO)]))] [] (bG (bE hT k64 2 (a2.gA0.gh.setIfInBounds ((af 0)) r3.1) he10 r8.1 (by kernel_rfl) (by kernel_rfl) (H':=[.var (.st 10 [(.st 3 [(eA 3 1 k64 ((a2.gA0.gh.setIfInBounds ((af 0)) r3.1).setIfInBounds ((af 1)) r8.1))]),(eB a2.gA),(k64 a2.gr0),(k64 a2.gr1),(k64 a2.gs0),(k64 a2.gs1),(eL 1 k8 a2.gL),(j64 a2.gO)])]))) dF0) ?_;refine bi λu11 hu11=>?_;refine bi λe12 he12=>?_;refine bi λu13 hu13=>?_;refine bi λe14 he14=>?_;refine At.d 0 (dE1 3 (λ_=>aG hT (k:=1) 0 [0,0] 0 hu11) (dEL hT 4 (k64 e12) k64 2 he12 (dE1 9 (λ_=>aG hT (k:=1) 0 [0,0] 0 hu13) dE0))) (dF 10 (.v (.bool false)) [(0,.var (.st 10 [(.st 3 [(eA 3 1 k64 (((a2.gA0.gh.setIfInBounds ((af 0)) r3.1).setIfInBounds ((af 1)) r8.1).setIfInBounds ((af 2)) (U64 (e12+r8.2))))]),(eB a2.gA),(k64 a2.gr0),(k64 a2.gr1),(k64 a2.gs0),(k64 a2.gs1),(eL 1 k8 a2.gL),(j64 a2.gO)]))] [] (bG (bE hT k64 2 ((a2.gA0.gh.setIfInBounds ((af 0)) r3.1).setIfInBounds ((af 1)) r8.1) he14 (U64 (e12+r8.2)) (by kernel_rfl) (by kernel_rfl) (H':=[.var (.st 10 [(.st 3 [(eA 3 1 k64 (((a2.gA0.gh.setIfInBounds ((af 0)) r3.1).setIfInBounds ((af 1)) r8.1).setIfInBounds ((af 2)) (U64 (e12+r8.2))))]),(eB a2.gA),(k64 a2.gr0),(k64 a2.gr1),(k64 a2.gs0),(k64 a2.gs1),(eL 1 k8 a2.gL),(j64 a2.gO)])]))) dF0) ?_;apply rt;exact At.z 0
def zL : Nat->Bool:=imL [5]
def fE(N:Nat)(a0:(Vector Int 17))(a1 a2:Int)(a3:aN):Option ((Vector Int 3)×Bool×Int×Int×Int×Int×(List Int)×Int):=
 ae (aQ 0 3) λ_=>
 ae (a3.gA0.gh.toList[(af 0)]?) λe2=>
 ae (eU a0.toList 0 8) λs3=>
 ae (cQ N s3) λr4=>
 ae (cU e2 r4 0) λr5=>
 ae (aQ 0 3) λ_=>
 ae (a3.gA0.gh.toList[(af 0)]?) λe7=>
 ae (aQ 1 3) λ_=>
 ae ((a3.gA0.gh.setIfInBounds ((af 0)) r5.1).toList[(af 1)]?) λe9=>
 ae (eU a0.toList 8 16) λs10=>
 ae (cQ N s10) λr11=>
 ae (cU e9 r11 r5.2) λr12=>
 ae (aQ 1 3) λ_=>
 ae ((a3.gA0.gh.setIfInBounds ((af 0)) r5.1).toList[(af 1)]?) λe14=>
 ae (aQ 2 3) λ_=>
 ae (((a3.gA0.gh.setIfInBounds ((af 0)) r5.1).setIfInBounds ((af 1)) r12.1).toList[(af 2)]?) λe16=>
 ae (idx a0.toList 16) λe17=>
 aO (U64 ((U64 e17)+r12.2)) λx18=>
 ae (aQ 2 3) λ_=>
 ae (((a3.gA0.gh.setIfInBounds ((af 0)) r5.1).setIfInBounds ((af 1)) r12.1).toList[(af 2)]?) λe20=>
 ae (aQ 0 3) λ_=>
 ae ((((a3.gA0.gh.setIfInBounds ((af 0)) r5.1).setIfInBounds ((af 1)) r12.1).setIfInBounds ((af 2)) (U64 (e16+x18))).toList[(af 0)]?) λe22=>
 ae (bT N e22 a1) λr23=>
 ae (aQ 1 3) λ_=>
 ae ((((a3.gA0.gh.setIfInBounds ((af 0)) r5.1).setIfInBounds ((af 1)) r12.1).setIfInBounds ((af 2)) (U64 (e16+x18))).toList[(af 1)]?) λe25=>
 ae (bT N e25 a1) λr26=>
 ae (aQ 0 3) λ_=>
 ae ((((a3.gA0.gh.setIfInBounds ((af 0)) r5.1).setIfInBounds ((af 1)) r12.1).setIfInBounds ((af 2)) (U64 (e16+x18))).toList[(af 0)]?) λe28=>
 ae (bT N e28 a2) λr29=>
 ae (aQ 1 3) λ_=>
 ae ((((a3.gA0.gh.setIfInBounds ((af 0)) r5.1).setIfInBounds ((af 1)) r12.1).setIfInBounds ((af 2)) (U64 (e16+x18))).toList[(af 1)]?) λe31=>
 ae (bT N e31 a2) λr32=>
 ae (aQ 2 3) λ_=>
 ae ((((a3.gA0.gh.setIfInBounds ((af 0)) r5.1).setIfInBounds ((af 1)) r12.1).setIfInBounds ((af 2)) (U64 (e16+x18))).toList[(af 2)]?) λe34=>
 ae (aQ 2 3) λ_=>
 ae ((((a3.gA0.gh.setIfInBounds ((af 0)) r5.1).setIfInBounds ((af 1)) r12.1).setIfInBounds ((af 2)) (U64 (e16+x18))).toList[(af 2)]?) λe36=>
 ae (cU r26.2 r29.2 0) λr37=>
 ae (cU r26.1 r29.1 r37.2) λr38=>
 ae (cU 0 0 r38.2) λr39=>
 ae (cU r38.1 r32.2 0) λr40=>
 ae (cU r39.1 r32.1 r40.2) λr41=>
 ae (cU r40.1 (U64 (e34*a1)) 0) λr42=>
 ae (cU r41.1 (U64 (e36*a2)) r42.2) λr43=>
 ae (cU r37.1 r23.1 0) λr44=>
 ae (cU r42.1 0 r44.2) λr45=>
 ae (cU r43.1 0 r45.2) λr46=>
 ae (eX N (aEn .u64 r45.1 3) r46.1 (aN.mk (aH.mk (#v[r23.2,r44.1,dD .u64 r45.1 3])) a3.gA a3.gr0 a3.gr1 a3.gs0 a3.gs1 a3.gL a3.gO)) λr47=>
 aO (bor .u64 (shr .u64 r45.1 2) (shl .u64 r46.1 62)) λx48=>
 ae (eX N x48 (shr .u64 r46.1 2) (aN.mk (aH.mk r47) ((aN.mk (aH.mk (#v[r23.2,r44.1,dD .u64 r45.1 3])) a3.gA a3.gr0 a3.gr1 a3.gs0 a3.gs1 a3.gL a3.gO).gA) ((aN.mk (aH.mk (#v[r23.2,r44.1,dD .u64 r45.1 3])) a3.gA a3.gr0 a3.gr1 a3.gs0 a3.gs1 a3.gL a3.gO).gr0) ((aN.mk (aH.mk (#v[r23.2,r44.1,dD .u64 r45.1 3])) a3.gA a3.gr0 a3.gr1 a3.gs0 a3.gs1 a3.gL a3.gO).gr1) ((aN.mk (aH.mk (#v[r23.2,r44.1,dD .u64 r45.1 3])) a3.gA a3.gr0 a3.gr1 a3.gs0 a3.gs1 a3.gL a3.gO).gs0) ((aN.mk (aH.mk (#v[r23.2,r44.1,dD .u64 r45.1 3])) a3.gA a3.gr0 a3.gr1 a3.gs0 a3.gs1 a3.gL a3.gO).gs1) ((aN.mk (aH.mk (#v[r23.2,r44.1,dD .u64 r45.1 3])) a3.gA a3.gr0 a3.gr1 a3.gs0 a3.gs1 a3.gL a3.gO).gL) ((aN.mk (aH.mk (#v[r23.2,r44.1,dD .u64 r45.1 3])) a3.gA a3.gr0 a3.gr1 a3.gs0 a3.gs1 a3.gL a3.gO).gO))) λr49=>
 some ((r49,(aN.mk (aH.mk r47) ((aN.mk (aH.mk (#v[r23.2,r44.1,dD .u64 r45.1 3])) a3.gA a3.gr0 a3.gr1 a3.gs0 a3.gs1 a3.gL a3.gO).gA) ((aN.mk (aH.mk (#v[r23.2,r44.1,dD .u64 r45.1 3])) a3.gA a3.gr0 a3.gr1 a3.gs0 a3.gs1 a3.gL a3.gO).gr0) ((aN.mk (aH.mk (#v[r23.2,r44.1,dD .u64 r45.1 3])) a3.gA a3.gr0 a3.gr1 a3.gs0 a3.gs1 a3.gL a3.gO).gr1) ((aN.mk (aH.mk (#v[r23.2,r44.1,dD .u64 r45.1 3])) a3.gA a3.gr0 a3.gr1 a3.gs0 a3.gs1 a3.gL a3.gO).gs0) ((aN.mk (aH.mk (#v[r23.2,r44.1,dD .u64 r45.1 3])) a3.gA a3.gr0 a3.gr1 a3.gs0 a3.gs1 a3.gL a3.gO).gs1) ((aN.mk (aH.mk (#v[r23.2,r44.1,dD .u64 r45.1 3])) a3.gA a3.gr0 a3.gr1 a3.gs0 a3.gs1 a3.gL a3.gO).gL) ((aN.mk (aH.mk (#v[r23.2,r44.1,dD .u64 r45.1 3])) a3.gA a3.gr0 a3.gr1 a3.gs0 a3.gs1 a3.gL a3.gO).gO)).gA,(aN.mk (aH.mk r47) ((aN.mk (aH.mk (#v[r23.2,r44.1,dD .u64 r45.1 3])) a3.gA a3.gr0 a3.gr1 a3.gs0 a3.gs1 a3.gL a3.gO).gA) ((aN.mk (aH.mk (#v[r23.2,r44.1,dD .u64 r45.1 3])) a3.gA a3.gr0 a3.gr1 a3.gs0 a3.gs1 a3.gL a3.gO).gr0) ((aN.mk (aH.mk (#v[r23.2,r44.1,dD .u64 r45.1 3])) a3.gA a3.gr0 a3.gr1 a3.gs0 a3.gs1 a3.gL a3.gO).gr1) ((aN.mk (aH.mk (#v[r23.2,r44.1,dD .u64 r45.1 3])) a3.gA a3.gr0 a3.gr1 a3.gs0 a3.gs1 a3.gL a3.gO).gs0) ((aN.mk (aH.mk (#v[r23.2,r44.1,dD .u64 r45.1 3])) a3.gA a3.gr0 a3.gr1 a3.gs0 a3.gs1 a3.gL a3.gO).gs1) ((aN.mk (aH.mk (#v[r23.2,r44.1,dD .u64 r45.1 3])) a3.gA a3.gr0 a3.gr1 a3.gs0 a3.gs1 a3.gL a3.gO).gL) ((aN.mk (aH.mk (#v[r23.2,r44.1,dD .u64 r45.1 3])) a3.gA a3.gr0 a3.gr1 a3.gs0 a3.gs1 a3.gL a3.gO).gO)).gr0,(aN.mk (aH.mk r47) ((aN.mk (aH.mk (#v[r23.2,r44.1,dD .u64 r45.1 3])) a3.gA a3.gr0 a3.gr1 a3.gs0 a3.gs1 a3.gL a3.gO).gA) ((aN.mk (aH.mk (#v[r23.2,r44.1,dD .u64 r45.1 3])) a3.gA a3.gr0 a3.gr1 a3.gs0 a3.gs1 a3.gL a3.gO).gr0) ((aN.mk (aH.mk (#v[r23.2,r44.1,dD .u64 r45.1 3])) a3.gA a3.gr0 a3.gr1 a3.gs0 a3.gs1 a3.gL a3.gO).gr1) ((aN.mk (aH.mk (#v[r23.2,r44.1,dD .u64 r45.1 3])) a3.gA a3.gr0 a3.gr1 a3.gs0 a3.gs1 a3.gL a3.gO).gs0) ((aN.mk (aH.mk (#v[r23.2,r44.1,dD .u64 r45.1 3])) a3.gA a3.gr0 a3.gr1 a3.gs0 a3.gs1 a3.gL a3.gO).gs1) ((aN.mk (aH.mk (#v[r23.2,r44.1,dD .u64 r45.1 3])) a3.gA a3.gr0 a3.gr1 a3.gs0 a3.gs1 a3.gL a3.gO).gL) ((aN.mk (aH.mk (#v[r23.2,r44.1,dD .u64 r45.1 3])) a3.gA a3.gr0 a3.gr1 a3.gs0 a3.gs1 a3.gL a3.gO).gO)).gr1,(aN.mk (aH.mk r47) ((aN.mk (aH.mk (#v[r23.2,r44.1,dD .u64 r45.1 3])) a3.gA a3.gr0 a3.gr1 a3.gs0 a3.gs1 a3.gL a3.gO).gA) ((aN.mk (aH.mk (#v[r23.2,r44.1,dD .u64 r45.1 3])) a3.gA a3.gr0 a3.gr1 a3.gs0 a3.gs1 a3.gL a3.gO).gr0) ((aN.mk (aH.mk (#v[r23.2,r44.1,dD .u64 r45.1 3])) a3.gA a3.gr0 a3.gr1 a3.gs0 a3.gs1 a3.gL a3.gO).gr1) ((aN.mk (aH.mk (#v[r23.2,r44.1,dD .u64 r45.1 3])) a3.gA a3.gr0 a3.gr1 a3.gs0 a3.gs1 a3.gL a3.gO).gs0) ((aN.mk (aH.mk (#v[r23.2,r44.1,dD .u64 r45.1 3])) a3.gA a3.gr0 a3.gr1 a3.gs0 a3.gs1 a3.gL a3.gO).gs1) ((aN.mk (aH.mk (#v[r23.2,r44.1,dD .u64 r45.1 3])) a3.gA a3.gr0 a3.gr1 a3.gs0 a3.gs1 a3.gL a3.gO).gL) ((aN.mk (aH.mk (#v[r23.2,r44.1,dD .u64 r45.1 3])) a3.gA a3.gr0 a3.gr1 a3.gs0 a3.gs1 a3.gL a3.gO).gO)).gs0,(aN.mk (aH.mk r47) ((aN.mk (aH.mk (#v[r23.2,r44.1,dD .u64 r45.1 3])) a3.gA a3.gr0 a3.gr1 a3.gs0 a3.gs1 a3.gL a3.gO).gA) ((aN.mk (aH.mk (#v[r23.2,r44.1,dD .u64 r45.1 3])) a3.gA a3.gr0 a3.gr1 a3.gs0 a3.gs1 a3.gL a3.gO).gr0) ((aN.mk (aH.mk (#v[r23.2,r44.1,dD .u64 r45.1 3])) a3.gA a3.gr0 a3.gr1 a3.gs0 a3.gs1 a3.gL a3.gO).gr1) ((aN.mk (aH.mk (#v[r23.2,r44.1,dD .u64 r45.1 3])) a3.gA a3.gr0 a3.gr1 a3.gs0 a3.gs1 a3.gL a3.gO).gs0) ((aN.mk (aH.mk (#v[r23.2,r44.1,dD .u64 r45.1 3])) a3.gA a3.gr0 a3.gr1 a3.gs0 a3.gs1 a3.gL a3.gO).gs1) ((aN.mk (aH.mk (#v[r23.2,r44.1,dD .u64 r45.1 3])) a3.gA a3.gr0 a3.gr1 a3.gs0 a3.gs1 a3.gL a3.gO).gL) ((aN.mk (aH.mk (#v[r23.2,r44.1,dD .u64 r45.1 3])) a3.gA a3.gr0 a3.gr1 a3.gs0 a3.gs1 a3.gL a3.gO).gO)).gs1,(aN.mk (aH.mk r47) ((aN.mk (aH.mk (#v[r23.2,r44.1,dD .u64 r45.1 3])) a3.gA a3.gr0 a3.gr1 a3.gs0 a3.gs1 a3.gL a3.gO).gA) ((aN.mk (aH.mk (#v[r23.2,r44.1,dD .u64 r45.1 3])) a3.gA a3.gr0 a3.gr1 a3.gs0 a3.gs1 a3.gL a3.gO).gr0) ((aN.mk (aH.mk (#v[r23.2,r44.1,dD .u64 r45.1 3])) a3.gA a3.gr0 a3.gr1 a3.gs0 a3.gs1 a3.gL a3.gO).gr1) ((aN.mk (aH.mk (#v[r23.2,r44.1,dD .u64 r45.1 3])) a3.gA a3.gr0 a3.gr1 a3.gs0 a3.gs1 a3.gL a3.gO).gs0) ((aN.mk (aH.mk (#v[r23.2,r44.1,dD .u64 r45.1 3])) a3.gA a3.gr0 a3.gr1 a3.gs0 a3.gs1 a3.gL a3.gO).gs1) ((aN.mk (aH.mk (#v[r23.2,r44.1,dD .u64 r45.1 3])) a3.gA a3.gr0 a3.gr1 a3.gs0 a3.gs1 a3.gL a3.gO).gL) ((aN.mk (aH.mk (#v[r23.2,r44.1,dD .u64 r45.1 3])) a3.gA a3.gr0 a3.gr1 a3.gs0 a3.gs1 a3.gL a3.gO).gO)).gL,(aN.mk (aH.mk r47) ((aN.mk (aH.mk (#v[r23.2,r44.1,dD .u64 r45.1 3])) a3.gA a3.gr0 a3.gr1 a3.gs0 a3.gs1 a3.gL a3.gO).gA) ((aN.mk (aH.mk (#v[r23.2,r44.1,dD .u64 r45.1 3])) a3.gA a3.gr0 a3.gr1 a3.gs0 a3.gs1 a3.gL a3.gO).gr0) ((aN.mk (aH.mk (#v[r23.2,r44.1,dD .u64 r45.1 3])) a3.gA a3.gr0 a3.gr1 a3.gs0 a3.gs1 a3.gL a3.gO).gr1) ((aN.mk (aH.mk (#v[r23.2,r44.1,dD .u64 r45.1 3])) a3.gA a3.gr0 a3.gr1 a3.gs0 a3.gs1 a3.gL a3.gO).gs0) ((aN.mk (aH.mk (#v[r23.2,r44.1,dD .u64 r45.1 3])) a3.gA a3.gr0 a3.gr1 a3.gs0 a3.gs1 a3.gL a3.gO).gs1) ((aN.mk (aH.mk (#v[r23.2,r44.1,dD .u64 r45.1 3])) a3.gA a3.gr0 a3.gr1 a3.gs0 a3.gs1 a3.gL a3.gO).gL) ((aN.mk (aH.mk (#v[r23.2,r44.1,dD .u64 r45.1 3])) a3.gA a3.gr0 a3.gr1 a3.gs0 a3.gs1 a3.gL a3.gO).gO)).gO))
theorem yS{N a0 a1 a2 a3 r}(h:fE N a0 a1 a2 a3=some r):FnM Tryz.prog 142 [.var (aN.enc a3)] [(.ref 0 [0] 0),(eA 17 1 k8 a0),(k64 a1),(k64 a2)] (.tup []) [.var (.st 10 [(.st 3 [(eA 3 1 k64 r.1)]),(eB r.2.1),(k64 r.2.2.1),(k64 r.2.2.2.1),(k64 r.2.2.2.2.1),(k64 r.2.2.2.2.2.1),(eL 1 k8 r.2.2.2.2.2.2.1),(j64 r.2.2.2.2.2.2.2)])]:=by
 unfold fE at h;refine At.f zL hT hmo Tryz.func142 rfl h ?_;refine bi λu1 hu1=>?_;refine bi λe2 he2=>?_;refine bi λs3 hs3=>?_;refine bi λr4 hr4=>?_;refine bi λr5 hr5=>?_;refine bi λu6 hu6=>?_;refine bi λe7 he7=>?_;refine At.d 8 (dE1 0 (λ_=>aG hT (k:=1) 1 [] 0 hu1) (dEL hT 1 (k64 e2) k64 0 he2 (dE1 2 (λ_=>mC hT (N:=17) (k:=1) k8 a0 hs3) (dE2 3 (k64 r4) (λ_=>cM (mK hr4)) (dE1 4 (λ_=>eR (eQ hr5) (λ_=>eP)) (dE1 8 (λ_=>aG hT (k:=1) 1 [] 0 hu6) dE0)))))) (dF 9 (.v (.bool false)) [(1,.var (eA 3 1 k64 (a3.gA0.gh.setIfInBounds ((af 0)) r5.1)))] [] (bG (bE hT k64 0 a3.gA0.gh he7 r5.1 (by kernel_rfl) (by kernel_rfl) (H':=[.var (aN.enc a3),.var (eA 3 1 k64 (a3.gA0.gh.setIfInBounds ((af 0)) r5.1))]))) dF0) ?_;refine bi λu8 hu8=>?_;refine bi λe9 he9=>?_;refine bi λs10 hs10=>?_;refine bi λr11 hr11=>?_;refine bi λr12 hr12=>?_;refine bi λu13 hu13=>?_;refine bi λe14 he14=>?_;refine At.d 0 (dE1 0 (λ_=>aG hT (k:=1) 1 [] 0 hu8) (dEL hT 1 (k64 e9) k64 0 he9 (dE1 2 (λ_=>mC hT (N:=17) (k:=1) k8 a0 hs10) (dE2 3 (k64 r11) (λ_=>cM (mK hr11)) (dE1 5 (λ_=>eR (eQ hr12) (λ_=>eP)) (dE1 9 (λ_=>aG hT (k:=1) 1 [] 0 hu13) dE0)))))) (dF 10 (.v (.bool false)) [(1,.var (eA 3 1 k64 ((a3.gA0.gh.setIfInBounds ((af 0)) r5.1).setIfInBounds ((af 1)) r12.1)))] [] (bG (bE hT k64 0 (a3.gA0.gh.setIfInBounds ((af 0)) r5.1) he14 r12.1 (by kernel_rfl) (by kernel_rfl) (H':=[.var (aN.enc a3),.var (eA 3 1 k64 ((a3.gA0.gh.setIfInBounds ((af 0)) r5.1).setIfInBounds ((af 1)) r12.1))]))) dF0) ?_;refine At.b 0 (λ_ e=>aG hT (k:=1) 1 [] 0 e) λu15=>?_;refine At.b 0 (λ_ e=>aY hT k64 0 e) λe16=>?_;refine At.b 0 (λ_ e=>bN hT (N:=17) (k:=1) k8 a0 e) λe17=>?_;refine lx ?_;intro x18;refine At.b 5 (λ_ e=>aG hT (k:=1) 1 [] 0 e) λu19=>?_;refine At.b 0 (λ_ e=>bE hT k64 0 ((a3.gA0.gh.setIfInBounds ((af 0)) r5.1).setIfInBounds ((af 1)) r12.1) e (U64 (e16+x18)) (by kernel_rfl) (by kernel_rfl) (H':=[.var (aN.enc a3),.var (eA 3 1 k64 (((a3.gA0.gh.setIfInBounds ((af 0)) r5.1).setIfInBounds ((af 1)) r12.1).setIfInBounds ((af 2)) (U64 (e16+x18))))])) λe20=>?_;refine At.b 0 (λ_ e=>aG hT (k:=1) 1 [] 0 e) λu21=>?_;refine At.b 0 (λ_ e=>aY hT k64 0 e) λe22=>?_;refine At.b 1 (λ_ e=>aK [] (hZ e)) λr23=>?_;refine At.b 5 (λ_ e=>aG hT (k:=1) 1 [] 0 e) λu24=>?_;refine At.b 0 (λ_ e=>aY hT k64 0 e) λe25=>?_;refine At.b 1 (λ_ e=>aK [] (hZ e)) λr26=>?_;refine At.b 5 (λ_ e=>aG hT (k:=1) 1 [] 0 e) λu27=>?_;refine At.b 0 (λ_ e=>aY hT k64 0 e) λe28=>?_;refine At.b 1 (λ_ e=>aK [] (hZ e)) λr29=>?_;refine At.b 5 (λ_ e=>aG hT (k:=1) 1 [] 0 e) λu30=>?_;refine At.b 0 (λ_ e=>aY hT k64 0 e) λe31=>?_;refine At.b 1 (λ_ e=>aK [] (hZ e)) λr32=>?_;refine bi λu33 hu33=>?_;refine bi λe34 he34=>?_;refine bi λu35 hu35=>?_;refine bi λe36 he36=>?_;refine At.d 5 (dE1 0 (λ_=>aG hT (k:=1) 1 [] 0 hu33) (dEL hT 1 (k64 e34) k64 0 he34 (dE1 4 (λ_=>aG hT (k:=1) 1 [] 0 hu35) (dEL hT 5 (k64 e36) k64 0 he36 dE0)))) dF0 ?_;refine At.b 2 (λ_ e=>eR (eQ e) (λ_=>eP)) λr37=>?_;refine At.b 8 (λ_ e=>eR (eQ e) (λ_=>eP)) λr38=>?_;refine At.b 6 (λ_ e=>eR (eQ e) (λ_=>eP)) λr39=>?_;refine At.b 7 (λ_ e=>eR (eQ e) (λ_=>eP)) λr40=>?_;refine At.b 8 (λ_ e=>eR (eQ e) (λ_=>eP)) λr41=>?_;refine At.b 6 (λ_ e=>eR (eQ e) (λ_=>eP)) λr42=>?_;refine At.b 8 (λ_ e=>eR (eQ e) (λ_=>eP)) λr43=>?_;refine At.b 8 (λ_ e=>eR (eQ e) (λ_=>eP)) λr44=>?_;refine At.b 7 (λ_ e=>eR (eQ e) (λ_=>eP)) λr45=>?_;refine At.b 7 (λ_ e=>eR (eQ e) (λ_=>eP)) λr46=>?_;refine At.b 18 (λ_ e=>aK [0] (tZ e)) λr47=>?_;refine lx ?_;intro x48;refine At.b 8 (λ_ e=>aK [0] (tZ e)) λr49=>?_;apply rt;exact At.z 0
def eV(N:Nat)(a1:(List (List Int))):Nat->(List Int)->Int->Int->Option ((List Int)×Int)
 | 0,_,_,_=>none
 | k+1,s2,s3,s4=>
  aO (decide (s4 < ((a1.length:Int)))) λx5=>
  cond x5 (
   ae (idx a1 s4) λe6=>
   aO (lP ((e6.length:Int)) (I64 (65536 - s3))) λx7=>
   ae (eU e6 0 x7) λs8=>
   aO (I64 (s3+((s8.length:Int)))) λx9=>
   ae (mH 1 s2 s8) λz10=>
   eV N a1 k z10 ((I64 (s3+((s8.length:Int))))) (I64 (s4+1))) (
   some ((s2,s3)))
def eW(N:Nat)  : Nat->(Vector Int 3)->Bool->Int->Int->Int->Int->(List Int)->Int->Option ((Vector Int 3)×Bool×Int×Int×Int×Int×(List Int)×Int)
 | 0,_,_,_,_,_,_,_,_=>none
 | k+1,s12,s13,s14,s15,s16,s17,s18,s19=>
  aO (decide (((s18.length:Int))>=16)) λx20=>
  cond x20 (
   ae (eU s18 0 16) λs21=>
   ae (jN N s21) λr22=>
   ae (idx r22 0) λe23=>
   ae (fE N e23 s14 s15 (aN.mk (aH.mk s12) s13 s14 s15 s16 s17 s18 s19)) λr24=>
   ae (eU r24.2.2.2.2.2.2.1 16 ((r24.2.2.2.2.2.2.1.length:Int))) λs25=>
   eW N k r24.1 r24.2.1 r24.2.2.1 r24.2.2.2.1 r24.2.2.2.2.1 r24.2.2.2.2.2.1 s25 r24.2.2.2.2.2.2.2) (
   some ((s12,s13,s14,s15,s16,s17,s18,s19)))
def pA(N:Nat)(b1:(List Int))(a1:(List (List Int)))(a2:aH)(a3:Bool)(a4 a5 a6 a7 a8:Int):Option ((List Int)×(Vector Int 3)×Bool×Int×Int×Int×Int×(List Int)×Int):=
 cond (!a3) (
  some ((b1,a2.gh,a3,a4,a5,a6,a7,b1,a8))) (
  ae (eV N a1 N b1 a8 0) λp1=>
  ae (eW N N a2.gh a3 a4 a5 a6 a7 p1.1 p1.2) λp11=>
  some ((p1.1,p11.1,p11.2.1,p11.2.2.1,p11.2.2.2.1,p11.2.2.2.2.1,p11.2.2.2.2.2.1,p11.2.2.2.2.2.2.1,p11.2.2.2.2.2.2.2)))
theorem aBn{N b1 a1 a2 a3 a4 a5 a6 a7 a8 r}(h:pA N b1 a1 a2 a3 a4 a5 a6 a7 a8=some r):FnM Tryz.prog 118 [.var (.st 10 [(aH.enc a2),(eB a3),(k64 a4),(k64 a5),(k64 a6),(k64 a7),(eO 1 1 k8 b1),(j64 a8)]),.tail (b1.length*1)] [(.ref 0 [] 0),(eL 1 (eL 1 k8) a1)] (.tup []) [.var (.st 10 [(.st 3 [(eA 3 1 k64 r.2.1)]),(eB r.2.2.1),(k64 r.2.2.2.1),(k64 r.2.2.2.2.1),(k64 r.2.2.2.2.2.1),(k64 r.2.2.2.2.2.2.1),(eL 1 k8 r.2.2.2.2.2.2.2.1),(j64 r.2.2.2.2.2.2.2.2)]),.tail (r.1.length*1)]:=by
 unfold pA at h;refine At.f fZ hT hmo Tryz.func118 rfl h ?_;refine At.o 1 (aHZ hT (t:=165) (x:=(.ref 0 [] 0)) (b:=true) (by kernel_rfl) rfl rfl (by kernel_rfl)) ?_;refine At.g [8] 7 ?_;refine At.c 0 ?_ ?_
 ·apply rt;exact At.r 0
 ·refine At.L 3 [0] 2 (λp1=>([],[(0,.var (.st 10 [(aH.enc a2),(eB a3),(k64 a4),(k64 a5),(k64 a6),(k64 a7),(eO 1 1 k8 p1.1),(j64 p1.2)])),(1,.tail (p1.1.length*1))],[])) (λp1 J k=>∃s2 s3 s4,eV N a1 k s2 s3 s4=some p1/\J [0,15,16] 2 [(17,(j64 s4))] [(0,.var (.st 10 [(aH.enc a2),(eB a3),(k64 a4),(k64 a5),(k64 a6),(k64 a7),(eO 1 1 k8 s2),(j64 s3)])),(1,.tail (s2.length*1))] []) N (λ_ h=>⟨_,_,_,h,jr⟩) (λp1 k s hI=>?_) λp1=>?_
  ·obtain⟨s2,s3,s4,h,hj⟩:=hI;cases k with
   | zero=>cases h
   | succ k=>
    refine At.jr hj ?_ h;refine lx ?_;intro x5;refine At.c 1 ?_ ?_
    ·refine At.b 0 (λ_ e=>bF hT (eL 1 k8) e) λe6=>?_;refine lx ?_;intro x7;refine At.b 11 (λ_ e=>jV hT (k:=1) k8 e) λs8=>?_;refine lx ?_;intro x9;refine At.b 17 (λ_ e=>cH hT k8 (id:=1) (k:=1) e) λz10=>?_;exact λh=>At.k 5 ⟨_,_,_,h,jr⟩
    ·apply rt;exact At.x 0
  ·refine At.L 0 [] 2 (λp11=>([],[(0,.var (.st 10 [(.st 3 [(eA 3 1 k64 p11.1)]),(eB p11.2.1),(k64 p11.2.2.1),(k64 p11.2.2.2.1),(k64 p11.2.2.2.2.1),(k64 p11.2.2.2.2.2.1),(eL 1 k8 p11.2.2.2.2.2.2.1),(j64 p11.2.2.2.2.2.2.2)]))],[])) (λp11 J k=>∃s12 s13 s14 s15 s16 s17 s18 s19,eW N k s12 s13 s14 s15 s16 s17 s18 s19=some p11/\J [0] 2 [] [(0,.var (.st 10 [(.st 3 [(eA 3 1 k64 s12)]),(eB s13),(k64 s14),(k64 s15),(k64 s16),(k64 s17),(eL 1 k8 s18),(j64 s19)]))] []) N (λ_ h=>⟨_,_,_,_,_,_,_,_,h,jr⟩) (λp11 k s hI=>?_) λp11=>?_
   ·obtain⟨s12,s13,s14,s15,s16,s17,s18,s19,h,hj⟩:=hI;cases k with
    | zero=>cases h
    | succ k=>
     refine At.jr hj ?_ h;refine lx ?_;intro x20;refine At.c 6 ?_ ?_
     ·refine bi λs21 hs21=>?_;refine bi λr22 hr22=>?_;refine bi λe23 he23=>?_;refine bi λr24 hr24=>?_;refine At.d 0 (dE1 7 (λ_=>jV hT (k:=1) k8 hs21) (dE2 8 (eL 17 (eA 17 1 k8) r22) (λ_=>cM (aAO hr22)) (dE1 9 (λ_=>bF hT (eA 17 1 k8) he23) dE0))) (dF 19 (.tup []) [(0,.var (.st 10 [(.st 3 [(eA 3 1 k64 r24.1)]),(eB r24.2.1),(k64 r24.2.2.1),(k64 r24.2.2.2.1),(k64 r24.2.2.2.2.1),(k64 r24.2.2.2.2.2.1),(eL 1 k8 r24.2.2.2.2.2.2.1),(j64 r24.2.2.2.2.2.2.2)]))] [] (bG (aK [0] (yS hr24))) dF0) ?_;refine At.b 5 (λ_ e=>jV hT (k:=1) k8 e) λs25=>?_;exact λh=>At.k 3 ⟨_,_,_,_,_,_,_,_,h,jr⟩
     ·apply rt;exact At.x 0
   ·apply rt;exact At.z 0
def bR(N:Nat)(a0 a1:Int)(a2:aH):Option ((Vector Int 3)):=
 ae (aQ 0 3) λ_=>
 ae (a2.gh.toList[(af 0)]?) λe2=>
 ae (cU e2 a0 0) λr3=>
 ae (aQ 0 3) λ_=>
 ae (a2.gh.toList[(af 0)]?) λe5=>
 ae (aQ 1 3) λ_=>
 ae ((a2.gh.setIfInBounds ((af 0)) r3.1).toList[(af 1)]?) λe7=>
 ae (cU e7 a1 r3.2) λr8=>
 ae (aQ 1 3) λ_=>
 ae ((a2.gh.setIfInBounds ((af 0)) r3.1).toList[(af 1)]?) λe10=>
 ae (aQ 2 3) λ_=>
 ae (((a2.gh.setIfInBounds ((af 0)) r3.1).setIfInBounds ((af 1)) r8.1).toList[(af 2)]?) λe12=>
 ae (aQ 2 3) λ_=>
 ae (((a2.gh.setIfInBounds ((af 0)) r3.1).setIfInBounds ((af 1)) r8.1).toList[(af 2)]?) λe14=>
 some (((a2.gh.setIfInBounds ((af 0)) r3.1).setIfInBounds ((af 1)) r8.1).setIfInBounds ((af 2)) (U64 (e12+r8.2)))
theorem tB{N a0 a1 a2 r}(h:bR N a0 a1 a2=some r):FnM Tryz.prog 158 [.var (aH.enc a2)] [(.ref 0 [] 0),(k64 a0),(k64 a1)] (.tup []) [.var (.st 3 [(eA 3 1 k64 r)])]:=by
 unfold bR at h;refine At.f fZ hT hmo Tryz.func158 rfl h ?_;refine bi λu1 hu1=>?_;refine bi λe2 he2=>?_;refine bi λr3 hr3=>?_;refine bi λu4 hu4=>?_;refine bi λe5 he5=>?_;refine At.d 1 (dE1 4 (λ_=>aG hT (k:=1) 0 [0] 0 hu1) (dEL hT 5 (k64 e2) k64 1 he2 (dE1 7 (λ_=>eR (eQ hr3) (λ_=>eP)) (dE1 13 (λ_=>aG hT (k:=1) 0 [0] 0 hu4) dE0)))) (dF 14 (.v (.bool false)) [(0,.var (.st 3 [(eA 3 1 k64 (a2.gh.setIfInBounds ((af 0)) r3.1))]))] [] (bG (bE hT k64 1 a2.gh he5 r3.1 (by kernel_rfl) (by kernel_rfl) (H':=[.var (.st 3 [(eA 3 1 k64 (a2.gh.setIfInBounds ((af 0)) r3.1))])]))) dF0) ?_;refine bi λu6 hu6=>?_;refine bi λe7 he7=>?_;refine bi λr8 hr8=>?_;refine bi λu9 hu9=>?_;refine bi λe10 he10=>?_;refine At.d 0 (dE1 4 (λ_=>aG hT (k:=1) 0 [0] 0 hu6) (dEL hT 5 (k64 e7) k64 1 he7 (dE1 8 (λ_=>eR (eQ hr8) (λ_=>eP)) (dE1 14 (λ_=>aG hT (k:=1) 0 [0] 0 hu9) dE0)))) (dF 15 (.v (.bool false)) [(0,.var (.st 3 [(eA 3 1 k64 ((a2.gh.setIfInBounds ((af 0)) r3.1).setIfInBounds ((af 1)) r8.1))]))] [] (bG (bE hT k64 1 (a2.gh.setIfInBounds ((af 0)) r3.1) he10 r8.1 (by kernel_rfl) (by kernel_rfl) (H':=[.var (.st 3 [(eA 3 1 k64 ((a2.gh.setIfInBounds ((af 0)) r3.1).setIfInBounds ((af 1)) r8.1))])]))) dF0) ?_;refine bi λu11 hu11=>?_;refine bi λe12 he12=>?_;refine bi λu13 hu13=>?_;refine bi λe14 he14=>?_;refine At.d 0 (dE1 3 (λ_=>aG hT (k:=1) 0 [0] 0 hu11) (dEL hT 4 (k64 e12) k64 1 he12 (dE1 9 (λ_=>aG hT (k:=1) 0 [0] 0 hu13) dE0))) (dF 10 (.v (.bool false)) [(0,.var (.st 3 [(eA 3 1 k64 (((a2.gh.setIfInBounds ((af 0)) r3.1).setIfInBounds ((af 1)) r8.1).setIfInBounds ((af 2)) (U64 (e12+r8.2))))]))] [] (bG (bE hT k64 1 ((a2.gh.setIfInBounds ((af 0)) r3.1).setIfInBounds ((af 1)) r8.1) he14 (U64 (e12+r8.2)) (by kernel_rfl) (by kernel_rfl) (H':=[.var (.st 3 [(eA 3 1 k64 (((a2.gh.setIfInBounds ((af 0)) r3.1).setIfInBounds ((af 1)) r8.1).setIfInBounds ((af 2)) (U64 (e12+r8.2))))])]))) dF0) ?_;apply rt;exact At.z 0
def xO : Nat->Bool:=imL [5]
def cF(N:Nat)(a0:(Vector Int 17))(a1 a2:Int)(a3:aH):Option ((Vector Int 3)):=
 ae (aQ 0 3) λ_=>
 ae (a3.gh.toList[(af 0)]?) λe2=>
 ae (eU a0.toList 0 8) λs3=>
 ae (cQ N s3) λr4=>
 ae (cU e2 r4 0) λr5=>
 ae (aQ 0 3) λ_=>
 ae (a3.gh.toList[(af 0)]?) λe7=>
 ae (aQ 1 3) λ_=>
 ae ((a3.gh.setIfInBounds ((af 0)) r5.1).toList[(af 1)]?) λe9=>
 ae (eU a0.toList 8 16) λs10=>
 ae (cQ N s10) λr11=>
 ae (cU e9 r11 r5.2) λr12=>
 ae (aQ 1 3) λ_=>
 ae ((a3.gh.setIfInBounds ((af 0)) r5.1).toList[(af 1)]?) λe14=>
 ae (aQ 2 3) λ_=>
 ae (((a3.gh.setIfInBounds ((af 0)) r5.1).setIfInBounds ((af 1)) r12.1).toList[(af 2)]?) λe16=>
 ae (idx a0.toList 16) λe17=>
 aO (U64 ((U64 e17)+r12.2)) λx18=>
 ae (aQ 2 3) λ_=>
 ae (((a3.gh.setIfInBounds ((af 0)) r5.1).setIfInBounds ((af 1)) r12.1).toList[(af 2)]?) λe20=>
 ae (aQ 0 3) λ_=>
 ae ((((a3.gh.setIfInBounds ((af 0)) r5.1).setIfInBounds ((af 1)) r12.1).setIfInBounds ((af 2)) (U64 (e16+x18))).toList[(af 0)]?) λe22=>
 ae (bT N e22 a1) λr23=>
 ae (aQ 1 3) λ_=>
 ae ((((a3.gh.setIfInBounds ((af 0)) r5.1).setIfInBounds ((af 1)) r12.1).setIfInBounds ((af 2)) (U64 (e16+x18))).toList[(af 1)]?) λe25=>
 ae (bT N e25 a1) λr26=>
 ae (aQ 0 3) λ_=>
 ae ((((a3.gh.setIfInBounds ((af 0)) r5.1).setIfInBounds ((af 1)) r12.1).setIfInBounds ((af 2)) (U64 (e16+x18))).toList[(af 0)]?) λe28=>
 ae (bT N e28 a2) λr29=>
 ae (aQ 1 3) λ_=>
 ae ((((a3.gh.setIfInBounds ((af 0)) r5.1).setIfInBounds ((af 1)) r12.1).setIfInBounds ((af 2)) (U64 (e16+x18))).toList[(af 1)]?) λe31=>
 ae (bT N e31 a2) λr32=>
 ae (aQ 2 3) λ_=>
 ae ((((a3.gh.setIfInBounds ((af 0)) r5.1).setIfInBounds ((af 1)) r12.1).setIfInBounds ((af 2)) (U64 (e16+x18))).toList[(af 2)]?) λe34=>
 ae (aQ 2 3) λ_=>
 ae ((((a3.gh.setIfInBounds ((af 0)) r5.1).setIfInBounds ((af 1)) r12.1).setIfInBounds ((af 2)) (U64 (e16+x18))).toList[(af 2)]?) λe36=>
 ae (cU r26.2 r29.2 0) λr37=>
 ae (cU r26.1 r29.1 r37.2) λr38=>
 ae (cU 0 0 r38.2) λr39=>
 ae (cU r38.1 r32.2 0) λr40=>
 ae (cU r39.1 r32.1 r40.2) λr41=>
 ae (cU r40.1 (U64 (e34*a1)) 0) λr42=>
 ae (cU r41.1 (U64 (e36*a2)) r42.2) λr43=>
 ae (cU r37.1 r23.1 0) λr44=>
 ae (cU r42.1 0 r44.2) λr45=>
 ae (cU r43.1 0 r45.2) λr46=>
 ae (bR N (aEn .u64 r45.1 3) r46.1 (aH.mk (#v[r23.2,r44.1,dD .u64 r45.1 3]))) λr47=>
 aO (bor .u64 (shr .u64 r45.1 2) (shl .u64 r46.1 62)) λx48=>
 ae (bR N x48 (shr .u64 r46.1 2) (aH.mk r47)) λr49=>
 some r49
theorem wU{N a0 a1 a2 a3 r}(h:cF N a0 a1 a2 a3=some r):FnM Tryz.prog 142 [.var (aH.enc a3)] [(.ref 0 [] 0),(eA 17 1 k8 a0),(k64 a1),(k64 a2)] (.tup []) [.var (.st 3 [(eA 3 1 k64 r)])]:=by
 unfold cF at h;refine At.f xO hT hmo Tryz.func142 rfl h ?_;refine bi λu1 hu1=>?_;refine bi λe2 he2=>?_;refine bi λs3 hs3=>?_;refine bi λr4 hr4=>?_;refine bi λr5 hr5=>?_;refine bi λu6 hu6=>?_;refine bi λe7 he7=>?_;refine At.d 8 (dE1 0 (λ_=>aG hT (k:=1) 1 [] 0 hu1) (dEL hT 1 (k64 e2) k64 0 he2 (dE1 2 (λ_=>mC hT (N:=17) (k:=1) k8 a0 hs3) (dE2 3 (k64 r4) (λ_=>cM (mK hr4)) (dE1 4 (λ_=>eR (eQ hr5) (λ_=>eP)) (dE1 8 (λ_=>aG hT (k:=1) 1 [] 0 hu6) dE0)))))) (dF 9 (.v (.bool false)) [(1,.var (eA 3 1 k64 (a3.gh.setIfInBounds ((af 0)) r5.1)))] [] (bG (bE hT k64 0 a3.gh he7 r5.1 (by kernel_rfl) (by kernel_rfl) (H':=[.var (aH.enc a3),.var (eA 3 1 k64 (a3.gh.setIfInBounds ((af 0)) r5.1))]))) dF0) ?_;refine bi λu8 hu8=>?_;refine bi λe9 he9=>?_;refine bi λs10 hs10=>?_;refine bi λr11 hr11=>?_;refine bi λr12 hr12=>?_;refine bi λu13 hu13=>?_;refine bi λe14 he14=>?_;refine At.d 0 (dE1 0 (λ_=>aG hT (k:=1) 1 [] 0 hu8) (dEL hT 1 (k64 e9) k64 0 he9 (dE1 2 (λ_=>mC hT (N:=17) (k:=1) k8 a0 hs10) (dE2 3 (k64 r11) (λ_=>cM (mK hr11)) (dE1 5 (λ_=>eR (eQ hr12) (λ_=>eP)) (dE1 9 (λ_=>aG hT (k:=1) 1 [] 0 hu13) dE0)))))) (dF 10 (.v (.bool false)) [(1,.var (eA 3 1 k64 ((a3.gh.setIfInBounds ((af 0)) r5.1).setIfInBounds ((af 1)) r12.1)))] [] (bG (bE hT k64 0 (a3.gh.setIfInBounds ((af 0)) r5.1) he14 r12.1 (by kernel_rfl) (by kernel_rfl) (H':=[.var (aH.enc a3),.var (eA 3 1 k64 ((a3.gh.setIfInBounds ((af 0)) r5.1).setIfInBounds ((af 1)) r12.1))]))) dF0) ?_;refine At.b 0 (λ_ e=>aG hT (k:=1) 1 [] 0 e) λu15=>?_;refine At.b 0 (λ_ e=>aY hT k64 0 e) λe16=>?_;refine At.b 0 (λ_ e=>bN hT (N:=17) (k:=1) k8 a0 e) λe17=>?_;refine lx ?_;intro x18;refine At.b 5 (λ_ e=>aG hT (k:=1) 1 [] 0 e) λu19=>?_;refine At.b 0 (λ_ e=>bE hT k64 0 ((a3.gh.setIfInBounds ((af 0)) r5.1).setIfInBounds ((af 1)) r12.1) e (U64 (e16+x18)) (by kernel_rfl) (by kernel_rfl) (H':=[.var (aH.enc a3),.var (eA 3 1 k64 (((a3.gh.setIfInBounds ((af 0)) r5.1).setIfInBounds ((af 1)) r12.1).setIfInBounds ((af 2)) (U64 (e16+x18))))])) λe20=>?_;refine At.b 0 (λ_ e=>aG hT (k:=1) 1 [] 0 e) λu21=>?_;refine At.b 0 (λ_ e=>aY hT k64 0 e) λe22=>?_;refine At.b 1 (λ_ e=>aK [] (hZ e)) λr23=>?_;refine At.b 5 (λ_ e=>aG hT (k:=1) 1 [] 0 e) λu24=>?_;refine At.b 0 (λ_ e=>aY hT k64 0 e) λe25=>?_;refine At.b 1 (λ_ e=>aK [] (hZ e)) λr26=>?_;refine At.b 5 (λ_ e=>aG hT (k:=1) 1 [] 0 e) λu27=>?_;refine At.b 0 (λ_ e=>aY hT k64 0 e) λe28=>?_;refine At.b 1 (λ_ e=>aK [] (hZ e)) λr29=>?_;refine At.b 5 (λ_ e=>aG hT (k:=1) 1 [] 0 e) λu30=>?_;refine At.b 0 (λ_ e=>aY hT k64 0 e) λe31=>?_;refine At.b 1 (λ_ e=>aK [] (hZ e)) λr32=>?_;refine bi λu33 hu33=>?_;refine bi λe34 he34=>?_;refine bi λu35 hu35=>?_;refine bi λe36 he36=>?_;refine At.d 5 (dE1 0 (λ_=>aG hT (k:=1) 1 [] 0 hu33) (dEL hT 1 (k64 e34) k64 0 he34 (dE1 4 (λ_=>aG hT (k:=1) 1 [] 0 hu35) (dEL hT 5 (k64 e36) k64 0 he36 dE0)))) dF0 ?_;refine At.b 2 (λ_ e=>eR (eQ e) (λ_=>eP)) λr37=>?_;refine At.b 8 (λ_ e=>eR (eQ e) (λ_=>eP)) λr38=>?_;refine At.b 6 (λ_ e=>eR (eQ e) (λ_=>eP)) λr39=>?_;refine At.b 7 (λ_ e=>eR (eQ e) (λ_=>eP)) λr40=>?_;refine At.b 8 (λ_ e=>eR (eQ e) (λ_=>eP)) λr41=>?_;refine At.b 6 (λ_ e=>eR (eQ e) (λ_=>eP)) λr42=>?_;refine At.b 8 (λ_ e=>eR (eQ e) (λ_=>eP)) λr43=>?_;refine At.b 8 (λ_ e=>eR (eQ e) (λ_=>eP)) λr44=>?_;refine At.b 7 (λ_ e=>eR (eQ e) (λ_=>eP)) λr45=>?_;refine At.b 7 (λ_ e=>eR (eQ e) (λ_=>eP)) λr46=>?_;refine At.b 18 (λ_ e=>aK [0] (tB e)) λr47=>?_;refine lx ?_;intro x48;refine At.b 8 (λ_ e=>aK [0] (tB e)) λr49=>?_;apply rt;exact At.z 0
def aEv : Nat->Bool:=imL [3]
def dP(N:Nat)  : Nat->(Vector Int 3)->Int->Option ((Vector Int 3))
 | 0,_,_=>none
 | k+1,s2,s3=>
  cond (decide (s3 < 2)) (
   ae (ae (aQ 0 3) λ_=>
   ae (s2.toList[(af 0)]?) λe6=>
   ae (cU e6 5 0) λr7=>
   ae (aQ 1 3) λ_=>
   ae (s2.toList[(af 1)]?) λe9=>
   ae (cU e9 0 r7.2) λr10=>
   ae (aQ 2 3) λ_=>
   ae (s2.toList[(af 2)]?) λe12=>
   aO (decide ((U64 (e12+r10.2))>=4)) λx13=>
   cond x13 (
    aO (U64 ((U64 (e12+r10.2)) - 4)) λx14=>
    some (#v[r7.1,r10.1,(U64 ((U64 (e12+r10.2)) - 4))])) (
    some s2)) λp4=>
   dP N k p4 (I64 (s3+1))) (
   some s2)
def eM(N:Nat)(r17 r20:Int×Int):Nat->(Vector Int 16)->Int->Option ((Vector Int 16))
 | 0,_,_=>none
 | k+1,s22,s23=>
  cond (decide (s23 < 8)) (
   ae (yG .u64 r17.1 (I64 (8*s23))) λx24=>
   ae (yG .u64 r20.1 (I64 (8*s23))) λx25=>
   ae (aQ s23 16) λ_=>
   ae (s22.toList[s23.toNat]?) λe27=>
   ae (aQ (I64 (8+s23)) 16) λ_=>
   ae ((s22.setIfInBounds s23.toNat (U8 x24)).toList[(I64 (8+s23)).toNat]?) λe29=>
   eM N r17 r20 k ((s22.setIfInBounds s23.toNat (U8 x24)).setIfInBounds ((I64 (8+s23)).toNat) (U8 x25)) (I64 (s23+1))) (
   some s22)
def nV(N:Nat)(a0:aH)(a1 a2:Int):Option ((Vector Int 16)):=
 ae (dP N N a0.gh 0) λp1=>
 ae (aQ 0 3) λ_=>
 ae (p1.toList[(af 0)]?) λe16=>
 ae (cU e16 a1 0) λr17=>
 ae (aQ 1 3) λ_=>
 ae (p1.toList[(af 1)]?) λe19=>
 ae (cU e19 a2 r17.2) λr20=>
 ae (eM N r17 r20 N (ah 16 0) 0) λp21=>
 some p21
theorem aD8{N a0 a1 a2 r}(h:nV N a0 a1 a2=some r):FnM Tryz.prog 144 [] [(aH.enc a0),(k64 a1),(k64 a2)] (eA 16 1 k8 r) []:=by
 unfold nV at h;refine At.f aEv hT hmo Tryz.func144 rfl h ?_;refine At.L 7 [1,2,6,7] 2 (λp1=>([],[(1,.var (eA 3 1 k64 p1))],[])) (λp1 J k=>∃s2 s3,dP N k s2 s3=some p1/\J [1,2,6,7] 2 [(20,(j64 s3))] [(1,.var (eA 3 1 k64 s2))] []) N (λ_ h=>⟨_,_,h,jr⟩) (λp1 k s hI=>?_) λp1=>?_
 ·obtain⟨s2,s3,h,hj⟩:=hI;cases k with
  | zero=>cases h
  | succ k=>
   refine At.jr hj ?_ h;refine At.c 1 ?_ ?_
   ·refine At.J 0 2 [1,2,6,7,20] 2 (λp4=>([],[(1,.var (eA 3 1 k64 p4))],[])) (λp4=>?_) λp4=>?_
    ·refine At.b 0 (λ_ e=>aG hT (k:=1) 1 [] 0 e) λu5=>?_;refine At.b 0 (λ_ e=>aY hT k64 0 e) λe6=>?_;refine At.b 0 (λ_ e=>eR (eQ e) (λ_=>eP)) λr7=>?_;refine At.b 5 (λ_ e=>aG hT (k:=1) 1 [] 0 e) λu8=>?_;refine At.b 0 (λ_ e=>aY hT k64 0 e) λe9=>?_;refine At.b 1 (λ_ e=>eR (eQ e) (λ_=>eP)) λr10=>?_;refine At.b 5 (λ_ e=>aG hT (k:=1) 1 [] 0 e) λu11=>?_;refine At.b 0 (λ_ e=>aY hT k64 0 e) λe12=>?_;refine lx ?_;intro x13;refine At.c 5 ?_ ?_
     ·refine lx ?_;intro x14;apply rt;exact At.jn 6
     ·apply rt;exact At.jn 0
    ·exact λh=>At.k 2 ⟨_,_,h,jr⟩
   ·apply rt;exact At.x 0
 ·refine At.b 0 (λ_ e=>aG hT (k:=1) 1 [] 0 e) λu15=>?_;refine At.b 0 (λ_ e=>aY hT k64 0 e) λe16=>?_;refine At.b 1 (λ_ e=>eR (eQ e) (λ_=>eP)) λr17=>?_;refine At.b 5 (λ_ e=>aG hT (k:=1) 1 [] 0 e) λu18=>?_;refine At.b 0 (λ_ e=>aY hT k64 0 e) λe19=>?_;refine At.b 2 (λ_ e=>eR (eQ e) (λ_=>eP)) λr20=>?_;refine At.L 7 [6,16] 3 (λp21=>([],[(2,.var (eA 16 1 k8 p21))],[])) (λp21 J k=>∃s22 s23,eM N r17 r20 k s22 s23=some p21/\J [6,12,14,16] 3 [(62,(j64 s23))] [(2,.var (eA 16 1 k8 s22))] []) N (λ_ h=>⟨_,_,h,jr⟩) (λp21 k s hI=>?_) λp21=>?_
  ·obtain⟨s22,s23,h,hj⟩:=hI;cases k with
   | zero=>cases h
   | succ k=>
    refine At.jr hj ?_ h;refine At.c 1 ?_ ?_
    ·refine bi λx24 hx24=>?_;refine bi λx25 hx25=>?_;refine bi λu26 hu26=>?_;refine bi λe27 he27=>?_;refine bi λu28 hu28=>?_;refine bi λe29 he29=>?_;refine At.d 2 (dE1 6 (λ_=>pM hT (k' := .i64) hx24 (by kernel_rfl) (by kernel_rfl)) (dE1 11 (λ_=>pM hT (k' := .i64) hx25 (by kernel_rfl) (by kernel_rfl)) (dE1 13 (λ_=>aG hT (k:=1) 2 [] 0 hu26) (dE1 15 (λ_=>aG hT (k:=1) 2 [] 0 hu28) dE0)))) (dF 14 (.v (.bool false)) [(2,.var (eA 16 1 k8 (s22.setIfInBounds s23.toNat (U8 x24))))] [] (bG (bE hT k8 0 s22 he27 (U8 x24) (by kernel_rfl) (by kernel_rfl) (H':=[.var (eA 16 1 k8 (ah 16 0)),.var (eA 3 1 k64 p1),.var (eA 16 1 k8 (s22.setIfInBounds s23.toNat (U8 x24)))]))) (dF 16 (.v (.bool false)) [(2,.var (eA 16 1 k8 ((s22.setIfInBounds s23.toNat (U8 x24)).setIfInBounds ((I64 (8+s23)).toNat) (U8 x25))))] [] (bG (bE hT k8 0 (s22.setIfInBounds s23.toNat (U8 x24)) he29 (U8 x25) (by kernel_rfl) (by kernel_rfl) (H':=[.var (eA 16 1 k8 (ah 16 0)),.var (eA 3 1 k64 p1),.var (eA 16 1 k8 ((s22.setIfInBounds s23.toNat (U8 x24)).setIfInBounds ((I64 (8+s23)).toNat) (U8 x25)))]))) dF0)) ?_;exact λh=>At.k 2 ⟨_,_,h,jr⟩
    ·apply rt;exact At.x 0
  ·apply rt;exact At.r 2
def iW(N:Nat)(r1:(List (Vector Int 17)))(a0:aN):Nat->(Vector Int 3)->Int->Option ((Vector Int 3))
 | 0,_,_=>none
 | k+1,s3,s4=>
  aO (decide (s4 < ((r1.length:Int)))) λx5=>
  cond x5 (
   ae (idx r1 s4) λe6=>
   ae (cF N e6 a0.gr0 a0.gr1 (aH.mk s3)) λr7=>
   iW N r1 a0 k r7 (I64 (s4+1))) (
   some s3)
def nN(N:Nat)(a0:aN):Option ((Vector Int 16)):=
 cond (!a0.gA) (
  some (ah 16 0)) (
  ae (jN N a0.gL) λr1=>
  ae (iW N r1 a0 N a0.gA0.gh 0) λp2=>
  ae (nV N (aH.mk p2) a0.gs0 a0.gs1) λr8=>
  some r8)
theorem aB6{N a0 r}(h:nN N a0=some r):FnM Tryz.prog 119 [.var (aN.enc a0)] [(.ref 0 [] 0)] (eA 16 1 k8 r) [.var (aN.enc a0)]:=by
 unfold nN at h;refine At.f fZ hT hmo Tryz.func119 rfl h ?_;refine At.o 2 (aHZ hT (t:=165) (x:=(.ref 0 [] 0)) (b:=true) (by kernel_rfl) rfl rfl (by kernel_rfl)) ?_;refine At.g [8] 7 ?_;refine At.c 0 ?_ ?_
 ·apply rt;exact At.r 2
 ·refine At.b 10 (λ_ e=>aK [] (aAO e)) λr1=>?_;refine At.L 2 [0,2,3] 3 (λp2=>([],[(2,.var (.st 3 [(eA 3 1 k64 p2)]))],[])) (λp2 J k=>∃s3 s4,iW N r1 a0 k s3 s4=some p2/\J [0,2,3,24,25] 3 [(26,(j64 s4))] [(2,.var (.st 3 [(eA 3 1 k64 s3)]))] []) N (λ_ h=>⟨_,_,h,jr⟩) (λp2 k s hI=>?_) λp2=>?_
  ·obtain⟨s3,s4,h,hj⟩:=hI;cases k with
   | zero=>cases h
   | succ k=>
    refine At.jr hj ?_ h;refine lx ?_;intro x5;refine At.c 1 ?_ ?_
    ·refine At.b 0 (λ_ e=>bF hT (eA 17 1 k8) e) λe6=>?_;refine bi λr7 hr7=>?_;refine At.d 3 dE0 (dF 9 (.tup []) [(2,.var (.st 3 [(eA 3 1 k64 r7)]))] [] (bG (aK [2] (wU hr7))) dF0) ?_;exact λh=>At.k 2 ⟨_,_,h,jr⟩
    ·apply rt;exact At.x 0
  ·refine bi λr8 hr8=>?_;refine At.d 0 (dE2 9 (eA 16 1 k8 r8) (λ_=>cM (aD8 hr8)) dE0) dF0 ?_;apply rt;exact At.r 0
def aJo : Nat->Bool:=imL [2]
def rH(N:Nat)(a0:(Vector Int 32))(a1:(List (List Int))):Option ((Vector Int 16)):=
 ae (sZ N a0) λr1=>
 ae (pA N [] a1 (aH.mk (#v[0,0,0])) true r1.1 r1.2.1 r1.2.2.1 r1.2.2.2 0) λr2=>
 ae (nN N (aN.mk (aH.mk r2.2.1) r2.2.2.1 r2.2.2.2.1 r2.2.2.2.2.1 r2.2.2.2.2.2.1 r2.2.2.2.2.2.2.1 r2.2.2.2.2.2.2.2.1 r2.2.2.2.2.2.2.2.2)) λr3=>
 some r3
theorem aH0{N a0 a1 r}(h:rH N a0 a1=some r):FnM Tryz.prog 86 [] [(eA 32 1 k8 a0),(eL 1 (eL 1 k8) a1)] (eA 16 1 k8 r) []:=by
 unfold rH at h;refine At.f aJo hT hmo Tryz.func86 rfl h ?_;refine At.b 3 (λ_ e=>aK [] (aHq e)) λr1=>?_;refine At.ownb 3 2 1 [6] ?_;refine At.b 0 (λ_ e=>aK [2,3] (aBn e)) λr2=>?_;refine At.b 1 (λ_ e=>aK [2] (aB6 e)) λr3=>?_;apply rt;exact At.r 1
def aI5 : Nat->Bool:=imL [4,5]
def kH(N:Nat)(a2 a3:(List Int)):Nat->(Vector Int 16)->Int->Option ((Vector Int 16))
 | 0,_,_=>none
 | k+1,s2,s3=>
  cond (decide (s3 < 8)) (
   ae (yG .i64 ((a2.length:Int)) (I64 (8*s3))) λx4=>
   ae (yG .i64 ((a3.length:Int)) (I64 (8*s3))) λx5=>
   ae (aQ s3 16) λ_=>
   ae (s2.toList[s3.toNat]?) λe7=>
   ae (aQ (I64 (8+s3)) 16) λ_=>
   ae ((s2.setIfInBounds s3.toNat (U8 x4)).toList[(I64 (8+s3)).toNat]?) λe9=>
   kH N a2 a3 k ((s2.setIfInBounds s3.toNat (U8 x4)).setIfInBounds ((I64 (8+s3)).toNat) (U8 x5)) (I64 (s3+1))) (
   some s2)
def pE(N:Nat)(a0:(Vector Int 32))(a1:(Vector Int 12))(a2 a3:(List Int)):Option ((Vector Int 16)):=
 ae (kH N a2 a3 N (ah 16 0) 0) λp1=>
 ae (sX N a0 a1) λr10=>
 ae (oU N a2) λr11=>
 ae (oU N a3) λr12=>
 ae (eU p1.toList 0 16) λs13=>
 ae (rH N r10 ([a2,r11,a3,r12,s13])) λr14=>
 some r14
theorem aDX{N a0 a1 a2 a3 r}(h:pE N a0 a1 a2 a3=some r):FnM Tryz.prog 49 [] [(eA 32 1 k8 a0),(eA 12 1 k8 a1),(eL 1 k8 a2),(eL 1 k8 a3)] (eA 16 1 k8 r) []:=by
 unfold pE at h;refine At.f aI5 hT hmo Tryz.func49 rfl h ?_;refine At.L 6 [2,3,4,5,8,9,10] 2 (λp1=>([],[(1,.var (eA 16 1 k8 p1))],[])) (λp1 J k=>∃s2 s3,kH N a2 a3 k s2 s3=some p1/\J [2,3,4,5,8,9,10] 2 [(12,(j64 s3))] [(1,.var (eA 16 1 k8 s2))] []) N (λ_ h=>⟨_,_,h,jr⟩) (λp1 k s hI=>?_) λp1=>?_
 ·obtain⟨s2,s3,h,hj⟩:=hI;cases k with
  | zero=>cases h
  | succ k=>
   refine At.jr hj ?_ h;refine At.c 1 ?_ ?_
   ·refine bi λx4 hx4=>?_;refine bi λx5 hx5=>?_;refine bi λu6 hu6=>?_;refine bi λe7 he7=>?_;refine bi λu8 hu8=>?_;refine bi λe9 he9=>?_;refine At.d 2 (dE1 7 (λ_=>pM hT (k' := .i64) hx4 (by kernel_rfl) (by kernel_rfl)) (dE1 13 (λ_=>pM hT (k' := .i64) hx5 (by kernel_rfl) (by kernel_rfl)) (dE1 15 (λ_=>aG hT (k:=1) 1 [] 0 hu6) (dE1 17 (λ_=>aG hT (k:=1) 1 [] 0 hu8) dE0)))) (dF 16 (.v (.bool false)) [(1,.var (eA 16 1 k8 (s2.setIfInBounds s3.toNat (U8 x4))))] [] (bG (bE hT k8 0 s2 he7 (U8 x4) (by kernel_rfl) (by kernel_rfl) (H':=[.var (eA 16 1 k8 (ah 16 0)),.var (eA 16 1 k8 (s2.setIfInBounds s3.toNat (U8 x4)))]))) (dF 18 (.v (.bool false)) [(1,.var (eA 16 1 k8 ((s2.setIfInBounds s3.toNat (U8 x4)).setIfInBounds ((I64 (8+s3)).toNat) (U8 x5))))] [] (bG (bE hT k8 0 (s2.setIfInBounds s3.toNat (U8 x4)) he9 (U8 x5) (by kernel_rfl) (by kernel_rfl) (H':=[.var (eA 16 1 k8 (ah 16 0)),.var (eA 16 1 k8 ((s2.setIfInBounds s3.toNat (U8 x4)).setIfInBounds ((I64 (8+s3)).toNat) (U8 x5)))]))) dF0)) ?_;exact λh=>At.k 2 ⟨_,_,h,jr⟩
   ·apply rt;exact At.x 0
 ·refine At.gz 0 1 ((eA 16 1 k8 p1)) ?_;refine bi λr10 hr10=>?_;refine bi λr11 hr11=>?_;refine bi λr12 hr12=>?_;refine bi λs13 hs13=>?_;refine bi λr14 hr14=>?_;refine At.d 0 (dE2 2 (eA 32 1 k8 r10) (λ_=>cM (aH1 hr10)) (dE2 6 (eL 1 k8 r11) (λ_=>cM (aBJ hr11)) (dE2 10 (eL 1 k8 r12) (λ_=>cM (aBJ hr12)) (dE1 11 (λ_=>mC hT (N:=16) (k:=1) k8 p1 hs13) (dE1 12 (λ_=>bI hT (x:=(.sl 1 5 [(eL 1 k8 a2),(eL 1 k8 r11),(eL 1 k8 a3),(eL 1 k8 r12),(eL 1 k8 s13)]))) (dE2 13 (eA 16 1 k8 r14) (λ_=>cM (aH0 hr14)) dE0)))))) dF0 ?_;apply rt;exact At.r 0
def aIb : Nat->Bool:=imL [4,5]
def tF(N:Nat)(a0:(Vector Int 32))(a1:(Vector Int 12))(a2 a3:(List Int)):Option ((List Int)×Int):=
 aO (decide (((a2.length:Int)) > 16384)) λx1=>
 aO (decide (((a3.length:Int)) > 16384)) λx2=>
 cond (cond x1 true x2) (
  some (([],3))) (
  ae (rU N a0 1 a1 ([a3])) λr3=>
  ae (pE N a0 a1 a2 r3) λr4=>
  ae (eU r4.toList 0 16) λs6=>
  ae (cS N ([r3,s6])) λr7=>
  some ((r7,0)))
theorem aCe{N a0 a1 a2 a3 r}(h:tF N a0 a1 a2 a3=some r):FnM Tryz.prog 22 [] [(eA 32 1 k8 a0),(eA 12 1 k8 a1),(eL 1 k8 a2),(eL 1 k8 a3)] (.tup [(eL 1 k8 r.1),(j64 r.2)]) []:=by
 unfold tF at h;refine At.f aIb hT hmo Tryz.func22 rfl h ?_;refine lx ?_;intro x1;refine lx ?_;intro x2;refine At.c 12 ?_ ?_
 ·apply rt;exact At.r 2
 ·refine At.o 3 (bI hT (x:=(.sl 1 1 [(eL 1 k8 a3)]))) ?_;refine At.b 0 (λ_ e=>aK [] (aBG e)) λr3=>?_;refine At.b 5 (λ_ e=>aK [] (aDX e)) λr4=>?_;refine At.gz 3 0 ((eA 16 1 k8 r4)) ?_;refine At.b 0 (λ_ e=>mC hT (N:=16) (k:=1) k8 r4 e) λs6=>?_;refine At.o 0 (bI hT (x:=(.sl 1 2 [(eL 1 k8 r3),(eL 1 k8 s6)]))) ?_;refine At.b 0 (λ_ e=>aK [] (kJ e)) λr7=>?_;apply rt;exact At.r 2
def sS(N:Nat)(a0:(List Int)):Option (Unit):=
 some (())
theorem aDB{N a0 r}(h:sS N a0=some r):FnM Tryz.prog 23 [] [(eL 1 k8 a0)] (.fn (.func 50) [] [(.ref 0 [] 0)]) [.var (eL 1 k8 a0)]:=by
 unfold sS at h;refine At.f fZ hT hmo Tryz.func23 rfl h ?_;refine At.o 2 (aHM (x:=(.fn (.func 50) [] [(.ref 0 [] 0)])) (by kernel_rfl) (by kernel_rfl)) ?_;apply rt;exact At.r 1
def aC8 : Nat->Bool:=imL [4,5,7]
def pW(N:Nat)(b3:(List Int))(a1:(Vector Int 32))(a2:(Vector Int 8))(a3 a4:(List Int))(a5:Int)(a6:(List Int)):Option ((List Int)):=
 aO (U64 ((a6.length:Int))) λx1=>
 ae (bO N [] 2 ([U64 a5,x1])) λr2=>
 ae (eF N a2 (I64 (a5+1))) λr3=>
 ae (cS N ([r2.1,a3])) λr4=>
 ae (tF N a1 r3 r4 a6) λr5=>
 ae (mH 1 b3 r2.1) λz6=>
 ae (mH 1 z6 r5.1) λz7=>
 some z7
theorem aCm{N:Nat}{b3:(List Int)}{a1:(Vector Int 32)}{a2:(Vector Int 8)}{a3:(List Int)}{a4:(List Int)}{a5:Int}{a6:(List Int)}{r:(List Int)}(h:pW N b3 a1 a2 a3 a4 a5 a6=some r):YldM Tryz.prog (aLx 101 Tryz.f6.body [1,1,1,1,1,1,1,1,1,1,0,1,0]) [en 4 (.im (eA 32 1 k8 a1)),en 5 (.im (eA 8 1 k8 a2)),en 13 (.ref 0 [] 0),en 14 (.ref 1 [] 0)] [.var (eO 3 1 k8 b3),.var (eL 1 k8 a3),.var (eL 1 k8 a4),.tail (b3.length*1)] [(j64 a5),(eL 1 k8 a6)] [.var (eO 3 1 k8 r),.var (eL 1 k8 a3),.var (eL 1 k8 a4),.tail (r.length*1)] none:=by
 unfold pW at h;refine aIt (lo:=5) (by kernel_rfl) (λbk rl=>At.of aC8 hT hmo h ?_)
 refine At.to 0 ⟨[en 4 (.im (eA 32 1 k8 a1)),en 5 (.im (eA 8 1 k8 a2)),en 13 (.ref 0 [] 0),en 14 (.ref 1 [] 0),en 69 (j64 a5),en 70 (eL 1 k8 a6)],[.var (eO 3 1 k8 b3),.var (eL 1 k8 a3),.var (eL 1 k8 a4),.tail (b3.length*1),.loop rl]⟩ ?_;refine At.mid 2 (λrl2=>?_)
 refine lx ?_;intro x1;refine At.o 5 (bI hT (x:=(.sl 1 2 [(k64 (U64 a5)),(k64 x1)]))) ?_;refine At.b 0 (λ_ e=>aK [] (kM e)) λr2=>?_;refine At.wk 5 18 ((eL 1 k8 r2.1)) ?_;refine bi λr3 hr3=>?_;refine bi λr4 hr4=>?_;refine bi λr5 hr5=>?_;refine At.d 0 (dE2 4 (eA 12 1 k8 r3) (λ_=>cM (oL hr3)) (dE1 7 (λ_=>bI hT (x:=(.sl 1 2 [(eL 1 k8 r2.1),(eL 1 k8 a3)]))) (dE2 10 (.tup [(eL 1 k8 r5.1),(j64 r5.2)]) (λ_=>cM (aCe hr5)) dE0))) (dF 8 (eO 6 1 k8 r4) [] [.tail (r4.length*1)] (bG (aK [] (kJ hr4))) dF0) ?_;refine At.b 2 (λ_ e=>cH hT k8 (id:=3) (k:=1) e) λz6=>?_;refine At.b 1 (λ_ e=>cH hT k8 (id:=3) (k:=1) e) λz7=>?_;apply rt;exact At.rnd 1
def cE(N:Nat)(a1:(Vector Int 32))(a2:(Vector Int 8))(a3:(List Int)):Nat->(List Int)->(List Int)->Int->Option ((List Int)×(List Int))
 | 0,_,_,_=>none
 | k+1,s2,s3,s4=>
  aO (decide (((s3.length:Int)) > 0)) λx5=>
  cond x5 (
   aO (lP ((s3.length:Int)) 256) λx6=>
   ae (aE4 s3 0 x6 x6) λs7=>
   ae (pW N s2 a1 a2 a3 s3 s4 s7) λr8=>
   ae (eU s3 x6 ((s3.length:Int))) λs9=>
   cE N a1 a2 a3 k r8 s9 (I64 (s4+1))) (
   some ((s2,s3)))
def eD(N:Nat)(b3:(List Int))(a1:(Vector Int 32))(a2:(Vector Int 8))(a3 a4:(List Int)):Option ((List Int)×(List Int)):=
 ae (cE N a1 a2 a3 N b3 a4 0) λp1=>
 some ((p1.1,p1.2))
theorem rX{N:Nat}{b3:(List Int)}{a1:(Vector Int 32)}{a2:(Vector Int 8)}{a3:(List Int)}{a4:(List Int)}{r:(List Int)×(List Int)}(h:eD N b3 a1 a2 a3 a4=some r):ItM Tryz.prog 50 (aLx 101 Tryz.f6.body [1,1,1,1,1,1,1,1,1,1,0,1,0]) [en 4 (.im (eA 32 1 k8 a1)),en 5 (.im (eA 8 1 k8 a2)),en 13 (.ref 0 [] 0),en 14 (.ref 1 [] 0)] [.var (eO 3 1 k8 b3),.var (eL 1 k8 a3),.var (eL 1 k8 a4),.tail (b3.length*1)] [(.yld 4),(.ref 2 [] 0)] (.tup []) [.var (eO 3 1 k8 r.1),.var (eL 1 k8 a3),.var (eL 1 k8 r.2),.tail (r.1.length*1)] none:=by
 unfold eD at h;refine aKt (m:=24) (lo:=5) (rs:=[]) hT Tryz.func50 rfl (by kernel_rfl) rfl (λfn tmps D hsz=>At.of fZ hT hmo h ?_)
 refine At.L 1 [] 5 (λp1=>([],[(0,.var (eO 3 1 k8 p1.1)),(2,.var (eL 1 k8 p1.2)),(3,.tail (p1.1.length*1))],[])) (λp1 J k=>∃s2 s3 s4,cE N a1 a2 a3 k s2 s3 s4=some p1/\J [0,1] 5 [(3,(j64 s4))] [(0,.var (eO 3 1 k8 s2)),(2,.var (eL 1 k8 s3)),(3,.tail (s2.length*1))] []) N (λ_ h=>⟨_,_,_,h,jr⟩) (λp1 k s hI=>?_) λp1=>?_
 ·obtain⟨s2,s3,s4,h,hj⟩:=hI;cases k with
  | zero=>cases h
  | succ k=>
   refine At.jr hj ?_ h;refine lx ?_;intro x5;refine At.c 3 ?_ ?_
   ·refine lx ?_;intro x6;refine At.b 9 (λ_ e=>aIT hT (k:=1) k8 e (by kernel_rfl) (by kernel_rfl)) λs7=>?_;refine At.b 0 (λ_ e=>aOL (aCm e) (fn:=fn) (D:=D) hsz rfl (List.mem_singleton.2 rfl) (by kernel_rfl) (by kernel_rfl)) λr8=>?_;refine At.b 4 (λ_ e=>jV hT (k:=1) k8 e) λs9=>?_;exact λh=>At.k 4 ⟨_,_,_,h,jr⟩
   ·apply rt;exact At.x 0
 ·apply rt;exact At.z 0
theorem rD : sO Tryz.prog 50:=tK (show wB Tryz.prog 50=true by kernel_rfl)
def aFy : Nat->Bool:=imL [4,5,7]
def nL(N:Nat)(a0:(Vector Int 32))(a1:(Vector Int 8))(a2:aD)(a3:aE):Option ((List Int)×Int):=
 ae (nY N a3) λr1=>
 cond (r1.2 != 0) (
  some (([],r1.2))) (
  cond (a2.gC != a3.gC) (
   some (([],12))) (
   ae (mQ N ((r1.1.length:Int))) λr2=>
   ae (kV N (aD.mk a2.gId a2.gC a2.gA2 a2.gR a2.gT a2.gTo ((r1.1.length:Int)) r2)) λr3=>
   cond (r3.2 != 0) (
    some (([],r3.2))) (
    ae (eU a1.toList 0 8) λs4=>
    ae (cS N ([([85,77,66,49]:List Int),s4,r3.1])) λr5=>
    ae (eF N a1 0) λr6=>
    ae (tF N a0 r6 r5 []) λr7=>
    ae (mH 1 r5 r7.1) λz8=>
    ae (sS N r1.1) λr9=>
    ae (eD N z8 a0 a1 r7.1 r1.1) λr10=>
    some ((r10.1,0)))))
theorem aAb{N a0 a1 a2 a3 r}(h:nL N a0 a1 a2 a3=some r):FnM Tryz.prog 6 [] [(eA 32 1 k8 a0),(eA 8 1 k8 a1),(aD.enc a2),(aE.enc a3)] (.tup [(eL 1 k8 r.1),(j64 r.2)]) []:=by
 unfold nL at h;refine At.fR aFy hT hmo Tryz.func6 rfl h ?_;refine At.b 7 (λ_ e=>aK [] (aEC e)) λr1=>?_;refine At.c 7 ?_ ?_
 ·apply rt;exact At.r 3
 ·refine At.c 5 ?_ ?_
  ·apply rt;exact At.r 2
  ·refine At.b 4 (λ_ e=>aK [] (wH e)) λr2=>?_;refine At.b 5 (λ_ e=>aK [] (aBy e)) λr3=>?_;refine At.c 7 ?_ ?_
   ·apply rt;exact At.r 3
   ·refine At.l2 hT 0 (d1:=50) (d2:=51) (t:=47) (e:=5) k8 (z:=1) ([85,77,66,49]:List Int) rfl rfl rfl ?_;refine At.b 0 (λ_ e=>mC hT (N:=8) (k:=1) k8 a1 e) λs4=>?_;refine At.wk 1 51 ((eL 1 k8 (([85,77,66,49]:List Int)))) ?_;refine At.o 0 (bI hT (x:=(.sl 1 3 [(eL 1 k8 (([85,77,66,49]:List Int))),(eL 1 k8 s4),(eL 1 k8 r3.1)]))) ?_;refine At.b 0 (λ_ e=>aK [] (kJ e)) λr5=>?_;refine bi λr6 hr6=>?_;refine bi λr7 hr7=>?_;refine At.d 2 (dE2 2 (eA 12 1 k8 r6) (λ_=>cM (oL hr6)) (dE2 4 (.tup [(eL 1 k8 r7.1),(j64 r7.2)]) (λ_=>cM (aCe hr7)) dE0)) dF0 ?_;refine At.b 2 (λ_ e=>cH hT k8 (id:=2) (k:=1) e) λz8=>?_;refine At.b 2 (λ_ e=>aK [] (aDB e)) λr9=>?_;refine bi λr10 hr10=>?_;refine At.rg 0 (rX hr10) rD (.tmp 68) [3,4,5,2] ⟨[en 13 (.ref 3 [] 0)],[.var (.st 15 [(k64 a2.gId),(j64 a2.gC),(k32 a2.gA2),(eA 8 1 k8 a2.gR),(k32 a2.gT),(k32 a2.gTo),(j64 ((r1.1.length:Int))),(j64 r2)]),.tail ((([85,77,66,49]:List Int)).length*1),.tail (r10.1.length*1),.var (eO 2 1 k8 r10.1),.var (eL 1 k8 r7.1),.var (eL 1 k8 r10.2)]⟩ [(.ref 5 [] 0)] ?_;apply rt;exact At.r 3
def aC5 : Nat->Bool:=imL [2]
def kF(N:Nat)(a0:aB)(a1:Int):Option (Bool):=
 aO (decide (a0.gX < (I64 (0 - a1)))) λx1=>
 aO (cond (decide (a0.gX > a1)) true x1) λx2=>
 aO (cond x2 true (decide (a0.gY > a1))) λx3=>
 aO (decide (a0.gY < (I64 (0 - a1)))) λx4=>
 aO (cond (cond x3 true x4) true (decide (a0.gZ > a1))) λx5=>
 aO (decide (a0.gZ < (I64 (0 - a1)))) λx6=>
 some (cond x5 true x6)
theorem rB{N a0 a1 r}(h:kF N a0 a1=some r):FnM Tryz.prog 120 [] [(aB.enc a0),(j64 a1)] (eB r) []:=by
 unfold kF at h;refine At.f aC5 hT hmo Tryz.func120 rfl h ?_;refine lx ?_;intro x1;refine lx ?_;intro x2;refine lx ?_;intro x3;refine lx ?_;intro x4;refine lx ?_;intro x5;refine lx ?_;intro x6;apply rt;exact At.r 40
def aBW : Nat->Bool:=imL [1]
def jD(N:Nat)(a0:aM):Nat->Int->Option (Sum (Unit) (Int))
 | 0,_=>none
 | k+1,s10=>
  aO ((a0.gF.length:Int)) λx11=>
  cond (decide (s10 < x11)) (
   ae (idx a0.gF s10) λe12=>
   ae (kF N e12 4096) λr13=>
   cond r13 (
    some (Sum.inr 8)) (
    jD N a0 k (I64 (s10+1)))) (
   some (Sum.inl (())))
def fV(N:Nat)(a0:aM)(s15:Int):Nat->Int->Option (Sum (Unit) (Int))
 | 0,_=>none
 | k+1,s18=>
  cond (decide (s18 < 2)) (
   ae (ae (idx a0.gJ s15) λe20=>
   ae (idx e20.toList s18) λe21=>
   cond (decide (e21 < 0)) (
    some true) (
    ae (idx a0.gJ s15) λe22=>
    ae (idx e22.toList s18) λe23=>
    some (decide (e23 > 65535)))) λp19=>
   cond p19 (
    some (Sum.inr 5)) (
    fV N a0 s15 k (I64 (s18+1)))) (
   some (Sum.inl (())))
def jG(N:Nat)(a0:aM):Nat->Int->Option (Sum (Unit) (Int))
 | 0,_=>none
 | k+1,s15=>
  aO (decide (s15 < ((a0.gJ.length:Int)))) λx16=>
  cond x16 (
   ae (fV N a0 s15 N 0) λo=>oP o (λp17=>
    jG N a0 k (I64 (s15+1))) (λr=>some (Sum.inr r))) (
   some (Sum.inl (())))
def eC(N:Nat)(a0:aM)(s25:Int):Nat->Int->Option (Sum (Unit) (Int))
 | 0,_=>none
 | k+1,s28=>
  cond (decide (s28 < 3)) (
   ae (ae (idx a0.gI s25) λe30=>
   ae (idx e30.toList s28) λe31=>
   cond (decide (e31 < 0)) (
    some true) (
    ae (idx a0.gI s25) λe32=>
    ae (idx e32.toList s28) λe33=>
    aO ((a0.gF.length:Int)) λx34=>
    cond (decide (e33>=x34)) (
     some true) (
     ae (idx a0.gI s25) λe35=>
     ae (idx e35.toList s28) λe36=>
     aO (cf (I64 (s28+1)) 3) λx37=>
     ae (idx a0.gI s25) λe38=>
     ae (idx e38.toList x37) λe39=>
     some (e36==e39)))) λp29=>
   cond p29 (
    some (Sum.inr 5)) (
    eC N a0 s25 k (I64 (s28+1)))) (
   some (Sum.inl (())))
def jF(N:Nat)(a0:aM):Nat->Int->Option (Sum (Unit) (Int))
 | 0,_=>none
 | k+1,s25=>
  aO ((a0.gI.length:Int)) λx26=>
  cond (decide (s25 < x26)) (
   ae (eC N a0 s25 N 0) λo=>oP o (λp27=>
    jF N a0 k (I64 (s25+1))) (λr=>some (Sum.inr r))) (
   some (Sum.inl (())))
def lU(N:Nat)(a0:aM):Option (Int):=
 aO ((a0.gF.length:Int)) λx1=>
 aO ((a0.gI.length:Int)) λx2=>
 aO (cond (decide (x1 > 64)) true (decide (x2 > 64))) λx3=>
 cond x3 (
  some 3) (
  aO ((a0.gF.length:Int)) λx4=>
  aO ((a0.gI.length:Int)) λx5=>
  aO (cond (decide (x4 < 1)) true (decide (x5 < 1))) λx6=>
  aO ((a0.gF.length:Int)) λx7=>
  aO (((a0.gJ.length:Int)) != x7) λx8=>
  cond (cond x6 true x8) (
   some 5) (
   ae (jD N a0 N 0) λo=>oP o (λp9=>
    ae (jG N a0 N 0) λo=>oP o (λp14=>
     ae (jF N a0 N 0) λo=>oP o (λp24=>
      some 0) (λr=>some r)) (λr=>some r)) (λr=>some r)))
theorem vI{N a0 r}(h:lU N a0=some r):FnM Tryz.prog 88 [] [(aM.enc a0)] (j64 r) []:=by
 unfold lU at h;refine At.f aBW hT hmo Tryz.func88 rfl h ?_;refine lx ?_;intro x1;refine lx ?_;intro x2;refine lx ?_;intro x3;refine At.c 12 ?_ ?_
 ·apply rt;exact At.r 1
 ·refine lx ?_;intro x4;refine lx ?_;intro x5;refine lx ?_;intro x6;refine lx ?_;intro x7;refine lx ?_;intro x8;refine At.c 19 ?_ ?_
  ·apply rt;exact At.r 1
  ·refine At.LS 1 [1] 0 (λp9=>([],[],[])) (λop9 J k=>∃s10,jD N a0 k s10=some op9/\J [1] 0 [(3,(j64 s10))] [] []) N (λ_ h=>⟨_,h,jr⟩) (λop9 g9 k s hI=>?_) λp9=>?_
   ·obtain⟨s10,h,hj⟩:=hI;cases k with
    | zero=>cases h
    | succ k=>
     refine At.jr hj ?_ h;refine lx ?_;intro x11;refine At.c 5 ?_ ?_
     ·refine At.b 3 (λ_ e=>bF hT aB.enc e) λe12=>?_;refine At.b 1 (λ_ e=>aK [] (rB e)) λr13=>?_;refine At.c 0 ?_ ?_
      ·intro e;apply wT g9 e;exact At.r 1
      ·exact λh=>At.k 3 ⟨_,h,jr⟩
     ·apply rt;exact At.xs 0
   ·refine At.LS 1 [1] 0 (λp14=>([],[],[])) (λop14 J k=>∃s15,jG N a0 k s15=some op14/\J [1] 0 [(4,(j64 s15))] [] []) N (λ_ h=>⟨_,h,jr⟩) (λop14 g14 k s hI=>?_) λp14=>?_
    ·obtain⟨s15,h,hj⟩:=hI;cases k with
     | zero=>cases h
     | succ k=>
      refine At.jr hj ?_ h;refine lx ?_;intro x16;refine At.c 5 ?_ ?_
      ·refine At.LS 1 [1,4] 0 (λp17=>([],[],[])) (λop17 J k=>∃s18,fV N a0 s15 k s18=some op17/\J [1,4] 0 [(5,(j64 s18))] [] []) N (λ_ h=>⟨_,h,jr⟩) (λop17 g17 k s hI=>?_) λp17=>?_
       ·obtain⟨s18,h,hj⟩:=hI;cases k with
        | zero=>cases h
        | succ k=>
         refine At.jr hj ?_ h;refine At.c 2 ?_ ?_
         ·refine At.J 0 0 [1,4,5] 0 (λp19=>([(78,(eB p19))],[],[])) (λp19=>?_) λp19=>?_
          ·refine At.b 4 (λ_ e=>bF hT (eA 2 1 j64) e) λe20=>?_;refine At.b 0 (λ_ e=>bN hT (N:=2) (k:=1) j64 e20 e) λe21=>?_;refine At.s 69 3 ?_ ?_
           ·refine At.g [69] 9 ?_;apply rt;exact At.jn 0
           ·refine At.g [69] 4 ?_;refine At.b 0 (λ_ e=>bF hT (eA 2 1 j64) e) λe22=>?_;refine At.b 0 (λ_ e=>bN hT (N:=2) (k:=1) j64 e22 e) λe23=>?_;refine At.g [69] 3 ?_;apply rt;exact At.jn 0
          ·refine At.c 0 ?_ ?_
           ·intro e;apply rtS2 g17 g14 e;exact At.r 1
           ·exact λh=>At.k 3 ⟨_,h,jr⟩
         ·apply rt;exact At.xs 0
       ·exact λh=>At.k 3 ⟨_,h,jr⟩
      ·apply rt;exact At.xs 0
    ·refine At.LS 1 [] 0 (λp24=>([],[],[])) (λop24 J k=>∃s25,jF N a0 k s25=some op24/\J [1] 0 [(6,(j64 s25))] [] []) N (λ_ h=>⟨_,h,jr⟩) (λop24 g24 k s hI=>?_) λp24=>?_
     ·obtain⟨s25,h,hj⟩:=hI;cases k with
      | zero=>cases h
      | succ k=>
       refine At.jr hj ?_ h;refine lx ?_;intro x26;refine At.c 5 ?_ ?_
       ·refine At.LS 1 [1,6] 0 (λp27=>([],[],[])) (λop27 J k=>∃s28,eC N a0 s25 k s28=some op27/\J [1,6] 0 [(7,(j64 s28))] [] []) N (λ_ h=>⟨_,h,jr⟩) (λop27 g27 k s hI=>?_) λp27=>?_
        ·obtain⟨s28,h,hj⟩:=hI;cases k with
         | zero=>cases h
         | succ k=>
          refine At.jr hj ?_ h;refine At.c 2 ?_ ?_
          ·refine At.J 0 0 [1,6,7] 0 (λp29=>([(129,(eB p29))],[],[])) (λp29=>?_) λp29=>?_
           ·refine bi λe30 he30=>?_;refine bi λe31 he31=>?_;refine boI (λhc8=>?_) (λhc8=>?_)
            ·refine At.d 0 (dE1 4 (λ_=>bF hT (eA 3 1 j64) he30) (dE1 5 (λ_=>bN hT (N:=3) (k:=1) j64 e30 he31) (dE1 8 (λ_=>qY hc8 rfl (oS hT (im:=false) (by kernel_rfl))) dE0))) dF0 ?_;apply rt;exact At.jn 0
            ·refine bi λe32 he32=>?_;refine bi λe33 he33=>?_;refine lx ?_;intro x34;refine boI (λhc21=>?_) (λhc21=>?_)
             ·refine At.d 0 (dE1 4 (λ_=>bF hT (eA 3 1 j64) he30) (dE1 5 (λ_=>bN hT (N:=3) (k:=1) j64 e30 he31) (dE1 8 (λ_=>qY hc8 rfl (oS hT (im:=false) (by kernel_rfl))) (dE1 13 (λ_=>bF hT (eA 3 1 j64) he32) (dE1 14 (λ_=>bN hT (N:=3) (k:=1) j64 e32 he33) (dE1 21 (λ_=>qY hc21 rfl (oS hT (im:=false) (by kernel_rfl))) dE0)))))) dF0 ?_;apply rt;exact At.jn 0
             ·refine bi λe35 he35=>?_;refine bi λe36 he36=>?_;refine lx ?_;intro x37;refine bi λe38 he38=>?_;refine bi λe39 he39=>?_;refine At.d 0 (dE1 4 (λ_=>bF hT (eA 3 1 j64) he30) (dE1 5 (λ_=>bN hT (N:=3) (k:=1) j64 e30 he31) (dE1 8 (λ_=>qY hc8 rfl (oS hT (im:=false) (by kernel_rfl))) (dE1 13 (λ_=>bF hT (eA 3 1 j64) he32) (dE1 14 (λ_=>bN hT (N:=3) (k:=1) j64 e32 he33) (dE1 21 (λ_=>qY hc21 rfl (oS hT (im:=false) (by kernel_rfl))) (dE1 26 (λ_=>bF hT (eA 3 1 j64) he35) (dE1 27 (λ_=>bN hT (N:=3) (k:=1) j64 e35 he36) (dE1 35 (λ_=>bF hT (eA 3 1 j64) he38) (dE1 36 (λ_=>bN hT (N:=3) (k:=1) j64 e38 he39) dE0)))))))))) dF0 ?_;apply rt;exact At.jn 0
           ·refine At.c 0 ?_ ?_
            ·intro e;apply rtS2 g27 g24 e;exact At.r 1
            ·exact λh=>At.k 3 ⟨_,h,jr⟩
          ·apply rt;exact At.xs 0
        ·exact λh=>At.k 3 ⟨_,h,jr⟩
       ·apply rt;exact At.xs 0
     ·apply rt;exact At.r 1
def aAE : Nat->Bool:=imL [1]
def kB(N:Nat)(a0:aI):Option (Bool):=
 aO ((a0.gK.length:Int)) λx1=>
 aO (cond (a0.gN != 0) true (decide (x1 > 0))) λx2=>
 some x2
theorem qT{N a0 r}(h:kB N a0=some r):FnM Tryz.prog 89 [] [(aI.enc a0)] (eB r) []:=by
 unfold kB at h;refine At.f aAE hT hmo Tryz.func89 rfl h ?_;refine lx ?_;intro x1;refine lx ?_;intro x2;apply rt;exact At.r 12
def aBk : Nat->Bool:=imL [1]
def dW(N:Nat)(a0:aI)(s9:Int):Nat->Int->Option (Sum (Unit) (Int))
 | 0,_=>none
 | k+1,s12=>
  cond (decide (s12 < 3)) (
   ae (ae (idx a0.gK s9) λe14=>
   ae (idx e14.toList s12) λe15=>
   cond (decide (e15 < 0)) (
    some true) (
    ae (idx a0.gK s9) λe16=>
    ae (idx e16.toList s12) λe17=>
    some (decide (e17 > 255)))) λp13=>
   cond p13 (
    some (Sum.inr 5)) (
    dW N a0 s9 k (I64 (s12+1)))) (
   some (Sum.inl (())))
def jH(N:Nat)(a0:aI):Nat->Int->Option (Sum (Unit) (Int))
 | 0,_=>none
 | k+1,s9=>
  aO ((a0.gK.length:Int)) λx10=>
  cond (decide (s9 < x10)) (
   ae (dW N a0 s9 N 0) λo=>oP o (λp11=>
    jH N a0 k (I64 (s9+1))) (λr=>some (Sum.inr r))) (
   some (Sum.inl (())))
def lX(N:Nat)(a0:aI):Option (Int):=
 aO (cond (a0.gN != 1) (a0.gN != 2) false) λx1=>
 aO (cond x1 (a0.gN != 4) false) λx2=>
 aO (cond x2 (a0.gN != 8) false) λx3=>
 aO (cond x3 (a0.gN != 16) false) λx4=>
 aO ((a0.gK.length:Int)) λx5=>
 aO (I64 (a0.gN*a0.gN)) λx6=>
 aO (cond x4 true (x5 != x6)) λx7=>
 cond x7 (
  some 5) (
  ae (jH N a0 N 0) λo=>oP o (λp8=>
   some 0) (λr=>some r))
theorem vK{N a0 r}(h:lX N a0=some r):FnM Tryz.prog 90 [] [(aI.enc a0)] (j64 r) []:=by
 unfold lX at h;refine At.f aBk hT hmo Tryz.func90 rfl h ?_;refine lx ?_;intro x1;refine lx ?_;intro x2;refine lx ?_;intro x3;refine lx ?_;intro x4;refine lx ?_;intro x5;refine lx ?_;intro x6;refine lx ?_;intro x7;refine At.c 36 ?_ ?_
 ·apply rt;exact At.r 1
 ·refine At.LS 1 [] 0 (λp8=>([],[],[])) (λop8 J k=>∃s9,jH N a0 k s9=some op8/\J [1] 0 [(3,(j64 s9))] [] []) N (λ_ h=>⟨_,h,jr⟩) (λop8 g8 k s hI=>?_) λp8=>?_
  ·obtain⟨s9,h,hj⟩:=hI;cases k with
   | zero=>cases h
   | succ k=>
    refine At.jr hj ?_ h;refine lx ?_;intro x10;refine At.c 5 ?_ ?_
    ·refine At.LS 1 [1,3] 0 (λp11=>([],[],[])) (λop11 J k=>∃s12,dW N a0 s9 k s12=some op11/\J [1,3] 0 [(4,(j64 s12))] [] []) N (λ_ h=>⟨_,h,jr⟩) (λop11 g11 k s hI=>?_) λp11=>?_
     ·obtain⟨s12,h,hj⟩:=hI;cases k with
      | zero=>cases h
      | succ k=>
       refine At.jr hj ?_ h;refine At.c 2 ?_ ?_
       ·refine At.J 0 0 [1,3,4] 0 (λp13=>([(67,(eB p13))],[],[])) (λp13=>?_) λp13=>?_
        ·refine At.b 4 (λ_ e=>bF hT (eA 3 1 j64) e) λe14=>?_;refine At.b 0 (λ_ e=>bN hT (N:=3) (k:=1) j64 e14 e) λe15=>?_;refine At.s 58 3 ?_ ?_
         ·refine At.g [58] 9 ?_;apply rt;exact At.jn 0
         ·refine At.g [58] 4 ?_;refine At.b 0 (λ_ e=>bF hT (eA 3 1 j64) e) λe16=>?_;refine At.b 0 (λ_ e=>bN hT (N:=3) (k:=1) j64 e16 e) λe17=>?_;refine At.g [58] 3 ?_;apply rt;exact At.jn 0
        ·refine At.c 0 ?_ ?_
         ·intro e;apply rtS2 g11 g8 e;exact At.r 1
         ·exact λh=>At.k 3 ⟨_,h,jr⟩
       ·apply rt;exact At.xs 0
     ·exact λh=>At.k 3 ⟨_,h,jr⟩
    ·apply rt;exact At.xs 0
  ·apply rt;exact At.r 1
def aCJ : Nat->Bool:=imL [1]
def mS(N:Nat)(a0:aM):Option (Bool):=
 aO ((a0.gF.length:Int)) λx1=>
 aO (I64 (x1+((a0.gJ.length:Int)))) λx2=>
 aO ((a0.gI.length:Int)) λx3=>
 aO (decide ((I64 (x2+x3)) > 0)) λx4=>
 some x4
theorem sW{N a0 r}(h:mS N a0=some r):FnM Tryz.prog 91 [] [(aM.enc a0)] (eB r) []:=by
 unfold mS at h;refine At.f aCJ hT hmo Tryz.func91 rfl h ?_;refine lx ?_;intro x1;refine lx ?_;intro x2;refine lx ?_;intro x3;refine lx ?_;intro x4;apply rt;exact At.r 15
def aAB : Nat->Bool:=imL [1]
def cX(N:Nat)(a0:aF):Nat->Int->Option (Sum (Unit) (Int))
 | 0,_=>none
 | k+1,s5=>
  cond (decide (s5 < 3)) (
   ae (ae (idx a0.gE.toList s5) λe7=>
   cond (decide (e7 < 0)) (
    some true) (
    ae (idx a0.gE.toList s5) λe8=>
    some (decide (e8 > 65535)))) λp6=>
   cond p6 (
    some (Sum.inr 5)) (
    cX N a0 k (I64 (s5+1)))) (
   some (Sum.inl (())))
def lO(N:Nat)(a0:aF):Option (Int):=
 aO (cond (decide (a0.gC < 0)) true (decide (a0.gC > 4))) λx1=>
 aO (cond x1 true (decide (a0.gA1 < 0))) λx2=>
 aO (decide (a0.gA1 > 65535)) λx3=>
 cond (cond x2 true x3) (
  some 5) (
  ae (cX N a0 N 0) λo=>oP o (λp4=>
   some 0) (λr=>some r))
theorem zD{N a0 r}(h:lO N a0=some r):FnM Tryz.prog 92 [] [(aF.enc a0)] (j64 r) []:=by
 unfold lO at h;refine At.f aAB hT hmo Tryz.func92 rfl h ?_;refine lx ?_;intro x1;refine lx ?_;intro x2;refine lx ?_;intro x3;refine At.c 20 ?_ ?_
 ·apply rt;exact At.r 1
 ·refine At.LS 1 [] 0 (λp4=>([],[],[])) (λop4 J k=>∃s5,cX N a0 k s5=some op4/\J [1] 0 [(3,(j64 s5))] [] []) N (λ_ h=>⟨_,h,jr⟩) (λop4 g4 k s hI=>?_) λp4=>?_
  ·obtain⟨s5,h,hj⟩:=hI;cases k with
   | zero=>cases h
   | succ k=>
    refine At.jr hj ?_ h;refine At.c 2 ?_ ?_
    ·refine At.J 0 0 [1,3] 0 (λp6=>([(37,(eB p6))],[],[])) (λp6=>?_) λp6=>?_
     ·refine At.b 2 (λ_ e=>bN hT (N:=3) (k:=1) j64 a0.gE e) λe7=>?_;refine At.s 31 3 ?_ ?_
      ·refine At.g [31] 6 ?_;apply rt;exact At.jn 0
      ·refine At.g [31] 2 ?_;refine At.b 0 (λ_ e=>bN hT (N:=3) (k:=1) j64 a0.gE e) λe8=>?_;refine At.g [31] 3 ?_;apply rt;exact At.jn 0
     ·refine At.c 0 ?_ ?_
      ·intro e;apply wT g4 e;exact At.r 1
      ·exact λh=>At.k 3 ⟨_,h,jr⟩
    ·apply rt;exact At.xs 0
  ·apply rt;exact At.r 1
def aB0 : Nat->Bool:=imL [1]
def dZ(N:Nat)(a0:aJ):Nat->Int->Option (Sum (Unit) (Int))
 | 0,_=>none
 | k+1,s3=>
  cond (decide (s3 < 3)) (
   ae (ae (idx a0.gE.toList s3) λe5=>
   cond (decide (e5 < 0)) (
    some true) (
    ae (idx a0.gE.toList s3) λe6=>
    some (decide (e6 > 1048576)))) λp4=>
   cond p4 (
    some (Sum.inr 5)) (
    dZ N a0 k (I64 (s3+1)))) (
   some (Sum.inl (())))
def oH(N:Nat)(a0:aJ):Option (Int):=
 aO (cond (decide (a0.gC < 0)) true (decide (a0.gC > 2))) λx1=>
 cond x1 (
  some 5) (
  ae (dZ N a0 N 0) λo=>oP o (λp2=>
   ae (ae (kF N a0.gAt 4096) λr8=>
   cond r8 (
    some true) (
    ae (kF N a0.gU 4096) λr9=>
    cond r9 (
     some true) (
     ae (kF N a0.gV 4096) λr10=>
     some r10))) λp7=>
   cond p7 (
    some 8) (
    ae (cond (a0.gC==2) (
     aO (!(aB.eq a0.gAt (aB.mk 0 0 0))) λx12=>
     cond x12 (
      some true) (
      cond (a0.gC != 1) (
       aO (!(aB.eq a0.gU (aB.mk 0 0 0))) λx13=>
       cond x13 (
        some true) (
        some (!(aB.eq a0.gV (aB.mk 0 0 0))))) (
       some false))) (
     cond (a0.gC != 1) (
      aO (!(aB.eq a0.gU (aB.mk 0 0 0))) λx14=>
      cond x14 (
       some true) (
       some (!(aB.eq a0.gV (aB.mk 0 0 0))))) (
      some false))) λp11=>
    cond p11 (some 5) (some 0))) (λr=>some r))
theorem aAx{N a0 r}(h:oH N a0=some r):FnM Tryz.prog 93 [] [(aJ.enc a0)] (j64 r) []:=by
 unfold oH at h;refine At.f aB0 hT hmo Tryz.func93 rfl h ?_;refine lx ?_;intro x1;refine At.c 10 ?_ ?_
 ·apply rt;exact At.r 1
 ·refine At.LS 1 [1] 0 (λp2=>([],[],[])) (λop2 J k=>∃s3,dZ N a0 k s3=some op2/\J [1] 0 [(3,(j64 s3))] [] []) N (λ_ h=>⟨_,h,jr⟩) (λop2 g2 k s hI=>?_) λp2=>?_
  ·obtain⟨s3,h,hj⟩:=hI;cases k with
   | zero=>cases h
   | succ k=>
    refine At.jr hj ?_ h;refine At.c 2 ?_ ?_
    ·refine At.J 0 0 [1,3] 0 (λp4=>([(28,(eB p4))],[],[])) (λp4=>?_) λp4=>?_
     ·refine At.b 2 (λ_ e=>bN hT (N:=3) (k:=1) j64 a0.gE e) λe5=>?_;refine At.s 22 3 ?_ ?_
      ·refine At.g [22] 6 ?_;apply rt;exact At.jn 0
      ·refine At.g [22] 2 ?_;refine At.b 0 (λ_ e=>bN hT (N:=3) (k:=1) j64 a0.gE e) λe6=>?_;refine At.g [22] 3 ?_;apply rt;exact At.jn 0
     ·refine At.c 0 ?_ ?_
      ·intro e;apply wT g2 e;exact At.r 1
      ·exact λh=>At.k 3 ⟨_,h,jr⟩
    ·apply rt;exact At.xs 0
  ·refine At.J 0 0 [1] 0 (λp7=>([(41,(eB p7))],[],[])) (λp7=>?_) λp7=>?_
   ·refine At.b 2 (λ_ e=>aK [] (rB e)) λr8=>?_;refine At.s 32 1 ?_ ?_
    ·refine At.g [32,37] 9 ?_;apply rt;exact At.jn 0
    ·refine At.g [32] 2 ?_;refine At.b 0 (λ_ e=>aK [] (rB e)) λr9=>?_;refine At.g [32] 2 ?_;refine At.s 37 0 ?_ ?_
     ·refine At.g [37] 4 ?_;apply rt;exact At.jn 0
     ·refine At.g [37] 2 ?_;refine At.b 0 (λ_ e=>aK [] (rB e)) λr10=>?_;refine At.g [37] 1 ?_;apply rt;exact At.jn 0
   ·refine At.c 0 ?_ ?_
    ·apply rt;exact At.r 1
    ·refine At.J 3 0 [] 1 (λp11=>([(68,(eB p11))],[],[])) (λp11=>?_) λp11=>?_
     ·refine At.s 46 4 ?_ ?_
      ·refine At.g [46] 3 ?_;refine At.o 0 (mB tP (a0.gAt:aB) (aB.mk 0 0 0:aB) (by kernel_rfl) (by kernel_rfl) (λ_=>rfl) (λ_=>rfl) (by kernel_rfl) (by kernel_rfl)) ?_;refine lx ?_;intro x12;refine At.g [46] 2 ?_;refine At.s 52 0 ?_ ?_
       ·refine At.g [52,56,61] 16 ?_;apply rt;exact At.jn 0
       ·refine At.g [52] 4 ?_;refine At.s 56 0 ?_ ?_
        ·refine At.g [56] 3 ?_;refine At.o 0 (mB tP (a0.gU:aB) (aB.mk 0 0 0:aB) (by kernel_rfl) (by kernel_rfl) (λ_=>rfl) (λ_=>rfl) (by kernel_rfl) (by kernel_rfl)) ?_;refine lx ?_;intro x13;refine At.g [56] 1 ?_;refine At.s 61 0 ?_ ?_
         ·refine At.g [61,56,52] 7 ?_;apply rt;exact At.jn 0
         ·refine At.g [61] 3 ?_;refine At.o 0 (mB tP (a0.gV:aB) (aB.mk 0 0 0:aB) (by kernel_rfl) (by kernel_rfl) (λ_=>rfl) (λ_=>rfl) (by kernel_rfl) (by kernel_rfl)) ?_;refine At.g [56,61,52] 3 ?_;apply rt;exact At.jn 0
        ·refine At.g [56,61,52] 12 ?_;apply rt;exact At.jn 0
      ·refine At.g [46,52] 10 ?_;refine At.s 56 0 ?_ ?_
       ·refine At.g [56] 3 ?_;refine At.o 0 (mB tP (a0.gU:aB) (aB.mk 0 0 0:aB) (by kernel_rfl) (by kernel_rfl) (λ_=>rfl) (λ_=>rfl) (by kernel_rfl) (by kernel_rfl)) ?_;refine lx ?_;intro x14;refine At.g [56] 1 ?_;refine At.s 61 0 ?_ ?_
        ·refine At.g [61,56,52] 7 ?_;apply rt;exact At.jn 0
        ·refine At.g [61] 3 ?_;refine At.o 0 (mB tP (a0.gV:aB) (aB.mk 0 0 0:aB) (by kernel_rfl) (by kernel_rfl) (λ_=>rfl) (λ_=>rfl) (by kernel_rfl) (by kernel_rfl)) ?_;refine At.g [56,61,52] 3 ?_;apply rt;exact At.jn 0
       ·refine At.g [56,61,52] 12 ?_;apply rt;exact At.jn 0
     ·refine At.c 0 ?_ ?_
      ·apply rt;exact At.r 1
      ·apply rt;exact At.r 1
def mL(N:Nat)(a0:Int):Nat->Int->Int->Option (Int)
 | 0,_,_=>none
 | k+1,s2,s3=>
  cond (decide (s3 < a0)) (
   aO (U64 ((U64 (s2*256))+255)) λx4=>
   mL N a0 k x4 (I64 (s3+1))) (
   some s2)
def jA(N:Nat)(a0:Int):Option (Int):=
 ae (mL N a0 N 0 0) λp1=>
 some p1
theorem sY{N a0 r}(h:jA N a0=some r):FnM Tryz.prog 98 [] [(j64 a0)] (k64 r) []:=by
 unfold jA at h;refine At.f fZ hT hmo Tryz.func98 rfl h ?_;refine At.L 3 [] 0 (λp1=>([(3,(k64 p1))],[],[])) (λp1 J k=>∃s2 s3,mL N a0 k s2 s3=some p1/\J [0] 0 [(3,(k64 s2)),(4,(j64 s3))] [] []) N (λ_ h=>⟨_,_,h,jr⟩) (λp1 k s hI=>?_) λp1=>?_
 ·obtain⟨s2,s3,h,hj⟩:=hI;cases k with
  | zero=>cases h
  | succ k=>
   refine At.jr hj ?_ h;refine At.c 3 ?_ ?_
   ·refine lx ?_;intro x4;exact λh=>At.k 7 ⟨_,_,h,jr⟩
   ·apply rt;exact At.x 0
 ·apply rt;exact At.r 2
def mX(N:Nat)(a1:Int):Nat->(List Int)->Int->Int->Option ((List Int))
 | 0,_,_,_=>none
 | k+1,s11,s12,s13=>
  cond (decide (s13 < a1)) (
   ae (mH 1 s11 (([U8 (cf s12 256)]:List Int))) λz14=>
   mX N a1 k z14 (U64 (cz s12 256)) (I64 (s13+1))) (
   some s11)
def lC(N:Nat)(a2:(List Int))(a1:Int):Nat->(List Int)->Int->Option (Sum ((List Int)) ((List Int)×Int))
 | 0,_,_=>none
 | k+1,s4,s5=>
  aO (decide (s5 < ((a2.length:Int)))) λx6=>
  cond x6 (
   ae (idx a2 s5) λe7=>
   ae (jA N a1) λr8=>
   cond (decide (e7 > r8)) (
    some (Sum.inr (([],3)))) (
    ae (idx a2 s5) λe9=>
    ae (mX N a1 N s4 e9 0) λp10=>
    lC N a2 a1 k p10 (I64 (s5+1)))) (
   some (Sum.inl s4))
def bJ(N:Nat)(a0:(List Int))(a1:Int)(a2:(List Int)):Option ((List Int)×Int):=
 aO (cond (decide (a1 < 1)) true (decide (a1 > 8))) λx1=>
 cond x1 (
  some (([],2))) (
  ae (mH 1 (([]:List Int)) a0) λz2=>
  ae (lC N a2 a1 N z2 0) λo=>oP o (λp3=>
   some ((p3,0))) (λr=>some r))
theorem kK{N a0 a1 a2 r}(h:bJ N a0 a1 a2=some r):FnM Tryz.prog 55 [] [(eL 1 k8 a0),(j64 a1),(eL 1 k64 a2)] (.tup [(eO 0 1 k8 r.1),(j64 r.2)]) [.tail (r.1.length*1)]:=by
 unfold bJ at h;refine At.f fZ hT hmo Tryz.func55 rfl h ?_;refine lx ?_;intro x1;refine At.c 8 ?_ ?_
 ·refine At.ownn 2 6 1 ?_;apply rt;exact At.r 0
 ·refine At.o 0 (sK hT k8 (k:=1) ([]:List Int) (by kernel_rfl) (by kernel_rfl)) ?_;refine At.b 1 (λ_ e=>cH hT k8 (id:=0) (k:=1) e) λz2=>?_;refine At.LS 2 [] 1 (λp3=>([(8,(eO 0 1 k8 p3))],[(0,.tail (p3.length*1))],[])) (λop3 J k=>∃s4 s5,lC N a2 a1 k s4 s5=some op3/\J [1,2] 1 [(8,(eO 0 1 k8 s4)),(9,(j64 s5))] [(0,.tail (s4.length*1))] []) N (λ_ h=>⟨_,_,h,jr⟩) (λop3 g3 k s hI=>?_) λp3=>?_
  ·obtain⟨s4,s5,h,hj⟩:=hI;cases k with
   | zero=>cases h
   | succ k=>
    refine At.jr hj ?_ h;refine lx ?_;intro x6;refine At.c 4 ?_ ?_
    ·refine bi λe7 he7=>?_;refine bi λr8 hr8=>?_;refine At.d 0 (dE1 2 (λ_=>bF hT k64 he7) (dE2 5 (k64 r8) (λ_=>cM (sY hr8)) dE0)) dF0 ?_;refine At.c 0 ?_ ?_
     ·refine At.ownn 2 6 1 ?_;refine At.sw 0 1 0 ?_;intro e;apply wT g3 e;exact At.r 0
     ·refine At.b 2 (λ_ e=>bF hT k64 e) λe9=>?_;refine At.L 3 [1,2,9] 1 (λp10=>([(8,(eO 0 1 k8 p10))],[(0,.tail (p10.length*1))],[])) (λp10 J k=>∃s11 s12 s13,mX N a1 k s11 s12 s13=some p10/\J [1,2,9] 1 [(8,(eO 0 1 k8 s11)),(10,(k64 s12)),(11,(j64 s13))] [(0,.tail (s11.length*1))] []) N (λ_ h=>⟨_,_,_,h,jr⟩) (λp10 k s hI=>?_) λp10=>?_
      ·obtain⟨s11,s12,s13,h,hj⟩:=hI;cases k with
       | zero=>cases h
       | succ k=>
        refine At.jr hj ?_ h;refine At.c 3 ?_ ?_
        ·refine At.o 4 (bI hT (x:=(.sl 1 1 [(k8 (U8 (cf s12 256)))]))) ?_;refine At.b 0 (λ_ e=>cH hT k8 (id:=0) (k:=1) e) λz14=>?_;exact λh=>At.k 7 ⟨_,_,_,h,jr⟩
        ·apply rt;exact At.x 0
      ·exact λh=>At.k 3 ⟨_,_,h,jr⟩
    ·apply rt;exact At.xs 0
  ·apply rt;exact At.r 3
def iO(N:Nat)(a2:(List Int))(x3 a1:Int):Nat->(List Int)->Int->Option (Sum ((List Int)) ((List Int)×Int))
 | 0,_,_=>none
 | k+1,s5,s6=>
  aO (decide (s6 < ((a2.length:Int)))) λx7=>
  cond x7 (
   ae (ae (idx a2 s6) λe9=>
   cond (decide (e9 > x3)) (
    some true) (
    ae (idx a2 s6) λe10=>
    aO (I64 ((I64 (0 - x3)) - 1)) λx11=>
    some (decide (e10 < x11)))) λp8=>
   cond p8 (
    some (Sum.inr (([],3)))) (
    ae (idx a2 s6) λe12=>
    ae (ae (idx a2 s6) λe14=>
    cond (decide (e14 < 0)) (
     ae (jA N a1) λr15=>
     ae (idx a2 s6) λe16=>
     aO (I64 (0 - (I64 (e16+1)))) λx17=>
     some (U64 (r15 - (U64 x17)))) (
     some (U64 e12))) λp13=>
    ae (mH 8 s5 (([p13]:List Int))) λz18=>
    iO N a2 x3 a1 k z18 (I64 (s6+1)))) (
   some (Sum.inl s5))
def kY(N:Nat)(a0:(List Int))(a1:Int)(a2:(List Int)):Option ((List Int)×Int):=
 aO (cond (decide (a1 < 1)) true (decide (a1 > 8))) λx1=>
 cond x1 (
  some (([],2))) (
  ae (jA N a1) λr2=>
  aO (I64 (U64 (cz r2 2))) λx3=>
  ae (iO N a2 x3 a1 N [] 0) λo=>oP o (λp4=>
   ae (bJ N a0 a1 p4) λr19=>
   some ((r19.1,r19.2))) (λr=>some r))
theorem aAg{N a0 a1 a2 r}(h:kY N a0 a1 a2=some r):FnM Tryz.prog 121 [] [(eL 1 k8 a0),(j64 a1),(eL 1 j64 a2)] (.tup [(eO 0 1 k8 r.1),(j64 r.2)]) [.tail (r.1.length*1)]:=by
 unfold kY at h;refine At.f fZ hT hmo Tryz.func121 rfl h ?_;refine lx ?_;intro x1;refine At.c 8 ?_ ?_
 ·refine At.ownn 2 6 1 ?_;apply rt;exact At.r 0
 ·refine At.b 1 (λ_ e=>aK [] (sY e)) λr2=>?_;refine lx ?_;intro x3;refine At.ownn 5 9 1 ?_;refine At.LS 0 [0,1] 1 (λp4=>([(9,(eO 0 1 k64 p4))],[(0,.tail (p4.length*1))],[])) (λop4 J k=>∃s5 s6,iO N a2 x3 a1 k s5 s6=some op4/\J [0,1,2,8] 1 [(9,(eO 0 1 k64 s5)),(10,(j64 s6))] [(0,.tail (s5.length*1))] []) N (λ_ h=>⟨_,_,h,jr⟩) (λop4 g4 k s hI=>?_) λp4=>?_
  ·obtain⟨s5,s6,h,hj⟩:=hI;cases k with
   | zero=>cases h
   | succ k=>
    refine At.jr hj ?_ h;refine lx ?_;intro x7;refine At.c 4 ?_ ?_
    ·refine At.J 0 0 [0,1,2,8,9,10] 1 (λp8=>([(43,(eB p8))],[],[])) (λp8=>?_) λp8=>?_
     ·refine At.b 2 (λ_ e=>bF hT j64 e) λe9=>?_;refine At.s 34 4 ?_ ?_
      ·refine At.g [34] 9 ?_;apply rt;exact At.jn 0
      ·refine At.g [34] 2 ?_;refine At.b 0 (λ_ e=>bF hT j64 e) λe10=>?_;refine lx ?_;intro x11;refine At.g [34] 6 ?_;apply rt;exact At.jn 0
     ·refine At.c 0 ?_ ?_
      ·refine At.ownn 2 6 1 ?_;refine At.sw 0 1 0 ?_;intro e;apply wT g4 e;exact At.r 0
      ·refine At.b 2 (λ_ e=>bF hT j64 e) λe12=>?_;refine At.J 3 1 [0,1,2,8,9,10] 1 (λp13=>([(11,(k64 p13))],[],[])) (λp13=>?_) λp13=>?_
       ·refine At.b 2 (λ_ e=>bF hT j64 e) λe14=>?_;refine At.c 2 ?_ ?_
        ·refine bi λr15 hr15=>?_;refine bi λe16 he16=>?_;refine lx ?_;intro x17;refine At.d 0 (dE2 1 (k64 r15) (λ_=>cM (sY hr15)) (dE1 4 (λ_=>bF hT j64 he16) dE0)) dF0 ?_;apply rt;exact At.jn 0
        ·apply rt;exact At.jn 0
       ·refine At.o 2 (bI hT (x:=(.sl 1 1 [(k64 p13)]))) ?_;refine At.b 0 (λ_ e=>cH hT k64 (id:=0) (k:=1) e) λz18=>?_;exact λh=>At.k 4 ⟨_,_,h,jr⟩
    ·apply rt;exact At.xs 0
  ·refine At.b 3 (λ_ e=>aK [] (kK e)) λr19=>?_;refine At.sw 4 1 0 ?_;apply rt;exact At.r 0
def aBc : Nat->Bool:=imL [3]
def hP(N:Nat)(a0:(List Int))(a1:aB):Option ((List Int)):=
 ae (kY N a0 2 ([a1.gX,a1.gY,a1.gZ])) λr1=>
 some r1.1
theorem pK{N a0 a1 r}(h:hP N a0 a1=some r):FnM Tryz.prog 97 [] [(eL 1 k8 a0),(aB.enc a1)] (eO 0 1 k8 r) [.tail (r.length*1)]:=by
 unfold hP at h;refine At.f aBc hT hmo Tryz.func97 rfl h ?_;refine At.o 9 (bI hT (x:=(.sl 1 3 [(j64 a1.gX),(j64 a1.gY),(j64 a1.gZ)]))) ?_;refine At.b 0 (λ_ e=>aK [] (aAg e)) λr1=>?_;apply rt;exact At.r 7
end Go.UK
