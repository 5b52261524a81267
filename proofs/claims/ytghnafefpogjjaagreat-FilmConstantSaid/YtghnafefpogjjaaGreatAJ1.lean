/- A part of the proof: what the functions of the program compute. -/
import Derived.Test.YtghnafefpogjjaaGreatGT
open Int renaming tdiv→bo,toNat→bm
open List renaming length_map→bd,map→ai,map_eq_nil_iff→jy
open Option renaming bind→aa
open Vector renaming replicate→bt
namespace Go.UK
open Go Go.Proofs
set_option maxRecDepth 20000
set_option maxHeartbeats 40000000
set_option linter.all false
attribute [local irreducible] adv aLa aKS aBf brPt aNn aHN qS aBM aNf fA pN iD aLU aKZ lPt owp awl aw FnM aHr opS Stab TOK Big
def aFX : Nat->Bool:=imL [1]
def nF(N:Nat)(a0:aG):Nat->(List aD)->Int->Option ((List aD))
 | 0,_,_=>none
 | k+1,s2,s3=>
  aU ((a0.gA2.length:Int)) λx4=>
  aU (cond (decide (s3 < x4)) (decide (s3 < 4)) false) λx5=>
  cond x5 (
   aa (idx a0.gA2 s3) λe6=>
   aU ((e6.gA8.length:Int)) λx7=>
   aa (xW e6.gA8 0 (fN x7 260)) λs8=>
   aa (sP 32 s2 (([aD.mk e6.gI s8]:List aD))) λz9=>
   nF N a0 k z9 (I64 (s3+1))) (
   some s2)
def qZ(N:Nat)(a0:aG):Option (aG):=
 aa (nF N a0 N [] 0) λp1=>
 aU ((a0.gE.length:Int)) λx10=>
 aa (xW a0.gE 0 (fN x10 20)) λs11=>
 aU ((a0.gA6.length:Int)) λx12=>
 aa (xW a0.gA6 0 (fN x12 8)) λs13=>
 aU ((a0.gF.length:Int)) λx14=>
 aa (xW a0.gF 0 (fN x14 5)) λs15=>
 aU (fN ((a0.gR.length:Int)) 20) λx16=>
 aa (xW a0.gR 0 x16) λs17=>
 aU ((a0.gB0.length:Int)) λx18=>
 aa (xW a0.gB0 0 (fN x18 20)) λs19=>
 some (aG.mk s11 s13 p1 s15 s17 s19 a0.gB8 a0.gC1 a0.gTo)
theorem aEQ{N a0 r}(h:qZ N a0=some r):FnM Tryz.prog 10 [] [(aG.enc a0)] (aG.enc r) []:=by
 unfold qZ at h;refine At.f aFX hT hmo Tryz.func10 rfl h ?_;refine At.ownn 4 3 2 ?_;refine At.L 0 [1,2] 2 (λp1=>([(3,(eO 1 2 aD.enc p1))],[(1,.tail (p1.length*2))],[])) (λp1 J k=>∃s2 s3,nF N a0 k s2 s3=some p1/\J [1,2] 2 [(3,(eO 1 2 aD.enc s2)),(4,(j64 s3))] [(1,.tail (s2.length*2))] []) N (λ_ h=>⟨_,_,h,jr⟩) (λp1 k s hI=>?_) λp1=>?_
 ·obtain⟨s2,s3,h,hj⟩:=hI;cases k with
  | zero=>cases h
  | succ k=>
   refine At.jr hj ?_ h;refine lx ?_;intro x4;refine lx ?_;intro x5;refine At.c 9 ?_ ?_
   ·refine At.b 3 (λ_ e=>bT hT aD.enc e) λe6=>?_;refine lx ?_;intro x7;refine bi λs8 hs8=>?_;refine bi λz9 hz9=>?_;refine At.d 3 (dE1 9 (λ_=>aA1 hT (k:=3) (eA 3 1 j64) hs8) (dE1 11 (λ_=>bS hT (x:=(.sl 2 1 [(.st 2 [(j64 e6.gI),(eL 3 (eA 3 1 j64) s8)])]))) dE0)) (dF 12 (eO 1 2 aD.enc z9) [(1,.tail (z9.length*2))] [] (bG (iW hT aD.enc (id:=1) (k:=2) hz9)) dF0) ?_;exact λh=>At.k 3 ⟨_,_,h,jr⟩
   ·apply rt;exact At.x 0
 ·refine lx ?_;intro x10;refine bi λs11 hs11=>?_;refine lx ?_;intro x12;refine bi λs13 hs13=>?_;refine lx ?_;intro x14;refine bi λs15 hs15=>?_;refine lx ?_;intro x16;refine bi λs17 hs17=>?_;refine lx ?_;intro x18;refine bi λs19 hs19=>?_;refine At.d 0 (dE1 6 (λ_=>aA1 hT (k:=19) aH.enc hs11) (dE1 13 (λ_=>aA1 hT (k:=5) aP.enc hs13) (dE1 21 (λ_=>aA1 hT (k:=13) aQ.enc hs15) (dE1 28 (λ_=>aA1 hT (k:=1) k64 hs17) (dE1 35 (λ_=>aA1 hT (k:=1) k32 hs19) dE0))))) dF0 ?_;apply rt;exact At.r 0
def rQ(N:Nat)(a0:aI):Option (aI):=
 some (aI.mk (fN a0.gW 3) (fN a0.gH 3) (fN a0.gB1 2) (fN a0.gK 3) a0.gL a0.gS a0.gC9 a0.gT)
theorem aDO{N a0 r}(h:rQ N a0=some r):FnM Tryz.prog 11 [] [(aI.enc a0)] (aI.enc r) []:=by
 unfold rQ at h;refine At.f dG hT hmo Tryz.func11 rfl h ?_;apply rt;exact At.r 24
def aKR : Nat->Bool:=imL [2]
def rS(N:Nat)(a0:aC)(a1:Int):Option (Bool):=
 aa (aU (decide ((jR (jR a0.gX a0.gY) a0.gZ)<=a1)) λx2=>
 cond x2 (
  aU (decide ((fN (fN a0.gX a0.gY) a0.gZ)>=(I64 (0 - a1)))) λx3=>
  some x3) (
  some false)) λp1=>
 some p1
theorem aBJ{N a0 a1 r}(h:rS N a0 a1=some r):FnM Tryz.prog 295 [] [(aC.enc a0),(j64 a1)] (eB r) []:=by
 unfold rS at h;refine At.f aKR hT hmo Tryz.func295 rfl h ?_;refine At.J 2 0 [] 0 (λp1=>([(4,(eB p1))],[],[])) (λp1=>?_) λp1=>?_
 ·refine At.o 6 (aAT (k := .i64) (i:=a0.gX) (j:=a0.gY) (l:=a0.gZ) (by kernel_rfl) (by kernel_rfl)) ?_;refine lx ?_;intro x2;refine At.s 14 3 ?_ ?_
  ·refine At.g [14] 6 ?_;refine At.o 0 (aAO (k := .i64) (i:=a0.gX) (j:=a0.gY) (l:=a0.gZ) (by kernel_rfl) (by kernel_rfl)) ?_;refine lx ?_;intro x3;refine At.g [14] 5 ?_;apply rt;exact At.jn 0
  ·refine At.g [14] 12 ?_;apply rt;exact At.jn 0
 ·apply rt;exact At.r 0
def aOn : Nat->Bool:=imL [2,3]
def qU(N:Nat)(a0 a1:aC):Option (Bool):=
 aa (aa (rS N a0 65536) λr2=>
 cond r2 (
  aa (rS N a1 131072) λr3=>
  cond r3 (
   aU (!(aC.eq a1 (aC.mk 0 0 0))) λx4=>
   some x4) (
   some false)) (
  some false)) λp1=>
 some p1
theorem aAY{N a0 a1 r}(h:qU N a0 a1=some r):FnM Tryz.prog 234 [] [(aC.enc a0),(aC.enc a1)] (eB r) []:=by
 unfold qU at h;refine At.f aOn hT hmo Tryz.func234 rfl h ?_;refine At.J 3 0 [] 0 (λp1=>([(4,(eB p1))],[],[])) (λp1=>?_) λp1=>?_
 ·refine At.b 1 (λ_ e=>aM [] (aBJ e)) λr2=>?_;refine At.s 7 1 ?_ ?_
  ·refine At.g [7] 1 ?_;refine At.b 0 (λ_ e=>aM [] (aBJ e)) λr3=>?_;refine At.g [7] 2 ?_;refine At.s 11 0 ?_ ?_
   ·refine At.g [11] 2 ?_;refine At.o 0 (zU aB8 (a1:aC) (aC.mk 0 0 0:aC) (by kernel_rfl) (by kernel_rfl) (λ_=>rfl) (λ_=>rfl) (by kernel_rfl) (by kernel_rfl)) ?_;refine lx ?_;intro x4;refine At.g [11] 2 ?_;apply rt;exact At.jn 0
   ·refine At.g [11] 5 ?_;apply rt;exact At.jn 0
  ·refine At.g [7,11] 9 ?_;apply rt;exact At.jn 0
 ·apply rt;exact At.r 0
def aFB : Nat->Bool:=imL [2,3]
def kX(N:Nat)(a1:aH):Nat->Int->Option (Sum (Unit) (Int))
 | 0,_=>none
 | k+1,s9=>
  cond (decide (s9 < 3)) (
   aa (idx a1.gUv.toList s9) λe10=>
   aa (aa (fM 0 2) λ_=>
   aa (e10.toList[(bm 0)]?) λe13=>
   aa (fM 1 2) λ_=>
   aa (e10.toList[(bm 1)]?) λe15=>
   aU (decide ((fN e13 e15) < 0)) λx16=>
   cond x16 (
    some true) (
    aa (fM 0 2) λ_=>
    aa (e10.toList[(bm 0)]?) λe18=>
    aa (fM 1 2) λ_=>
    aa (e10.toList[(bm 1)]?) λe20=>
    aU (decide ((jR e18 e20) > 65535)) λx21=>
    some x21)) λp11=>
   cond p11 (some (Sum.inr 5)) (kX N a1 k (I64 (s9+1)))) (
   some (Sum.inl (())))
def kY(N:Nat)(a1:aH):Nat->Int->Option (Sum (Unit) (Int))
 | 0,_=>none
 | k+1,s23=>
  cond (decide (s23 < 3)) (
   aa (idx a1.gP.toList s23) λe24=>
   aa (qU N e24 (aC.mk 1 0 0)) λr25=>
   cond (!r25) (some (Sum.inr 8)) (kY N a1 k (I64 (s23+1)))) (
   some (Sum.inl (())))
def lW(N:Nat)(a0:aG)(a1:aH):Option (Int):=
 aU ((a0.gA6.length:Int)) λx1=>
 aU (cond (decide (a1.gD0 < 0)) true (decide (a1.gD0>=x1))) λx2=>
 aU (decide (a1.gB3 < (-1))) λx3=>
 aU ((a0.gA2.length:Int)) λx4=>
 aU (cond (cond x2 true x3) true (decide (a1.gB3>=x4))) λx5=>
 aU (cond x5 true (decide (a1.gA4 < 0))) λx6=>
 aU (decide (a1.gA4>=((a0.gR.length:Int)))) λx7=>
 cond (cond x6 true x7) (
  some 5) (
  aa (kX N a1 N 0) λo=>pD o (λp8=>
   aa (kY N a1 N 0) λo=>pD o (λp22=>
    some 0) (λr=>some r)) (λr=>some r))
theorem aEf{N a0 a1 r}(h:lW N a0 a1=some r):FnM Tryz.prog 175 [] [(aG.enc a0),(aH.enc a1)] (j64 r) []:=by
 unfold lW at h;refine At.f aFB hT hmo Tryz.func175 rfl h ?_;refine lx ?_;intro x1;refine lx ?_;intro x2;refine lx ?_;intro x3;refine lx ?_;intro x4;refine lx ?_;intro x5;refine lx ?_;intro x6;refine lx ?_;intro x7;refine At.c 40 ?_ ?_
 ·apply rt;exact At.r 1
 ·refine At.LS 3 [3] 0 (λp8=>([],[],[])) (λop8 J k=>∃s9,kX N a1 k s9=some op8/\J [3,47] 0 [(48,(j64 s9))] [] []) N (λ_ h=>⟨_,h,jr⟩) (λop8 g8 k s hI=>?_) λp8=>?_
  ·obtain⟨s9,h,hj⟩:=hI;cases k with
   | zero=>cases h
   | succ k=>
    refine At.jr hj ?_ h;refine At.c 1 ?_ ?_
    ·refine At.b 0 (λ_ e=>aA6 hT (eA 2 1 j64) a1.gUv e (by kernel_rfl) (by kernel_rfl)) λe10=>?_;refine At.J 2 0 [3,47,48] 1 (λp11=>([(64,(eB p11))],[],[])) (λp11=>?_) λp11=>?_
     ·refine At.b 0 (λ_ e=>bH hT (k:=1) 0 [] 0 e) λu12=>?_;refine At.b 0 (λ_ e=>qF hT j64 0 e) λe13=>?_;refine At.b 0 (λ_ e=>bH hT (k:=1) 0 [] 0 e) λu14=>?_;refine At.b 0 (λ_ e=>qF hT j64 0 e) λe15=>?_;refine lx ?_;intro x16;refine At.s 57 3 ?_ ?_
      ·refine At.g [57] 7 ?_;apply rt;exact At.jn 0
      ·refine At.b 0 (λ_ e=>bH hT (k:=1) 0 [] 0 e) λu17=>?_;refine At.b 0 (λ_ e=>qF hT j64 0 e) λe18=>?_;refine At.b 0 (λ_ e=>bH hT (k:=1) 0 [] 0 e) λu19=>?_;refine At.b 0 (λ_ e=>qF hT j64 0 e) λe20=>?_;refine lx ?_;intro x21;refine At.g [57] 3 ?_;apply rt;exact At.jn 0
     ·refine At.c 0 ?_ ?_
      ·intro e;apply aBm g8 e;exact At.r 1
      ·exact λh=>At.k 2 ⟨_,h,jr⟩
    ·apply rt;exact At.xs 0
  ·refine At.LS 3 [] 0 (λp22=>([],[],[])) (λop22 J k=>∃s23,kY N a1 k s23=some op22/\J [67] 0 [(68,(j64 s23))] [] []) N (λ_ h=>⟨_,h,jr⟩) (λop22 g22 k s hI=>?_) λp22=>?_
   ·obtain⟨s23,h,hj⟩:=hI;cases k with
    | zero=>cases h
    | succ k=>
     refine At.jr hj ?_ h;refine At.c 1 ?_ ?_
     ·refine At.b 0 (λ_ e=>aA6 hT aC.enc a1.gP e (by kernel_rfl) (by kernel_rfl)) λe24=>?_;refine At.b 4 (λ_ e=>aM [] (aAY e)) λr25=>?_;refine At.c 1 ?_ ?_
      ·intro e;apply aBm g22 e;exact At.r 1
      ·exact λh=>At.k 2 ⟨_,h,jr⟩
     ·apply rt;exact At.xs 0
   ·apply rt;exact At.r 1
def aDq : Nat->Bool:=imL [2]
def jW(N:Nat)(a0:aH)(a1:aG):Option (Int):=
 aa (lW N a1 a0) λr1=>
 some r1
theorem aDN{N a0 a1 r}(h:jW N a0 a1=some r):FnM Tryz.prog 174 [] [(aH.enc a0),(.im (aG.enc a1))] (j64 r) []:=by
 unfold jW at h;refine At.f aDq hT hmo Tryz.func174 rfl h ?_;refine At.b 4 (λ_ e=>aM [] (aEf e)) λr1=>?_;apply rt;exact At.r 1
def eT(N:Nat)(a0:(List aH))(a1:aG):Nat->Int->Option (Sum (Unit) (Int))
 | 0,_=>none
 | k+1,s2=>
  aU (decide (s2 < ((a0.length:Int)))) λx3=>
  cond x3 (
   aa (idx a0 s2) λe4=>
   aa (jW N e4 a1) λr5=>
   cond (r5 != 0) (
    some (Sum.inr r5)) (
    eT N a0 a1 k (I64 (s2+1)))) (
   some (Sum.inl (())))
def dU(N:Nat)(a0:(List aH))(a1:aG):Option (Int):=
 aa (eT N a0 a1 N 0) λo=>pD o (λp1=>
  some 0) (λr=>some r)
theorem xO{N a0 a1 r}(h:dU N a0 a1=some r):FnM Tryz.prog 173 [] [(eL 19 aH.enc a0),(.fn (.func 174) [] [(.im (aG.enc a1))])] (j64 r) []:=by
 unfold dU at h;refine At.f dG hT hmo Tryz.func173 rfl h ?_;refine At.LS 4 [] 0 (λp1=>([],[],[])) (λop1 J k=>∃s2,eT N a0 a1 k s2=some op1/\J [1,8,9] 0 [(10,(j64 s2))] [] []) N (λ_ h=>⟨_,h,jr⟩) (λop1 g1 k s hI=>?_) λp1=>?_
 ·obtain⟨s2,h,hj⟩:=hI;cases k with
  | zero=>cases h
  | succ k=>
   refine At.jr hj ?_ h;refine lx ?_;intro x3;refine At.c 1 ?_ ?_
   ·refine At.b 0 (λ_ e=>bT hT aH.enc e) λe4=>?_;refine At.b 5 (λ_ e=>aM [] (aDN e)) λr5=>?_;refine At.c 3 ?_ ?_
    ·intro e;apply aBm g1 e;exact At.r 2
    ·exact λh=>At.k 2 ⟨_,h,jr⟩
   ·apply rt;exact At.xs 0
 ·apply rt;exact At.r 1
def mK(N:Nat)(a0 a1:Int):Option (Bool):=
 aU (cond (decide (a0 < 0)) true (decide (a0 > a1))) λx1=>
 some x1
theorem aCQ{N a0 a1 r}(h:mK N a0 a1=some r):FnM Tryz.prog 297 [] [(j64 a0),(.im (j64 a1))] (eB r) []:=by
 unfold mK at h;refine At.f dG hT hmo Tryz.func297 rfl h ?_;refine lx ?_;intro x1;apply rt;exact At.r 9
def eS(N:Nat)(a0:(List Int))(a1:Int):Nat->Int->Option (Sum (Unit) (Int))
 | 0,_=>none
 | k+1,s2=>
  aU (decide (s2 < ((a0.length:Int)))) λx3=>
  cond x3 (
   aa (idx a0 s2) λe4=>
   aa (mK N e4 a1) λr5=>
   cond r5 (
    some (Sum.inr s2)) (
    eS N a0 a1 k (I64 (s2+1)))) (
   some (Sum.inl (())))
def fK(N:Nat)(a0:(List Int))(a1:Int):Option (Int):=
 aa (eS N a0 a1 N 0) λo=>pD o (λp1=>
  some (-1)) (λr=>some r)
theorem tV{N a0 a1 r}(h:fK N a0 a1=some r):FnM Tryz.prog 309 [] [(eL 1 j64 a0),(.fn (.func 297) [] [(.im (j64 a1))])] (j64 r) []:=by
 unfold fK at h;refine At.f dG hT hmo Tryz.func309 rfl h ?_;refine At.LS 4 [] 0 (λp1=>([],[],[])) (λop1 J k=>∃s2,eS N a0 a1 k s2=some op1/\J [0,1,7] 0 [(8,(j64 s2))] [] []) N (λ_ h=>⟨_,h,jr⟩) (λop1 g1 k s hI=>?_) λp1=>?_
 ·obtain⟨s2,h,hj⟩:=hI;cases k with
  | zero=>cases h
  | succ k=>
   refine At.jr hj ?_ h;refine lx ?_;intro x3;refine At.c 1 ?_ ?_
   ·refine At.b 5 (λ_ e=>bT hT j64 e) λe4=>?_;refine At.b 1 (λ_ e=>aM [] (aCQ e)) λr5=>?_;refine At.c 0 ?_ ?_
    ·intro e;apply aBm g1 e;exact At.r 2
    ·exact λh=>At.k 2 ⟨_,h,jr⟩
   ·apply rt;exact At.xs 0
 ·apply rt;exact At.r 1
def eR(N:Nat)(a0:(List Int))(a1:Int):Option (Bool):=
 aa (fK N a0 a1) λr1=>
 some (decide (r1>=0))
theorem sI{N a0 a1 r}(h:eR N a0 a1=some r):FnM Tryz.prog 296 [] [(eL 1 j64 a0),(.fn (.func 297) [] [(.im (j64 a1))])] (eB r) []:=by
 unfold eR at h;refine At.f dG hT hmo Tryz.func296 rfl h ?_;refine At.b 3 (λ_ e=>aM [] (tV e)) λr1=>?_;apply rt;exact At.r 2
def aGN : Nat->Bool:=imL [2]
def kZ(N:Nat)(a0:Int)(a1:(List Int)):Option (Bool):=
 aa (eR N a1 a0) λr1=>
 some r1
theorem tX{N a0 a1 r}(h:kZ N a0 a1=some r):FnM Tryz.prog 235 [] [(j64 a0),(eL 1 j64 a1)] (eB r) []:=by
 unfold kZ at h;refine At.f aGN hT hmo Tryz.func235 rfl h ?_;refine At.o 3 (rR (x:=(.fn (.func 297) [] [(.im (j64 a0))])) (by kernel_rfl) (by kernel_rfl)) ?_;refine At.b 0 (λ_ e=>aM [] (sI e)) λr1=>?_;apply rt;exact At.r 1
def aE6 : Nat->Bool:=imL [1]
def nX(N:Nat)(a0:aP):Option (Int):=
 aa (aa (kZ N 4 ([a0.gJ])) λr2=>
 cond r2 (
  some true) (
  aa (idx a0.gB5.toList 0) λe3=>
  aa (idx a0.gB5.toList 1) λe4=>
  aa (idx a0.gB5.toList 2) λe5=>
  aa (kZ N 65535 ([e3,e4,e5,a0.gD8])) λr6=>
  some r6)) λp1=>
 cond p1 (some 5) (some 0)
theorem aET{N a0 r}(h:nX N a0=some r):FnM Tryz.prog 177 [] [(aP.enc a0)] (j64 r) []:=by
 unfold nX at h;refine At.f aE6 hT hmo Tryz.func177 rfl h ?_;refine At.J 2 0 [] 0 (λp1=>([(21,(eB p1))],[],[])) (λp1=>?_) λp1=>?_
 ·refine At.o 2 (bS hT (x:=(.sl 1 1 [(j64 a0.gJ)]))) ?_;refine At.b 0 (λ_ e=>aM [] (tX e)) λr2=>?_;refine At.s 7 1 ?_ ?_
  ·refine At.g [7] 14 ?_;apply rt;exact At.jn 0
  ·refine At.g [7] 1 ?_;refine At.b 0 (λ_ e=>eM hT (N:=3) (k:=1) j64 a0.gB5 e) λe3=>?_;refine At.g [7] 2 ?_;refine At.b 0 (λ_ e=>eM hT (N:=3) (k:=1) j64 a0.gB5 e) λe4=>?_;refine At.g [7] 2 ?_;refine At.b 0 (λ_ e=>eM hT (N:=3) (k:=1) j64 a0.gB5 e) λe5=>?_;refine At.g [7] 3 ?_;refine At.o 0 (bS hT (x:=(.sl 1 4 [(j64 e3),(j64 e4),(j64 e5),(j64 a0.gD8)]))) ?_;refine At.b 0 (λ_ e=>aM [] (tX e)) λr6=>?_;refine At.g [7] 1 ?_;apply rt;exact At.jn 0
 ·refine At.c 0 ?_ ?_
  ·apply rt;exact At.r 1
  ·apply rt;exact At.r 1
def eX(N:Nat)(a0:(List aP)):Nat->Int->Option (Sum (Unit) (Int))
 | 0,_=>none
 | k+1,s2=>
  aU (decide (s2 < ((a0.length:Int)))) λx3=>
  cond x3 (
   aa (idx a0 s2) λe4=>
   aa (nX N e4) λr5=>
   cond (r5 != 0) (
    some (Sum.inr r5)) (
    eX N a0 k (I64 (s2+1)))) (
   some (Sum.inl (())))
def eD(N:Nat)(a0:(List aP)):Option (Int):=
 aa (eX N a0 N 0) λo=>pD o (λp1=>
  some 0) (λr=>some r)
theorem uU{N a0 r}(h:eD N a0=some r):FnM Tryz.prog 176 [] [(eL 5 aP.enc a0),(.fn (.func 177) [] [])] (j64 r) []:=by
 unfold eD at h;refine At.f dG hT hmo Tryz.func176 rfl h ?_;refine At.LS 4 [] 0 (λp1=>([],[],[])) (λop1 J k=>∃s2,eX N a0 k s2=some op1/\J [1,8,9] 0 [(10,(j64 s2))] [] []) N (λ_ h=>⟨_,h,jr⟩) (λop1 g1 k s hI=>?_) λp1=>?_
 ·obtain⟨s2,h,hj⟩:=hI;cases k with
  | zero=>cases h
  | succ k=>
   refine At.jr hj ?_ h;refine lx ?_;intro x3;refine At.c 1 ?_ ?_
   ·refine At.b 0 (λ_ e=>bT hT aP.enc e) λe4=>?_;refine At.b 5 (λ_ e=>aM [] (aET e)) λr5=>?_;refine At.c 3 ?_ ?_
    ·intro e;apply aBm g1 e;exact At.r 2
    ·exact λh=>At.k 2 ⟨_,h,jr⟩
   ·apply rt;exact At.xs 0
 ·apply rt;exact At.r 1
def fQ(N:Nat)(a0:(List Int))(a1:Int):Nat->Int->Option (Sum (Unit) (Int))
 | 0,_=>none
 | k+1,s2=>
  aU (decide (s2 < ((a0.length:Int)))) λx3=>
  cond x3 (
   aa (idx a0 s2) λe4=>
   cond (a1==e4) (
    some (Sum.inr s2)) (
    fQ N a0 a1 k (I64 (s2+1)))) (
   some (Sum.inl (())))
def nK(N:Nat)(a0:(List Int))(a1:Int):Option (Int):=
 aa (fQ N a0 a1 N 0) λo=>pD o (λp1=>
  some (-1)) (λr=>some r)
theorem aBY{N a0 a1 r}(h:nK N a0 a1=some r):FnM Tryz.prog 298 [] [(eL 1 j64 a0),(j64 a1)] (j64 r) []:=by
 unfold nK at h;refine At.f dG hT hmo Tryz.func298 rfl h ?_;refine At.LS 4 [] 0 (λp1=>([],[],[])) (λop1 J k=>∃s2,fQ N a0 a1 k s2=some op1/\J [0,1,7] 0 [(8,(j64 s2))] [] []) N (λ_ h=>⟨_,h,jr⟩) (λop1 g1 k s hI=>?_) λp1=>?_
 ·obtain⟨s2,h,hj⟩:=hI;cases k with
  | zero=>cases h
  | succ k=>
   refine At.jr hj ?_ h;refine lx ?_;intro x3;refine At.c 1 ?_ ?_
   ·refine At.b 5 (λ_ e=>bT hT j64 e) λe4=>?_;refine At.c 2 ?_ ?_
    ·intro e;apply aBm g1 e;exact At.r 2
    ·exact λh=>At.k 2 ⟨_,h,jr⟩
   ·apply rt;exact At.xs 0
 ·apply rt;exact At.r 1
def jD(N:Nat)(a0:(List Int))(a1:Int):Option (Bool):=
 aa (nK N a0 a1) λr1=>
 some (decide (r1>=0))
theorem aAX{N a0 a1 r}(h:jD N a0 a1=some r):FnM Tryz.prog 236 [] [(eL 1 j64 a0),(j64 a1)] (eB r) []:=by
 unfold jD at h;refine At.f dG hT hmo Tryz.func236 rfl h ?_;refine At.b 3 (λ_ e=>aM [] (aBY e)) λr1=>?_;apply rt;exact At.r 2
def aGC : Nat->Bool:=imL [1]
def lS(N:Nat)(x5:Int)(a0:aD):Nat->Int->Option (Sum (Unit) (Int))
 | 0,_=>none
 | k+1,s7=>
  cond (decide (s7 < x5)) (
   aa (idx a0.gA8 s7) λe8=>
   aa (aa (fM 0 3) λ_=>
   aa (e8.toList[(bm 0)]?) λe11=>
   aa (fM 1 3) λ_=>
   aa (e8.toList[(bm 1)]?) λe13=>
   aa (fM 2 3) λ_=>
   aa (e8.toList[(bm 2)]?) λe15=>
   aU (decide ((fN (fN e11 e13) e15) < 0)) λx16=>
   cond x16 (
    some true) (
    aa (fM 0 3) λ_=>
    aa (e8.toList[(bm 0)]?) λe18=>
    aa (fM 1 3) λ_=>
    aa (e8.toList[(bm 1)]?) λe20=>
    aa (fM 2 3) λ_=>
    aa (e8.toList[(bm 2)]?) λe22=>
    aU (decide ((jR (jR e18 e20) e22) > 255)) λx23=>
    some x23)) λp9=>
   cond p9 (some (Sum.inr 5)) (lS N x5 a0 k (I64 (s7+1)))) (
   some (Sum.inl (())))
def jT(N:Nat)(a0:aD):Option (Int):=
 aa (jD N ([1,2,4,8,16]) a0.gI) λr1=>
 aU ((a0.gA8.length:Int)) λx2=>
 aU (I64 (a0.gI*a0.gI)) λx3=>
 aU (cond (!r1) true (x2 != x3)) λx4=>
 cond x4 (
  some 5) (
  aU ((a0.gA8.length:Int)) λx5=>
  aa (lS N x5 a0 N 0) λo=>pD o (λp6=>
   some 0) (λr=>some r))
theorem uG{N a0 r}(h:jT N a0=some r):FnM Tryz.prog 179 [] [(aD.enc a0)] (j64 r) []:=by
 unfold jT at h;refine At.f aGC hT hmo Tryz.func179 rfl h ?_;refine At.o 2 (bS hT (x:=(.sl 1 5 [(j64 1),(j64 2),(j64 4),(j64 8),(j64 16)]))) ?_;refine At.b 2 (λ_ e=>aM [] (aAX e)) λr1=>?_;refine lx ?_;intro x2;refine lx ?_;intro x3;refine lx ?_;intro x4;refine At.c 12 ?_ ?_
 ·apply rt;exact At.r 1
 ·refine lx ?_;intro x5;refine At.LS 4 [] 0 (λp6=>([],[],[])) (λop6 J k=>∃s7,lS N x5 a0 k s7=some op6/\J [22,23] 0 [(24,(j64 s7))] [] []) N (λ_ h=>⟨_,h,jr⟩) (λop6 g6 k s hI=>?_) λp6=>?_
  ·obtain⟨s7,h,hj⟩:=hI;cases k with
   | zero=>cases h
   | succ k=>
    refine At.jr hj ?_ h;refine At.c 1 ?_ ?_
    ·refine At.b 0 (λ_ e=>bT hT (eA 3 1 j64) e) λe8=>?_;refine At.J 3 0 [22,23,24] 1 (λp9=>([(45,(eB p9))],[],[])) (λp9=>?_) λp9=>?_
     ·refine At.b 0 (λ_ e=>bH hT (k:=1) 0 [] 0 e) λu10=>?_;refine At.b 0 (λ_ e=>qF hT j64 0 e) λe11=>?_;refine At.b 0 (λ_ e=>bH hT (k:=1) 0 [] 0 e) λu12=>?_;refine At.b 0 (λ_ e=>qF hT j64 0 e) λe13=>?_;refine At.b 0 (λ_ e=>bH hT (k:=1) 0 [] 0 e) λu14=>?_;refine At.b 0 (λ_ e=>qF hT j64 0 e) λe15=>?_;refine At.o 0 (aAO (k := .i64) (i:=e11) (j:=e13) (l:=e15) (by kernel_rfl) (by kernel_rfl)) ?_;refine lx ?_;intro x16;refine At.s 36 2 ?_ ?_
      ·refine At.g [36] 9 ?_;apply rt;exact At.jn 0
      ·refine At.b 0 (λ_ e=>bH hT (k:=1) 0 [] 0 e) λu17=>?_;refine At.b 0 (λ_ e=>qF hT j64 0 e) λe18=>?_;refine At.b 0 (λ_ e=>bH hT (k:=1) 0 [] 0 e) λu19=>?_;refine At.b 0 (λ_ e=>qF hT j64 0 e) λe20=>?_;refine At.b 0 (λ_ e=>bH hT (k:=1) 0 [] 0 e) λu21=>?_;refine At.b 0 (λ_ e=>qF hT j64 0 e) λe22=>?_;refine At.o 0 (aAT (k := .i64) (i:=e18) (j:=e20) (l:=e22) (by kernel_rfl) (by kernel_rfl)) ?_;refine lx ?_;intro x23;refine At.g [36] 2 ?_;apply rt;exact At.jn 0
     ·refine At.c 0 ?_ ?_
      ·intro e;apply aBm g6 e;exact At.r 1
      ·exact λh=>At.k 2 ⟨_,h,jr⟩
    ·apply rt;exact At.xs 0
  ·apply rt;exact At.r 1
def fW(N:Nat)(a0:(List aD)):Nat->Int->Option (Sum (Unit) (Int))
 | 0,_=>none
 | k+1,s2=>
  aU (decide (s2 < ((a0.length:Int)))) λx3=>
  cond x3 (
   aa (idx a0 s2) λe4=>
   aa (jT N e4) λr5=>
   cond (r5 != 0) (
    some (Sum.inr r5)) (
    fW N a0 k (I64 (s2+1)))) (
   some (Sum.inl (())))
def fH(N:Nat)(a0:(List aD)):Option (Int):=
 aa (fW N a0 N 0) λo=>pD o (λp1=>
  some 0) (λr=>some r)
theorem wP{N a0 r}(h:fH N a0=some r):FnM Tryz.prog 178 [] [(eL 2 aD.enc a0),(.fn (.func 179) [] [])] (j64 r) []:=by
 unfold fH at h;refine At.f dG hT hmo Tryz.func178 rfl h ?_;refine At.LS 4 [] 0 (λp1=>([],[],[])) (λop1 J k=>∃s2,fW N a0 k s2=some op1/\J [1,8,9] 0 [(10,(j64 s2))] [] []) N (λ_ h=>⟨_,h,jr⟩) (λop1 g1 k s hI=>?_) λp1=>?_
 ·obtain⟨s2,h,hj⟩:=hI;cases k with
  | zero=>cases h
  | succ k=>
   refine At.jr hj ?_ h;refine lx ?_;intro x3;refine At.c 1 ?_ ?_
   ·refine At.b 0 (λ_ e=>bT hT aD.enc e) λe4=>?_;refine At.b 5 (λ_ e=>aM [] (uG e)) λr5=>?_;refine At.c 3 ?_ ?_
    ·intro e;apply aBm g1 e;exact At.r 2
    ·exact λh=>At.k 2 ⟨_,h,jr⟩
   ·apply rt;exact At.xs 0
 ·apply rt;exact At.r 1
def aGF : Nat->Bool:=imL [1]
def nD(N:Nat)(a0:aC):Option (Bool):=
 aa (aU (decide ((jR (jR a0.gX a0.gY) a0.gZ) > 4096)) λx2=>
 cond x2 (
  some true) (
  aU (decide ((fN (fN a0.gX a0.gY) a0.gZ) < (-4096))) λx3=>
  some x3)) λp1=>
 some p1
theorem xZ{N a0 r}(h:nD N a0=some r):FnM Tryz.prog 237 [] [(aC.enc a0)] (eB r) []:=by
 unfold nD at h;refine At.f aGF hT hmo Tryz.func237 rfl h ?_;refine At.J 2 0 [] 0 (λp1=>([(2,(eB p1))],[],[])) (λp1=>?_) λp1=>?_
 ·refine At.o 6 (aAT (k := .i64) (i:=a0.gX) (j:=a0.gY) (l:=a0.gZ) (by kernel_rfl) (by kernel_rfl)) ?_;refine lx ?_;intro x2;refine At.s 11 2 ?_ ?_
  ·refine At.g [11] 10 ?_;apply rt;exact At.jn 0
  ·refine At.g [11] 6 ?_;refine At.o 0 (aAO (k := .i64) (i:=a0.gX) (j:=a0.gY) (l:=a0.gZ) (by kernel_rfl) (by kernel_rfl)) ?_;refine lx ?_;intro x3;refine At.g [11] 3 ?_;apply rt;exact At.jn 0
 ·apply rt;exact At.r 0
def aIj : Nat->Bool:=imL [1]
def pU(N:Nat)(a0:aQ):Option (Int):=
 aa (aa (kZ N 2 ([a0.gJ])) λr2=>
 cond r2 (
  some true) (
  aa (xW a0.gB5.toList 0 3) λs3=>
  aa (kZ N 1048576 s3) λr4=>
  some r4)) λp1=>
 cond p1 (
  some 5) (
  aa (aa (nD N a0.gAt) λr6=>
  cond r6 (
   some true) (
   aa (nD N a0.gU) λr7=>
   cond r7 (
    some true) (
    aa (nD N a0.gV) λr8=>
    some r8))) λp5=>
  cond p5 (
   some 8) (
   aa (cond (a0.gJ==2) (
    cond (!(aC.eq a0.gAt (aC.mk 0 0 0))) (
     some (Sum.inr 5)) (
     aa (aU (!(aC.eq a0.gU (aC.mk 0 0 0))) λx11=>
     cond x11 (
      some true) (
      some (!(aC.eq a0.gV (aC.mk 0 0 0))))) λp10=>
     cond p10 (some (Sum.inr 5)) (some (Sum.inl (()))))) (
    cond (a0.gJ==0) (
     aa (aU (!(aC.eq a0.gU (aC.mk 0 0 0))) λx13=>
     cond x13 (
      some true) (
      some (!(aC.eq a0.gV (aC.mk 0 0 0))))) λp12=>
     cond p12 (some (Sum.inr 5)) (some (Sum.inl (())))) (
     some (Sum.inl (()))))) λo=>pD o (λp9=>
    some 0) (λr=>some r)))
theorem aCn{N a0 r}(h:pU N a0=some r):FnM Tryz.prog 181 [] [(aQ.enc a0)] (j64 r) []:=by
 unfold pU at h;refine At.f aIj hT hmo Tryz.func181 rfl h ?_;refine At.J 6 0 [1,3,4] 1 (λp1=>([(6,(eB p1))],[],[])) (λp1=>?_) λp1=>?_
 ·refine At.o 2 (bS hT (x:=(.sl 1 1 [(j64 a0.gJ)]))) ?_;refine At.b 0 (λ_ e=>aM [] (tX e)) λr2=>?_;refine At.s 11 1 ?_ ?_
  ·refine At.g [11] 5 ?_;apply rt;exact At.jn 0
  ·refine At.g [11] 1 ?_;refine At.b 0 (λ_ e=>aBk hT (N:=3) (k:=1) j64 a0.gB5 e) λs3=>?_;refine At.b 0 (λ_ e=>aM [] (tX e)) λr4=>?_;refine At.g [11] 2 ?_;apply rt;exact At.jn 0
 ·refine At.c 0 ?_ ?_
  ·apply rt;exact At.r 1
  ·refine At.J 0 0 [1,4] 1 (λp5=>([(16,(eB p5))],[],[])) (λp5=>?_) λp5=>?_
   ·refine At.b 3 (λ_ e=>aM [] (xZ e)) λr6=>?_;refine At.s 21 1 ?_ ?_
    ·refine At.g [21,27] 12 ?_;apply rt;exact At.jn 0
    ·refine At.g [21] 3 ?_;refine At.b 0 (λ_ e=>aM [] (xZ e)) λr7=>?_;refine At.g [21] 2 ?_;refine At.s 27 0 ?_ ?_
     ·refine At.g [27] 6 ?_;apply rt;exact At.jn 0
     ·refine At.g [27] 3 ?_;refine At.b 0 (λ_ e=>aM [] (xZ e)) λr8=>?_;refine At.g [27] 2 ?_;apply rt;exact At.jn 0
   ·refine At.c 0 ?_ ?_
    ·apply rt;exact At.r 1
    ·refine At.JS 0 1 [] 1 (λp9=>([],[],[])) (λop9 g9=>?_) λp9=>?_
     ·refine At.c 4 ?_ ?_
      ·refine At.o 3 (zU aB8 (a0.gAt:aC) (aC.mk 0 0 0:aC) (by kernel_rfl) (by kernel_rfl) (λ_=>rfl) (λ_=>rfl) (by kernel_rfl) (by kernel_rfl)) ?_;refine At.c 0 ?_ ?_
       ·intro e;apply aBm g9 e;exact At.r 1
       ·refine At.J 0 0 [] 1 (λp10=>([(52,(eB p10))],[],[])) (λp10=>?_) λp10=>?_
        ·refine At.o 3 (zU aB8 (a0.gU:aC) (aC.mk 0 0 0:aC) (by kernel_rfl) (by kernel_rfl) (λ_=>rfl) (λ_=>rfl) (by kernel_rfl) (by kernel_rfl)) ?_;refine lx ?_;intro x11;refine At.s 47 1 ?_ ?_
         ·refine At.g [47] 5 ?_;apply rt;exact At.jn 0
         ·refine At.g [47] 3 ?_;refine At.o 0 (zU aB8 (a0.gV:aC) (aC.mk 0 0 0:aC) (by kernel_rfl) (by kernel_rfl) (λ_=>rfl) (λ_=>rfl) (by kernel_rfl) (by kernel_rfl)) ?_;refine At.g [47] 1 ?_;apply rt;exact At.jn 0
        ·refine At.c 0 ?_ ?_
         ·intro e;apply aBm g9 e;exact At.r 1
         ·apply rt;exact At.jsn 0
      ·refine At.c 2 ?_ ?_
       ·refine At.J 0 0 [] 1 (λp12=>([(52,(eB p12))],[],[])) (λp12=>?_) λp12=>?_
        ·refine At.o 3 (zU aB8 (a0.gU:aC) (aC.mk 0 0 0:aC) (by kernel_rfl) (by kernel_rfl) (λ_=>rfl) (λ_=>rfl) (by kernel_rfl) (by kernel_rfl)) ?_;refine lx ?_;intro x13;refine At.s 47 1 ?_ ?_
         ·refine At.g [47] 5 ?_;apply rt;exact At.jn 0
         ·refine At.g [47] 3 ?_;refine At.o 0 (zU aB8 (a0.gV:aC) (aC.mk 0 0 0:aC) (by kernel_rfl) (by kernel_rfl) (λ_=>rfl) (λ_=>rfl) (by kernel_rfl) (by kernel_rfl)) ?_;refine At.g [47] 1 ?_;apply rt;exact At.jn 0
        ·refine At.c 0 ?_ ?_
         ·intro e;apply aBm g9 e;exact At.r 1
         ·apply rt;exact At.jsn 0
       ·apply rt;exact At.jsn 0
     ·apply rt;exact At.r 1
def iL(N:Nat)(a0:(List aQ)):Nat->Int->Option (Sum (Unit) (Int))
 | 0,_=>none
 | k+1,s2=>
  aU (decide (s2 < ((a0.length:Int)))) λx3=>
  cond x3 (
   aa (idx a0 s2) λe4=>
   aa (pU N e4) λr5=>
   cond (r5 != 0) (
    some (Sum.inr r5)) (
    iL N a0 k (I64 (s2+1)))) (
   some (Sum.inl (())))
def fO(N:Nat)(a0:(List aQ)):Option (Int):=
 aa (iL N a0 N 0) λo=>pD o (λp1=>
  some 0) (λr=>some r)
theorem yB{N a0 r}(h:fO N a0=some r):FnM Tryz.prog 180 [] [(eL 13 aQ.enc a0),(.fn (.func 181) [] [])] (j64 r) []:=by
 unfold fO at h;refine At.f dG hT hmo Tryz.func180 rfl h ?_;refine At.LS 4 [] 0 (λp1=>([],[],[])) (λop1 J k=>∃s2,iL N a0 k s2=some op1/\J [1,8,9] 0 [(10,(j64 s2))] [] []) N (λ_ h=>⟨_,h,jr⟩) (λop1 g1 k s hI=>?_) λp1=>?_
 ·obtain⟨s2,h,hj⟩:=hI;cases k with
  | zero=>cases h
  | succ k=>
   refine At.jr hj ?_ h;refine lx ?_;intro x3;refine At.c 1 ?_ ?_
   ·refine At.b 0 (λ_ e=>bT hT aQ.enc e) λe4=>?_;refine At.b 5 (λ_ e=>aM [] (aCn e)) λr5=>?_;refine At.c 3 ?_ ?_
    ·intro e;apply aBm g1 e;exact At.r 2
    ·exact λh=>At.k 2 ⟨_,h,jr⟩
   ·apply rt;exact At.xs 0
 ·apply rt;exact At.r 1
def aIS : Nat->Bool:=imL [1]
def jQ(N:Nat)(a0:aG):Option (Int):=
 aU ((a0.gB0.length:Int)) λx1=>
 aU (x1 != ((a0.gR.length:Int))) λx2=>
 cond x2 (
  some 5) (
  aa (dU N a0.gE a0) λr3=>
  cond (r3 != 0) (
   some r3) (
   aa (eD N a0.gA6) λr4=>
   cond (r4 != 0) (
    some r4) (
    aa (fH N a0.gA2) λr5=>
    cond (r5 != 0) (
     some r5) (
     aa (fO N a0.gF) λr6=>
     some r6))))
theorem aHJ{N a0 r}(h:jQ N a0=some r):FnM Tryz.prog 98 [] [(aG.enc a0)] (j64 r) []:=by
 unfold jQ at h;refine At.f aIS hT hmo Tryz.func98 rfl h ?_;refine lx ?_;intro x1;refine lx ?_;intro x2;refine At.c 9 ?_ ?_
 ·apply rt;exact At.r 1
 ·refine At.o 2 (rR (x:=(.fn (.func 174) [] [(.im (aG.enc a0))])) (by kernel_rfl) (by kernel_rfl)) ?_;refine At.b 0 (λ_ e=>aM [] (xO e)) λr3=>?_;refine At.c 3 ?_ ?_
  ·apply rt;exact At.r 2
  ·refine At.b 2 (λ_ e=>aM [] (uU e)) λr4=>?_;refine At.c 3 ?_ ?_
   ·apply rt;exact At.r 2
   ·refine At.b 2 (λ_ e=>aM [] (wP e)) λr5=>?_;refine At.c 3 ?_ ?_
    ·apply rt;exact At.r 2
    ·refine At.b 2 (λ_ e=>aM [] (yB e)) λr6=>?_;apply rt;exact At.r 1
def aM2 : Nat->Bool:=imL [1]
def vL(N:Nat)(a0:aC):Option (Bool):=
 aa (aU (!(aC.eq a0 (aC.mk 0 0 0))) λx2=>
 cond x2 (
  aU (decide ((jR (jR a0.gX a0.gY) a0.gZ)<=16384)) λx3=>
  cond x3 (
   aU (decide ((fN (fN a0.gX a0.gY) a0.gZ)>=(-16384))) λx4=>
   some x4) (
   some false)) (
  some false)) λp1=>
 some p1
theorem aCr{N a0 r}(h:vL N a0=some r):FnM Tryz.prog 172 [] [(aC.enc a0)] (eB r) []:=by
 unfold vL at h;refine At.f aM2 hT hmo Tryz.func172 rfl h ?_;refine At.J 2 0 [] 0 (λp1=>([(2,(eB p1))],[],[])) (λp1=>?_) λp1=>?_
 ·refine At.o 2 (zU aB8 (a0:aC) (aC.mk 0 0 0:aC) (by kernel_rfl) (by kernel_rfl) (λ_=>rfl) (λ_=>rfl) (by kernel_rfl) (by kernel_rfl)) ?_;refine lx ?_;intro x2;refine At.s 6 1 ?_ ?_
  ·refine At.g [6] 6 ?_;refine At.o 0 (aAT (k := .i64) (i:=a0.gX) (j:=a0.gY) (l:=a0.gZ) (by kernel_rfl) (by kernel_rfl)) ?_;refine lx ?_;intro x3;refine At.g [6] 3 ?_;refine At.s 16 0 ?_ ?_
   ·refine At.g [16] 6 ?_;refine At.o 0 (aAO (k := .i64) (i:=a0.gX) (j:=a0.gY) (l:=a0.gZ) (by kernel_rfl) (by kernel_rfl)) ?_;refine lx ?_;intro x4;refine At.g [16] 3 ?_;apply rt;exact At.jn 0
   ·refine At.g [16] 10 ?_;apply rt;exact At.jn 0
  ·refine At.g [6,16] 20 ?_;apply rt;exact At.jn 0
 ·apply rt;exact At.r 0
def mH(N:Nat)(a0 a1 a2:Int):Option (Bool):=
 aU (cond (decide (a0>=a1)) (decide (a0<=a2)) false) λx1=>
 some x1
theorem vI{N a0 a1 a2 r}(h:mH N a0 a1 a2=some r):FnM Tryz.prog 171 [] [(j64 a0),(j64 a1),(j64 a2)] (eB r) []:=by
 unfold mH at h;refine At.f dG hT hmo Tryz.func171 rfl h ?_;refine lx ?_;intro x1;apply rt;exact At.r 10
def aKW : Nat->Bool:=imL [3]
def tW(N:Nat)(a0:bR)(a1 a2:Int):Option (Int):=
 aa (aU (decide ((jR (jR a0.gA9.gX a0.gA9.gY) a0.gA9.gZ) > 32768)) λx2=>
 cond x2 (
  some true) (
  aU (decide ((fN (fN a0.gA9.gX a0.gA9.gY) a0.gA9.gZ) < (-32768))) λx3=>
  some x3)) λp1=>
 cond p1 (
  some 8) (
  aa (aa (vL N a0.gB4) λr5=>
  cond (!r5) (
   some true) (
   aa (vL N a0.gUp) λr6=>
   cond (!r6) (
    some true) (
    aa (vL N a0.gE2) λr7=>
    some (!r7)))) λp4=>
  cond p4 (
   some 2) (
   aa (aa (mH N a0.gD3 0 1024) λr9=>
   cond (!r9) (
    some true) (
    aa (mH N a0.gD5 1 32768) λr10=>
    cond (!r10) (
     some true) (
     aa (mH N a1 1 64) λr11=>
     cond (!r11) (
      some true) (
      aa (mH N a2 1 64) λr12=>
      some (!r12))))) λp8=>
   cond p8 (some 2) (some 0)))
theorem aDV{N a0 a1 a2 r}(h:tW N a0 a1 a2=some r):FnM Tryz.prog 97 [] [(bR.enc a0),(j64 a1),(j64 a2)] (j64 r) []:=by
 unfold tW at h;refine At.f aKW hT hmo Tryz.func97 rfl h ?_;refine At.J 7 0 [1,2,3,8] 1 (λp1=>([(11,(eB p1))],[],[])) (λp1=>?_) λp1=>?_
 ·refine At.o 6 (aAT (k := .i64) (i:=a0.gA9.gX) (j:=a0.gA9.gY) (l:=a0.gA9.gZ) (by kernel_rfl) (by kernel_rfl)) ?_;refine lx ?_;intro x2;refine At.s 20 2 ?_ ?_
  ·refine At.g [20] 10 ?_;apply rt;exact At.jn 0
  ·refine At.g [20] 6 ?_;refine At.o 0 (aAO (k := .i64) (i:=a0.gA9.gX) (j:=a0.gA9.gY) (l:=a0.gA9.gZ) (by kernel_rfl) (by kernel_rfl)) ?_;refine lx ?_;intro x3;refine At.g [20] 3 ?_;apply rt;exact At.jn 0
 ·refine At.c 0 ?_ ?_
  ·apply rt;exact At.r 1
  ·refine At.J 0 0 [1,2,3,8] 1 (λp4=>([(30,(eB p4))],[],[])) (λp4=>?_) λp4=>?_
   ·refine At.b 2 (λ_ e=>aM [] (aCr e)) λr5=>?_;refine At.s 35 2 ?_ ?_
    ·refine At.g [35,41] 12 ?_;apply rt;exact At.jn 0
    ·refine At.g [35] 2 ?_;refine At.b 0 (λ_ e=>aM [] (aCr e)) λr6=>?_;refine At.g [35] 3 ?_;refine At.s 41 0 ?_ ?_
     ·refine At.g [41] 6 ?_;apply rt;exact At.jn 0
     ·refine At.g [41] 2 ?_;refine At.b 0 (λ_ e=>aM [] (aCr e)) λr7=>?_;refine At.g [41] 3 ?_;apply rt;exact At.jn 0
   ·refine At.c 0 ?_ ?_
    ·apply rt;exact At.r 1
    ·refine At.J 0 0 [] 1 (λp8=>([(47,(eB p8))],[],[])) (λp8=>?_) λp8=>?_
     ·refine At.b 3 (λ_ e=>aM [] (vI e)) λr9=>?_;refine At.s 53 2 ?_ ?_
      ·refine At.g [53,60,66] 19 ?_;apply rt;exact At.jn 0
      ·refine At.g [53] 3 ?_;refine At.b 0 (λ_ e=>aM [] (vI e)) λr10=>?_;refine At.g [53] 3 ?_;refine At.s 60 0 ?_ ?_
       ·refine At.g [60,66] 12 ?_;apply rt;exact At.jn 0
       ·refine At.g [60] 2 ?_;refine At.b 0 (λ_ e=>aM [] (vI e)) λr11=>?_;refine At.g [60] 3 ?_;refine At.s 66 0 ?_ ?_
        ·refine At.g [66] 6 ?_;apply rt;exact At.jn 0
        ·refine At.g [66] 2 ?_;refine At.b 0 (λ_ e=>aM [] (vI e)) λr12=>?_;refine At.g [66] 3 ?_;apply rt;exact At.jn 0
     ·refine At.c 0 ?_ ?_
      ·apply rt;exact At.r 1
      ·apply rt;exact At.r 1
def aLP : Nat->Bool:=imL [1]
def nV(N:Nat)(a0:aI):Option (Int):=
 aa (tW N a0.gC9 a0.gW a0.gH) λr1=>
 cond (r1 != 0) (
  some r1) (
  aU (decide (a0.gB1 < 1)) λx2=>
  aU (decide (a0.gB1 > 16)) λx3=>
  aU (cond (cond x2 true x3) true (decide (a0.gK < 0))) λx4=>
  aU (cond x4 true (decide (a0.gK > 8))) λx5=>
  aU (cond x5 true (decide (a0.gL < 0))) λx6=>
  aU (cond x6 true (decide (a0.gL > 2))) λx7=>
  cond x7 (some 2) (some 0))
theorem aEs{N a0 r}(h:nV N a0=some r):FnM Tryz.prog 44 [] [(aI.enc a0)] (j64 r) []:=by
 unfold nV at h;refine At.f aLP hT hmo Tryz.func44 rfl h ?_;refine At.b 8 (λ_ e=>aM [] (aDV e)) λr1=>?_;refine At.c 3 ?_ ?_
 ·apply rt;exact At.r 2
 ·refine lx ?_;intro x2;refine lx ?_;intro x3;refine lx ?_;intro x4;refine lx ?_;intro x5;refine lx ?_;intro x6;refine lx ?_;intro x7;refine At.c 28 ?_ ?_
  ·apply rt;exact At.r 1
  ·apply rt;exact At.r 1
def iV(N:Nat)(a0:Int):Option (Int×Int):=
 cond (a0==0) (
  some ((16,4))) (
  cond (a0==1) (
   some ((64,4))) (
   cond (a0==2) (some ((256,8))) (some ((0,0)))))
theorem qR{N a0 r}(h:iV N a0=some r):FnM Tryz.prog 45 [] [(j64 a0)] (.tup [(j64 r.1),(j64 r.2)]) []:=by
 unfold iV at h;refine At.f dG hT hmo Tryz.func45 rfl h ?_;refine At.c 5 ?_ ?_
 ·apply rt;exact At.r 2
 ·refine At.c 2 ?_ ?_
  ·apply rt;exact At.r 2
  ·refine At.c 2 ?_ ?_
   ·apply rt;exact At.r 2
   ·apply rt;exact At.r 2
def aHa : Nat->Bool:=imL [2]
def oE(N:Nat)(a0:aG)(a1:Int):Option (Int):=
 aa (iV N a1) λr1=>
 aU ((a0.gE.length:Int)) λx2=>
 aU ((a0.gF.length:Int)) λx3=>
 aU (cond (decide (x2 > r1.1)) true (decide (x3 > r1.2))) λx4=>
 cond x4 (some 15) (some 0)
theorem aGW{N a0 a1 r}(h:oE N a0 a1=some r):FnM Tryz.prog 99 [] [(aG.enc a0),(j64 a1)] (j64 r) []:=by
 unfold oE at h;refine At.f aHa hT hmo Tryz.func99 rfl h ?_;refine At.b 3 (λ_ e=>aM [] (qR e)) λr1=>?_;refine lx ?_;intro x2;refine lx ?_;intro x3;refine lx ?_;intro x4;refine At.c 17 ?_ ?_
 ·apply rt;exact At.r 1
 ·apply rt;exact At.r 1
def tN(N:Nat)(a0:Int):Option (Int×Bool):=
 cond (decide (a0 < 0)) (some ((U64 (0 - (U64 a0)),true))) (some ((U64 a0,false)))
theorem aB0{N a0 r}(h:tN N a0=some r):FnM Tryz.prog 231 [] [(j64 a0)] (.tup [(k64 r.1),(eB r.2)]) []:=by
 unfold tN at h;refine At.f dG hT hmo Tryz.func231 rfl h ?_;refine At.c 4 ?_ ?_
 ·apply rt;exact At.r 5
 ·apply rt;exact At.r 4
def kV(N:Nat)(a0 a1:Int):Option (Int×Int):=
 aU (fI .u64 a0 4294967295) λx1=>
 aU (fI .u64 a1 4294967295) λx2=>
 aU (U64 ((shr .u64 a0 32)*x2)) λx3=>
 aU (shr .u64 (U64 (x1*x2)) 32) λx4=>
 aU (fI .u64 (U64 (x3+x4)) 4294967295) λx5=>
 aU (shr .u64 (U64 (x3+x4)) 32) λx6=>
 aU (U64 (x1*(shr .u64 a1 32))) λx7=>
 aU (U64 ((shr .u64 a0 32)*(shr .u64 a1 32))) λx8=>
 aU (shr .u64 (U64 (x5+x7)) 32) λx9=>
 aU (U64 ((U64 (x8+x6))+x9)) λx10=>
 some ((x10,U64 (a0*a1)))
theorem aAR{N a0 a1 r}(h:kV N a0 a1=some r):FnM Tryz.prog 210 [] [(k64 a0),(k64 a1)] (.tup [(k64 r.1),(k64 r.2)]) []:=by
 unfold kV at h;refine At.f dG hT hmo Tryz.func210 rfl h ?_;refine lx ?_;intro x1;refine lx ?_;intro x2;refine lx ?_;intro x3;refine lx ?_;intro x4;refine lx ?_;intro x5;refine lx ?_;intro x6;refine lx ?_;intro x7;refine lx ?_;intro x8;refine lx ?_;intro x9;refine lx ?_;intro x10;apply rt;exact At.r 50
theorem aNV{x y c:Int}{r:Int×Int}(h:aDJ x y c=some r):aHr Tryz.prog 294 [.int .u64 x,.int .u64 y,.int .u64 c] (.tuple #[.int .u64 r.1,.int .u64 r.2]):=
 aOb Tryz.func294 (by kernel_rfl) (by kernel_rfl) (by kernel_rfl) (by kernel_rfl) h
def pT(N:Nat)(a0 a1:Int):Option (Int×Int):=
 aa (aDJ 0 a1 0) λr1=>
 aa (aDJ 0 a0 r1.2) λr2=>
 some ((r2.1,r1.1))
theorem aCx{N a0 a1 r}(h:pT N a0 a1=some r):FnM Tryz.prog 233 [] [(k64 a0),(k64 a1)] (.tup [(k64 r.1),(k64 r.2)]) []:=by
 unfold pT at h;refine At.f dG hT hmo Tryz.func233 rfl h ?_;refine At.b 3 (λ_ e=>aED (aNV e) (λ_=>aEp)) λr1=>?_;refine At.b 7 (λ_ e=>aED (aNV e) (λ_=>aEp)) λr2=>?_;apply rt;exact At.r 8
def kH(N:Nat)(a0 a1:Int)(a2:Bool):Option (aS×Bool):=
 aa (cond a2 (
  aa (pT N a0 a1) λr2=>
  some ((r2.1,r2.2))) (
  some ((a0,a1)))) λp1=>
 aU (decide ((I64 p1.1) < 0)) λx3=>
 aU ((bor .u64 p1.1 p1.2)==0) λx4=>
 aU (cond (x3==a2) true x4) λx5=>
 some ((aS.mk (I64 p1.1) p1.2,x5))
theorem aCX{N a0 a1 a2 r}(h:kH N a0 a1 a2=some r):FnM Tryz.prog 232 [] [(k64 a0),(k64 a1),(eB a2)] (.tup [(aS.enc r.1),(eB r.2)]) []:=by
 unfold kH at h;refine At.f dG hT hmo Tryz.func232 rfl h ?_;refine At.J 2 1 [2,6] 1 (λp1=>([(0,(k64 p1.1)),(1,(k64 p1.2))],[],[])) (λp1=>?_) λp1=>?_
 ·refine At.c 1 ?_ ?_
  ·refine At.b 2 (λ_ e=>aM [] (aCx e)) λr2=>?_;apply rt;exact At.jn 5
  ·apply rt;exact At.jn 0
 ·refine lx ?_;intro x3;refine lx ?_;intro x4;refine lx ?_;intro x5;apply rt;exact At.r 20
def fS(N:Nat)(a0 a1:Int):Option (aS):=
 aa (tN N a0) λr1=>
 aa (tN N a1) λr2=>
 aa (kV N r1.1 r2.1) λr3=>
 aa (kH N r3.1 r3.2 (!(r1.2==r2.2))) λr4=>
 some r4.1
theorem lB{N a0 a1 r}(h:fS N a0 a1=some r):FnM Tryz.prog 169 [] [(j64 a0),(j64 a1)] (aS.enc r) []:=by
 unfold fS at h;refine At.f dG hT hmo Tryz.func169 rfl h ?_;refine At.b 2 (λ_ e=>aM [] (aB0 e)) λr1=>?_;refine At.b 6 (λ_ e=>aM [] (aB0 e)) λr2=>?_;refine At.b 7 (λ_ e=>aM [] (aAR e)) λr3=>?_;refine At.b 10 (λ_ e=>aM [] (aCX e)) λr4=>?_;apply rt;exact At.r 8
def aM0 : Nat->Bool:=imL [1]
def qB(N:Nat)(a0:aS):Option (Int×Bool):=
 aU (shr .i64 (I64 a0.gLo) 63) λx1=>
 cond (a0.gHi != x1) (some ((0,false))) (some ((I64 a0.gLo,true)))
theorem yS{N a0 r}(h:qB N a0=some r):FnM Tryz.prog 229 [] [(aS.enc a0)] (.tup [(j64 r.1),(eB r.2)]) []:=by
 unfold qB at h;refine At.f aM0 hT hmo Tryz.func229 rfl h ?_;refine lx ?_;intro x1;refine At.c 12 ?_ ?_
 ·apply rt;exact At.r 2
 ·apply rt;exact At.r 3
def aMS : Nat->Bool:=imL [1]
def tD(N:Nat)(a0:aS):Option (Int):=
 aa (qB N a0) λr1=>
 cond r1.2 (
  some r1.1) (
  cond (decide (a0.gHi < 0)) (some (-9223372036854775808)) (some 9223372036854775807))
theorem aCm{N a0 r}(h:tD N a0=some r):FnM Tryz.prog 167 [] [(aS.enc a0)] (j64 r) []:=by
 unfold tD at h;refine At.f aMS hT hmo Tryz.func167 rfl h ?_;refine At.b 3 (λ_ e=>aM [] (yS e)) λr1=>?_;refine At.c 6 ?_ ?_
 ·apply rt;exact At.r 2
 ·refine At.c 3 ?_ ?_
  ·apply rt;exact At.r 1
  ·apply rt;exact At.r 1
def iR(N:Nat)(a0:Int):Option (Int):=
 aa (fS N a0 4294967296) λr1=>
 aa (tD N r1) λr2=>
 some r2
theorem iX{N a0 r}(h:iR N a0=some r):FnM Tryz.prog 95 [] [(j64 a0)] (j64 r) []:=by
 unfold iR at h;refine At.f dG hT hmo Tryz.func95 rfl h ?_;refine At.b 2 (λ_ e=>aM [] (lB e)) λr1=>?_;refine At.b 0 (λ_ e=>aM [] (aCm e)) λr2=>?_;apply rt;exact At.r 1
def pO(N:Nat)(a0:Int):Option (Int):=
 aa (aU (decide (a0>=4294967296)) λx2=>
 cond x2 (some ((shr .u64 a0 32,32))) (some ((a0,0)))) λp1=>
 aa (cond (decide (p1.1>=65536)) (
  some ((shr .u64 p1.1 16,I64 (p1.2+16)))) (
  some ((p1.1,p1.2)))) λp3=>
 aa (cond (decide (p3.1>=256)) (some ((shr .u64 p3.1 8,I64 (p3.2+8)))) (some ((p3.1,p3.2)))) λp4=>
 aa (idx aNB.data.toList (U8 p4.1)) λc5=>
 aU (I64 ((UInt8.toNat c5:Int))) λx6=>
 some (I64 (p4.2+x6))
theorem aDw{N a0 r}(h:pO N a0=some r):FnM Tryz.prog 281 [] [(k64 a0)] (j64 r) []:=by
 unfold pO at h;refine At.f dG hT hmo Tryz.func281 rfl h ?_;refine At.J 1 1 [] 0 (λp1=>([(0,(k64 p1.1)),(2,(j64 p1.2))],[],[])) (λp1=>?_) λp1=>?_
 ·refine lx ?_;intro x2;refine At.c 2 ?_ ?_
  ·apply rt;exact At.jn 4
  ·apply rt;exact At.jn 0
 ·refine At.J 0 1 [] 0 (λp3=>([(0,(k64 p3.1)),(2,(j64 p3.2))],[],[])) (λp3=>?_) λp3=>?_
  ·refine At.c 2 ?_ ?_
   ·apply rt;exact At.jn 6
   ·apply rt;exact At.jn 0
  ·refine At.J 0 1 [] 0 (λp4=>([(0,(k64 p4.1)),(2,(j64 p4.2))],[],[])) (λp4=>?_) λp4=>?_
   ·refine At.c 2 ?_ ?_
    ·apply rt;exact At.jn 6
    ·apply rt;exact At.jn 0
   ·refine At.b 3 (λ_ e=>aRk hT e (by kernel_rfl) (by kernel_rfl)) λc5=>?_;refine lx ?_;intro x6;apply rt;exact At.r 3
def kN(N:Nat)(a0:Int):Option (Int):=
 aa (pO N a0) λr1=>
 some (I64 (64 - r1))
theorem zQ{N a0 r}(h:kN N a0=some r):FnM Tryz.prog 215 [] [(k64 a0)] (j64 r) []:=by
 unfold kN at h;refine At.f dG hT hmo Tryz.func215 rfl h ?_;refine At.b 2 (λ_ e=>aM [] (aDw e)) λr1=>?_;apply rt;exact At.r 2
def mF(N:Nat)(x5:Int):Nat->Int->Int->Int->Int->Int->Option (Int×Int×Int×Int)
 | 0,_,_,_,_,_=>none
 | k+1,s14,s15,s16,s17,s18=>
  aU (decide (s17>=4294967296)) λx19=>
  aU (U64 ((U64 (4294967296*s18))+s16)) λx20=>
  aU (decide ((U64 (s17*x5)) > x20)) λx21=>
  cond (cond x19 true x21) (
   aU (decide ((U64 (s18+s14))>=4294967296)) λx22=>
   cond x22 (
    some ((s14,s15,s16,U64 (s17 - 1)))) (
    mF N x5 k s14 s15 s16 (U64 (s17 - 1)) (U64 (s18+s14)))) (
   some ((s14,s15,s16,s17)))
def mJ(N:Nat)(x9 x5:Int)(p13:Int×Int×Int×Int):Nat->Int->Int->Option (Int)
 | 0,_,_=>none
 | k+1,s28,s29=>
  aU (decide (s29>=4294967296)) λx30=>
  aU (U64 ((U64 (4294967296*s28))+x9)) λx31=>
  aU (decide ((U64 (s29*x5)) > x31)) λx32=>
  cond (cond x30 true x32) (
   aU (decide ((U64 (s28+p13.1))>=4294967296)) λx33=>
   cond x33 (
    some (U64 (s29 - 1))) (
    mJ N x9 x5 p13 k (U64 (s28+p13.1)) (U64 (s29 - 1)))) (
   some s29)
def jJ(N:Nat)(a0 a1 a2:Int):Option (Int×Int):=
 cond (a2==0) (
  none) (
  cond (decide (a2<=a0)) (
   none) (
   cond (a0==0) (
    aa (aIU .u64 a1 a2) λx1=>
    aa (aPD .u64 a1 a2) λx2=>
    some ((x1,x2))) (
    aa (kN N a2) λr3=>
    aa (aJ4 .u64 a2 (U64 r3)) λx4=>
    aU (fI .u64 x4 4294967295) λx5=>
    aa (aJ4 .u64 a0 (U64 r3)) λx6=>
    aa (aGP .u64 a1 (U64 (64 - (U64 r3)))) λx7=>
    aa (aJ4 .u64 a1 (U64 r3)) λx8=>
    aU (fI .u64 x8 4294967295) λx9=>
    aa (aIU .u64 (bor .u64 x6 x7) (shr .u64 x4 32)) λx10=>
    aU (U64 (x10*(shr .u64 x4 32))) λx11=>
    aU (U64 ((bor .u64 x6 x7) - x11)) λx12=>
    aa (mF N x5 N (shr .u64 x4 32) (bor .u64 x6 x7) (shr .u64 x8 32) x10 x12) λp13=>
    aU (U64 (p13.2.1*4294967296)) λx23=>
    aU (U64 ((U64 (x23+p13.2.2.1)) - (U64 (p13.2.2.2*x4)))) λx24=>
    aa (aIU .u64 x24 p13.1) λx25=>
    aU (U64 (x24 - (U64 (x25*p13.1)))) λx26=>
    aa (mJ N x9 x5 p13 N x26 x25) λp27=>
    aU (U64 (p13.2.2.2*4294967296)) λx34=>
    aU (U64 ((U64 (x24*4294967296))+x9)) λx35=>
    aU (U64 (x35 - (U64 (p27*x4)))) λx36=>
    aa (aGP .u64 x36 (U64 r3)) λx37=>
    some ((U64 (x34+p27),x37)))))
theorem aAa{N a0 a1 a2 r}(h:jJ N a0 a1 a2=some r):FnM Tryz.prog 149 [] [(k64 a0),(k64 a1),(k64 a2)] (.tup [(k64 r.1),(k64 r.2)]) []:=by
 unfold jJ at h;refine At.f dG hT hmo Tryz.func149 rfl h ?_;refine At.c 4 ?_ ?_
 ·exact nn
 ·refine At.c 3 ?_ ?_
  ·exact nn
  ·refine At.c 2 ?_ ?_
   ·refine bi λx1 hx1=>?_;refine bi λx2 hx2=>?_;refine At.d 0 (dE1 2 (λ_=>aDD hT hx1 (by kernel_rfl) (by kernel_rfl)) (dE1 5 (λ_=>aNs hT hx2 (by kernel_rfl) (by kernel_rfl)) dE0)) dF0 ?_;apply rt;exact At.r 0
   ·refine At.b 1 (λ_ e=>aM [] (zQ e)) λr3=>?_;refine At.b 4 (λ_ e=>aC5 hT (k' := .u64) e (by kernel_rfl) (by kernel_rfl)) λx4=>?_;refine lx ?_;intro x5;refine At.b 9 (λ_ e=>aC5 hT (k' := .u64) e (by kernel_rfl) (by kernel_rfl)) λx6=>?_;refine At.b 3 (λ_ e=>zX hT (k' := .u64) e (by kernel_rfl) (by kernel_rfl)) λx7=>?_;refine At.b 4 (λ_ e=>aC5 hT (k' := .u64) e (by kernel_rfl) (by kernel_rfl)) λx8=>?_;refine lx ?_;intro x9;refine At.b 9 (λ_ e=>aDD hT e (by kernel_rfl) (by kernel_rfl)) λx10=>?_;refine lx ?_;intro x11;refine lx ?_;intro x12;refine At.L 7 [2,8,10,14] 0 (λp13=>([(9,(k64 p13.1)),(11,(k64 p13.2.1)),(13,(k64 p13.2.2.1)),(15,(k64 p13.2.2.2))],[],[])) (λp13 J k=>∃s14 s15 s16 s17 s18,mF N x5 k s14 s15 s16 s17 s18=some p13/\J [2,8,10,14] 0 [(9,(k64 s14)),(11,(k64 s15)),(13,(k64 s16)),(15,(k64 s17)),(16,(k64 s18))] [] []) N (λ_ h=>⟨_,_,_,_,_,h,jr⟩) (λp13 k s hI=>?_) λp13=>?_
    ·obtain⟨s14,s15,s16,s17,s18,h,hj⟩:=hI;cases k with
     | zero=>cases h
     | succ k=>
      refine At.jr hj ?_ h;refine lx ?_;intro x19;refine lx ?_;intro x20;refine lx ?_;intro x21;refine At.c 12 ?_ ?_
      ·refine lx ?_;intro x22;refine At.c 9 ?_ ?_
       ·apply rt;exact At.x 0
       ·exact λh=>At.k 0 ⟨_,_,_,_,_,h,jr⟩
      ·apply rt;exact At.x 0
    ·refine lx ?_;intro x23;refine lx ?_;intro x24;refine At.b 11 (λ_ e=>aDD hT e (by kernel_rfl) (by kernel_rfl)) λx25=>?_;refine lx ?_;intro x26;refine At.L 7 [2,8,14,15,17] 0 (λp27=>([(18,(k64 p27))],[],[])) (λp27 J k=>∃s28 s29,mJ N x9 x5 p13 k s28 s29=some p27/\J [2,8,9,10,14,15,17] 0 [(16,(k64 s28)),(18,(k64 s29))] [] []) N (λ_ h=>⟨_,_,h,jr⟩) (λp27 k s hI=>?_) λp27=>?_
     ·obtain⟨s28,s29,h,hj⟩:=hI;cases k with
      | zero=>cases h
      | succ k=>
       refine At.jr hj ?_ h;refine lx ?_;intro x30;refine lx ?_;intro x31;refine lx ?_;intro x32;refine At.c 12 ?_ ?_
       ·refine lx ?_;intro x33;refine At.c 9 ?_ ?_
        ·apply rt;exact At.x 0
        ·exact λh=>At.k 0 ⟨_,_,h,jr⟩
       ·apply rt;exact At.x 0
     ·refine lx ?_;intro x34;refine lx ?_;intro x35;refine lx ?_;intro x36;refine At.b 13 (λ_ e=>zX hT (k' := .u64) e (by kernel_rfl) (by kernel_rfl)) λx37=>?_;apply rt;exact At.r 2
theorem aKQ{x y c:Int}{r:Int×Int}(h:zY x y c=some r):aHr Tryz.prog 216 [.int .u64 x,.int .u64 y,.int .u64 c] (.tuple #[.int .u64 r.1,.int .u64 r.2]):=
 aOg Tryz.func216 (by kernel_rfl) (by kernel_rfl) (by kernel_rfl) (by kernel_rfl) h
def aMA : Nat->Bool:=imL [2]
def pW(N:Nat)(a0:aS)(a1:Int):Option (aS×Int×Bool):=
 cond (a1==0) (
  some ((aS.mk 0 0,0,false))) (
  aa (cond (decide (a0.gHi < 0)) (
   aa (pT N (U64 a0.gHi) a0.gLo) λr2=>
   some ((r2.1,r2.2))) (
   some ((U64 a0.gHi,a0.gLo)))) λp1=>
  aa (tN N a1) λr3=>
  aa (jJ N 0 p1.1 r3.1) λr4=>
  aa (jJ N r4.2 p1.2 r3.1) λr5=>
  aa (aU (!((decide (a0.gHi < 0))==r3.2)) λx7=>
  aU (cond x7 (decide (r5.2 > 0)) false) λx8=>
  cond x8 (
   aa (zY r5.1 1 0) λr9=>
   some ((U64 (r4.1+r9.2),r9.1,U64 (r3.1 - r5.2)))) (
   some ((r4.1,r5.1,r5.2)))) λp6=>
  aU (!((decide (a0.gHi < 0))==r3.2)) λx10=>
  aa (kH N p6.1 p6.2.1 x10) λr11=>
  cond (!r11.2) (
   some ((aS.mk 0 0,0,false))) (
   aa (cond r3.2 (some (U64 (0 - p6.2.2))) (some p6.2.2)) λp12=>
   some ((r11.1,I64 p12,true))))
theorem aAq{N a0 a1 r}(h:pW N a0 a1=some r):FnM Tryz.prog 170 [] [(aS.enc a0),(j64 a1)] (.tup [(aS.enc r.1),(j64 r.2.1),(eB r.2.2)]) []:=by
 unfold pW at h;refine At.f aMA hT hmo Tryz.func170 rfl h ?_;refine At.c 6 ?_ ?_
 ·apply rt;exact At.r 4
 ·refine At.d 0 dE0 dF0 ?_;refine At.J 0 1 [1,2,4] 1 (λp1=>([(7,(k64 p1.1)),(8,(k64 p1.2))],[],[])) (λp1=>?_) λp1=>?_
  ·refine At.c 3 ?_ ?_
   ·refine At.b 2 (λ_ e=>aM [] (aCx e)) λr2=>?_;apply rt;exact At.jn 5
   ·apply rt;exact At.jn 0
  ·refine At.b 1 (λ_ e=>aM [] (aB0 e)) λr3=>?_;refine At.b 7 (λ_ e=>aM [] (aAa e)) λr4=>?_;refine At.b 8 (λ_ e=>aM [] (aAa e)) λr5=>?_;refine At.J 5 1 [2,4,10] 1 (λp6=>([(11,(k64 p6.1)),(13,(k64 p6.2.1)),(14,(k64 p6.2.2))],[],[])) (λp6=>?_) λp6=>?_
   ·refine lx ?_;intro x7;refine lx ?_;intro x8;refine At.c 9 ?_ ?_
    ·refine At.b 1 (λ_ e=>aED (aKQ e) (λ_=>aEp)) λr9=>?_;apply rt;exact At.jn 15
    ·apply rt;exact At.jn 0
   ·refine lx ?_;intro x10;refine At.b 7 (λ_ e=>aM [] (aCX e)) λr11=>?_;refine At.c 7 ?_ ?_
    ·apply rt;exact At.r 4
    ·refine At.J 0 1 [4] 1 (λp12=>([(14,(k64 p12))],[],[])) (λp12=>?_) λp12=>?_
     ·refine At.c 1 ?_ ?_
      ·apply rt;exact At.jn 3
      ·apply rt;exact At.jn 0
     ·apply rt;exact At.r 6
def iZ(N:Nat)(a0 a1:Int):Option (Int):=
 cond (a1==0) (
  cond (decide (a0 > 0)) (
   some 9223372036854775807) (
   cond (decide (a0 < 0)) (some (-9223372036854775808)) (some 0))) (
  aa (fS N a0 4294967296) λr1=>
  aa (pW N r1 a1) λr2=>
  aa (tD N r2.1) λr3=>
  some r3)
theorem lP{N a0 a1 r}(h:iZ N a0 a1=some r):FnM Tryz.prog 93 [] [(j64 a0),(j64 a1)] (j64 r) []:=by
 unfold iZ at h;refine At.f dG hT hmo Tryz.func93 rfl h ?_;refine At.c 3 ?_ ?_
 ·refine At.c 3 ?_ ?_
  ·apply rt;exact At.r 1
  ·refine At.c 3 ?_ ?_
   ·apply rt;exact At.r 1
   ·apply rt;exact At.r 1
 ·refine At.b 1 (λ_ e=>aM [] (lB e)) λr1=>?_;refine At.b 1 (λ_ e=>aM [] (aAq e)) λr2=>?_;refine At.b 9 (λ_ e=>aM [] (aCm e)) λr3=>?_;apply rt;exact At.r 1
def jX(N:Nat)(a0 a1:Int):Option (Int):=
 aa (iR N a0) λr1=>
 aa (iR N a1) λr2=>
 aa (iZ N r1 r2) λr3=>
 some r3
theorem uR{N a0 a1 r}(h:jX N a0 a1=some r):FnM Tryz.prog 299 [] [(j64 a0),(.im (j64 a1))] (j64 r) []:=by
 unfold jX at h;refine At.f dG hT hmo Tryz.func299 rfl h ?_;refine bi λr1 hr1=>?_;refine bi λr2 hr2=>?_;refine bi λr3 hr3=>?_;refine At.d 1 (dE2 1 (j64 r1) (λ_=>aO (iX hr1)) (dE2 3 (j64 r2) (λ_=>aO (iX hr2)) (dE2 4 (j64 r3) (λ_=>aO (lP hr3)) dE0))) dF0 ?_;apply rt;exact At.r 0
def aIi : Nat->Bool:=imL [2,3]
def sE(N:Nat)(a0:(Vector Int 3))(a1:Int):Option (aA):=
 aa (idx a0.toList 0) λe1=>
 aa (jX N e1 a1) λr2=>
 aa (idx a0.toList 1) λe3=>
 aa (jX N e3 a1) λr4=>
 aa (idx a0.toList 2) λe5=>
 aa (jX N e5 a1) λr6=>
 some (aA.mk r2 r4 r6)
theorem aCb{N a0 a1 r}(h:sE N a0 a1=some r):FnM Tryz.prog 238 [] [(eA 3 1 j64 a0),(j64 a1)] (aA.enc r) []:=by
 unfold sE at h;refine At.f aIi hT hmo Tryz.func238 rfl h ?_;refine At.o 3 (rR (x:=(.fn (.func 299) [] [(.im (j64 a1))])) (by kernel_rfl) (by kernel_rfl)) ?_;refine bi λe1 he1=>?_;refine bi λr2 hr2=>?_;refine bi λe3 he3=>?_;refine bi λr4 hr4=>?_;refine bi λe5 he5=>?_;refine bi λr6 hr6=>?_;refine At.d 1 (dE1 1 (λ_=>eM hT (N:=3) (k:=1) j64 a0 he1) (dE2 3 (j64 r2) (λ_=>aO (uR hr2)) (dE1 5 (λ_=>eM hT (N:=3) (k:=1) j64 a0 he3) (dE2 7 (j64 r4) (λ_=>aO (uR hr4)) (dE1 9 (λ_=>eM hT (N:=3) (k:=1) j64 a0 he5) (dE2 11 (j64 r6) (λ_=>aO (uR hr6)) dE0)))))) dF0 ?_;apply rt;exact At.r 0
def aIJ : Nat->Bool:=imL [1]
def pS(N:Nat)(a0:aQ):Option (aA):=
 aa (sE N a0.gB5 65536) λr1=>
 some r1
theorem aAg{N a0 r}(h:pS N a0=some r):FnM Tryz.prog 182 [] [(aQ.enc a0)] (aA.enc r) []:=by
 unfold pS at h;refine At.f aIJ hT hmo Tryz.func182 rfl h ?_;refine At.b 4 (λ_ e=>aM [] (aCb e)) λr1=>?_;apply rt;exact At.r 1
def nQ(N:Nat)(a0:(List Int)):Nat->Int->Int->Option (Int)
 | 0,_,_=>none
 | k+1,s2,s3=>
  aU (decide (s3 < ((a0.length:Int)))) λx4=>
  cond x4 (
   aa (idx a0 s3) λe5=>
   aa (aU (cond (decide (s2 > 0)) (decide (e5 > 0)) false) λx7=>
   aU (decide ((I64 (s2+e5)) < 0)) λx8=>
   cond (cond x7 x8 false) (
    some 9223372036854775807) (
    aU (cond (decide (s2 < 0)) (decide (e5 < 0)) false) λx9=>
    aU (decide ((I64 (s2+e5))>=0)) λx10=>
    cond (cond x9 x10 false) (some (-9223372036854775808)) (some (I64 (s2+e5))))) λp6=>
   nQ N a0 k p6 (I64 (s3+1))) (
   some s2)
def kF(N:Nat)(a0:(List Int)):Option (Int):=
 aa (nQ N a0 N 0 0) λp1=>
 some p1
theorem pR{N a0 r}(h:kF N a0=some r):FnM Tryz.prog 94 [] [(eL 1 j64 a0)] (j64 r) []:=by
 unfold kF at h;refine At.f dG hT hmo Tryz.func94 rfl h ?_;refine At.L 5 [] 0 (λp1=>([(3,(j64 p1))],[],[])) (λp1 J k=>∃s2 s3,nQ N a0 k s2 s3=some p1/\J [7,8] 0 [(3,(j64 s2)),(9,(j64 s3))] [] []) N (λ_ h=>⟨_,_,h,jr⟩) (λp1 k s hI=>?_) λp1=>?_
 ·obtain⟨s2,s3,h,hj⟩:=hI;cases k with
  | zero=>cases h
  | succ k=>
   refine At.jr hj ?_ h;refine lx ?_;intro x4;refine At.c 1 ?_ ?_
   ·refine At.b 0 (λ_ e=>bT hT j64 e) λe5=>?_;refine At.J 6 2 [7,8,9] 0 (λp6=>([(6,(j64 p6))],[],[])) (λp6=>?_) λp6=>?_
    ·refine lx ?_;intro x7;refine lx ?_;intro x8;refine At.c 11 ?_ ?_
     ·apply rt;exact At.jn 1
     ·refine lx ?_;intro x9;refine lx ?_;intro x10;refine At.c 11 ?_ ?_
      ·apply rt;exact At.jn 1
      ·apply rt;exact At.jn 0
    ·exact λh=>At.k 4 ⟨_,_,h,jr⟩
   ·apply rt;exact At.x 0
 ·apply rt;exact At.r 2
def wA(N:Nat)(a0 a1:Int):Option (Int):=
 aa (kF N ([a0,a1])) λr1=>
 some r1
theorem aB6{N a0 a1 r}(h:wA N a0 a1=some r):FnM Tryz.prog 199 [] [(j64 a0),(j64 a1)] (j64 r) []:=by
 unfold wA at h;refine At.f dG hT hmo Tryz.func199 rfl h ?_;refine At.o 3 (bS hT (x:=(.sl 1 2 [(j64 a0),(j64 a1)]))) ?_;refine At.b 0 (λ_ e=>aM [] (pR e)) λr1=>?_;apply rt;exact At.r 1
def aFU : Nat->Bool:=imL [3,4]
def qP(N:Nat)(a0 a1:aA):Option (aA):=
 aa (wA N a0.gX a1.gX) λr1=>
 aa (wA N a0.gY a1.gY) λr2=>
 aa (wA N a0.gZ a1.gZ) λr3=>
 some (aA.mk r1 r2 r3)
theorem aEg{N a0 a1 r}(h:qP N a0 a1=some r):FnM Tryz.prog 198 [] [(aA.enc a0),(aA.enc a1),(.fn (.func 199) [] [])] (aA.enc r) []:=by
 unfold qP at h;refine At.f aFU hT hmo Tryz.func198 rfl h ?_;refine bi λr1 hr1=>?_;refine bi λr2 hr2=>?_;refine bi λr3 hr3=>?_;refine At.d 3 (dE2 5 (j64 r1) (λ_=>aO (aB6 hr1)) (dE2 11 (j64 r2) (λ_=>aO (aB6 hr2)) (dE2 17 (j64 r3) (λ_=>aO (aB6 hr3)) dE0))) dF0 ?_;apply rt;exact At.r 0
def pF(N:Nat)(a0:(List aA)):Nat->aA->Int->Option (aA)
 | 0,_,_=>none
 | k+1,s2,s3=>
  aU (decide (s3 < ((a0.length:Int)))) λx4=>
  cond x4 (
   aa (idx a0 s3) λe5=>
   aa (qP N s2 e5) λr6=>
   pF N a0 k r6 (I64 (s3+1))) (
   some s2)
def kC(N:Nat)(a0:(List aA)):Option (aA):=
 aa (pF N a0 N (aA.mk 0 0 0) 0) λp1=>
 some p1
theorem tM{N a0 r}(h:kC N a0=some r):FnM Tryz.prog 109 [] [(eL 3 aA.enc a0)] (aA.enc r) []:=by
 unfold kC at h;refine At.f dG hT hmo Tryz.func109 rfl h ?_;refine At.L 5 [2,3] 2 (λp1=>([],[(1,.var (aA.enc p1))],[])) (λp1 J k=>∃s2 s3,pF N a0 k s2 s3=some p1/\J [2,3,6,7] 2 [(8,(j64 s3))] [(1,.var (aA.enc s2))] []) N (λ_ h=>⟨_,_,h,jr⟩) (λp1 k s hI=>?_) λp1=>?_
 ·obtain⟨s2,s3,h,hj⟩:=hI;cases k with
  | zero=>cases h
  | succ k=>
   refine At.jr hj ?_ h;refine lx ?_;intro x4;refine At.c 1 ?_ ?_
   ·refine At.b 0 (λ_ e=>bT hT aA.enc e) λe5=>?_;refine At.b 5 (λ_ e=>aM [] (aEg e)) λr6=>?_;exact λh=>At.k 3 ⟨_,_,h,jr⟩
   ·apply rt;exact At.x 0
 ·apply rt;exact At.r 2
def sH(N:Nat)(a0:(List aQ)):Nat->(List aA)->Int->Option ((List aA))
 | 0,_,_=>none
 | k+1,s2,s3=>
  aU (decide (s3 < ((a0.length:Int)))) λx4=>
  cond x4 (
   aa (aa (idx a0 s3) λe6=>
   cond (e6.gJ==2) (
    aa (pS N e6) λr7=>
    aa (sP 24 s2 (([r7]:List aA))) λz8=>
    some ((z8,e6))) (
    some ((s2,e6)))) λp5=>
   sH N a0 k p5.1 (I64 (s3+1))) (
   some s2)
def yD(N:Nat)(a0:(List aQ)):Option (aA):=
 aa (sH N a0 N [] 0) λp1=>
 aa (kC N p1) λr9=>
 some r9
theorem aLc{N a0 r}(h:yD N a0=some r):FnM Tryz.prog 100 [] [(eL 13 aQ.enc a0)] (aA.enc r) []:=by
 unfold yD at h;refine At.f dG hT hmo Tryz.func100 rfl h ?_;refine At.ownn 5 3 3 ?_;refine At.L 0 [2] 2 (λp1=>([(3,(eO 1 3 aA.enc p1))],[(1,.tail (p1.length*3))],[])) (λp1 J k=>∃s2 s3,sH N a0 k s2 s3=some p1/\J [2,6,7] 2 [(3,(eO 1 3 aA.enc s2)),(8,(j64 s3))] [(1,.tail (s2.length*3))] []) N (λ_ h=>⟨_,_,h,jr⟩) (λp1 k s hI=>?_) λp1=>?_
 ·obtain⟨s2,s3,h,hj⟩:=hI;cases k with
  | zero=>cases h
  | succ k=>
   refine At.jr hj ?_ h;refine lx ?_;intro x4;refine At.c 1 ?_ ?_
   ·refine At.J 0 2 [2,6,7,8] 2 (λp5=>([(3,(eO 1 3 aA.enc p5.1))],[(1,.tail (p5.1.length*3))],[.var (aQ.enc p5.2)])) (λp5=>?_) λp5=>?_
    ·refine At.b 0 (λ_ e=>bT hT aQ.enc e) λe6=>?_;refine At.c 6 ?_ ?_
     ·refine At.b 2 (λ_ e=>aM [] (aAg e)) λr7=>?_;refine At.o 0 (bS hT (x:=(.sl 3 1 [(aA.enc r7)]))) ?_;refine At.b 0 (λ_ e=>iW hT aA.enc (id:=1) (k:=3) e) λz8=>?_;apply rt;exact At.jn 1
     ·apply rt;exact At.jn 0
    ·exact λh=>At.k 2 ⟨_,_,h,jr⟩
   ·apply rt;exact At.x 0
 ·refine At.b 1 (λ_ e=>aM [] (tM e)) λr9=>?_;apply rt;exact At.r 1
def iS(N:Nat)(a0:(List (Vector Int 3))):Option ((List (Vector Int 3))):=
 aa (sP 24 (([]:List (Vector Int 3))) a0) λz1=>
 some z1
theorem aAA{N a0 r}(h:iS N a0=some r):FnM Tryz.prog 118 [] [(eL 3 (eA 3 1 j64) a0)] (eL 3 (eA 3 1 j64) r) []:=by
 unfold iS at h;refine At.f dG hT hmo Tryz.func118 rfl h ?_;refine At.q hT 2 (d:=4) (t:=40) (e:=54) (z:=3) (x:=(eL 3 (eA 3 1 j64) a0)) (es:=ai (eA 3 1 j64) a0) rfl ?_ (λhe=>?_)
 ·refine At.o 1 (aAW hT (eA 3 1 j64) (k:=3) ([]:List (Vector Int 3)) (by kernel_rfl) (by kernel_rfl)) ?_;refine At.b 1 (λ_ e=>iW hT (eA 3 1 j64) (id:=0) (k:=3) e) λz1=>?_;apply rt;exact At.r 1
 ·have h0:a0=[]:=jy.1 he;subst h0;change some []=_->_;apply rt;exact At.r 2
def tY(N:Nat)(a0:aD):Option (Unit):=
 some (())
theorem aEr{N a0 r}(h:tY N a0=some r):FnM Tryz.prog 183 [] [(aD.enc a0)] (.fn (.func 239) [] [(.ref 0 [] 0)]) [.var (aD.enc a0)]:=by
 unfold tY at h;refine At.f dG hT hmo Tryz.func183 rfl h ?_;refine At.o 2 (rR (x:=(.fn (.func 239) [] [(.ref 0 [] 0)])) (by kernel_rfl) (by kernel_rfl)) ?_;apply rt;exact At.r 1
def aDP : Nat->Bool:=imL [1]
def nE(N:Nat)(b2:(List aD))(a1 a2:aD):Option ((List aD)):=
 aa (sP 32 b2 (([a2]:List aD))) λz1=>
 some z1
theorem aCv{N:Nat}{b2:(List aD)}{a1:aD}{a2:aD}{r:(List aD)}(h:nE N b2 a1 a2=some r):YldM Tryz.prog (aQf 25 Tryz.f101.body [1,1,1,0,1,0]) [en 5 (.ref 0 [] 0)] [.var (eO 2 2 aD.enc b2),.var (aD.enc a1),.tail (b2.length*2)] [(aD.enc a2)] [.var (eO 2 2 aD.enc r),.var (aD.enc a1),.tail (r.length*2)] none:=by
 unfold nE at h;refine aMl (lo:=4) (by kernel_rfl) (λbk rl=>At.of aDP hT hmo h ?_)
 refine At.to 0 ⟨[en 5 (.ref 0 [] 0),en 19 (aD.enc a2)],[.var (eO 2 2 aD.enc b2),.var (aD.enc a1),.tail (b2.length*2),.loop rl]⟩ ?_;refine At.mid 2 (λrl2=>?_)
 refine At.o 2 (bS hT (x:=(.sl 2 1 [(aD.enc a2)]))) ?_;refine At.b 0 (λ_ e=>iW hT aD.enc (id:=2) (k:=2) e) λz1=>?_;apply rt;exact At.rnd 1
def aJt : Nat->Bool:=imL [3]
def nP(N:Nat)(a0:aD)(a1 a2:Int):Option ((Vector Int 3)):=
 aU (fI .i64 a2 (I64 (a0.gI - 1))) λx1=>
 aU (fI .i64 a1 (I64 (a0.gI - 1))) λx2=>
 aU (I64 ((I64 (x1*a0.gI))+x2)) λx3=>
 aa (idx a0.gA8 x3) λe4=>
 some e4
theorem vC{N a0 a1 a2 r}(h:nP N a0 a1 a2=some r):FnM Tryz.prog 300 [] [(aD.enc a0),(j64 a1),(j64 a2)] (eA 3 1 j64 r) []:=by
 unfold nP at h;refine At.f aJt hT hmo Tryz.func300 rfl h ?_;refine lx ?_;intro x1;refine lx ?_;intro x2;refine lx ?_;intro x3;refine At.b 18 (λ_ e=>bT hT (eA 3 1 j64) e) λe4=>?_;apply rt;exact At.r 2
def aHH : Nat->Bool:=imL [1]
def kU(N:Nat)(r12 r14 r16 r19:(Vector Int 3)):Nat->(Vector Int 3)->Int->Option ((Vector Int 3))
 | 0,_,_=>none
 | k+1,s21,s22=>
  cond (decide (s22 < 3)) (
   aa (fM s22 3) λ_=>
   aa (r12.toList[s22.toNat]?) λe24=>
   aa (fM s22 3) λ_=>
   aa (r14.toList[s22.toNat]?) λe26=>
   aa (fM s22 3) λ_=>
   aa (r16.toList[s22.toNat]?) λe28=>
   aU (I64 ((I64 (e24+e26))+e28)) λx29=>
   aa (fM s22 3) λ_=>
   aa (r19.toList[s22.toNat]?) λe31=>
   aU (I64 ((I64 (x29+e31))+2)) λx32=>
   aa (fM s22 3) λ_=>
   aa (s21.toList[s22.toNat]?) λe34=>
   kU N r12 r14 r16 r19 k (s21.setIfInBounds s22.toNat (I64 (bo x32 4))) (I64 (s22+1))) (
   some s21)
def mO(N:Nat)(x2 x3:Int)(a0:aD):Nat->(List (Vector Int 3))->Int->Option ((List (Vector Int 3)))
 | 0,_,_=>none
 | k+1,s5,s6=>
  aU (decide (s6 < (I64 (x2*x3)))) λx7=>
  cond x7 (
   aU ((I64 (bo a0.gI 2))) λx8=>
   aa (aPD .i64 s6 x8) λx9=>
   aU ((I64 (bo a0.gI 2))) λx10=>
   aa (aIU .i64 s6 x10) λx11=>
   aa (nP N a0 (I64 (2*x9)) (I64 (2*x11))) λr12=>
   aU (I64 ((I64 (2*x9))+1)) λx13=>
   aa (nP N a0 x13 (I64 (2*x11))) λr14=>
   aU (I64 ((I64 (2*x11))+1)) λx15=>
   aa (nP N a0 (I64 (2*x9)) x15) λr16=>
   aU (I64 ((I64 (2*x9))+1)) λx17=>
   aU (I64 ((I64 (2*x11))+1)) λx18=>
   aa (nP N a0 x17 x18) λr19=>
   aa (kU N r12 r14 r16 r19 N (#v[0,0,0]) 0) λp20=>
   aa (sP 24 s5 (([p20]:List (Vector Int 3)))) λz35=>
   mO N x2 x3 a0 k z35 (I64 (s6+1))) (
   some s5)
def sY(N:Nat)(a0:aD):Option (aD):=
 aU (I64 (bo a0.gI 2)) λx1=>
 aU ((I64 (bo a0.gI 2))) λx2=>
 aU ((I64 (bo a0.gI 2))) λx3=>
 aa (mO N x2 x3 a0 N [] 0) λp4=>
 some (aD.mk ((I64 (bo a0.gI 2))) p4)
theorem aGM{N a0 r}(h:sY N a0=some r):FnM Tryz.prog 240 [] [(aD.enc a0)] (aD.enc r) []:=by
 unfold sY at h;refine At.f aHH hT hmo Tryz.func240 rfl h ?_;refine lx ?_;intro x1;refine lx ?_;intro x2;refine lx ?_;intro x3;refine At.ownb 14 1 3 [1] ?_;refine At.L 0 [2,3] 3 (λp4=>([],[(1,.var (.st 2 [(j64 ((I64 (bo a0.gI 2)))),(eO 2 3 (eA 3 1 j64) p4)])),(2,.tail (p4.length*3))],[])) (λp4 J k=>∃s5 s6,mO N x2 x3 a0 k s5 s6=some p4/\J [1,2,3,21] 3 [(22,(j64 s6))] [(1,.var (.st 2 [(j64 ((I64 (bo a0.gI 2)))),(eO 2 3 (eA 3 1 j64) s5)])),(2,.tail (s5.length*3))] []) N (λ_ h=>⟨_,_,h,jr⟩) (λp4 k s hI=>?_) λp4=>?_
 ·obtain⟨s5,s6,h,hj⟩:=hI;cases k with
  | zero=>cases h
  | succ k=>
   refine At.jr hj ?_ h;refine lx ?_;intro x7;refine At.c 1 ?_ ?_
   ·refine lx ?_;intro x8;refine bi λx9 hx9=>?_;refine lx ?_;intro x10;refine bi λx11 hx11=>?_;refine At.d 2 (dE1 3 (λ_=>aNs hT hx9 (by kernel_rfl) (by kernel_rfl)) (dE1 8 (λ_=>aDD hT hx11 (by kernel_rfl) (by kernel_rfl)) dE0)) dF0 ?_;refine bi λr12 hr12=>?_;refine lx ?_;intro x13;refine bi λr14 hr14=>?_;refine lx ?_;intro x15;refine bi λr16 hr16=>?_;refine lx ?_;intro x17;refine lx ?_;intro x18;refine bi λr19 hr19=>?_;refine At.d2 0 [false,false,false,false] (dC2 3 (eA 3 1 j64 r12) (λ_=>aO (vC hr12)) (dC2 8 (eA 3 1 j64 r14) (λ_=>aO (vC hr14)) (dC2 13 (eA 3 1 j64 r16) (λ_=>aO (vC hr16)) (dC2 19 (eA 3 1 j64 r19) (λ_=>aO (vC hr19)) dC0)))) (dS1 20 ⟨(.ref 3 [] 0),3,.var (.arr 3 1 [(j64 0),(j64 0),(j64 0)]),.dead⟩ [[.var (.st 2 [(j64 0),(.v (.slice none 0 0))]),.var (.st 2 [(j64 ((I64 (bo a0.gI 2)))),(eO 2 3 (eA 3 1 j64) s5)]),.tail (s5.length*3),.dead,.dead,.dead,.dead],[.var (.st 2 [(j64 0),(.v (.slice none 0 0))]),.var (.st 2 [(j64 ((I64 (bo a0.gI 2)))),(eO 2 3 (eA 3 1 j64) s5)]),.tail (s5.length*3),.dead,.dead,.dead,.var (.arr 3 1 [(j64 0),(j64 0),(j64 0)])],[.var (.st 2 [(j64 0),(.v (.slice none 0 0))]),.var (.st 2 [(j64 ((I64 (bo a0.gI 2)))),(eO 2 3 (eA 3 1 j64) s5)]),.tail (s5.length*3),.dead,.dead,.var (.arr 3 1 [(j64 0),(j64 0),(j64 0)]),.dead],[.var (.st 2 [(j64 0),(.v (.slice none 0 0))]),.var (.st 2 [(j64 ((I64 (bo a0.gI 2)))),(eO 2 3 (eA 3 1 j64) s5)]),.tail (s5.length*3),.dead,.dead,.var (.arr 3 1 [(j64 0),(j64 0),(j64 0)]),.var (.arr 3 1 [(j64 0),(j64 0),(j64 0)])],[.var (.st 2 [(j64 0),(.v (.slice none 0 0))]),.var (.st 2 [(j64 ((I64 (bo a0.gI 2)))),(eO 2 3 (eA 3 1 j64) s5)]),.tail (s5.length*3),.dead,.var (.arr 3 1 [(j64 0),(j64 0),(j64 0)]),.dead,.dead],[.var (.st 2 [(j64 0),(.v (.slice none 0 0))]),.var (.st 2 [(j64 ((I64 (bo a0.gI 2)))),(eO 2 3 (eA 3 1 j64) s5)]),.tail (s5.length*3),.dead,.var (.arr 3 1 [(j64 0),(j64 0),(j64 0)]),.dead,.var (.arr 3 1 [(j64 0),(j64 0),(j64 0)])],[.var (.st 2 [(j64 0),(.v (.slice none 0 0))]),.var (.st 2 [(j64 ((I64 (bo a0.gI 2)))),(eO 2 3 (eA 3 1 j64) s5)]),.tail (s5.length*3),.dead,.var (.arr 3 1 [(j64 0),(j64 0),(j64 0)]),.var (.arr 3 1 [(j64 0),(j64 0),(j64 0)]),.dead],[.var (.st 2 [(j64 0),(.v (.slice none 0 0))]),.var (.st 2 [(j64 ((I64 (bo a0.gI 2)))),(eO 2 3 (eA 3 1 j64) s5)]),.tail (s5.length*3),.dead,.var (.arr 3 1 [(j64 0),(j64 0),(j64 0)]),.var (.arr 3 1 [(j64 0),(j64 0),(j64 0)]),.var (.arr 3 1 [(j64 0),(j64 0),(j64 0)])]] ⟨aW hT 3 (by kernel_rfl) (by kernel_rfl) (by kernel_rfl),aW hT 3 (by kernel_rfl) (by kernel_rfl) (by kernel_rfl),aW hT 3 (by kernel_rfl) (by kernel_rfl) (by kernel_rfl),aW hT 3 (by kernel_rfl) (by kernel_rfl) (by kernel_rfl),aW hT 3 (by kernel_rfl) (by kernel_rfl) (by kernel_rfl),aW hT 3 (by kernel_rfl) (by kernel_rfl) (by kernel_rfl),aW hT 3 (by kernel_rfl) (by kernel_rfl) (by kernel_rfl),aW hT 3 (by kernel_rfl) (by kernel_rfl) (by kernel_rfl),trivial⟩ (dS1 21 ⟨(.ref 4 [] 0),4,.var (.arr 3 1 [(j64 0),(j64 0),(j64 0)]),.dead⟩ [[.var (.st 2 [(j64 0),(.v (.slice none 0 0))]),.var (.st 2 [(j64 ((I64 (bo a0.gI 2)))),(eO 2 3 (eA 3 1 j64) s5)]),.tail (s5.length*3),.dead,.dead,.dead,.dead],[.var (.st 2 [(j64 0),(.v (.slice none 0 0))]),.var (.st 2 [(j64 ((I64 (bo a0.gI 2)))),(eO 2 3 (eA 3 1 j64) s5)]),.tail (s5.length*3),.dead,.dead,.dead,.var (.arr 3 1 [(j64 0),(j64 0),(j64 0)])],[.var (.st 2 [(j64 0),(.v (.slice none 0 0))]),.var (.st 2 [(j64 ((I64 (bo a0.gI 2)))),(eO 2 3 (eA 3 1 j64) s5)]),.tail (s5.length*3),.dead,.dead,.var (.arr 3 1 [(j64 0),(j64 0),(j64 0)]),.dead],[.var (.st 2 [(j64 0),(.v (.slice none 0 0))]),.var (.st 2 [(j64 ((I64 (bo a0.gI 2)))),(eO 2 3 (eA 3 1 j64) s5)]),.tail (s5.length*3),.dead,.dead,.var (.arr 3 1 [(j64 0),(j64 0),(j64 0)]),.var (.arr 3 1 [(j64 0),(j64 0),(j64 0)])],[.var (.st 2 [(j64 0),(.v (.slice none 0 0))]),.var (.st 2 [(j64 ((I64 (bo a0.gI 2)))),(eO 2 3 (eA 3 1 j64) s5)]),.tail (s5.length*3),.var (.arr 3 1 [(j64 0),(j64 0),(j64 0)]),.dead,.dead,.dead],[.var (.st 2 [(j64 0),(.v (.slice none 0 0))]),.var (.st 2 [(j64 ((I64 (bo a0.gI 2)))),(eO 2 3 (eA 3 1 j64) s5)]),.tail (s5.length*3),.var (.arr 3 1 [(j64 0),(j64 0),(j64 0)]),.dead,.dead,.var (.arr 3 1 [(j64 0),(j64 0),(j64 0)])],[.var (.st 2 [(j64 0),(.v (.slice none 0 0))]),.var (.st 2 [(j64 ((I64 (bo a0.gI 2)))),(eO 2 3 (eA 3 1 j64) s5)]),.tail (s5.length*3),.var (.arr 3 1 [(j64 0),(j64 0),(j64 0)]),.dead,.var (.arr 3 1 [(j64 0),(j64 0),(j64 0)]),.dead],[.var (.st 2 [(j64 0),(.v (.slice none 0 0))]),.var (.st 2 [(j64 ((I64 (bo a0.gI 2)))),(eO 2 3 (eA 3 1 j64) s5)]),.tail (s5.length*3),.var (.arr 3 1 [(j64 0),(j64 0),(j64 0)]),.dead,.var (.arr 3 1 [(j64 0),(j64 0),(j64 0)]),.var (.arr 3 1 [(j64 0),(j64 0),(j64 0)])]] ⟨aW hT 4 (by kernel_rfl) (by kernel_rfl) (by kernel_rfl),aW hT 4 (by kernel_rfl) (by kernel_rfl) (by kernel_rfl),aW hT 4 (by kernel_rfl) (by kernel_rfl) (by kernel_rfl),aW hT 4 (by kernel_rfl) (by kernel_rfl) (by kernel_rfl),aW hT 4 (by kernel_rfl) (by kernel_rfl) (by kernel_rfl),aW hT 4 (by kernel_rfl) (by kernel_rfl) (by kernel_rfl),aW hT 4 (by kernel_rfl) (by kernel_rfl) (by kernel_rfl),aW hT 4 (by kernel_rfl) (by kernel_rfl) (by kernel_rfl),trivial⟩ (dS1 22 ⟨(.ref 5 [] 0),5,.var (.arr 3 1 [(j64 0),(j64 0),(j64 0)]),.dead⟩ [[.var (.st 2 [(j64 0),(.v (.slice none 0 0))]),.var (.st 2 [(j64 ((I64 (bo a0.gI 2)))),(eO 2 3 (eA 3 1 j64) s5)]),.tail (s5.length*3),.dead,.dead,.dead,.dead],[.var (.st 2 [(j64 0),(.v (.slice none 0 0))]),.var (.st 2 [(j64 ((I64 (bo a0.gI 2)))),(eO 2 3 (eA 3 1 j64) s5)]),.tail (s5.length*3),.dead,.dead,.dead,.var (.arr 3 1 [(j64 0),(j64 0),(j64 0)])],[.var (.st 2 [(j64 0),(.v (.slice none 0 0))]),.var (.st 2 [(j64 ((I64 (bo a0.gI 2)))),(eO 2 3 (eA 3 1 j64) s5)]),.tail (s5.length*3),.dead,.var (.arr 3 1 [(j64 0),(j64 0),(j64 0)]),.dead,.dead],[.var (.st 2 [(j64 0),(.v (.slice none 0 0))]),.var (.st 2 [(j64 ((I64 (bo a0.gI 2)))),(eO 2 3 (eA 3 1 j64) s5)]),.tail (s5.length*3),.dead,.var (.arr 3 1 [(j64 0),(j64 0),(j64 0)]),.dead,.var (.arr 3 1 [(j64 0),(j64 0),(j64 0)])],[.var (.st 2 [(j64 0),(.v (.slice none 0 0))]),.var (.st 2 [(j64 ((I64 (bo a0.gI 2)))),(eO 2 3 (eA 3 1 j64) s5)]),.tail (s5.length*3),.var (.arr 3 1 [(j64 0),(j64 0),(j64 0)]),.dead,.dead,.dead],[.var (.st 2 [(j64 0),(.v (.slice none 0 0))]),.var (.st 2 [(j64 ((I64 (bo a0.gI 2)))),(eO 2 3 (eA 3 1 j64) s5)]),.tail (s5.length*3),.var (.arr 3 1 [(j64 0),(j64 0),(j64 0)]),.dead,.dead,.var (.arr 3 1 [(j64 0),(j64 0),(j64 0)])],[.var (.st 2 [(j64 0),(.v (.slice none 0 0))]),.var (.st 2 [(j64 ((I64 (bo a0.gI 2)))),(eO 2 3 (eA 3 1 j64) s5)]),.tail (s5.length*3),.var (.arr 3 1 [(j64 0),(j64 0),(j64 0)]),.var (.arr 3 1 [(j64 0),(j64 0),(j64 0)]),.dead,.dead],[.var (.st 2 [(j64 0),(.v (.slice none 0 0))]),.var (.st 2 [(j64 ((I64 (bo a0.gI 2)))),(eO 2 3 (eA 3 1 j64) s5)]),.tail (s5.length*3),.var (.arr 3 1 [(j64 0),(j64 0),(j64 0)]),.var (.arr 3 1 [(j64 0),(j64 0),(j64 0)]),.dead,.var (.arr 3 1 [(j64 0),(j64 0),(j64 0)])]] ⟨aW hT 5 (by kernel_rfl) (by kernel_rfl) (by kernel_rfl),aW hT 5 (by kernel_rfl) (by kernel_rfl) (by kernel_rfl),aW hT 5 (by kernel_rfl) (by kernel_rfl) (by kernel_rfl),aW hT 5 (by kernel_rfl) (by kernel_rfl) (by kernel_rfl),aW hT 5 (by kernel_rfl) (by kernel_rfl) (by kernel_rfl),aW hT 5 (by kernel_rfl) (by kernel_rfl) (by kernel_rfl),aW hT 5 (by kernel_rfl) (by kernel_rfl) (by kernel_rfl),aW hT 5 (by kernel_rfl) (by kernel_rfl) (by kernel_rfl),trivial⟩ (dS1 23 ⟨(.ref 6 [] 0),6,.var (.arr 3 1 [(j64 0),(j64 0),(j64 0)]),.dead⟩ [[.var (.st 2 [(j64 0),(.v (.slice none 0 0))]),.var (.st 2 [(j64 ((I64 (bo a0.gI 2)))),(eO 2 3 (eA 3 1 j64) s5)]),.tail (s5.length*3),.dead,.dead,.dead,.dead],[.var (.st 2 [(j64 0),(.v (.slice none 0 0))]),.var (.st 2 [(j64 ((I64 (bo a0.gI 2)))),(eO 2 3 (eA 3 1 j64) s5)]),.tail (s5.length*3),.dead,.dead,.var (.arr 3 1 [(j64 0),(j64 0),(j64 0)]),.dead],[.var (.st 2 [(j64 0),(.v (.slice none 0 0))]),.var (.st 2 [(j64 ((I64 (bo a0.gI 2)))),(eO 2 3 (eA 3 1 j64) s5)]),.tail (s5.length*3),.dead,.var (.arr 3 1 [(j64 0),(j64 0),(j64 0)]),.dead,.dead],[.var (.st 2 [(j64 0),(.v (.slice none 0 0))]),.var (.st 2 [(j64 ((I64 (bo a0.gI 2)))),(eO 2 3 (eA 3 1 j64) s5)]),.tail (s5.length*3),.dead,.var (.arr 3 1 [(j64 0),(j64 0),(j64 0)]),.var (.arr 3 1 [(j64 0),(j64 0),(j64 0)]),.dead],[.var (.st 2 [(j64 0),(.v (.slice none 0 0))]),.var (.st 2 [(j64 ((I64 (bo a0.gI 2)))),(eO 2 3 (eA 3 1 j64) s5)]),.tail (s5.length*3),.var (.arr 3 1 [(j64 0),(j64 0),(j64 0)]),.dead,.dead,.dead],[.var (.st 2 [(j64 0),(.v (.slice none 0 0))]),.var (.st 2 [(j64 ((I64 (bo a0.gI 2)))),(eO 2 3 (eA 3 1 j64) s5)]),.tail (s5.length*3),.var (.arr 3 1 [(j64 0),(j64 0),(j64 0)]),.dead,.var (.arr 3 1 [(j64 0),(j64 0),(j64 0)]),.dead],[.var (.st 2 [(j64 0),(.v (.slice none 0 0))]),.var (.st 2 [(j64 ((I64 (bo a0.gI 2)))),(eO 2 3 (eA 3 1 j64) s5)]),.tail (s5.length*3),.var (.arr 3 1 [(j64 0),(j64 0),(j64 0)]),.var (.arr 3 1 [(j64 0),(j64 0),(j64 0)]),.dead,.dead],[.var (.st 2 [(j64 0),(.v (.slice none 0 0))]),.var (.st 2 [(j64 ((I64 (bo a0.gI 2)))),(eO 2 3 (eA 3 1 j64) s5)]),.tail (s5.length*3),.var (.arr 3 1 [(j64 0),(j64 0),(j64 0)]),.var (.arr 3 1 [(j64 0),(j64 0),(j64 0)]),.var (.arr 3 1 [(j64 0),(j64 0),(j64 0)]),.dead]] ⟨aW hT 6 (by kernel_rfl) (by kernel_rfl) (by kernel_rfl),aW hT 6 (by kernel_rfl) (by kernel_rfl) (by kernel_rfl),aW hT 6 (by kernel_rfl) (by kernel_rfl) (by kernel_rfl),aW hT 6 (by kernel_rfl) (by kernel_rfl) (by kernel_rfl),aW hT 6 (by kernel_rfl) (by kernel_rfl) (by kernel_rfl),aW hT 6 (by kernel_rfl) (by kernel_rfl) (by kernel_rfl),aW hT 6 (by kernel_rfl) (by kernel_rfl) (by kernel_rfl),aW hT 6 (by kernel_rfl) (by kernel_rfl) (by kernel_rfl),trivial⟩ dS0)))) ?_;refine At.L 2 [1,2,3,11,21,22] 8 (λp20=>([],[(7,.var (eA 3 1 j64 p20))],[])) (λp20 J k=>∃s21 s22,kU N r12 r14 r16 r19 k s21 s22=some p20/\J [1,2,3,7,8,9,10,11,21,22] 8 [(55,(j64 s22))] [(7,.var (eA 3 1 j64 s21))] []) N (λ_ h=>⟨_,_,h,jr⟩) (λp20 k s hI=>?_) λp20=>?_
    ·obtain⟨s21,s22,h,hj⟩:=hI;cases k with
     | zero=>cases h
     | succ k=>
      refine At.jr hj ?_ h;refine At.c 1 ?_ ?_
      ·refine bi λu23 hu23=>?_;refine bi λe24 he24=>?_;refine bi λu25 hu25=>?_;refine bi λe26 he26=>?_;refine bi λu27 hu27=>?_;refine bi λe28 he28=>?_;refine lx ?_;intro x29;refine bi λu30 hu30=>?_;refine bi λe31 he31=>?_;refine lx ?_;intro x32;refine bi λu33 hu33=>?_;refine bi λe34 he34=>?_;refine At.d 2 (dE1 2 (λ_=>bH hT (k:=1) 3 [] 0 hu23) (dEL hT 3 (j64 e24) j64 0 he24 (dE1 5 (λ_=>bH hT (k:=1) 4 [] 0 hu25) (dEL hT 6 (j64 e26) j64 0 he26 (dE1 9 (λ_=>bH hT (k:=1) 5 [] 0 hu27) (dEL hT 10 (j64 e28) j64 0 he28 (dE1 13 (λ_=>bH hT (k:=1) 6 [] 0 hu30) (dEL hT 14 (j64 e31) j64 0 he31 (dE1 18 (λ_=>bH hT (k:=1) 7 [] 0 hu33) dE0))))))))) (dF 19 (.v (.bool false)) [(7,.var (eA 3 1 j64 (s21.setIfInBounds s22.toNat (I64 (bo x32 4)))))] [] (bG (oL hT j64 0 s21 he34 (I64 (bo x32 4)) (by kernel_rfl) (by kernel_rfl) (H':=[.var (.st 2 [(j64 0),(.v (.slice none 0 0))]),.var (.st 2 [(j64 ((I64 (bo a0.gI 2)))),(eO 2 3 (eA 3 1 j64) s5)]),.tail (s5.length*3),.var (eA 3 1 j64 r12),.var (eA 3 1 j64 r14),.var (eA 3 1 j64 r16),.var (eA 3 1 j64 r19),.var (eA 3 1 j64 (s21.setIfInBounds s22.toNat (I64 (bo x32 4))))]))) dF0) ?_;exact λh=>At.k 2 ⟨_,_,h,jr⟩
      ·apply rt;exact At.x 0
    ·refine At.o 3 (bS hT (x:=(.sl 3 1 [(eA 3 1 j64 p20)]))) ?_;refine At.b 0 (λ_ e=>iW hT (eA 3 1 j64) (id:=2) (k:=3) e) λz35=>?_;exact λh=>At.k 4 ⟨_,_,h,jr⟩
   ·apply rt;exact At.x 0
 ·apply rt;exact At.r 2
def bV(N:Nat)  : Nat->(List aD)->aD->Option ((List aD)×aD)
 | 0,_,_=>none
 | k+1,s2,s3=>
  aa (nE N s2 s3 s3) λr4=>
  cond (decide (s3.gI > 1)) (
   aa (sY N s3) λr5=>
   bV N k r4 r5) (
   some ((r4,s3)))
def eN(N:Nat)(b2:(List aD))(a1:aD):Option ((List aD)×aD):=
 aa (bV N N b2 a1) λp1=>
 some ((p1.1,p1.2))
theorem rT{N:Nat}{b2:(List aD)}{a1:aD}{r:(List aD)×aD}(h:eN N b2 a1=some r):ItM Tryz.prog 239 (aQf 25 Tryz.f101.body [1,1,1,0,1,0]) [en 5 (.ref 0 [] 0)] [.var (eO 2 2 aD.enc b2),.var (aD.enc a1),.tail (b2.length*2)] [(.yld 3),(.ref 1 [] 0)] (.tup []) [.var (eO 2 2 aD.enc r.1),.var (aD.enc r.2),.tail (r.1.length*2)] none:=by
 unfold eN at h;refine aOZ (m:=13) (lo:=4) (rs:=[]) hT Tryz.func239 rfl (by kernel_rfl) rfl (λfn tmps D hsz=>At.of dG hT hmo h ?_)
 refine At.L 0 [] 4 (λp1=>([],[(0,.var (eO 2 2 aD.enc p1.1)),(1,.var (aD.enc p1.2)),(2,.tail (p1.1.length*2))],[])) (λp1 J k=>∃s2 s3,bV N k s2 s3=some p1/\J [0,1] 4 [] [(0,.var (eO 2 2 aD.enc s2)),(1,.var (aD.enc s3)),(2,.tail (s2.length*2))] []) N (λ_ h=>⟨_,_,h,jr⟩) (λp1 k s hI=>?_) λp1=>?_
 ·obtain⟨s2,s3,h,hj⟩:=hI;cases k with
  | zero=>cases h
  | succ k=>
   refine At.jr hj ?_ h;refine At.b 2 (λ_ e=>aRd (aCv e) (fn:=fn) (D:=D) hsz rfl (List.mem_singleton.2 rfl) (by kernel_rfl) (by kernel_rfl)) λr4=>?_;refine At.g [6] 5 ?_;refine At.c 0 ?_ ?_
   ·refine At.b 1 (λ_ e=>aM [] (aGM e)) λr5=>?_;exact λh=>At.k 1 ⟨_,_,h,jr⟩
   ·apply rt;exact At.x 0
 ·apply rt;exact At.z 0
theorem rC : wJ Tryz.prog 239:=aAe (show aBb Tryz.prog 239=true by kernel_rfl)
def aFT : Nat->Bool:=imL [1]
def qM(N:Nat)(a0:aD):Option ((List aD)×Int):=
 aa (jT N a0) λr1=>
 cond (r1 != 0) (
  some (([],r1))) (
  aa (iS N a0.gA8) λr2=>
  aa (tY N (aD.mk a0.gI r2)) λr3=>
  aa (eN N [] ((aD.mk a0.gI r2))) λr4=>
  some ((r4.1,0)))
theorem aEP{N a0 r}(h:qM N a0=some r):FnM Tryz.prog 101 [] [(aD.enc a0)] (.tup [(eL 2 aD.enc r.1),(j64 r.2)]) []:=by
 unfold qM at h;refine At.fR aFT hT hmo Tryz.func101 rfl h ?_;refine At.b 4 (λ_ e=>aM [] (uG e)) λr1=>?_;refine At.c 3 ?_ ?_
 ·apply rt;exact At.r 3
 ·refine bi λr2 hr2=>?_;refine bi λr3 hr3=>?_;refine At.d 1 (dE2 4 (eL 3 (eA 3 1 j64) r2) (λ_=>aO (aAA hr2)) dE0) (dF 6 (.fn (.func 239) [] [(.ref 1 [] 0)]) [] [.var (aD.enc ((aD.mk a0.gI r2)))] (bG (aM [] (aEr hr3))) dF0) ?_;refine At.ownb 0 0 2 [] ?_;refine bi λr4 hr4=>?_;refine At.rg 0 (rT hr4) rC (.tmp 18) [0,1,2] ⟨[en 5 (.ref 0 [] 0)],[.var (eO 2 2 aD.enc r4.1),.var (aD.enc r4.2),.tail (r4.1.length*2)]⟩ [(.ref 1 [] 0)] ?_;apply rt;exact At.r 3
def tC(N:Nat)(a0:(List aH))(a1:Int):Option (Sum (Int) ((List aH)×Int)):=
 aU (cond (decide (a1 < 0)) true (decide (a1 > 4096))) λx1=>
 cond x1 (
  some (Sum.inl 2)) (
  aU (decide (((a0.length:Int)) > a1)) λx2=>
  cond x2 (
   some (Sum.inl 15)) (
   aa (mkO 152 a1) λ_=>
   aa (cpD (List.replicate a1.toNat (aH.mk (#v[aC.mk 0 0 0,aC.mk 0 0 0,aC.mk 0 0 0]) (#v[#v[0,0],#v[0,0],#v[0,0]]) 0 0 0 0:aH)) a0 a1.toNat) λv4=>
   aa (aAl v4 a1.toNat) λ_=>
   some (Sum.inr ((v4,0)))))
theorem aEe{N a0 a1 r}(h:tC N a0 a1=some r):FnM Tryz.prog 102 [] [(eL 19 aH.enc a0),(j64 a1)] (aGI r (λr=>(.tup [(.v (.pointer none)),(j64 r)])) (λr=>(.tup [(.ref 1 [] 0),(j64 r.2)]))) (aGI r (λr=>[]) (λr=>[.dead,.var (.st 3 [(.st 1 [(j64 0)]),(eB true),(eL 19 aH.enc r.1)])])):=by
 unfold tC at h;refine At.f dG hT hmo Tryz.func102 rfl h ?_;refine lx ?_;intro x1;refine At.c 9 ?_ ?_
 ·apply rt;exact At.r 2
 ·refine lx ?_;intro x2;refine At.c 5 ?_ ?_
  ·apply rt;exact At.r 2
  ·refine At.b 1 (λ_ e=>aUQ hT aH.enc ((aH.mk (#v[aC.mk 0 0 0,aC.mk 0 0 0,aC.mk 0 0 0]) (#v[#v[0,0],#v[0,0],#v[0,0]]) 0 0 0 0:aH)) (k:=19) (kd := .st [(0,140),(9,142),(15,3),(16,3),(17,3),(18,5)]) e (by kernel_rfl) (by kernel_rfl) rfl) λu3=>?_;refine At.b 8 (λv4 e=>aQ4 hT aH.enc (id:=0) (k:=19) (N:=a1.toNat*19) (H':=[.var (.arr (a1.toNat*19) 19 (ai aH.enc v4)),.var (.st 3 [(.st 1 [(j64 0)]),(eB true),(.bsl 0 [] 0 19 0 a1.toNat)])]) e (by kernel_rfl) (by kernel_rfl) (by kernel_rfl)) λv4=>?_;refine bi λu5 hu5=>?_;refine At.fz 3 0 19 a1.toNat _ (ai aH.enc v4) (bd _) (lenM aH.enc hu5) ?_;apply rt;exact At.r 0
theorem aGt{N a0 a1 r}(h:tC N a0 a1=some (Sum.inl r)):FnM Tryz.prog 102 [] [(eL 19 aH.enc a0),(j64 a1)] (.tup [(.v (.pointer none)),(j64 r)]) []:=aEe h
theorem aHm{N a0 a1 r}(h:tC N a0 a1=some (Sum.inr r)):FnM Tryz.prog 102 [] [(eL 19 aH.enc a0),(j64 a1)] (.tup [(.ref 1 [] 0),(j64 r.2)]) [.dead,.var (.st 3 [(.st 1 [(j64 0)]),(eB true),(eL 19 aH.enc r.1)])]:=aEe h
def qY(N:Nat)(a0:aH):Nat->aC->aC->Int->Option (aC×aC)
 | 0,_,_,_=>none
 | k+1,s2,s3,s4=>
  aU (decide (s4 < ((3:Int)))) λx5=>
  cond x5 (
   aa (fM s4 3) λ_=>
   aa (a0.gP.toList[s4.toNat]?) λe7=>
   aa (cond (s4==0) (some ((e7,e7))) (some ((s2,s3)))) λp8=>
   qY N a0 k (aC.mk (fN p8.1.gX e7.gX) (fN p8.1.gY e7.gY) (fN p8.1.gZ e7.gZ)) (aC.mk (jR p8.2.gX e7.gX) (jR p8.2.gY e7.gY) (jR p8.2.gZ e7.gZ)) (I64 (s4+1))) (
   some ((s2,s3)))
def yR(N:Nat)(a0:aH):Option (aC×aC):=
 aa (qY N a0 N (aC.mk 0 0 0) (aC.mk 0 0 0) 0) λp1=>
 some ((p1.1,p1.2))
theorem aKE{N a0 r}(h:yR N a0=some r):FnM Tryz.prog 241 [.var (aH.enc a0)] [(.bsl 0 [0] 0 3 0 3)] (.tup [(aC.enc r.1),(aC.enc r.2)]) [.var (aH.enc a0)]:=by
 unfold yR at h;refine At.f dG hT hmo Tryz.func241 rfl h ?_;refine At.L 5 [2,3] 3 (λp1=>([],[(1,.var (aC.enc p1.1)),(2,.var (aC.enc p1.2))],[])) (λp1 J k=>∃s2 s3 s4,qY N a0 k s2 s3 s4=some p1/\J [2,3,6,7] 3 [(8,(j64 s4))] [(1,.var (aC.enc s2)),(2,.var (aC.enc s3))] []) N (λ_ h=>⟨_,_,_,h,jr⟩) (λp1 k s hI=>?_) λp1=>?_
 ·obtain⟨s2,s3,s4,h,hj⟩:=hI;cases k with
  | zero=>cases h
  | succ k=>
   refine At.jr hj ?_ h;refine lx ?_;intro x5;refine At.c 1 ?_ ?_
   ·refine At.b 1 (λ_ e=>aGg hT 0 [0] 0 0 3 (k:=3) e (by kernel_rfl) (by kernel_rfl)) λu6=>?_;refine At.b 0 (λ_ e=>qF hT aC.enc 1 e) λe7=>?_;refine At.J 3 1 [2,3,5,6,7,8] 4 (λp8=>([],[(1,.var (aC.enc p8.1)),(2,.var (aC.enc p8.2))],[])) (λp8=>?_) λp8=>?_
    ·refine At.c 2 ?_ ?_
     ·refine At.d 0 dE0 dF0 ?_;apply rt;exact At.jn 0
     ·apply rt;exact At.jn 0
    ·exact λh=>At.k 36 ⟨_,_,_,h,jr⟩
   ·apply rt;exact At.x 0
 ·refine At.d 0 dE0 dF0 ?_;apply rt;exact At.r 0
def uE(N:Nat)(a0:(List aC)):Nat->aC->aC->Int->Option (aC×aC)
 | 0,_,_,_=>none
 | k+1,s2,s3,s4=>
  aU (decide (s4 < ((a0.length:Int)))) λx5=>
  cond x5 (
   aa (idx a0 s4) λe6=>
   aa (cond (s4==0) (some ((e6,e6))) (some ((s2,s3)))) λp7=>
   uE N a0 k (aC.mk (fN p7.1.gX e6.gX) (fN p7.1.gY e6.gY) (fN p7.1.gZ e6.gZ)) (aC.mk (jR p7.2.gX e6.gX) (jR p7.2.gY e6.gY) (jR p7.2.gZ e6.gZ)) (I64 (s4+1))) (
   some ((s2,s3)))
def nZ(N:Nat)(a0:(List aC)):Option (aC×aC):=
 aa (uE N a0 N (aC.mk 0 0 0) (aC.mk 0 0 0) 0) λp1=>
 some ((p1.1,p1.2))
theorem tP{N a0 r}(h:nZ N a0=some r):FnM Tryz.prog 241 [] [(eL 3 aC.enc a0)] (.tup [(aC.enc r.1),(aC.enc r.2)]) []:=by
 unfold nZ at h;refine At.f dG hT hmo Tryz.func241 rfl h ?_;refine At.L 5 [2,3] 2 (λp1=>([],[(0,.var (aC.enc p1.1)),(1,.var (aC.enc p1.2))],[])) (λp1 J k=>∃s2 s3 s4,uE N a0 k s2 s3 s4=some p1/\J [2,3,6,7] 2 [(8,(j64 s4))] [(0,.var (aC.enc s2)),(1,.var (aC.enc s3))] []) N (λ_ h=>⟨_,_,_,h,jr⟩) (λp1 k s hI=>?_) λp1=>?_
 ·obtain⟨s2,s3,s4,h,hj⟩:=hI;cases k with
  | zero=>cases h
  | succ k=>
   refine At.jr hj ?_ h;refine lx ?_;intro x5;refine At.c 1 ?_ ?_
   ·refine At.b 1 (λ_ e=>bT hT aC.enc e) λe6=>?_;refine At.J 4 1 [2,3,5,6,7,8] 3 (λp7=>([],[(0,.var (aC.enc p7.1)),(1,.var (aC.enc p7.2))],[])) (λp7=>?_) λp7=>?_
    ·refine At.c 2 ?_ ?_
     ·refine At.d 0 dE0 dF0 ?_;apply rt;exact At.jn 0
     ·apply rt;exact At.jn 0
    ·exact λh=>At.k 36 ⟨_,_,_,h,jr⟩
   ·apply rt;exact At.x 0
 ·refine At.d 0 dE0 dF0 ?_;apply rt;exact At.r 0
def oR(N a3:Nat)(b0:(List Int))(a2:Nat)(a1:(List aH)):Nat->aC->aC->Int->Option (aC×aC)
 | 0,_,_,_=>none
 | k+1,s2,s3,s4=>
  aU (decide (s4 < ((a3:Int)))) λx5=>
  cond x5 (
   aa (aa (zB b0.length a2 a3 s4) λ_=>
   aa (b0[(aAF a2 s4.toNat)]?) λe8=>
   aa (idx a1 e8) λe9=>
   aa (xW e9.gP.toList 0 3) λs10=>
   aa (nZ N s10) λr11=>
   cond (s4==0) (
    some ((r11.1,r11.2,r11.1,r11.2))) (
    aa (nZ N ([s2,r11.1])) λr12=>
    aa (nZ N ([s3,r11.2])) λr13=>
    some ((r12.1,r13.2,r11.1,r11.2)))) λp6=>
   oR N a3 b0 a2 a1 k p6.1 p6.2.1 (I64 (s4+1))) (
   some ((s2,s3)))
def wG(N:Nat)(b0:(List Int))(a1:(List aH))(a2 a3:Nat):Option (aC×aC):=
 aa (oR N a3 b0 a2 a1 N (aC.mk 0 0 0) (aC.mk 0 0 0) 0) λp1=>
 some ((p1.1,p1.2))
theorem aIQ{N b0 a1 a2 a3 r}(h:wG N b0 a1 a2 a3=some r):FnM Tryz.prog 242 [.gro 1 (ai j64 b0)] [(eL 19 aH.enc a1),(.gro 0 1 b0.length (.sub a2 a3))] (.tup [(aC.enc r.1),(aC.enc r.2)]) [.gro 1 (ai j64 b0)]:=by
 unfold wG at h;refine At.f dG hT hmo Tryz.func242 rfl h ?_;refine At.L 5 [4,5] 3 (λp1=>([],[(1,.var (aC.enc p1.1)),(2,.var (aC.enc p1.2))],[])) (λp1 J k=>∃s2 s3 s4,oR N a3 b0 a2 a1 k s2 s3 s4=some p1/\J [0,4,5,10,11] 3 [(12,(j64 s4))] [(1,.var (aC.enc s2)),(2,.var (aC.enc s3))] []) N (λ_ h=>⟨_,_,_,h,jr⟩) (λp1 k s hI=>?_) λp1=>?_
 ·obtain⟨s2,s3,s4,h,hj⟩:=hI;cases k with
  | zero=>cases h
  | succ k=>
   refine At.jr hj ?_ h;refine lx ?_;intro x5;refine At.c 1 ?_ ?_
   ·refine At.J 0 2 [0,4,5,10,11,12] 3 (λp6=>([],[(1,.var (aC.enc p6.1)),(2,.var (aC.enc p6.2.1))],[.var (aC.enc p6.2.2.1),.var (aC.enc p6.2.2.2)])) (λp6=>?_) λp6=>?_
    ·refine At.b 1 (λ_ e=>kI hT (id:=0) (k:=1) e (by kernel_rfl) (by kernel_rfl)) λu7=>?_;refine At.b 0 (λ_ e=>pA hT j64 [] e rfl (by kernel_rfl) (by kernel_rfl)) λe8=>?_;refine At.b 4 (λ_ e=>bT hT aH.enc e) λe9=>?_;refine At.b 1 (λ_ e=>aBk hT (N:=9) (k:=3) aC.enc e9.gP e) λs10=>?_;refine At.b 0 (λ_ e=>aM [] (tP e)) λr11=>?_;refine At.c 9 ?_ ?_
     ·refine At.d 0 dE0 dF0 ?_;apply rt;exact At.jn 0
     ·refine At.o 2 (bS hT (x:=(.sl 3 2 [(aC.enc s2),(aC.enc r11.1)]))) ?_;refine At.b 0 (λ_ e=>aM [] (tP e)) λr12=>?_;refine At.o 6 (bS hT (x:=(.sl 3 2 [(aC.enc s3),(aC.enc r11.2)]))) ?_;refine At.b 0 (λ_ e=>aM [] (tP e)) λr13=>?_;apply rt;exact At.jn 4
    ·exact λh=>At.k 2 ⟨_,_,_,h,jr⟩
   ·apply rt;exact At.x 0
 ·refine At.d 0 dE0 dF0 ?_;apply rt;exact At.r 0
def aKe : Nat->Bool:=imL [1]
def jU(N:Nat)(a0:aH):Option (aC):=
 aa (xW a0.gP.toList 0 3) λs1=>
 aa (nZ N s1) λr2=>
 aU (I64 (r2.1.gX+r2.2.gX)) λx3=>
 aU (I64 (r2.1.gY+r2.2.gY)) λx4=>
 aU (I64 (r2.1.gZ+r2.2.gZ)) λx5=>
 some (aC.mk ((I64 (r2.1.gX+r2.2.gX))) ((I64 (r2.1.gY+r2.2.gY))) ((I64 (r2.1.gZ+r2.2.gZ))))
theorem vD{N a0 r}(h:jU N a0=some r):FnM Tryz.prog 301 [] [(aH.enc a0)] (aC.enc r) []:=by
 unfold jU at h;refine At.f aKe hT hmo Tryz.func301 rfl h ?_;refine At.b 3 (λ_ e=>aBk hT (N:=9) (k:=3) aC.enc a0.gP e) λs1=>?_;refine At.b 0 (λ_ e=>aM [] (tP e)) λr2=>?_;refine lx ?_;intro x3;refine lx ?_;intro x4;refine lx ?_;intro x5;apply rt;exact At.r 24
def aME : Nat->Bool:=imL [2]
def lJ(N:Nat)(a0:aC)(a1:Int):Option (Int):=
 aa (idx (#v[a0.gX,a0.gY,a0.gZ]).toList a1) λe1=>
 some e1
theorem nS{N a0 a1 r}(h:lJ N a0 a1=some r):FnM Tryz.prog 302 [] [(aC.enc a0),(j64 a1)] (j64 r) []:=by
 unfold lJ at h;refine At.f aME hT hmo Tryz.func302 rfl h ?_;refine At.b 10 (λ_ e=>aA6 hT j64 (#v[a0.gX,a0.gY,a0.gZ]) e (by kernel_rfl) (by kernel_rfl)) λe1=>?_;apply rt;exact At.r 1
def pE(N:Nat)(a0 a1:Int)(a2:(List aH))(a3:Int):Option (Int):=
 aa (idx a2 a0) λe1=>
 aa (jU N e1) λr2=>
 aa (lJ N r2 a3) λr3=>
 aa (idx a2 a1) λe4=>
 aa (jU N e4) λr5=>
 aa (lJ N r5 a3) λr6=>
 some (I64 (r3 - r6))
theorem aDs{N a0 a1 a2 a3 r}(h:pE N a0 a1 a2 a3=some r):FnM Tryz.prog 304 [.var (j64 a3)] [(j64 a0),(j64 a1),(.im (eL 19 aH.enc a2)),(.ref 0 [] 0)] (j64 r) [.var (j64 a3)]:=by
 unfold pE at h;refine At.f dG hT hmo Tryz.func304 rfl h ?_;refine bi λe1 he1=>?_;refine bi λr2 hr2=>?_;refine bi λr3 hr3=>?_;refine bi λe4 he4=>?_;refine bi λr5 hr5=>?_;refine bi λr6 hr6=>?_;refine At.d 1 (dE1 2 (λ_=>bT hT aH.enc he1) (dE2 4 (aC.enc r2) (λ_=>aO (vD hr2)) (dE2 6 (j64 r3) (λ_=>aO (nS hr3)) (dE1 9 (λ_=>bT hT aH.enc he4) (dE2 11 (aC.enc r5) (λ_=>aO (vD hr5)) (dE2 13 (j64 r6) (λ_=>aO (nS hr6)) dE0)))))) dF0 ?_;apply rt;exact At.r 0
def bM(N:Nat)(a3:Int)(a1:Nat)(a5:(List aH))(a6:Int):Nat->(List Int)->Nat->Int->Option ((List Int)×Nat)
 | 0,_,_,_=>none
 | k+1,s6,s7,s8=>
  aa (cond (decide (s8 > a3)) (
   aa (zB s6.length a1 s7 s8) λ_=>
   aa (s6[(aAF a1 s8.toNat)]?) λe11=>
   aa (zB s6.length a1 s7 (I64 (s8 - 1))) λ_=>
   aa (s6[(aAF a1 ((I64 (s8 - 1)).toNat))]?) λe13=>
   aa (pE N e11 e13 a5 a6) λr14=>
   some (decide (r14 < 0))) (
   some false)) λp9=>
  cond p9 (
   aa (zB s6.length a1 s7 (I64 (s8 - 1))) λ_=>
   aa (s6[(aAF a1 ((I64 (s8 - 1)).toNat))]?) λe16=>
   aa (zB s6.length a1 s7 s8) λ_=>
   aa (s6[(aAF a1 s8.toNat)]?) λe18=>
   aa (zB s6.length a1 s7 s8) λ_=>
   aa (aHT s6 ((aAF a1 s8.toNat)) e16) λz20=>
   aa (zB s6.length a1 s7 (I64 (s8 - 1))) λ_=>
   aa (aHT z20 ((aAF a1 ((I64 (s8 - 1)).toNat))) e18) λz22=>
   bM N a3 a1 a5 a6 k z22 s7 (I64 (s8 - 1))) (
   some ((s6,s7)))
def bX(N:Nat)(a4 a3:Int)(a1:Nat)(a5:(List aH))(a6:Int):Nat->(List Int)->Nat->Int->Option ((List Int))
 | 0,_,_,_=>none
 | k+1,s2,s3,s4=>
  cond (decide (s4 < a4)) (
   aa (bM N a3 a1 a5 a6 N s2 s3 s4) λp5=>
   bX N a4 a3 a1 a5 a6 k p5.1 p5.2 (I64 (s4+1))) (
   some s2)
def bI(N:Nat)(b0:(List Int))(a1 a2:Nat)(a3 a4:Int)(a5:(List aH))(a6:Int):Option ((List Int)):=
 aa (bX N a4 a3 a1 a5 a6 N b0 a2 (I64 (a3+1))) λp1=>
 some p1
theorem jP{N b0 a1 a2 a3 a4 a5 a6 r}(h:bI N b0 a1 a2 a3 a4 a5 a6=some r):FnM Tryz.prog 340 [.gro 1 (ai j64 b0),.var (j64 a6)] [(.gro 0 1 b0.length (.sub a1 a2)),(j64 a3),(j64 a4),(.fn (.func 304) [] [(.im (eL 19 aH.enc a5)),(.ref 1 [] 0)])] (.tup []) [.gro 1 (ai j64 r),.var (j64 a6)]:=by
 unfold bI at h;refine At.f dG hT hmo Tryz.func340 rfl h ?_;refine At.L 3 [] 2 (λp1=>([],[(0,.gro 1 (ai j64 p1))],[])) (λp1 J k=>∃s2 s3 s4,bX N a4 a3 a1 a5 a6 k s2 s3 s4=some p1/\J [1,2,3] 2 [(0,(.gro 0 1 s2.length (.sub a1 s3))),(8,(j64 s4))] [(0,.gro 1 (ai j64 s2))] []) N (λ_ h=>⟨_,_,_,h,jr⟩) (λp1 k s hI=>?_) λp1=>?_
 ·obtain⟨s2,s3,s4,h,hj⟩:=hI;cases k with
  | zero=>cases h
  | succ k=>
   refine At.jr hj ?_ h;refine At.c 3 ?_ ?_
   ·refine At.L 2 [1,2,3,8] 2 (λp5=>([(0,(.gro 0 1 p5.1.length (.sub a1 p5.2)))],[(0,.gro 1 (ai j64 p5.1))],[])) (λp5 J k=>∃s6 s7 s8,bM N a3 a1 a5 a6 k s6 s7 s8=some p5/\J [1,2,3,8] 2 [(0,(.gro 0 1 s6.length (.sub a1 s7))),(9,(j64 s8))] [(0,.gro 1 (ai j64 s6))] []) N (λ_ h=>⟨_,_,_,h,jr⟩) (λp5 k s hI=>?_) λp5=>?_
    ·obtain⟨s6,s7,s8,h,hj⟩:=hI;cases k with
     | zero=>cases h
     | succ k=>
      refine At.jr hj ?_ h;refine At.J 0 0 [0,1,2,3,8,9] 2 (λp9=>([(34,(eB p9))],[],[])) (λp9=>?_) λp9=>?_
      ·refine boI (λhc3=>?_) (λhc3=>?_)
       ·refine bi λu10 hu10=>?_;refine bi λe11 he11=>?_;refine bi λu12 hu12=>?_;refine bi λe13 he13=>?_;refine bi λr14 hr14=>?_;refine At.d 0 (dE1 3 (λ_=>cO hc3 rfl (cF hT (im:=false) (by kernel_rfl))) (dE1 7 (λ_=>kI hT (id:=0) (k:=1) hu10 (by kernel_rfl) (by kernel_rfl)) (dET 8 (j64 e11) [[.gro 1 (ai j64 s6),.var (j64 a6)]] ⟨bG (pA hT j64 [] he11 rfl (by kernel_rfl) (by kernel_rfl)),trivial⟩ (dE1 12 (λ_=>kI hT (id:=0) (k:=1) hu12 (by kernel_rfl) (by kernel_rfl)) (dET 13 (j64 e13) [[.gro 1 (ai j64 s6),.var (j64 a6)]] ⟨bG (pA hT j64 [] he13 rfl (by kernel_rfl) (by kernel_rfl)),trivial⟩ dE0))))) (dF 14 (j64 r14) [] [] (bG (aM [1] (aDs hr14))) dF0) ?_;apply rt;exact At.jn 0
       ·refine At.d 0 (dE1 3 (λ_=>cO hc3 rfl (cF hT (im:=false) (by kernel_rfl))) dE0) dF0 ?_;apply rt;exact At.jn 0
      ·refine At.c 0 ?_ ?_
       ·refine bi λu15 hu15=>?_;refine bi λe16 he16=>?_;refine bi λu17 hu17=>?_;refine bi λe18 he18=>?_;refine bi λu19 hu19=>?_;refine bi λz20 hz20=>?_;refine bi λu21 hu21=>?_;refine bi λz22 hz22=>?_;refine At.d 0 (dE1 8 (λ_=>kI hT (id:=0) (k:=1) hu15 (by kernel_rfl) (by kernel_rfl)) (dET 9 (j64 e16) [[.gro 1 (ai j64 s6),.var (j64 a6)]] ⟨bG (pA hT j64 [] he16 rfl (by kernel_rfl) (by kernel_rfl)),trivial⟩ (dE1 12 (λ_=>kI hT (id:=0) (k:=1) hu17 (by kernel_rfl) (by kernel_rfl)) (dET 13 (j64 e18) [[.gro 1 (ai j64 s6),.var (j64 a6)]] ⟨bG (pA hT j64 [] he18 rfl (by kernel_rfl) (by kernel_rfl)),trivial⟩ (dE1 14 (λ_=>kI hT (id:=0) (k:=1) hu19 (by kernel_rfl) (by kernel_rfl)) (dE1 16 (λ_=>kI hT (id:=0) (k:=1) hu21 (by kernel_rfl) (by kernel_rfl)) dE0)))))) (dF 15 (.v (.bool false)) [(0,.gro 1 (ai j64 z20))] [] (bG (aCZ hT j64 (k:=1) e16 hz20 rfl (by kernel_rfl) (λ_=>by kernel_rfl) (by kernel_rfl) (H':=[.gro 1 (ai j64 z20),.var (j64 a6)]) (by kernel_rfl))) (dF 17 (.v (.bool false)) [(0,.gro 1 (ai j64 z22))] [] (bG (aCZ hT j64 (k:=1) e18 hz22 ((aCu hz20).2.2).symm (by kernel_rfl) (λ_=>by kernel_rfl) (by kernel_rfl) (H':=[.gro 1 (ai j64 z22),.var (j64 a6)]) (by kernel_rfl))) dF0)) ?_;refine At.gl 0 [0] [] 0 s6.length z22.length (((aCu hz22).2.2).trans ((aCu hz20).2.2)) ?_;exact λh=>At.k 3 ⟨_,_,_,h,jr⟩
       ·apply rt;exact At.x 0
    ·exact λh=>At.k 3 ⟨_,_,_,h,jr⟩
   ·apply rt;exact At.x 0
 ·apply rt;exact At.z 0
def cB(N:Nat)(a3:Int)(a1:Nat)(a4:(List aH))(a5:Int):Nat->(List Int)->Nat->Int->Int->Option ((List Int)×Nat×Int)
 | 0,_,_,_,_=>none
 | k+1,s2,s3,s4,s5=>
  cond (decide (s5<=a3)) (
   aa (bI N s2 a1 s3 s4 s5 a4 a5) λr6=>
   aa (aAl r6 s2.length) λ_=>
   cB N a3 a1 a4 a5 k r6 s3 s5 (I64 (s5+20))) (
   some ((s2,s3,s4)))
def fZ(N:Nat)(s11 a3:Int):Nat->Option (Unit)
 | 0=>none
 | k+1=>
  aU (decide ((I64 (2*s11))<=a3)) λx13=>
  cond x13 (none) (some (()))
def dE(N:Nat)(a3:Int):Nat->Int->Option (Unit)
 | 0,_=>none
 | k+1,s11=>
  cond (decide (s11 < a3)) (
   aa (fZ N s11 a3 N ) λp12=>
   aa (aU (decide ((I64 (0+s11)) < a3)) λx15=>
   cond x15 (none) (some (()))) λp14=>
   dE N a3 k (I64 (s11*2))) (
   some (()))
def eY(N:Nat)(b0:(List Int))(a1 a2:Nat)(a3:Int)(a4:(List aH))(a5:Int):Option ((List Int)):=
 aa (cB N a3 a1 a4 a5 N b0 a2 0 20) λp1=>
 aa (bI N p1.1 a1 p1.2.1 p1.2.2 a3 a4 a5) λr8=>
 aa (aAl r8 p1.1.length) λ_=>
 aa (dE N a3 N 20) λp10=>
 some r8
theorem sQ{N b0 a1 a2 a3 a4 a5 r}(h:eY N b0 a1 a2 a3 a4 a5=some r):FnM Tryz.prog 327 [.gro 1 (ai j64 b0),.var (j64 a5)] [(.gro 0 1 b0.length (.sub a1 a2)),(j64 a3),(.fn (.func 304) [] [(.im (eL 19 aH.enc a4)),(.ref 1 [] 0)])] (.tup []) [.gro 1 (ai j64 r),.var (j64 a5)]:=by
 unfold eY at h;refine At.f dG hT hmo Tryz.func327 rfl h ?_;refine At.L 4 [1,2,6] 2 (λp1=>([(0,(.gro 0 1 p1.1.length (.sub a1 p1.2.1))),(7,(j64 p1.2.2))],[(0,.gro 1 (ai j64 p1.1))],[])) (λp1 J k=>∃s2 s3 s4 s5,cB N a3 a1 a4 a5 k s2 s3 s4 s5=some p1/\J [1,2,6] 2 [(0,(.gro 0 1 s2.length (.sub a1 s3))),(7,(j64 s4)),(8,(j64 s5))] [(0,.gro 1 (ai j64 s2))] []) N (λ_ h=>⟨_,_,_,_,h,jr⟩) (λp1 k s hI=>?_) λp1=>?_
 ·obtain⟨s2,s3,s4,s5,h,hj⟩:=hI;cases k with
  | zero=>cases h
  | succ k=>
   refine At.jr hj ?_ h;refine At.c 3 ?_ ?_
   ·refine bi λr6 hr6=>?_;refine bi λu7 hu7=>?_;refine At.o 4 (aM [0,1] (jP hr6)) ?_;refine At.gl 0 [0] [] 0 s2.length r6.length (aC3 hu7) ?_;exact λh=>At.k 6 ⟨_,_,_,_,h,jr⟩
   ·apply rt;exact At.x 0
 ·refine bi λr8 hr8=>?_;refine bi λu9 hu9=>?_;refine At.o 4 (aM [0,1] (jP hr8)) ?_;refine At.gl 0 [0] [] 0 p1.1.length r8.length (aC3 hu9) ?_;refine At.L 0 [] 2 (λp10=>([],[],[])) (λp10 J k=>∃s11,dE N a3 k s11=some p10/\J [0,1,2] 2 [(6,(j64 s11))] [] []) N (λ_ h=>⟨_,h,jr⟩) (λp10 k s hI=>?_) λp10=>?_
  ·obtain⟨s11,h,hj⟩:=hI;cases k with
   | zero=>cases h
   | succ k=>
    refine At.jr hj ?_ h;refine At.c 3 ?_ ?_
    ·refine At.L 4 [0,1,2,6,7] 2 (λp12=>([],[],[])) (λp12 J k=>fZ N s11 a3 k  = some p12/\J [0,1,2,6,7,8] 2 [] [] []) N (λ_ h=>⟨h,jr⟩) (λp12 k s hI=>?_) λp12=>?_
     ·obtain⟨h,hj⟩:=hI;cases k with
      | zero=>cases h
      | succ k=>
       unfold fZ at h;dsimp only at h;refine At.jr hj ?_ h;refine lx ?_;intro x13;refine At.c 3 ?_ ?_
       ·exact nn
       ·apply rt;exact At.x 0
     ·refine At.J 0 1 [0,1,2,6] 2 (λp14=>([],[],[])) (λp14=>?_) λp14=>?_
      ·refine lx ?_;intro x15;refine At.c 7 ?_ ?_
       ·exact nn
       ·apply rt;exact At.jn 0
      ·exact λh=>At.k 3 ⟨_,h,jr⟩
    ·apply rt;exact At.x 0
  ·apply rt;exact At.z 0
def cS(N:Nat)(b0:(List Int))(a1 a2:Nat)(a3:(List aH))(a4:Int):Option ((List Int)):=
 aa (eY N b0 a1 a2 ((a2:Int)) a3 a4) λr1=>
 some r1
theorem rB{N b0 a1 a2 a3 a4 r}(h:cS N b0 a1 a2 a3 a4=some r):FnM Tryz.prog 303 [.gro 1 (ai j64 b0),.var (j64 a4)] [(.gro 0 1 b0.length (.sub a1 a2)),(.fn (.func 304) [] [(.im (eL 19 aH.enc a3)),(.ref 1 [] 0)])] (.tup []) [.gro 1 (ai j64 r),.var (j64 a4)]:=by
 unfold cS at h;refine At.f dG hT hmo Tryz.func303 rfl h ?_;refine At.b 4 (λ_ e=>aM [0,1] (sQ e)) λr1=>?_;apply rt;exact At.z 0
def vU(N:Nat)(a0 a1 a2:Int):Option (Int):=
 aU (I64 ((I64 (a0 - a1))*8)) λx1=>
 aa (aIU .i64 x1 (I64 (a2 - a1))) λx2=>
 some (fN x2 7)
theorem aIF{N a0 a1 a2 r}(h:vU N a0 a1 a2=some r):FnM Tryz.prog 307 [] [(j64 a0),(j64 a1),(j64 a2)] (j64 r) []:=by
 unfold vU at h;refine At.f dG hT hmo Tryz.func307 rfl h ?_;refine lx ?_;intro x1;refine At.b 8 (λ_ e=>aDD hT e (by kernel_rfl) (by kernel_rfl)) λx2=>?_;apply rt;exact At.r 2
def aIA : Nat->Bool:=imL [4]
def oG(N:Nat)(a0:bF)(a1:Int)(a2 a3:aC):Option (bF):=
 cond (a1==0) (
  some a0) (
  aa (cond (decide (a0.gn > 0)) (
   aa (nZ N ([a0.glo,a2])) λr2=>
   aa (nZ N ([a0.ghi,a3])) λr3=>
   some ((r2.1,r3.2))) (
   some ((a2,a3)))) λp1=>
  some (bF.mk (I64 (a0.gn+a1)) p1.1 p1.2))
theorem zA{N a0 a1 a2 a3 r}(h:oG N a0 a1 a2 a3=some r):FnM Tryz.prog 328 [] [(bF.enc a0),(j64 a1),(aC.enc a2),(aC.enc a3)] (bF.enc r) []:=by
 unfold oG at h;refine At.f aIA hT hmo Tryz.func328 rfl h ?_;refine At.c 6 ?_ ?_
 ·apply rt;exact At.r 2
 ·refine At.J 0 1 [1,4,6,7,8] 3 (λp1=>([],[(0,.var (aC.enc p1.1)),(1,.var (aC.enc p1.2))],[])) (λp1=>?_) λp1=>?_
  ·refine At.c 3 ?_ ?_
   ·refine At.o 3 (bS hT (x:=(.sl 3 2 [(aC.enc a0.glo),(aC.enc a2)]))) ?_;refine At.b 0 (λ_ e=>aM [] (tP e)) λr2=>?_;refine At.o 7 (bS hT (x:=(.sl 3 2 [(aC.enc a0.ghi),(aC.enc a3)]))) ?_;refine At.b 0 (λ_ e=>aM [] (tP e)) λr3=>?_;apply rt;exact At.jn 4
   ·apply rt;exact At.jn 0
  ·apply rt;exact At.r 8
def aMa : Nat->Bool:=imL [2,3]
def aB4(N:Nat)(a0 a1:aC):Option (Int):=
 aU (shr .i64 (I64 (a1.gX - a0.gX)) 10) λx1=>
 aU (shr .i64 (I64 (a1.gY - a0.gY)) 10) λx2=>
 aU (shr .i64 (I64 (a1.gZ - a0.gZ)) 10) λx3=>
 aU (I64 ((I64 (x1+1))*(I64 (x2+1)))) λx4=>
 aU (I64 ((I64 (x2+1))*(I64 (x3+1)))) λx5=>
 aU (I64 ((I64 (x3+1))*(I64 (x1+1)))) λx6=>
 aU (I64 ((I64 (x4+x5))+x6)) λx7=>
 some x7
theorem aLu{N a0 a1 r}(h:aB4 N a0 a1=some r):FnM Tryz.prog 342 [] [(aC.enc a0),(aC.enc a1)] (j64 r) []:=by
 unfold aB4 at h;refine At.f aMa hT hmo Tryz.func342 rfl h ?_;refine lx ?_;intro x1;refine lx ?_;intro x2;refine lx ?_;intro x3;refine At.d 3 dE0 dF0 ?_;refine lx ?_;intro x4;refine lx ?_;intro x5;refine lx ?_;intro x6;refine lx ?_;intro x7;apply rt;exact At.r 12
def aGU : Nat->Bool:=imL [1]
def oP(N:Nat)(a0:bF):Option (Int):=
 cond (a0.gn==0) (
  some 1152921504606846976) (
  aa (aB4 N a0.glo a0.ghi) λr1=>
  some (I64 (a0.gn*r1)))
theorem aBO{N a0 r}(h:oP N a0=some r):FnM Tryz.prog 329 [] [(bF.enc a0)] (j64 r) []:=by
 unfold oP at h;refine At.f aGU hT hmo Tryz.func329 rfl h ?_;refine At.c 5 ?_ ?_
 ·apply rt;exact At.r 1
 ·refine bi λr1 hr1=>?_;refine At.d 0 (dE2 6 (j64 r1) (λ_=>aO (aLu hr1)) dE0) dF0 ?_;apply rt;exact At.r 0
def lT(N a3:Nat)(b0:(List Int))(a2:Nat)(a1:(List aH))(a4 a5 a6:Int):Nat->(Vector bF 8)->Int->Option ((Vector bF 8))
 | 0,_,_=>none
 | k+1,s2,s3=>
  aU (decide (s3 < ((a3:Int)))) λx4=>
  cond x4 (
   aa (zB b0.length a2 a3 s3) λ_=>
   aa (b0[(aAF a2 s3.toNat)]?) λe6=>
   aa (idx a1 e6) λe7=>
   aa (xW e7.gP.toList 0 3) λs8=>
   aa (nZ N s8) λr9=>
   aa (idx a1 e6) λe10=>
   aa (jU N e10) λr11=>
   aa (lJ N r11 a4) λr12=>
   aa (vU N r12 a5 a6) λr13=>
   aa (fM r13 8) λ_=>
   aa (s2.toList[r13.toNat]?) λe15=>
   aa (oG N e15 1 r9.1 r9.2) λr16=>
   aa (fM r13 8) λ_=>
   aa (s2.toList[r13.toNat]?) λe18=>
   lT N a3 b0 a2 a1 a4 a5 a6 k (s2.setIfInBounds r13.toNat r16) (I64 (s3+1))) (
   some s2)
def lM(N:Nat)(p1:(Vector bF 8))(s22:Int):Nat->bF->bF->Int->Option (bF×bF)
 | 0,_,_,_=>none
 | k+1,s25,s26,s27=>
  cond (decide (s27 < 8)) (
   aa (aa (idx p1.toList s27) λe29=>
   cond (decide (s27 < s22)) (
    aa (oG N s25 e29.gn e29.glo e29.ghi) λr30=>
    some ((r30,s26,e29))) (
    aa (oG N s26 e29.gn e29.glo e29.ghi) λr31=>
    some ((s25,r31,e29)))) λp28=>
   lM N p1 s22 k p28.1 p28.2.1 (I64 (s27+1))) (
   some ((s25,s26)))
def oA(N:Nat)(p1:(Vector bF 8)):Nat->Int->Int->Int->Option (Int)
 | 0,_,_,_=>none
 | k+1,s20,s21,s22=>
  cond (decide (s22 < 8)) (
   aa (aa (lM N p1 s22 N (bF.mk 0 (aC.mk 0 0 0) (aC.mk 0 0 0)) (bF.mk 0 (aC.mk 0 0 0) (aC.mk 0 0 0)) 0) λp24=>
   aa (oP N p24.1) λr32=>
   aU (fN r32 576460752303423488) λx33=>
   aa (oP N p24.2) λr34=>
   aU (fN r34 576460752303423488) λx35=>
   aU (cond (decide (p24.1.gn > 0)) (decide (p24.2.gn > 0)) false) λx36=>
   aU (decide ((I64 (x33+x35)) < s20)) λx37=>
   cond (cond x36 x37 false) (
    some ((p24.1,p24.2,I64 (x33+x35),s22))) (
    some ((p24.1,p24.2,s20,s21)))) λp23=>
   oA N p1 k p23.2.2.1 p23.2.2.2 (I64 (s22+1))) (
   some s21)
def rU(N:Nat)(b0:(List Int))(a1:(List aH))(a2 a3:Nat)(a4 a5 a6:Int):Option (Int):=
 aa (lT N a3 b0 a2 a1 a4 a5 a6 N (bt 8 (bF.mk 0 (aC.mk 0 0 0) (aC.mk 0 0 0))) 0) λp1=>
 aa (oA N p1 N 2305843009213693952 1 1) λp19=>
 some p19
theorem aFI{N b0 a1 a2 a3 a4 a5 a6 r}(h:rU N b0 a1 a2 a3 a4 a5 a6=some r):FnM Tryz.prog 305 [.gro 1 (ai j64 b0)] [(eL 19 aH.enc a1),(.gro 0 1 b0.length (.sub a2 a3)),(j64 a4),(j64 a5),(j64 a6)] (j64 r) [.gro 1 (ai j64 b0)]:=by
 unfold rU at h;refine At.f dG hT hmo Tryz.func305 rfl h ?_;refine At.L 5 [11] 2 (λp1=>([],[(1,.var (eA 56 7 bF.enc p1))],[])) (λp1 J k=>∃s2 s3,lT N a3 b0 a2 a1 a4 a5 a6 k s2 s3=some p1/\J [0,2,3,4,11,25,26] 2 [(27,(j64 s3))] [(1,.var (eA 56 7 bF.enc s2))] []) N (λ_ h=>⟨_,_,h,jr⟩) (λp1 k s hI=>?_) λp1=>?_
 ·obtain⟨s2,s3,h,hj⟩:=hI;cases k with
  | zero=>cases h
  | succ k=>
   refine At.jr hj ?_ h;refine lx ?_;intro x4;refine At.c 1 ?_ ?_
   ·refine At.b 0 (λ_ e=>kI hT (id:=0) (k:=1) e (by kernel_rfl) (by kernel_rfl)) λu5=>?_;refine At.b 0 (λ_ e=>pA hT j64 [] e rfl (by kernel_rfl) (by kernel_rfl)) λe6=>?_;refine At.b 3 (λ_ e=>bT hT aH.enc e) λe7=>?_;refine At.b 1 (λ_ e=>aBk hT (N:=9) (k:=3) aC.enc e7.gP e) λs8=>?_;refine At.b 0 (λ_ e=>aM [] (tP e)) λr9=>?_;refine At.b 9 (λ_ e=>bT hT aH.enc e) λe10=>?_;refine At.b 1 (λ_ e=>aM [] (vD e)) λr11=>?_;refine At.b 1 (λ_ e=>aM [] (nS e)) λr12=>?_;refine At.b 2 (λ_ e=>aM [] (aIF e)) λr13=>?_;refine bi λu14 hu14=>?_;refine bi λe15 he15=>?_;refine bi λr16 hr16=>?_;refine bi λu17 hu17=>?_;refine bi λe18 he18=>?_;refine At.d 1 (dE1 2 (λ_=>bH hT (k:=7) 1 [] 0 hu14) (dEL hT 3 (bF.enc e15) bF.enc 0 he15 (dE2 6 (bF.enc r16) (λ_=>aO (zA hr16)) (dE1 7 (λ_=>bH hT (k:=7) 1 [] 0 hu17) dE0)))) (dF 8 (.v (.bool false)) [(1,.var (eA 56 7 bF.enc (s2.setIfInBounds r13.toNat r16)))] [] (bG (oL hT bF.enc 0 s2 he18 r16 (by kernel_rfl) (by kernel_rfl) (H':=[.gro 1 (ai j64 b0),.var (eA 56 7 bF.enc (s2.setIfInBounds r13.toNat r16)),.var (aC.enc r9.1),.var (aC.enc r9.2)]))) dF0) ?_;exact λh=>At.k 2 ⟨_,_,h,jr⟩
   ·apply rt;exact At.x 0
 ·refine At.L 3 [] 2 (λp19=>([(18,(j64 p19))],[],[])) (λp19 J k=>∃s20 s21 s22,oA N p1 k s20 s21 s22=some p19/\J [11] 2 [(17,(j64 s20)),(18,(j64 s21)),(19,(j64 s22))] [] []) N (λ_ h=>⟨_,_,_,h,jr⟩) (λp19 k s hI=>?_) λp19=>?_
  ·obtain⟨s20,s21,s22,h,hj⟩:=hI;cases k with
   | zero=>cases h
   | succ k=>
    refine At.jr hj ?_ h;refine At.c 2 ?_ ?_
    ·refine At.J 0 2 [11,19] 2 (λp23=>([(17,(j64 p23.2.2.1)),(18,(j64 p23.2.2.2))],[],[.var (bF.enc p23.1),.var (bF.enc p23.2.1)])) (λp23=>?_) λp23=>?_
     ·refine At.L 4 [11,17,18,19,20,21] 4 (λp24=>([],[(2,.var (bF.enc p24.1)),(3,.var (bF.enc p24.2))],[])) (λp24 J k=>∃s25 s26 s27,lM N p1 s22 k s25 s26 s27=some p24/\J [11,17,18,19,20,21,63] 4 [(64,(j64 s27))] [(2,.var (bF.enc s25)),(3,.var (bF.enc s26))] []) N (λ_ h=>⟨_,_,_,h,jr⟩) (λp24 k s hI=>?_) λp24=>?_
      ·obtain⟨s25,s26,s27,h,hj⟩:=hI;cases k with
       | zero=>cases h
       | succ k=>
        refine At.jr hj ?_ h;refine At.c 1 ?_ ?_
        ·refine At.J 0 2 [11,17,18,19,20,21,63,64] 4 (λp28=>([],[(2,.var (bF.enc p28.1)),(3,.var (bF.enc p28.2.1))],[.var (bF.enc p28.2.2)])) (λp28=>?_) λp28=>?_
         ·refine At.b 1 (λ_ e=>aA6 hT bF.enc p1 e (by kernel_rfl) (by kernel_rfl)) λe29=>?_;refine At.c 6 ?_ ?_
          ·refine At.b 7 (λ_ e=>aM [] (zA e)) λr30=>?_;apply rt;exact At.jn 1
          ·refine At.b 7 (λ_ e=>aM [] (zA e)) λr31=>?_;apply rt;exact At.jn 1
         ·exact λh=>At.k 2 ⟨_,_,_,h,jr⟩
        ·apply rt;exact At.x 0
      ·refine bi λr32 hr32=>?_;refine lx ?_;intro x33;refine bi λr34 hr34=>?_;refine lx ?_;intro x35;refine At.d 0 (dE2 1 (j64 r32) (λ_=>aO (aBO hr32)) (dE2 4 (j64 r34) (λ_=>aO (aBO hr34)) dE0)) dF0 ?_;refine lx ?_;intro x36;refine lx ?_;intro x37;refine At.c 13 ?_ ?_
       ·apply rt;exact At.jn 4
       ·apply rt;exact At.jn 0
     ·exact λh=>At.k 3 ⟨_,_,_,h,jr⟩
    ·apply rt;exact At.x 0
  ·apply rt;exact At.r 2
def iF(N:Nat)(a0:Int)(a1:(List aH))(a2 a3 a4 a5:Int):Option (Bool):=
 aa (idx a1 a0) λe1=>
 aa (jU N e1) λr2=>
 aa (lJ N r2 a5) λr3=>
 aa (vU N r3 a2 a3) λr4=>
 some (decide (r4>=a4))
theorem pQ{N a0 a1 a2 a3 a4 a5 r}(h:iF N a0 a1 a2 a3 a4 a5=some r):FnM Tryz.prog 306 [.var (j64 a5)] [(j64 a0),(.im (eL 19 aH.enc a1)),(.ref 0 [] 0),(.im (j64 a2)),(.im (j64 a3)),(.im (j64 a4))] (eB r) [.var (j64 a5)]:=by
 unfold iF at h;refine At.f dG hT hmo Tryz.func306 rfl h ?_;refine bi λe1 he1=>?_;refine bi λr2 hr2=>?_;refine bi λr3 hr3=>?_;refine bi λr4 hr4=>?_;refine At.d 1 (dE1 2 (λ_=>bT hT aH.enc he1) (dE2 4 (aC.enc r2) (λ_=>aO (vD hr2)) (dE2 6 (j64 r3) (λ_=>aO (nS hr3)) (dE2 9 (j64 r4) (λ_=>aO (aIF hr4)) dE0)))) dF0 ?_;apply rt;exact At.r 0
def qJ(N:Nat)(a0 a1:Int)(a2:(List aH))(a3 a4 a5 a6:Int):Option (Int):=
 aa (iF N a0 a2 a3 a4 a5 a6) λr1=>
 aa (iF N a1 a2 a3 a4 a5 a6) λr2=>
 cond (r1==r2) (
  some 0) (
  aa (iF N a1 a2 a3 a4 a5 a6) λr3=>
  cond r3 (some (-1)) (some 1))
theorem aEa{N a0 a1 a2 a3 a4 a5 a6 r}(h:qJ N a0 a1 a2 a3 a4 a5 a6=some r):FnM Tryz.prog 308 [.var (.fn (.func 306) [] [(.im (eL 19 aH.enc a2)),(.ref 1 [] 0),(.im (j64 a3)),(.im (j64 a4)),(.im (j64 a5))]),.var (j64 a6)] [(j64 a0),(j64 a1),(.ref 0 [] 0)] (j64 r) [.var (.fn (.func 306) [] [(.im (eL 19 aH.enc a2)),(.ref 1 [] 0),(.im (j64 a3)),(.im (j64 a4)),(.im (j64 a5))]),.var (j64 a6)]:=by
 unfold qJ at h;refine At.f dG hT hmo Tryz.func308 rfl h ?_;refine bi λr1 hr1=>?_;refine bi λr2 hr2=>?_;refine At.d 1 dE0 (dF 2 (eB r1) [] [] (bG (aM [1] (pQ hr1))) (dF 5 (eB r2) [] [] (bG (aM [1] (pQ hr2))) dF0)) ?_;refine At.c 0 ?_ ?_
 ·apply rt;exact At.r 1
 ·refine At.b 2 (λ_ e=>aM [1] (pQ e)) λr3=>?_;refine At.c 1 ?_ ?_
  ·apply rt;exact At.r 1
  ·apply rt;exact At.r 1
def bN(N:Nat)(a3:Int)(a1:Nat)(a5:(List aH))(a6 a7 a8 a9:Int):Nat->(List Int)->Nat->Int->Option ((List Int)×Nat)
 | 0,_,_,_=>none
 | k+1,s6,s7,s8=>
  aa (cond (decide (s8 > a3)) (
   aa (zB s6.length a1 s7 s8) λ_=>
   aa (s6[(aAF a1 s8.toNat)]?) λe11=>
   aa (zB s6.length a1 s7 (I64 (s8 - 1))) λ_=>
   aa (s6[(aAF a1 ((I64 (s8 - 1)).toNat))]?) λe13=>
   aa (qJ N e11 e13 a5 a6 a7 a8 a9) λr14=>
   some (decide (r14 < 0))) (
   some false)) λp9=>
  cond p9 (
   aa (zB s6.length a1 s7 (I64 (s8 - 1))) λ_=>
   aa (s6[(aAF a1 ((I64 (s8 - 1)).toNat))]?) λe16=>
   aa (zB s6.length a1 s7 s8) λ_=>
   aa (s6[(aAF a1 s8.toNat)]?) λe18=>
   aa (zB s6.length a1 s7 s8) λ_=>
   aa (aHT s6 ((aAF a1 s8.toNat)) e16) λz20=>
   aa (zB s6.length a1 s7 (I64 (s8 - 1))) λ_=>
   aa (aHT z20 ((aAF a1 ((I64 (s8 - 1)).toNat))) e18) λz22=>
   bN N a3 a1 a5 a6 a7 a8 a9 k z22 s7 (I64 (s8 - 1))) (
   some ((s6,s7)))
def cC(N:Nat)(a4 a3:Int)(a1:Nat)(a5:(List aH))(a6 a7 a8 a9:Int):Nat->(List Int)->Nat->Int->Option ((List Int))
 | 0,_,_,_=>none
 | k+1,s2,s3,s4=>
  cond (decide (s4 < a4)) (
   aa (bN N a3 a1 a5 a6 a7 a8 a9 N s2 s3 s4) λp5=>
   cC N a4 a3 a1 a5 a6 a7 a8 a9 k p5.1 p5.2 (I64 (s4+1))) (
   some s2)
def bK(N:Nat)(b0:(List Int))(a1 a2:Nat)(a3 a4:Int)(a5:(List aH))(a6 a7 a8 a9:Int):Option ((List Int)):=
 aa (cC N a4 a3 a1 a5 a6 a7 a8 a9 N b0 a2 (I64 (a3+1))) λp1=>
 some p1
theorem jV{N b0 a1 a2 a3 a4 a5 a6 a7 a8 a9 r}(h:bK N b0 a1 a2 a3 a4 a5 a6 a7 a8 a9=some r):FnM Tryz.prog 340 [.gro 1 (ai j64 b0),.var (.fn (.func 306) [] [(.im (eL 19 aH.enc a5)),(.ref 2 [] 0),(.im (j64 a6)),(.im (j64 a7)),(.im (j64 a8))]),.var (j64 a9)] [(.gro 0 1 b0.length (.sub a1 a2)),(j64 a3),(j64 a4),(.fn (.func 308) [] [(.ref 1 [] 0)])] (.tup []) [.gro 1 (ai j64 r),.var (.fn (.func 306) [] [(.im (eL 19 aH.enc a5)),(.ref 2 [] 0),(.im (j64 a6)),(.im (j64 a7)),(.im (j64 a8))]),.var (j64 a9)]:=by
 unfold bK at h;refine At.f dG hT hmo Tryz.func340 rfl h ?_;refine At.L 3 [] 3 (λp1=>([],[(0,.gro 1 (ai j64 p1))],[])) (λp1 J k=>∃s2 s3 s4,cC N a4 a3 a1 a5 a6 a7 a8 a9 k s2 s3 s4=some p1/\J [1,2,3] 3 [(0,(.gro 0 1 s2.length (.sub a1 s3))),(8,(j64 s4))] [(0,.gro 1 (ai j64 s2))] []) N (λ_ h=>⟨_,_,_,h,jr⟩) (λp1 k s hI=>?_) λp1=>?_
 ·obtain⟨s2,s3,s4,h,hj⟩:=hI;cases k with
  | zero=>cases h
  | succ k=>
   refine At.jr hj ?_ h;refine At.c 3 ?_ ?_
   ·refine At.L 2 [1,2,3,8] 3 (λp5=>([(0,(.gro 0 1 p5.1.length (.sub a1 p5.2)))],[(0,.gro 1 (ai j64 p5.1))],[])) (λp5 J k=>∃s6 s7 s8,bN N a3 a1 a5 a6 a7 a8 a9 k s6 s7 s8=some p5/\J [1,2,3,8] 3 [(0,(.gro 0 1 s6.length (.sub a1 s7))),(9,(j64 s8))] [(0,.gro 1 (ai j64 s6))] []) N (λ_ h=>⟨_,_,_,h,jr⟩) (λp5 k s hI=>?_) λp5=>?_
    ·obtain⟨s6,s7,s8,h,hj⟩:=hI;cases k with
     | zero=>cases h
     | succ k=>
      refine At.jr hj ?_ h;refine At.J 0 0 [0,1,2,3,8,9] 3 (λp9=>([(34,(eB p9))],[],[])) (λp9=>?_) λp9=>?_
      ·refine boI (λhc3=>?_) (λhc3=>?_)
       ·refine bi λu10 hu10=>?_;refine bi λe11 he11=>?_;refine bi λu12 hu12=>?_;refine bi λe13 he13=>?_;refine bi λr14 hr14=>?_;refine At.d 0 (dE1 3 (λ_=>cO hc3 rfl (cF hT (im:=false) (by kernel_rfl))) (dE1 7 (λ_=>kI hT (id:=0) (k:=1) hu10 (by kernel_rfl) (by kernel_rfl)) (dET 8 (j64 e11) [[.gro 1 (ai j64 s6),.var (.fn (.func 306) [] [(.im (eL 19 aH.enc a5)),(.ref 2 [] 0),(.im (j64 a6)),(.im (j64 a7)),(.im (j64 a8))]),.var (j64 a9)]] ⟨bG (pA hT j64 [] he11 rfl (by kernel_rfl) (by kernel_rfl)),trivial⟩ (dE1 12 (λ_=>kI hT (id:=0) (k:=1) hu12 (by kernel_rfl) (by kernel_rfl)) (dET 13 (j64 e13) [[.gro 1 (ai j64 s6),.var (.fn (.func 306) [] [(.im (eL 19 aH.enc a5)),(.ref 2 [] 0),(.im (j64 a6)),(.im (j64 a7)),(.im (j64 a8))]),.var (j64 a9)]] ⟨bG (pA hT j64 [] he13 rfl (by kernel_rfl) (by kernel_rfl)),trivial⟩ dE0))))) (dF 14 (j64 r14) [] [] (bG (aM [1,2] (aEa hr14))) dF0) ?_;apply rt;exact At.jn 0
       ·refine At.d 0 (dE1 3 (λ_=>cO hc3 rfl (cF hT (im:=false) (by kernel_rfl))) dE0) dF0 ?_;apply rt;exact At.jn 0
      ·refine At.c 0 ?_ ?_
       ·refine bi λu15 hu15=>?_;refine bi λe16 he16=>?_;refine bi λu17 hu17=>?_;refine bi λe18 he18=>?_;refine bi λu19 hu19=>?_;refine bi λz20 hz20=>?_;refine bi λu21 hu21=>?_;refine bi λz22 hz22=>?_;refine At.d 0 (dE1 8 (λ_=>kI hT (id:=0) (k:=1) hu15 (by kernel_rfl) (by kernel_rfl)) (dET 9 (j64 e16) [[.gro 1 (ai j64 s6),.var (.fn (.func 306) [] [(.im (eL 19 aH.enc a5)),(.ref 2 [] 0),(.im (j64 a6)),(.im (j64 a7)),(.im (j64 a8))]),.var (j64 a9)]] ⟨bG (pA hT j64 [] he16 rfl (by kernel_rfl) (by kernel_rfl)),trivial⟩ (dE1 12 (λ_=>kI hT (id:=0) (k:=1) hu17 (by kernel_rfl) (by kernel_rfl)) (dET 13 (j64 e18) [[.gro 1 (ai j64 s6),.var (.fn (.func 306) [] [(.im (eL 19 aH.enc a5)),(.ref 2 [] 0),(.im (j64 a6)),(.im (j64 a7)),(.im (j64 a8))]),.var (j64 a9)]] ⟨bG (pA hT j64 [] he18 rfl (by kernel_rfl) (by kernel_rfl)),trivial⟩ (dE1 14 (λ_=>kI hT (id:=0) (k:=1) hu19 (by kernel_rfl) (by kernel_rfl)) (dE1 16 (λ_=>kI hT (id:=0) (k:=1) hu21 (by kernel_rfl) (by kernel_rfl)) dE0)))))) (dF 15 (.v (.bool false)) [(0,.gro 1 (ai j64 z20))] [] (bG (aCZ hT j64 (k:=1) e16 hz20 rfl (by kernel_rfl) (λ_=>by kernel_rfl) (by kernel_rfl) (H':=[.gro 1 (ai j64 z20),.var (.fn (.func 306) [] [(.im (eL 19 aH.enc a5)),(.ref 2 [] 0),(.im (j64 a6)),(.im (j64 a7)),(.im (j64 a8))]),.var (j64 a9)]) (by kernel_rfl))) (dF 17 (.v (.bool false)) [(0,.gro 1 (ai j64 z22))] [] (bG (aCZ hT j64 (k:=1) e18 hz22 ((aCu hz20).2.2).symm (by kernel_rfl) (λ_=>by kernel_rfl) (by kernel_rfl) (H':=[.gro 1 (ai j64 z22),.var (.fn (.func 306) [] [(.im (eL 19 aH.enc a5)),(.ref 2 [] 0),(.im (j64 a6)),(.im (j64 a7)),(.im (j64 a8))]),.var (j64 a9)]) (by kernel_rfl))) dF0)) ?_;refine At.gl 0 [0] [] 0 s6.length z22.length (((aCu hz22).2.2).trans ((aCu hz20).2.2)) ?_;exact λh=>At.k 3 ⟨_,_,_,h,jr⟩
       ·apply rt;exact At.x 0
    ·exact λh=>At.k 3 ⟨_,_,_,h,jr⟩
   ·apply rt;exact At.x 0
 ·apply rt;exact At.z 0
def cG(N:Nat)(a3:Int)(a1:Nat)(a4:(List aH))(a5 a6 a7 a8:Int):Nat->(List Int)->Nat->Int->Int->Option ((List Int)×Nat×Int)
 | 0,_,_,_,_=>none
 | k+1,s2,s3,s4,s5=>
  cond (decide (s5<=a3)) (
   aa (bK N s2 a1 s3 s4 s5 a4 a5 a6 a7 a8) λr6=>
   aa (aAl r6 s2.length) λ_=>
   cG N a3 a1 a4 a5 a6 a7 a8 k r6 s3 s5 (I64 (s5+20))) (
   some ((s2,s3,s4)))
def iJ(N:Nat)(s11 a3:Int):Nat->Option (Unit)
 | 0=>none
 | k+1=>
  aU (decide ((I64 (2*s11))<=a3)) λx13=>
  cond x13 (none) (some (()))
def dN(N:Nat)(a3:Int):Nat->Int->Option (Unit)
 | 0,_=>none
 | k+1,s11=>
  cond (decide (s11 < a3)) (
   aa (iJ N s11 a3 N ) λp12=>
   aa (aU (decide ((I64 (0+s11)) < a3)) λx15=>
   cond x15 (none) (some (()))) λp14=>
   dN N a3 k (I64 (s11*2))) (
   some (()))
def fE(N:Nat)(b0:(List Int))(a1 a2:Nat)(a3:Int)(a4:(List aH))(a5 a6 a7 a8:Int):Option ((List Int)):=
 aa (cG N a3 a1 a4 a5 a6 a7 a8 N b0 a2 0 20) λp1=>
 aa (bK N p1.1 a1 p1.2.1 p1.2.2 a3 a4 a5 a6 a7 a8) λr8=>
 aa (aAl r8 p1.1.length) λ_=>
 aa (dN N a3 N 20) λp10=>
 some r8
theorem sX{N b0 a1 a2 a3 a4 a5 a6 a7 a8 r}(h:fE N b0 a1 a2 a3 a4 a5 a6 a7 a8=some r):FnM Tryz.prog 327 [.gro 1 (ai j64 b0),.var (.fn (.func 306) [] [(.im (eL 19 aH.enc a4)),(.ref 2 [] 0),(.im (j64 a5)),(.im (j64 a6)),(.im (j64 a7))]),.var (j64 a8)] [(.gro 0 1 b0.length (.sub a1 a2)),(j64 a3),(.fn (.func 308) [] [(.ref 1 [] 0)])] (.tup []) [.gro 1 (ai j64 r),.var (.fn (.func 306) [] [(.im (eL 19 aH.enc a4)),(.ref 2 [] 0),(.im (j64 a5)),(.im (j64 a6)),(.im (j64 a7))]),.var (j64 a8)]:=by
 unfold fE at h;refine At.f dG hT hmo Tryz.func327 rfl h ?_;refine At.L 4 [1,2,6] 3 (λp1=>([(0,(.gro 0 1 p1.1.length (.sub a1 p1.2.1))),(7,(j64 p1.2.2))],[(0,.gro 1 (ai j64 p1.1))],[])) (λp1 J k=>∃s2 s3 s4 s5,cG N a3 a1 a4 a5 a6 a7 a8 k s2 s3 s4 s5=some p1/\J [1,2,6] 3 [(0,(.gro 0 1 s2.length (.sub a1 s3))),(7,(j64 s4)),(8,(j64 s5))] [(0,.gro 1 (ai j64 s2))] []) N (λ_ h=>⟨_,_,_,_,h,jr⟩) (λp1 k s hI=>?_) λp1=>?_
 ·obtain⟨s2,s3,s4,s5,h,hj⟩:=hI;cases k with
  | zero=>cases h
  | succ k=>
   refine At.jr hj ?_ h;refine At.c 3 ?_ ?_
   ·refine bi λr6 hr6=>?_;refine bi λu7 hu7=>?_;refine At.o 4 (aM [0,1,2] (jV hr6)) ?_;refine At.gl 0 [0] [] 0 s2.length r6.length (aC3 hu7) ?_;exact λh=>At.k 6 ⟨_,_,_,_,h,jr⟩
   ·apply rt;exact At.x 0
 ·refine bi λr8 hr8=>?_;refine bi λu9 hu9=>?_;refine At.o 4 (aM [0,1,2] (jV hr8)) ?_;refine At.gl 0 [0] [] 0 p1.1.length r8.length (aC3 hu9) ?_;refine At.L 0 [] 3 (λp10=>([],[],[])) (λp10 J k=>∃s11,dN N a3 k s11=some p10/\J [0,1,2] 3 [(6,(j64 s11))] [] []) N (λ_ h=>⟨_,h,jr⟩) (λp10 k s hI=>?_) λp10=>?_
  ·obtain⟨s11,h,hj⟩:=hI;cases k with
   | zero=>cases h
   | succ k=>
    refine At.jr hj ?_ h;refine At.c 3 ?_ ?_
    ·refine At.L 4 [0,1,2,6,7] 3 (λp12=>([],[],[])) (λp12 J k=>iJ N s11 a3 k  = some p12/\J [0,1,2,6,7,8] 3 [] [] []) N (λ_ h=>⟨h,jr⟩) (λp12 k s hI=>?_) λp12=>?_
     ·obtain⟨h,hj⟩:=hI;cases k with
      | zero=>cases h
      | succ k=>
       unfold iJ at h;dsimp only at h;refine At.jr hj ?_ h;refine lx ?_;intro x13;refine At.c 3 ?_ ?_
       ·exact nn
       ·apply rt;exact At.x 0
     ·refine At.J 0 1 [0,1,2,6] 3 (λp14=>([],[],[])) (λp14=>?_) λp14=>?_
      ·refine lx ?_;intro x15;refine At.c 7 ?_ ?_
       ·exact nn
       ·apply rt;exact At.jn 0
      ·exact λh=>At.k 3 ⟨_,h,jr⟩
    ·apply rt;exact At.x 0
  ·apply rt;exact At.z 0
def dA(N:Nat)(b0:(List Int))(a1 a2:Nat)(a3:(List aH))(a4 a5 a6 a7:Int):Option ((List Int)):=
 aa (fE N b0 a1 a2 ((a2:Int)) a3 a4 a5 a6 a7) λr1=>
 some r1
theorem rE{N b0 a1 a2 a3 a4 a5 a6 a7 r}(h:dA N b0 a1 a2 a3 a4 a5 a6 a7=some r):FnM Tryz.prog 303 [.gro 1 (ai j64 b0),.var (.fn (.func 306) [] [(.im (eL 19 aH.enc a3)),(.ref 2 [] 0),(.im (j64 a4)),(.im (j64 a5)),(.im (j64 a6))]),.var (j64 a7)] [(.gro 0 1 b0.length (.sub a1 a2)),(.fn (.func 308) [] [(.ref 1 [] 0)])] (.tup []) [.gro 1 (ai j64 r),.var (.fn (.func 306) [] [(.im (eL 19 aH.enc a3)),(.ref 2 [] 0),(.im (j64 a4)),(.im (j64 a5)),(.im (j64 a6))]),.var (j64 a7)]:=by
 unfold dA at h;refine At.f dG hT hmo Tryz.func303 rfl h ?_;refine At.b 4 (λ_ e=>aM [0,1,2] (sX e)) λr1=>?_;apply rt;exact At.z 0
def bJ(N a2:Nat)(b0:(List Int))(a1:Nat)(a3:(List aH))(a4 a5 a6 a7:Int):Nat->Int->Option (Sum (Unit) (Int))
 | 0,_=>none
 | k+1,s2=>
  aU (decide (s2 < ((a2:Int)))) λx3=>
  cond x3 (
   aa (zB b0.length a1 a2 s2) λ_=>
   aa (b0[(aAF a1 s2.toNat)]?) λe5=>
   aa (iF N e5 a3 a4 a5 a6 a7) λr6=>
   cond r6 (
    some (Sum.inr s2)) (
    bJ N a2 b0 a1 a3 a4 a5 a6 a7 k (I64 (s2+1)))) (
   some (Sum.inl (())))
def dH(N:Nat)(b0:(List Int))(a1 a2:Nat)(a3:(List aH))(a4 a5 a6 a7:Int):Option (Int):=
 aa (bJ N a2 b0 a1 a3 a4 a5 a6 a7 N 0) λo=>pD o (λp1=>
  some (-1)) (λr=>some r)
theorem rN{N b0 a1 a2 a3 a4 a5 a6 a7 r}(h:dH N b0 a1 a2 a3 a4 a5 a6 a7=some r):FnM Tryz.prog 309 [.gro 1 (ai j64 b0),.var (j64 a7)] [(.gro 0 1 b0.length (.sub a1 a2)),(.fn (.func 306) [] [(.im (eL 19 aH.enc a3)),(.ref 1 [] 0),(.im (j64 a4)),(.im (j64 a5)),(.im (j64 a6))])] (j64 r) [.gro 1 (ai j64 b0),.var (j64 a7)]:=by
 unfold dH at h;refine At.f dG hT hmo Tryz.func309 rfl h ?_;refine At.LS 4 [] 2 (λp1=>([],[],[])) (λop1 J k=>∃s2,bJ N a2 b0 a1 a3 a4 a5 a6 a7 k s2=some op1/\J [0,1,7] 2 [(8,(j64 s2))] [] []) N (λ_ h=>⟨_,h,jr⟩) (λop1 g1 k s hI=>?_) λp1=>?_
 ·obtain⟨s2,h,hj⟩:=hI;cases k with
  | zero=>cases h
  | succ k=>
   refine At.jr hj ?_ h;refine lx ?_;intro x3;refine At.c 1 ?_ ?_
   ·refine At.b 5 (λ_ e=>kI hT (id:=0) (k:=1) e (by kernel_rfl) (by kernel_rfl)) λu4=>?_;refine At.b 0 (λ_ e=>pA hT j64 [] e rfl (by kernel_rfl) (by kernel_rfl)) λe5=>?_;refine At.b 0 (λ_ e=>aM [1] (pQ e)) λr6=>?_;refine At.c 0 ?_ ?_
    ·intro e;apply aBm g1 e;exact At.r 2
    ·exact λh=>At.k 2 ⟨_,h,jr⟩
   ·apply rt;exact At.xs 0
 ·apply rt;exact At.r 1
def aHI : Nat->Bool:=imL [3]
def mS(N a3:Nat)(b0:(List Int))(a2:Nat)(a1:(List aH)):Nat->(List aC)->Int->Option ((List aC))
 | 0,_,_=>none
 | k+1,s3,s4=>
  aU (decide (s4 < ((a3:Int)))) λx5=>
  cond x5 (
   aa (zB b0.length a2 a3 s4) λ_=>
   aa (b0[(aAF a2 s4.toNat)]?) λe7=>
   aa (idx a1 e7) λe8=>
   aa (jU N e8) λr9=>
   aa (sP 24 s3 (([r9]:List aC))) λz10=>
   mS N a3 b0 a2 a1 k z10 (I64 (s4+1))) (
   some s3)
def pH(N:Nat)(r11:aC×aC):Nat->Int->Int->Option (Int)
 | 0,_,_=>none
 | k+1,s13,s14=>
  cond (decide (s14 < 3)) (
   aa (aa (lJ N r11.2 s14) λr16=>
   aa (lJ N r11.1 s14) λr17=>
   aa (lJ N r11.2 s13) λr18=>
   aa (lJ N r11.1 s13) λr19=>
   aU (decide ((I64 (r16 - r17)) > (I64 (r18 - r19)))) λx20=>
   cond x20 (some s14) (some s13)) λp15=>
   pH N r11 k p15 (I64 (s14+1))) (
   some s13)
def sW(N:Nat)(b0:(List Int))(a1:(List aH))(a2 a3:Nat)(a4:Int):Option ((List Int)×Int):=
 aU (decide (((a3:Int))<=4)) λx1=>
 cond x1 (
  some ((b0,0))) (
  aa (mS N a3 b0 a2 a1 N [] 0) λp2=>
  aa (nZ N p2) λr11=>
  aa (pH N r11 N 0 1) λp12=>
  aa (lJ N r11.1 p12) λr21=>
  aa (lJ N r11.2 p12) λr22=>
  cond (r21==r22) (
   some ((b0,0))) (
   cond (decide (a4 > 31)) (
    aa (cS N b0 a2 a3 a1 p12) λr23=>
    aa (aAl r23 b0.length) λ_=>
    aU (I64 (bo ((a3:Int)) 2)) λx25=>
    some ((r23,x25))) (
    aa (rU N b0 a1 a2 a3 p12 r21 r22) λr26=>
    aa (dA N b0 a2 a3 a1 r21 r22 r26 p12) λr27=>
    aa (aAl r27 b0.length) λ_=>
    aa (dH N r27 a2 a3 a1 r21 r22 r26 p12) λr29=>
    some ((r27,r29)))))
theorem aGV{N b0 a1 a2 a3 a4 r}(h:sW N b0 a1 a2 a3 a4=some r):FnM Tryz.prog 243 [.gro 1 (ai j64 b0)] [(eL 19 aH.enc a1),(.gro 0 1 b0.length (.sub a2 a3)),(j64 a4)] (j64 r.2) [.gro 1 (ai j64 r.1)]:=by
 unfold sW at h;refine At.f aHI hT hmo Tryz.func243 rfl h ?_;refine lx ?_;intro x1;refine At.c 5 ?_ ?_
 ·apply rt;exact At.r 1
 ·refine At.ownn 4 7 3 ?_;refine At.L 0 [1,2,3] 2 (λp2=>([(7,(eO 1 3 aC.enc p2))],[(1,.tail (p2.length*3))],[])) (λp2 J k=>∃s3 s4,mS N a3 b0 a2 a1 k s3 s4=some p2/\J [1,2,3,21,22] 2 [(7,(eO 1 3 aC.enc s3)),(23,(j64 s4))] [(1,.tail (s3.length*3))] []) N (λ_ h=>⟨_,_,h,jr⟩) (λp2 k s hI=>?_) λp2=>?_
  ·obtain⟨s3,s4,h,hj⟩:=hI;cases k with
   | zero=>cases h
   | succ k=>
    refine At.jr hj ?_ h;refine lx ?_;intro x5;refine At.c 1 ?_ ?_
    ·refine At.b 0 (λ_ e=>kI hT (id:=0) (k:=1) e (by kernel_rfl) (by kernel_rfl)) λu6=>?_;refine At.b 0 (λ_ e=>pA hT j64 [] e rfl (by kernel_rfl) (by kernel_rfl)) λe7=>?_;refine At.b 4 (λ_ e=>bT hT aH.enc e) λe8=>?_;refine At.b 1 (λ_ e=>aM [] (vD e)) λr9=>?_;refine At.o 0 (bS hT (x:=(.sl 3 1 [(aC.enc r9)]))) ?_;refine At.b 0 (λ_ e=>iW hT aC.enc (id:=1) (k:=3) e) λz10=>?_;exact λh=>At.k 3 ⟨_,_,h,jr⟩
    ·apply rt;exact At.x 0
  ·refine At.b 1 (λ_ e=>aM [] (tP e)) λr11=>?_;refine At.L 10 [1,2,3,10,11,12] 5 (λp12=>([],[(4,.var (j64 p12))],[])) (λp12 J k=>∃s13 s14,pH N r11 k s13 s14=some p12/\J [1,2,3,10,11,12] 5 [(13,(j64 s14))] [(4,.var (j64 s13))] []) N (λ_ h=>⟨_,_,h,jr⟩) (λp12 k s hI=>?_) λp12=>?_
   ·obtain⟨s13,s14,h,hj⟩:=hI;cases k with
    | zero=>cases h
    | succ k=>
     refine At.jr hj ?_ h;refine At.c 2 ?_ ?_
     ·refine At.J 0 2 [1,2,3,10,11,12,13] 5 (λp15=>([],[(4,.var (j64 p15))],[])) (λp15=>?_) λp15=>?_
      ·refine bi λr16 hr16=>?_;refine bi λr17 hr17=>?_;refine bi λr18 hr18=>?_;refine bi λr19 hr19=>?_;refine lx ?_;intro x20;refine At.d 0 (dE2 2 (j64 r16) (λ_=>aO (nS hr16)) (dE2 5 (j64 r17) (λ_=>aO (nS hr17)) (dE2 9 (j64 r18) (λ_=>aO (nS hr18)) (dE2 12 (j64 r19) (λ_=>aO (nS hr19)) dE0)))) dF0 ?_;refine At.c 0 ?_ ?_
       ·apply rt;exact At.jn 2
       ·apply rt;exact At.jn 0
      ·exact λh=>At.k 3 ⟨_,_,h,jr⟩
     ·apply rt;exact At.x 0
   ·refine bi λr21 hr21=>?_;refine bi λr22 hr22=>?_;refine At.d2 0 [false,false] (dC2 2 (j64 r21) (λ_=>aO (nS hr21)) (dC2 5 (j64 r22) (λ_=>aO (nS hr22)) dC0)) (dS1 6 ⟨(.ref 5 [] 0),5,.var (j64 0),.dead⟩ [[.gro 1 (ai j64 b0),.tail (p2.length*3),.var (aC.enc r11.1),.var (aC.enc r11.2),.var (j64 p12),.dead,.dead],[.gro 1 (ai j64 b0),.tail (p2.length*3),.var (aC.enc r11.1),.var (aC.enc r11.2),.var (j64 p12),.dead,.var (j64 0)]] ⟨aW hT 5 (by kernel_rfl) (by kernel_rfl) (by kernel_rfl),aW hT 5 (by kernel_rfl) (by kernel_rfl) (by kernel_rfl),trivial⟩ (dS1 7 ⟨(.ref 6 [] 0),6,.var (j64 0),.dead⟩ [[.gro 1 (ai j64 b0),.tail (p2.length*3),.var (aC.enc r11.1),.var (aC.enc r11.2),.var (j64 p12),.dead,.dead],[.gro 1 (ai j64 b0),.tail (p2.length*3),.var (aC.enc r11.1),.var (aC.enc r11.2),.var (j64 p12),.var (j64 0),.dead]] ⟨aW hT 6 (by kernel_rfl) (by kernel_rfl) (by kernel_rfl),aW hT 6 (by kernel_rfl) (by kernel_rfl) (by kernel_rfl),trivial⟩ dS0)) ?_;refine At.c 3 ?_ ?_
    ·apply rt;exact At.r 1
    ·refine At.c 2 ?_ ?_
     ·refine At.o 1 (rR (x:=(.fn (.func 304) [] [(.im (eL 19 aH.enc a1)),(.ref 4 [] 0)])) (by kernel_rfl) (by kernel_rfl)) ?_;refine bi λr23 hr23=>?_;refine bi λu24 hu24=>?_;refine At.o 0 (aM [0,4] (rB hr23)) ?_;refine At.gl 0 [1] [] 0 b0.length r23.length (aC3 hu24) ?_;refine lx ?_;intro x25;apply rt;exact At.r 4
     ·refine At.b 5 (λ_ e=>aM [0] (aFI e)) λr26=>?_;refine At.gz 2 5 ((j64 r21)) ?_;refine At.gz 0 6 ((j64 r22)) ?_;refine At.gz 0 7 ((j64 r26)) ?_;refine At.o 0 (rR (x:=(.fn (.func 306) [] [(.im (eL 19 aH.enc a1)),(.ref 4 [] 0),(.im (j64 r21)),(.im (j64 r22)),(.im (j64 r26))])) (by kernel_rfl) (by kernel_rfl)) ?_;refine At.o 3 (rR (x:=(.fn (.func 308) [] [(.ref 8 [] 0)])) (by kernel_rfl) (by kernel_rfl)) ?_;refine bi λr27 hr27=>?_;refine bi λu28 hu28=>?_;refine At.o 0 (aM [0,8,4] (rE hr27)) ?_;refine At.gl 0 [1] [] 0 b0.length r27.length (aC3 hu28) ?_;refine At.b 2 (λ_ e=>aM [0,4] (rN e)) λr29=>?_;apply rt;exact At.r 1
def qN(N:Nat)(a0:(List aH)):Nat->Int->Option (Sum (Unit) (aX×Int))
 | 0,_=>none
 | k+1,s3=>
  aU (decide (s3 < ((a0.length:Int)))) λx4=>
  cond x4 (
   aa (idx a0 s3) λe5=>
   aa (aQV 3 0 3) λ_=>
   aa (yR N e5) λr7=>
   aa (aU (decide ((fN (fN r7.1.gX r7.1.gY) r7.1.gZ) < (-1048576))) λx9=>
   cond x9 (
    some true) (
    aU (decide ((jR (jR r7.2.gX r7.2.gY) r7.2.gZ) > 1048576)) λx10=>
    some x10)) λp8=>
   cond p8 (
    some (Sum.inr ((aX.mk [] [],8)))) (
    qN N a0 k (I64 (s3+1)))) (
   some (Sum.inl (())))
def qG(N:Nat)(a0:(List aH)):Nat->(List Int)->Int->Option ((List Int))
 | 0,_,_=>none
 | k+1,s13,s14=>
  aU (decide (s14 < ((a0.length:Int)))) λx15=>
  cond x15 (
   aa (sP 8 s13 (([s14]:List Int))) λz16=>
   qG N a0 k z16 (I64 (s14+1))) (
   some s13)
def qO(N:Nat)(a0:(List aH)):Nat->(List Int)->(List bD)->(List bA)->Nat->Option ((List Int)×(List bD)×(List bA))
 | 0,_,_,_,_=>none
 | k+1,s18,s19,s20,s21=>
  aU (decide (((s21:Int)) > 0)) λx22=>
  cond x22 (
   aU (I64 (((s21:Int)) - 1)) λx23=>
   aa (zB s20.length 0 s21 x23) λ_=>
   aa (s20[x23.toNat]?) λe25=>
   aU (I64 (((s21:Int)) - 1)) λx26=>
   aa (aJs s20.length 0 s21 0 x26) λ_=>
   aU (I64 (e25.gB+e25.gA5)) λx28=>
   aa (aJs s18.length 0 s18.length e25.gB x28) λ_=>
   aa (wG N s18 a0 e25.gB.toNat (x28.toNat - e25.gB.toNat)) λr30=>
   aa (aa (sW N s18 a0 e25.gB.toNat (x28.toNat - e25.gB.toNat) e25.gE0) λr32=>
   aa (aAl r32.1 s18.length) λ_=>
   cond (decide (r32.2 > 0)) (
    aU (I64 (((s19.length:Int))+1)) λx34=>
    aa (sP 80 s19 (([bD.mk (aC.mk 0 0 0) (aC.mk 0 0 0) 0 0 0 0,bD.mk (aC.mk 0 0 0) (aC.mk 0 0 0) 0 0 0 0]:List bD))) λz35=>
    aU (I64 (((s19.length:Int))+1)) λx36=>
    aU (I64 (e25.gB+r32.2)) λx37=>
    aU (I64 (e25.gA5 - r32.2)) λx38=>
    aa (aLI 32 s20 x26.toNat (([bA.mk x36 x37 x38 (I64 (e25.gE0+1)),bA.mk ((s19.length:Int)) e25.gB r32.2 (I64 (e25.gE0+1))]:List bA))) λz39=>
    some ((r32.1,z35,z39,bD.mk r30.1 r30.2 ((s19.length:Int)) ((I64 (((s19.length:Int))+1))) 0 0,x26.toNat+2))) (
    some ((r32.1,s19,s20,bD.mk r30.1 r30.2 (-1) (-1) e25.gB e25.gA5,x26.toNat)))) λp31=>
   aa (fM e25.gA7 p31.2.1.length) λ_=>
   aa (aHT p31.2.1 e25.gA7.toNat p31.2.2.2.1) λz41=>
   qO N a0 k p31.1 z41 p31.2.2.1 p31.2.2.2.2) (
   some ((s18,s19,s20)))
def yN(N:Nat)(a0:(List aH)):Option (aX×Int):=
 aU (decide (((a0.length:Int)) > 4096)) λx1=>
 cond x1 (
  some ((aX.mk [] [],3))) (
  aa (qN N a0 N 0) λo=>pD o (λp2=>
   aU (((a0.length:Int))==0) λx11=>
   cond x11 (
    some ((aX.mk [] [],0))) (
    aa (qG N a0 N [] 0) λp12=>
    aa (qO N a0 N p12 (([bD.mk (aC.mk 0 0 0) (aC.mk 0 0 0) 0 0 0 0]:List bD)) (([bA.mk 0 0 ((a0.length:Int)) 1]:List bA)) ((([bA.mk 0 0 ((a0.length:Int)) 1]:List bA)).length)) λp17=>
    some ((aX.mk p17.2.1 p17.1,0)))) (λr=>some r))
theorem aKl{N a0 r}(h:yN N a0=some r):FnM Tryz.prog 184 [] [(eL 19 aH.enc a0)] (.tup [(aX.enc r.1),(j64 r.2)]) []:=by
 unfold yN at h;refine At.f dG hT hmo Tryz.func184 rfl h ?_;refine lx ?_;intro x1;refine At.c 5 ?_ ?_
 ·apply rt;exact At.r 3
 ·refine At.LS 3 [0,2] 1 (λp2=>([],[],[])) (λop2 J k=>∃s3,qN N a0 k s3=some op2/\J [0,2,22,23] 1 [(24,(j64 s3))] [] []) N (λ_ h=>⟨_,h,jr⟩) (λop2 g2 k s hI=>?_) λp2=>?_
  ·obtain⟨s3,h,hj⟩:=hI;cases k with
   | zero=>cases h
   | succ k=>
    refine At.jr hj ?_ h;refine lx ?_;intro x4;refine At.c 1 ?_ ?_
    ·refine At.b 0 (λ_ e=>bT hT aH.enc e) λe5=>?_;refine At.b 4 (λ_ e=>aNK hT (k:=3) 1 [0] 0 e (by kernel_rfl) (by kernel_rfl) (by decide)) λs6=>?_;refine At.b 0 (λ_ e=>aM [1] (aKE e)) λr7=>?_;refine At.J 7 0 [0,2,22,23,24] 4 (λp8=>([(51,(eB p8))],[],[])) (λp8=>?_) λp8=>?_
     ·refine At.o 6 (aAO (k := .i64) (i:=r7.1.gX) (j:=r7.1.gY) (l:=r7.1.gZ) (by kernel_rfl) (by kernel_rfl)) ?_;refine lx ?_;intro x9;refine At.s 42 2 ?_ ?_
      ·refine At.g [42] 9 ?_;apply rt;exact At.jn 0
      ·refine At.g [42] 6 ?_;refine At.o 0 (aAT (k := .i64) (i:=r7.2.gX) (j:=r7.2.gY) (l:=r7.2.gZ) (by kernel_rfl) (by kernel_rfl)) ?_;refine lx ?_;intro x10;refine At.g [42] 2 ?_;apply rt;exact At.jn 0
     ·refine At.c 0 ?_ ?_
      ·intro e;apply aBm g2 e;exact At.r 3
      ·exact λh=>At.k 2 ⟨_,h,jr⟩
    ·apply rt;exact At.xs 0
  ·refine lx ?_;intro x11;refine At.c 4 ?_ ?_
   ·apply rt;exact At.r 3
   ·refine At.grob 3 1 1 [1] ?_;refine At.L 0 [0,2,8] 3 (λp12=>([],[(1,.var (.st 2 [(.v (.slice none 0 0)),(.gro 2 1 p12.length .all)])),(2,.gro 1 (ai j64 p12))],[])) (λp12 J k=>∃s13 s14,qG N a0 k s13 s14=some p12/\J [0,2,8,59] 3 [(60,(j64 s14))] [(1,.var (.st 2 [(.v (.slice none 0 0)),(.gro 2 1 s13.length .all)])),(2,.gro 1 (ai j64 s13))] []) N (λ_ h=>⟨_,_,h,jr⟩) (λp12 k s hI=>?_) λp12=>?_
    ·obtain⟨s13,s14,h,hj⟩:=hI;cases k with
     | zero=>cases h
     | succ k=>
      refine At.jr hj ?_ h;refine lx ?_;intro x15;refine At.c 1 ?_ ?_
      ·refine At.o 5 (bS hT (x:=(.sl 1 1 [(j64 s14)]))) ?_;refine At.b 0 (λz16 e=>aIv hT j64 (id:=2) (k:=1) e (by kernel_rfl) (by kernel_rfl) (H':=[.var (.st 2 [(.v (.slice none 0 0)),(.v (.slice none 0 0))]),.var (.st 2 [(.v (.slice none 0 0)),(.gro 2 1 s13.length .all)]),.gro 1 (ai j64 z16)]) (by kernel_rfl)) λz16=>?_;exact λh=>At.k 4 ⟨_,_,h,jr⟩
      ·apply rt;exact At.x 0
    ·refine At.o 1 (aEk hT bD.enc (k:=10) ([bD.mk (aC.mk 0 0 0) (aC.mk 0 0 0) 0 0 0 0]:List bD) (by kernel_rfl) (by kernel_rfl)) ?_;refine At.o 5 (aEk hT bA.enc (k:=4) ([bA.mk 0 0 ((a0.length:Int)) 1]:List bA) (by kernel_rfl) (by kernel_rfl)) ?_;refine At.gsub 1 10 ?_;refine At.L 0 [2,8] 5 (λp17=>([],[(1,.var (.st 2 [(.gro 3 10 p17.2.1.length .all),(.gro 2 1 p17.1.length .all)])),(2,.gro 1 (ai j64 p17.1)),(3,.gro 10 (ai bD.enc p17.2.1)),(4,.gro 4 (ai bA.enc p17.2.2))],[])) (λp17 J k=>∃s18 s19 s20 s21,qO N a0 k s18 s19 s20 s21=some p17/\J [0,2,8] 5 [(10,(.gro 4 4 s20.length (.sub 0 s21)))] [(1,.var (.st 2 [(.gro 3 10 s19.length .all),(.gro 2 1 s18.length .all)])),(2,.gro 1 (ai j64 s18)),(3,.gro 10 (ai bD.enc s19)),(4,.gro 4 (ai bA.enc s20))] []) N (λ_ h=>⟨_,_,_,_,h,jr⟩) (λp17 k s hI=>?_) λp17=>?_
     ·obtain⟨s18,s19,s20,s21,h,hj⟩:=hI;cases k with
      | zero=>cases h
      | succ k=>
       refine At.jr hj ?_ h;refine lx ?_;intro x22;refine At.c 3 ?_ ?_
       ·refine lx ?_;intro x23;refine At.b 4 (λ_ e=>kI hT (id:=4) (k:=4) e (by kernel_rfl) (by kernel_rfl)) λu24=>?_;refine At.b 0 (λ_ e=>pA hT bA.enc [] e rfl (by kernel_rfl) (by kernel_rfl)) λe25=>?_;refine lx ?_;intro x26;refine At.b 6 (λ_ e=>aGf hT (id:=4) (k:=4) (L:=s20.length) (lo0:=0) (m:=s21) e (by kernel_rfl) (by kernel_rfl)) λs27=>?_;refine lx ?_;intro x28;refine At.b 10 (λ_ e=>aGf hT (id:=2) (k:=1) (L:=s18.length) (lo0:=0) (m:=s18.length) e (by kernel_rfl) (by kernel_rfl)) λs29=>?_;refine At.b 3 (λ_ e=>aM [2] (aIQ e)) λr30=>?_;refine At.J 16 1 [0,2,8,11,15] 9 (λp31=>([(10,(.gro 4 4 p31.2.2.1.length (.sub 0 p31.2.2.2.2)))],[(1,.var (.st 2 [(.gro 3 10 p31.2.1.length .all),(.gro 2 1 p31.1.length .all)])),(2,.gro 1 (ai j64 p31.1)),(3,.gro 10 (ai bD.enc p31.2.1)),(4,.gro 4 (ai bA.enc p31.2.2.1)),(8,.var (bD.enc p31.2.2.2.1))],[])) (λp31=>?_) λp31=>?_
        ·refine bi λr32 hr32=>?_;refine bi λu33 hu33=>?_;refine At.o 4 (aM [2] (aGV hr32)) ?_;refine At.gl 0 [] [1] 2 s18.length r32.1.length (aC3 hu33) ?_;refine At.c 3 ?_ ?_
         ·refine lx ?_;intro x34;refine At.o 15 (bS hT (x:=(.sl 10 2 [(.st 10 [(.st 3 [(j64 0),(j64 0),(j64 0)]),(.st 3 [(j64 0),(j64 0),(j64 0)]),(j64 0),(j64 0),(j64 0),(j64 0)]),(.st 10 [(.st 3 [(j64 0),(j64 0),(j64 0)]),(.st 3 [(j64 0),(j64 0),(j64 0)]),(j64 0),(j64 0),(j64 0),(j64 0)])]))) ?_;refine At.b 0 (λz35 e=>aIv hT bD.enc (id:=3) (k:=10) e (by kernel_rfl) (by kernel_rfl) (H':=[.var (.st 2 [(.v (.slice none 0 0)),(.v (.slice none 0 0))]),.var (.st 2 [(.gro 3 10 s19.length .all),(.gro 2 1 r32.1.length .all)]),.gro 1 (ai j64 r32.1),.gro 10 (ai bD.enc z35),.gro 4 (ai bA.enc s20),.var (bA.enc e25),.var (aC.enc r30.1),.var (aC.enc r30.2),.var (.st 10 [(aC.enc r30.1),(aC.enc r30.2),(j64 ((s19.length:Int))),(j64 ((I64 (((s19.length:Int))+1)))),(j64 0),(j64 0)])]) (by kernel_rfl)) λz35=>?_;refine lx ?_;intro x36;refine lx ?_;intro x37;refine lx ?_;intro x38;refine At.o 25 (bS hT (x:=(.sl 4 2 [(.st 4 [(j64 x36),(j64 x37),(j64 x38),(j64 (I64 (e25.gE0+1)))]),(.st 4 [(j64 ((s19.length:Int))),(j64 e25.gB),(j64 r32.2),(j64 (I64 (e25.gE0+1)))])]))) ?_;refine At.b 0 (λz39 e=>aFE hT bA.enc (id:=4) (k:=4) e (by kernel_rfl) (by kernel_rfl) (H':=[.var (.st 2 [(.v (.slice none 0 0)),(.v (.slice none 0 0))]),.var (.st 2 [(.gro 3 10 z35.length .all),(.gro 2 1 r32.1.length .all)]),.gro 1 (ai j64 r32.1),.gro 10 (ai bD.enc z35),.gro 4 (ai bA.enc z39),.var (bA.enc e25),.var (aC.enc r30.1),.var (aC.enc r30.2),.var (.st 10 [(aC.enc r30.1),(aC.enc r30.2),(j64 ((s19.length:Int))),(j64 ((I64 (((s19.length:Int))+1)))),(j64 0),(j64 0)])]) (by kernel_rfl)) λz39=>?_;apply rt;exact At.jn 1
         ·apply rt;exact At.jn 0
        ·refine At.b 5 (λ_ e=>aSR hT (id:=3) (k:=10) e (by kernel_rfl) (by kernel_rfl)) λu40=>?_;refine bi λz41 hz41=>?_;refine At.o 0 (aCZ hT bD.enc (k:=10) p31.2.2.2.1 hz41 rfl (by kernel_rfl) (λ_=>by kernel_rfl) (by kernel_rfl) (H':=[.var (.st 2 [(.v (.slice none 0 0)),(.v (.slice none 0 0))]),.var (.st 2 [(.gro 3 10 p31.2.1.length .all),(.gro 2 1 p31.1.length .all)]),.gro 1 (ai j64 p31.1),.gro 10 (ai bD.enc z41),.gro 4 (ai bA.enc p31.2.2.1),.var (bA.enc e25),.var (aC.enc r30.1),.var (aC.enc r30.2),.var (bD.enc p31.2.2.2.1)]) (by kernel_rfl)) ?_;refine At.gl 0 [167] [1] 3 p31.2.1.length z41.length ((aCu hz41).2.2) ?_;exact λh=>At.k 0 ⟨_,_,_,_,h,jr⟩
       ·apply rt;exact At.x 0
     ·refine At.fz 3 2 1 p17.1.length _ (ai j64 p17.1) (bd _) (bd _) ?_;refine At.fz 0 3 10 p17.2.1.length _ (ai bD.enc p17.2.1) (bd _) (bd _) ?_;apply rt;exact At.r 0
def iY(N:Nat)(a0:(List aH)):Option ((List aH)):=
 aa (sP 152 (([]:List aH)) a0) λz1=>
 some z1
theorem xB{N a0 r}(h:iY N a0=some r):FnM Tryz.prog 113 [] [(eL 19 aH.enc a0)] (eL 19 aH.enc r) []:=by
 unfold iY at h;refine At.f dG hT hmo Tryz.func113 rfl h ?_;refine At.q hT 2 (d:=4) (t:=22) (e:=144) (z:=19) (x:=(eL 19 aH.enc a0)) (es:=ai aH.enc a0) rfl ?_ (λhe=>?_)
 ·refine At.o 1 (aAW hT aH.enc (k:=19) ([]:List aH) (by kernel_rfl) (by kernel_rfl)) ?_;refine At.b 1 (λ_ e=>iW hT aH.enc (id:=0) (k:=19) e) λz1=>?_;apply rt;exact At.r 1
 ·have h0:a0=[]:=jy.1 he;subst h0;change some []=_->_;apply rt;exact At.r 2
def vM(N:Nat)(a0:(List aH)):Option (Sum (Int) (aX×aL×Int)):=
 aa (yN N a0) λr1=>
 cond (r1.2 != 0) (
  some (Sum.inl r1.2)) (
  aa (iY N a0) λr2=>
  some (Sum.inr ((r1.1,aL.mk r1.1 true r2 0,0))))
theorem aFy{N a0 r}(h:vM N a0=some r):FnM Tryz.prog 103 [] [(eL 19 aH.enc a0)] (aGI r (λr=>(.tup [(.v (.pointer none)),(j64 r)])) (λr=>(.tup [(.ref 1 [] 0),(j64 r.2.2)]))) (aGI r (λr=>[]) (λr=>[.var (aX.enc r.1),.var (aL.enc r.2.1)])):=by
 unfold vM at h;refine At.f dG hT hmo Tryz.func103 rfl h ?_;refine At.b 3 (λ_ e=>aM [] (aKl e)) λr1=>?_;refine At.c 8 ?_ ?_
 ·apply rt;exact At.r 3
 ·refine bi λr2 hr2=>?_;refine At.d 0 (dE2 2 (eL 19 aH.enc r2) (λ_=>aO (xB hr2)) dE0) dF0 ?_;apply rt;exact At.r 0
theorem aIo{N a0 r}(h:vM N a0=some (Sum.inl r)):FnM Tryz.prog 103 [] [(eL 19 aH.enc a0)] (.tup [(.v (.pointer none)),(j64 r)]) []:=aFy h
theorem aIO{N a0 r}(h:vM N a0=some (Sum.inr r)):FnM Tryz.prog 103 [] [(eL 19 aH.enc a0)] (.tup [(.ref 1 [] 0),(j64 r.2.2)]) [.var (aX.enc r.1),.var (aL.enc r.2.1)]:=aFy h
def aLo : Nat->Bool:=imL [2,3]
def mE(N:Nat)(x8:Int)(a0:aG):Nat->(List (List aD))->Int->Option ((List (List aD)))
 | 0,_,_=>none
 | k+1,s10,s11=>
  cond (decide (s11 < x8)) (
   aa (idx a0.gA2 s11) λe12=>
   aa (qM N e12) λr13=>
   aa (sP 24 s10 (([r13.1]:List (List aD)))) λz14=>
   mE N x8 a0 k z14 (I64 (s11+1))) (
   some s10)
def kE(N:Nat)(a0:aG)(a1:aI):Option (Sum (Int) (Sum ((List aH)×(List aP)×(List aQ)×(List (List aD))×aA×Int) (Sum ((List aH)×(List aP)×(List aQ)×(List (List aD))×aA×(List aH)×Int) (Sum ((List aH)×(List aP)×(List aQ)×(List (List aD))×aA×Int) ((List aH)×(List aP)×(List aQ)×(List (List aD))×aA×aX×aL×Int))))):=
 aa (jQ N a0) λr1=>
 cond (r1 != 0) (
  some (Sum.inl r1)) (
  aa (nV N a1) λr2=>
  cond (r2 != 0) (
   some (Sum.inl r2)) (
   aa (oE N a0 a1.gL) λr3=>
   cond (r3 != 0) (
    some (Sum.inl r3)) (
    aa (yD N a0.gF) λr4=>
    aa (sP 152 (([]:List aH)) a0.gE) λz5=>
    aa (sP 40 (([]:List aP)) a0.gA6) λz6=>
    aa (sP 104 (([]:List aQ)) a0.gF) λz7=>
    aU ((a0.gA2.length:Int)) λx8=>
    aa (mE N x8 a0 N [] 0) λp9=>
    cond a1.gT (
     aa (iV N a1.gL) λr15=>
     aa (tC N a0.gE r15.1) λq=>
     pD q (λr17=>
      some (Sum.inr (Sum.inl ((z5,z6,z7,p9,r4,r17))))) (λr18=>
      some (Sum.inr (Sum.inr (Sum.inl ((z5,z6,z7,p9,r4,r18.1,r18.2))))))) (
     aa (vM N a0.gE) λq=>
     pD q (λr20=>
      some (Sum.inr (Sum.inr (Sum.inr (Sum.inl ((z5,z6,z7,p9,r4,r20))))))) (λr21=>
      some (Sum.inr (Sum.inr (Sum.inr (Sum.inr ((z5,z6,z7,p9,r4,r21.1,r21.2.1,r21.2.2)))))))))))
theorem wM{N a0 a1 r}(h:kE N a0 a1=some r):FnM Tryz.prog 46 [] [(aG.enc a0),(aI.enc a1)] (aGI r (λr=>(.tup [(.v (.pointer none)),(j64 r)])) (λr=>aGI r (λr=>(.tup [(.ref 0 [] 0),(j64 r.2.2.2.2.2)])) (λr=>aGI r (λr=>(.tup [(.ref 0 [] 0),(j64 r.2.2.2.2.2.2)])) (λr=>aGI r (λr=>(.tup [(.ref 0 [] 0),(j64 r.2.2.2.2.2)])) (λr=>(.tup [(.ref 0 [] 0),(j64 r.2.2.2.2.2.2.2)])))))) (aGI r (λr=>[]) (λr=>aGI r (λr=>[.var (.st 38 [(.st 9 [(eL 19 aH.enc r.1),(eL 5 aP.enc r.2.1),(eL 2 aD.enc a0.gA2),(eL 13 aQ.enc r.2.2.1),(eL 1 k64 a0.gR),(eL 1 k32 a0.gB0),(k32 a0.gB8),(k32 a0.gC1),(k32 a0.gTo)]),(aI.enc a1),(.ifc 178 (.v (.pointer none))),(eL 1 (eL 2 aD.enc) r.2.2.2.1),(aA.enc r.2.2.2.2.1),(.st 3 [(j64 0),(j64 0),(j64 0)])])]) (λr=>aGI r (λr=>[.var (.st 38 [(.st 9 [(eO 1 19 aH.enc r.1),(eO 2 5 aP.enc r.2.1),(eL 2 aD.enc a0.gA2),(eO 3 13 aQ.enc r.2.2.1),(eL 1 k64 a0.gR),(eL 1 k32 a0.gB0),(k32 a0.gB8),(k32 a0.gC1),(k32 a0.gTo)]),(aI.enc a1),(.ifc 178 (.ref 6 [] 0)),(eO 4 1 (eL 2 aD.enc) r.2.2.2.1),(aA.enc r.2.2.2.2.1),(.st 3 [(j64 0),(j64 0),(j64 0)])]),.tail (r.1.length*19),.tail (r.2.1.length*5),.tail (r.2.2.1.length*13),.tail (r.2.2.2.1.length*1),.dead,.var (.st 3 [(.st 1 [(j64 0)]),(eB true),(eL 19 aH.enc r.2.2.2.2.2.1)])]) (λr=>aGI r (λr=>[.var (.st 38 [(.st 9 [(eL 19 aH.enc r.1),(eL 5 aP.enc r.2.1),(eL 2 aD.enc a0.gA2),(eL 13 aQ.enc r.2.2.1),(eL 1 k64 a0.gR),(eL 1 k32 a0.gB0),(k32 a0.gB8),(k32 a0.gC1),(k32 a0.gTo)]),(aI.enc a1),(.ifc 181 (.v (.pointer none))),(eL 1 (eL 2 aD.enc) r.2.2.2.1),(aA.enc r.2.2.2.2.1),(.st 3 [(j64 0),(j64 0),(j64 0)])])]) (λr=>[.var (.st 38 [(.st 9 [(eO 1 19 aH.enc r.1),(eO 2 5 aP.enc r.2.1),(eL 2 aD.enc a0.gA2),(eO 3 13 aQ.enc r.2.2.1),(eL 1 k64 a0.gR),(eL 1 k32 a0.gB0),(k32 a0.gB8),(k32 a0.gC1),(k32 a0.gTo)]),(aI.enc a1),(.ifc 181 (.ref 6 [] 0)),(eO 4 1 (eL 2 aD.enc) r.2.2.2.1),(aA.enc r.2.2.2.2.1),(.st 3 [(j64 0),(j64 0),(j64 0)])]),.tail (r.1.length*19),.tail (r.2.1.length*5),.tail (r.2.2.1.length*13),.tail (r.2.2.2.1.length*1),.var (aX.enc r.2.2.2.2.2.1),.var (aL.enc r.2.2.2.2.2.2.1)]))))):=by
 unfold kE at h;refine At.f aLo hT hmo Tryz.func46 rfl h ?_;refine At.b 5 (λ_ e=>aM [] (aHJ e)) λr1=>?_;refine At.c 3 ?_ ?_
 ·apply rt;exact At.r 3
 ·refine At.b 1 (λ_ e=>aM [] (aEs e)) λr2=>?_;refine At.c 3 ?_ ?_
  ·apply rt;exact At.r 3
  ·refine At.b 3 (λ_ e=>aM [] (aGW e)) λr3=>?_;refine At.c 3 ?_ ?_
   ·apply rt;exact At.r 3
   ·refine bi λr4 hr4=>?_;refine At.d 0 (dE2 4 (aA.enc r4) (λ_=>aO (aLc hr4)) dE0) dF0 ?_;refine At.o 1 (aAW hT aH.enc (k:=19) ([]:List aH) (by kernel_rfl) (by kernel_rfl)) ?_;refine At.b 2 (λ_ e=>iW hT aH.enc (id:=1) (k:=19) e) λz5=>?_;refine At.o 5 (aAW hT aP.enc (k:=5) ([]:List aP) (by kernel_rfl) (by kernel_rfl)) ?_;refine At.b 2 (λ_ e=>iW hT aP.enc (id:=2) (k:=5) e) λz6=>?_;refine At.o 5 (aAW hT aQ.enc (k:=13) ([]:List aQ) (by kernel_rfl) (by kernel_rfl)) ?_;refine At.b 2 (λ_ e=>iW hT aQ.enc (id:=3) (k:=13) e) λz7=>?_;refine lx ?_;intro x8;refine At.ownb 8 0 1 [3] ?_;refine At.L 0 [2,3,9] 5 (λp9=>([],[(0,.var (.st 38 [(.st 9 [(eO 1 19 aH.enc z5),(eO 2 5 aP.enc z6),(eL 2 aD.enc a0.gA2),(eO 3 13 aQ.enc z7),(eL 1 k64 a0.gR),(eL 1 k32 a0.gB0),(k32 a0.gB8),(k32 a0.gC1),(k32 a0.gTo)]),(aI.enc a1),(.v .nilIface),(eO 4 1 (eL 2 aD.enc) p9),(aA.enc r4),(.st 3 [(j64 0),(j64 0),(j64 0)])])),(4,.tail (p9.length*1))],[])) (λp9 J k=>∃s10 s11,mE N x8 a0 k s10 s11=some p9/\J [2,3,9,69,70] 5 [(71,(j64 s11))] [(0,.var (.st 38 [(.st 9 [(eO 1 19 aH.enc z5),(eO 2 5 aP.enc z6),(eL 2 aD.enc a0.gA2),(eO 3 13 aQ.enc z7),(eL 1 k64 a0.gR),(eL 1 k32 a0.gB0),(k32 a0.gB8),(k32 a0.gC1),(k32 a0.gTo)]),(aI.enc a1),(.v .nilIface),(eO 4 1 (eL 2 aD.enc) s10),(aA.enc r4),(.st 3 [(j64 0),(j64 0),(j64 0)])])),(4,.tail (s10.length*1))] []) N (λ_ h=>⟨_,_,h,jr⟩) (λp9 k s hI=>?_) λp9=>?_
    ·obtain⟨s10,s11,h,hj⟩:=hI;cases k with
     | zero=>cases h
     | succ k=>
      refine At.jr hj ?_ h;refine At.c 1 ?_ ?_
      ·refine At.b 0 (λ_ e=>bT hT aD.enc e) λe12=>?_;refine At.b 4 (λ_ e=>aM [] (aEP e)) λr13=>?_;refine At.o 11 (bS hT (x:=(.sl 1 1 [(eL 2 aD.enc r13.1)]))) ?_;refine At.b 0 (λ_ e=>iW hT (eL 2 aD.enc) (id:=4) (k:=1) e) λz14=>?_;exact λh=>At.k 5 ⟨_,_,h,jr⟩
      ·apply rt;exact At.x 0
    ·refine At.c 2 ?_ ?_
     ·refine At.b 2 (λ_ e=>aM [] (qR e)) λr15=>?_;refine sumI (λr17 hr17=>?_) (λr18 hr18=>?_)
      ·refine At.o 8 (aM [] (aGt hr17)) ?_;refine At.o 7 (aDE hT (t:=178) (x:=(.v (.pointer none))) (by kernel_rfl) (by kernel_rfl)) ?_;apply rt;exact At.r 7
      ·refine At.o 8 (aM [] (aHm hr18)) ?_;refine At.o 7 (aDE hT (t:=178) (x:=(.ref 6 [] 0)) (by kernel_rfl) (by kernel_rfl)) ?_;apply rt;exact At.r 7
     ·refine sumI (λr20 hr20=>?_) (λr21 hr21=>?_)
      ·refine At.o 2 (aM [] (aIo hr20)) ?_;refine At.o 7 (aDE hT (t:=181) (x:=(.v (.pointer none))) (by kernel_rfl) (by kernel_rfl)) ?_;apply rt;exact At.r 7
      ·refine At.o 2 (aM [] (aIO hr21)) ?_;refine At.o 7 (aDE hT (t:=181) (x:=(.ref 6 [] 0)) (by kernel_rfl) (by kernel_rfl)) ?_;apply rt;exact At.r 7
theorem aHG{N a0 a1 r}(h:kE N a0 a1=some (Sum.inl r)):FnM Tryz.prog 46 [] [(aG.enc a0),(aI.enc a1)] (.tup [(.v (.pointer none)),(j64 r)]) []:=wM h
theorem aHv{N a0 a1 r}(h:kE N a0 a1=some (Sum.inr (Sum.inl r))):FnM Tryz.prog 46 [] [(aG.enc a0),(aI.enc a1)] (.tup [(.ref 0 [] 0),(j64 r.2.2.2.2.2)]) [.var (.st 38 [(.st 9 [(eL 19 aH.enc r.1),(eL 5 aP.enc r.2.1),(eL 2 aD.enc a0.gA2),(eL 13 aQ.enc r.2.2.1),(eL 1 k64 a0.gR),(eL 1 k32 a0.gB0),(k32 a0.gB8),(k32 a0.gC1),(k32 a0.gTo)]),(aI.enc a1),(.ifc 178 (.v (.pointer none))),(eL 1 (eL 2 aD.enc) r.2.2.2.1),(aA.enc r.2.2.2.2.1),(.st 3 [(j64 0),(j64 0),(j64 0)])])]:=wM h
theorem aGq{N a0 a1 r}(h:kE N a0 a1=some (Sum.inr (Sum.inr (Sum.inl r)))):FnM Tryz.prog 46 [] [(aG.enc a0),(aI.enc a1)] (.tup [(.ref 0 [] 0),(j64 r.2.2.2.2.2.2)]) [.var (.st 38 [(.st 9 [(eO 1 19 aH.enc r.1),(eO 2 5 aP.enc r.2.1),(eL 2 aD.enc a0.gA2),(eO 3 13 aQ.enc r.2.2.1),(eL 1 k64 a0.gR),(eL 1 k32 a0.gB0),(k32 a0.gB8),(k32 a0.gC1),(k32 a0.gTo)]),(aI.enc a1),(.ifc 178 (.ref 6 [] 0)),(eO 4 1 (eL 2 aD.enc) r.2.2.2.1),(aA.enc r.2.2.2.2.1),(.st 3 [(j64 0),(j64 0),(j64 0)])]),.tail (r.1.length*19),.tail (r.2.1.length*5),.tail (r.2.2.1.length*13),.tail (r.2.2.2.1.length*1),.dead,.var (.st 3 [(.st 1 [(j64 0)]),(eB true),(eL 19 aH.enc r.2.2.2.2.2.1)])]:=wM h
theorem aHq{N a0 a1 r}(h:kE N a0 a1=some (Sum.inr (Sum.inr (Sum.inr (Sum.inl r))))):FnM Tryz.prog 46 [] [(aG.enc a0),(aI.enc a1)] (.tup [(.ref 0 [] 0),(j64 r.2.2.2.2.2)]) [.var (.st 38 [(.st 9 [(eL 19 aH.enc r.1),(eL 5 aP.enc r.2.1),(eL 2 aD.enc a0.gA2),(eL 13 aQ.enc r.2.2.1),(eL 1 k64 a0.gR),(eL 1 k32 a0.gB0),(k32 a0.gB8),(k32 a0.gC1),(k32 a0.gTo)]),(aI.enc a1),(.ifc 181 (.v (.pointer none))),(eL 1 (eL 2 aD.enc) r.2.2.2.1),(aA.enc r.2.2.2.2.1),(.st 3 [(j64 0),(j64 0),(j64 0)])])]:=wM h
theorem aH6{N a0 a1 r}(h:kE N a0 a1=some (Sum.inr (Sum.inr (Sum.inr (Sum.inr r))))):FnM Tryz.prog 46 [] [(aG.enc a0),(aI.enc a1)] (.tup [(.ref 0 [] 0),(j64 r.2.2.2.2.2.2.2)]) [.var (.st 38 [(.st 9 [(eO 1 19 aH.enc r.1),(eO 2 5 aP.enc r.2.1),(eL 2 aD.enc a0.gA2),(eO 3 13 aQ.enc r.2.2.1),(eL 1 k64 a0.gR),(eL 1 k32 a0.gB0),(k32 a0.gB8),(k32 a0.gC1),(k32 a0.gTo)]),(aI.enc a1),(.ifc 181 (.ref 6 [] 0)),(eO 4 1 (eL 2 aD.enc) r.2.2.2.1),(aA.enc r.2.2.2.2.1),(.st 3 [(j64 0),(j64 0),(j64 0)])]),.tail (r.1.length*19),.tail (r.2.1.length*5),.tail (r.2.2.1.length*13),.tail (r.2.2.2.1.length*1),.var (aX.enc r.2.2.2.2.2.1),.var (aL.enc r.2.2.2.2.2.2.1)]:=wM h
def rM(N:Nat)(a0 a1 a2:Int):Option (Unit):=
 some (())
theorem aDS{N a0 a1 a2 r}(h:rM N a0 a1 a2=some r):FnM Tryz.prog 104 [] [(k64 a0),(j64 a1),(j64 a2)] (.ref 0 [] 0) [.var (.st 72 [cv_6,(eB true),(k64 a0),(j64 a1),(j64 a2)])]:=by
 unfold rM at h;refine At.f dG hT hmo Tryz.func104 rfl h ?_;apply rt;exact At.r 7
def oH(N:Nat)(a0 a1 a2 a3:Int):Option (bL):=
 aU (U32 (fI .i64 a2 65535)) λx1=>
 aU (U32 (bo (U32 (fI .i64 a3 63)) 16)) λx2=>
 aU (U32 ((U32 (x1*4))+x2)) λx3=>
 some (bL.mk (U32 a0) (U32 a1) ((U32 ((U32 ((U32 (fI .i64 a2 65535))*4))+(U32 (bo (U32 (fI .i64 a3 63)) 16))))))
theorem aGT{N a0 a1 a2 a3 r}(h:oH N a0 a1 a2 a3=some r):FnM Tryz.prog 244 [] [(j64 a0),(j64 a1),(j64 a2),(j64 a3)] (bL.enc r) []:=by
 unfold oH at h;refine At.f dG hT hmo Tryz.func244 rfl h ?_;refine lx ?_;intro x1;refine lx ?_;intro x2;refine lx ?_;intro x3;apply rt;exact At.r 16
def oV(N:Nat)(a0:Int):Nat->(Vector Int 32)->Int->Option ((Vector Int 32))
 | 0,_,_=>none
 | k+1,s4,s5=>
  cond (decide (s5 < 8)) (
   aa (aGP .u64 a0 (I64 (8*s5))) λx6=>
   aa (fM (I64 (24+s5)) 32) λ_=>
   aa (s4.toList[(I64 (24+s5)).toNat]?) λe8=>
   oV N a0 k (s4.setIfInBounds ((I64 (24+s5)).toNat) (U8 x6)) (I64 (s5+1))) (
   some s4)
def wR(N:Nat)(a0:Int):Option ((Vector Int 32)):=
 aa (aQV 32 0 32) λ_=>
 aa (cpV (bt 32 0) (aMb str_1) 0 32) λv2=>
 aa (oV N a0 N v2 0) λp3=>
 some p3
theorem aIP{N a0 r}(h:wR N a0=some r):FnM Tryz.prog 311 [] [(k64 a0)] (eA 32 1 k8 r) []:=by
 unfold wR at h;refine At.f dG hT hmo Tryz.func311 rfl h ?_;refine At.b 2 (λ_ e=>aNK hT (k:=1) 1 [] 0 e (by kernel_rfl) (by kernel_rfl) (by decide)) λs1=>?_;refine At.b 0 (λv2 e=>aQo hT k8 (id:=1) (path:=[]) (off:=0) (H':=[.var (eA 32 1 k8 (bt 32 0)),.var (eA 32 1 k8 v2)]) e (by kernel_rfl) (by kernel_rfl) (by kernel_rfl)) λv2=>?_;refine At.L 1 [2,3] 2 (λp3=>([],[(1,.var (eA 32 1 k8 p3))],[])) (λp3 J k=>∃s4 s5,oV N a0 k s4 s5=some p3/\J [0,2,3] 2 [(7,(j64 s5))] [(1,.var (eA 32 1 k8 s4))] []) N (λ_ h=>⟨_,_,h,jr⟩) (λp3 k s hI=>?_) λp3=>?_
 ·obtain⟨s4,s5,h,hj⟩:=hI;cases k with
  | zero=>cases h
  | succ k=>
   refine At.jr hj ?_ h;refine At.c 1 ?_ ?_
   ·refine At.b 7 (λ_ e=>zX hT (k' := .i64) e (by kernel_rfl) (by kernel_rfl)) λx6=>?_;refine At.b 1 (λ_ e=>bH hT (k:=1) 1 [] 0 e) λu7=>?_;refine At.b 0 (λ_ e=>oL hT k8 0 s4 e (U8 x6) (by kernel_rfl) (by kernel_rfl) (H':=[.var (eA 32 1 k8 (bt 32 0)),.var (eA 32 1 k8 (s4.setIfInBounds ((I64 (24+s5)).toNat) (U8 x6)))])) λe8=>?_;exact λh=>At.k 2 ⟨_,_,h,jr⟩
   ·apply rt;exact At.x 0
 ·apply rt;exact At.r 2
def oW(N:Nat)(a0:(List Int)):Option (Int):=
 aa (idx a0 0) λe1=>
 aa (idx a0 1) λe2=>
 aU (bor .u32 (U32 e1) (shl .u32 (U32 e2) 8)) λx3=>
 aa (idx a0 2) λe4=>
 aU (bor .u32 x3 (shl .u32 (U32 e4) 16)) λx5=>
 aa (idx a0 3) λe6=>
 aU (bor .u32 x5 (shl .u32 (U32 e6) 24)) λx7=>
 some x7
theorem aBW{N a0 r}(h:oW N a0=some r):FnM Tryz.prog 343 [] [(eL 1 k8 a0)] (k32 r) []:=by
 unfold oW at h;refine At.f dG hT hmo Tryz.func343 rfl h ?_;refine bi λe1 he1=>?_;refine bi λe2 he2=>?_;refine lx ?_;intro x3;refine bi λe4 he4=>?_;refine lx ?_;intro x5;refine bi λe6 he6=>?_;refine lx ?_;intro x7;refine At.d 1 (dE1 1 (λ_=>bT hT k8 he1) (dE1 5 (λ_=>bT hT k8 he2) (dE1 11 (λ_=>bT hT k8 he4) (dE1 17 (λ_=>bT hT k8 he6) dE0)))) dF0 ?_;apply rt;exact At.r 0
def aHw : Nat->Bool:=imL [3,5]
def mP(N:Nat)(a0:(Vector Int 32)):Nat->(Vector Int 16)->Int->Option ((Vector Int 16))
 | 0,_,_=>none
 | k+1,s2,s3=>
  cond (decide (s3 < 8)) (
   aa (xW a0.toList (I64 (4*s3)) 32) λs4=>
   aa (oW N s4) λr5=>
   aa (fM (I64 (4+s3)) 16) λ_=>
   aa (s2.toList[(I64 (4+s3)).toNat]?) λe7=>
   mP N a0 k (s2.setIfInBounds ((I64 (4+s3)).toNat) r5) (I64 (s3+1))) (
   some s2)
def mR(N:Nat)(a2:(Vector Int 12)):Nat->(Vector Int 16)->Int->Option ((Vector Int 16))
 | 0,_,_=>none
 | k+1,s9,s10=>
  cond (decide (s10 < 3)) (
   aa (xW a2.toList (I64 (4*s10)) 12) λs11=>
   aa (oW N s11) λr12=>
   aa (fM (I64 (13+s10)) 16) λ_=>
   aa (s9.toList[(I64 (13+s10)).toNat]?) λe14=>
   mR N a2 k (s9.setIfInBounds ((I64 (13+s10)).toNat) r12) (I64 (s10+1))) (
   some s9)
def tO(N:Nat)(a0:(Vector Int 32))(a1:Int)(a2:(Vector Int 12)):Option ((Vector Int 16)):=
 aa (mP N a0 N (#v[1634760805,857760878,2036477234,1797285236,0,0,0,0,0,0,0,0,a1,0,0,0]) 0) λp1=>
 aa (mR N a2 N p1 0) λp8=>
 some p8
theorem aGD{N a0 a1 a2 r}(h:tO N a0 a1 a2=some r):FnM Tryz.prog 330 [] [(eA 32 1 k8 a0),(k32 a1),(eA 12 1 k8 a2)] (eA 16 1 k32 r) []:=by
 unfold tO at h;refine At.f aHw hT hmo Tryz.func330 rfl h ?_;refine At.L 8 [5,6,7] 2 (λp1=>([],[(1,.var (eA 16 1 k32 p1))],[])) (λp1 J k=>∃s2 s3,mP N a0 k s2 s3=some p1/\J [3,5,6,7] 2 [(12,(j64 s3))] [(1,.var (eA 16 1 k32 s2))] []) N (λ_ h=>⟨_,_,h,jr⟩) (λp1 k s hI=>?_) λp1=>?_
 ·obtain⟨s2,s3,h,hj⟩:=hI;cases k with
  | zero=>cases h
  | succ k=>
   refine At.jr hj ?_ h;refine At.c 1 ?_ ?_
   ·refine At.b 6 (λ_ e=>aBk hT (N:=32) (k:=1) k8 a0 e) λs4=>?_;refine At.b 0 (λ_ e=>aM [] (aBW e)) λr5=>?_;refine At.b 0 (λ_ e=>bH hT (k:=1) 1 [] 0 e) λu6=>?_;refine At.b 0 (λ_ e=>oL hT k32 0 s2 e r5 (by kernel_rfl) (by kernel_rfl) (H':=[.var (eA 16 1 k32 (bt 16 0)),.var (eA 16 1 k32 (s2.setIfInBounds ((I64 (4+s3)).toNat) r5))])) λe7=>?_;exact λh=>At.k 2 ⟨_,_,h,jr⟩
   ·apply rt;exact At.x 0
 ·refine At.L 1 [6,7] 2 (λp8=>([],[(1,.var (eA 16 1 k32 p8))],[])) (λp8 J k=>∃s9 s10,mR N a2 k s9 s10=some p8/\J [5,6,7] 2 [(23,(j64 s10))] [(1,.var (eA 16 1 k32 s9))] []) N (λ_ h=>⟨_,_,h,jr⟩) (λp8 k s hI=>?_) λp8=>?_
  ·obtain⟨s9,s10,h,hj⟩:=hI;cases k with
   | zero=>cases h
   | succ k=>
    refine At.jr hj ?_ h;refine At.c 1 ?_ ?_
    ·refine At.b 6 (λ_ e=>aBk hT (N:=12) (k:=1) k8 a2 e) λs11=>?_;refine At.b 0 (λ_ e=>aM [] (aBW e)) λr12=>?_;refine At.b 0 (λ_ e=>bH hT (k:=1) 1 [] 0 e) λu13=>?_;refine At.b 0 (λ_ e=>oL hT k32 0 s9 e r12 (by kernel_rfl) (by kernel_rfl) (H':=[.var (eA 16 1 k32 (bt 16 0)),.var (eA 16 1 k32 (s9.setIfInBounds ((I64 (13+s10)).toNat) r12))])) λe14=>?_;exact λh=>At.k 2 ⟨_,_,h,jr⟩
    ·apply rt;exact At.x 0
  ·apply rt;exact At.r 2
def eG(N:Nat)(a0 a1:Int):Option (Int):=
 aa (aJ4 .u32 a0 (fI .u64 (U64 a1) 31)) λx1=>
 aU (U64 (32 - (fI .u64 (U64 a1) 31))) λx2=>
 aa (aGP .u32 a0 x2) λx3=>
 some (bor .u32 x1 x3)
theorem lD{N a0 a1 r}(h:eG N a0 a1=some r):FnM Tryz.prog 344 [] [(k32 a0),(j64 a1)] (k32 r) []:=by
 unfold eG at h;refine At.f dG hT hmo Tryz.func344 rfl h ?_;refine At.b 7 (λ_ e=>aC5 hT (k' := .u64) e (by kernel_rfl) (by kernel_rfl)) λx1=>?_;refine lx ?_;intro x2;refine At.b 3 (λ_ e=>zX hT (k' := .u64) e (by kernel_rfl) (by kernel_rfl)) λx3=>?_;apply rt;exact At.r 2
def aFf : Nat->Bool:=imL [1]
def qT(N:Nat)(a0:(Vector Int 4)):Option ((Vector Int 4)):=
 aa (idx a0.toList 0) λe1=>
 aa (idx a0.toList 1) λe2=>
 aa (idx a0.toList 2) λe3=>
 aa (idx a0.toList 3) λe4=>
 aU (bxor .u32 e4 (U32 (e1+e2))) λx5=>
 aa (eG N x5 16) λr6=>
 aU (bxor .u32 e2 (U32 (e3+r6))) λx7=>
 aa (eG N x7 12) λr8=>
 aU (U32 ((U32 (e1+e2))+r8)) λx9=>
 aa (eG N (bxor .u32 r6 x9) 8) λr10=>
 aU (U32 ((U32 (e3+r6))+r10)) λx11=>
 aa (eG N (bxor .u32 r8 x11) 7) λr12=>
 some (#v[x9,r12,x11,r10])
theorem aEv{N a0 r}(h:qT N a0=some r):FnM Tryz.prog 331 [] [(eA 4 1 k32 a0)] (eA 4 1 k32 r) []:=by
 unfold qT at h;refine At.f aFf hT hmo Tryz.func331 rfl h ?_;refine bi λe1 he1=>?_;refine bi λe2 he2=>?_;refine bi λe3 he3=>?_;refine bi λe4 he4=>?_;refine At.d 2 (dE1 0 (λ_=>eM hT (N:=4) (k:=1) k32 a0 he1) (dE1 2 (λ_=>eM hT (N:=4) (k:=1) k32 a0 he2) (dE1 4 (λ_=>eM hT (N:=4) (k:=1) k32 a0 he3) (dE1 6 (λ_=>eM hT (N:=4) (k:=1) k32 a0 he4) dE0)))) dF0 ?_;refine lx ?_;intro x5;refine At.b 7 (λ_ e=>aM [] (lD e)) λr6=>?_;refine lx ?_;intro x7;refine At.b 8 (λ_ e=>aM [] (lD e)) λr8=>?_;refine lx ?_;intro x9;refine At.b 8 (λ_ e=>aM [] (lD e)) λr10=>?_;refine lx ?_;intro x11;refine At.b 8 (λ_ e=>aM [] (lD e)) λr12=>?_;apply rt;exact At.r 7
def aHA : Nat->Bool:=imL [3,5]
def kM(N:Nat)  : Nat->(Vector Int 16)->Int->Option ((Vector Int 16))
 | 0,_,_=>none
 | k+1,s6,s7=>
  cond (decide (s7 < 8)) (
   aa (idx (#v[#v[0,4,8,12],#v[1,5,9,13],#v[2,6,10,14],#v[3,7,11,15],#v[0,5,10,15],#v[1,6,11,12],#v[2,7,8,13],#v[3,4,9,14]]).toList s7) λe8=>
   aa (fM 0 4) λ_=>
   aa (e8.toList[(bm 0)]?) λe10=>
   aa (fM e10 16) λ_=>
   aa (s6.toList[e10.toNat]?) λe12=>
   aa (fM 1 4) λ_=>
   aa (e8.toList[(bm 1)]?) λe14=>
   aa (fM e14 16) λ_=>
   aa (s6.toList[e14.toNat]?) λe16=>
   aa (fM 2 4) λ_=>
   aa (e8.toList[(bm 2)]?) λe18=>
   aa (fM e18 16) λ_=>
   aa (s6.toList[e18.toNat]?) λe20=>
   aa (fM 3 4) λ_=>
   aa (e8.toList[(bm 3)]?) λe22=>
   aa (fM e22 16) λ_=>
   aa (s6.toList[e22.toNat]?) λe24=>
   aa (qT N (#v[e12,e16,e20,e24])) λr25=>
   aa (fM 0 4) λ_=>
   aa (e8.toList[(bm 0)]?) λe27=>
   aa (fM 1 4) λ_=>
   aa (e8.toList[(bm 1)]?) λe29=>
   aa (fM 2 4) λ_=>
   aa (e8.toList[(bm 2)]?) λe31=>
   aa (fM 3 4) λ_=>
   aa (e8.toList[(bm 3)]?) λe33=>
   aa (fM 0 4) λ_=>
   aa (r25.toList[(bm 0)]?) λe35=>
   aa (fM 1 4) λ_=>
   aa (r25.toList[(bm 1)]?) λe37=>
   aa (fM 2 4) λ_=>
   aa (r25.toList[(bm 2)]?) λe39=>
   aa (fM 3 4) λ_=>
   aa (r25.toList[(bm 3)]?) λe41=>
   aa (fM e27 16) λ_=>
   aa (s6.toList[e27.toNat]?) λe43=>
   aa (fM e29 16) λ_=>
   aa ((s6.setIfInBounds e27.toNat e35).toList[e29.toNat]?) λe45=>
   aa (fM e31 16) λ_=>
   aa (((s6.setIfInBounds e27.toNat e35).setIfInBounds e29.toNat e37).toList[e31.toNat]?) λe47=>
   aa (fM e33 16) λ_=>
   aa ((((s6.setIfInBounds e27.toNat e35).setIfInBounds e29.toNat e37).setIfInBounds e31.toNat e39).toList[e33.toNat]?) λe49=>
   kM N k ((((s6.setIfInBounds e27.toNat e35).setIfInBounds e29.toNat e37).setIfInBounds e31.toNat e39).setIfInBounds e33.toNat e41) (I64 (s7+1))) (
   some s6)
def mM(N:Nat)  : Nat->(Vector Int 16)->Int->Option ((Vector Int 16))
 | 0,_,_=>none
 | k+1,s3,s4=>
  cond (decide (s4 < 10)) (
   aa (kM N N s3 0) λp5=>
   mM N k p5 (I64 (s4+1))) (
   some s3)
def mU(N:Nat)(p2 r1:(Vector Int 16)):Nat->(Vector Int 64)->Int->Option ((Vector Int 64))
 | 0,_,_=>none
 | k+1,s51,s52=>
  cond (decide (s52 < 16)) (
   aa (idx p2.toList s52) λe53=>
   aa (fM s52 16) λ_=>
   aa (r1.toList[s52.toNat]?) λe55=>
   aU (I64 ((I64 (4*s52))+1)) λx56=>
   aU (I64 ((I64 (4*s52))+2)) λx57=>
   aU (I64 ((I64 (4*s52))+3)) λx58=>
   aU (shr .u32 (U32 (e53+e55)) 8) λx59=>
   aU (shr .u32 (U32 (e53+e55)) 16) λx60=>
   aU (shr .u32 (U32 (e53+e55)) 24) λx61=>
   aa (fM (I64 (4*s52)) 64) λ_=>
   aa (s51.toList[(I64 (4*s52)).toNat]?) λe63=>
   aa (fM x56 64) λ_=>
   aa ((s51.setIfInBounds ((I64 (4*s52)).toNat) (U8 (U32 (e53+e55)))).toList[x56.toNat]?) λe65=>
   aa (fM x57 64) λ_=>
   aa (((s51.setIfInBounds ((I64 (4*s52)).toNat) (U8 (U32 (e53+e55)))).setIfInBounds x56.toNat (U8 x59)).toList[x57.toNat]?) λe67=>
   aa (fM x58 64) λ_=>
   aa ((((s51.setIfInBounds ((I64 (4*s52)).toNat) (U8 (U32 (e53+e55)))).setIfInBounds x56.toNat (U8 x59)).setIfInBounds x57.toNat (U8 x60)).toList[x58.toNat]?) λe69=>
   mU N p2 r1 k ((((s51.setIfInBounds ((I64 (4*s52)).toNat) (U8 (U32 (e53+e55)))).setIfInBounds x56.toNat (U8 x59)).setIfInBounds x57.toNat (U8 x60)).setIfInBounds x58.toNat (U8 x61)) (I64 (s52+1))) (
   some s51)
def tI(N:Nat)(a0:(Vector Int 32))(a1:Int)(a2:(Vector Int 12)):Option ((Vector Int 64)):=
 aa (tO N a0 a1 a2) λr1=>
 aa (mM N N r1 0) λp2=>
 aa (mU N p2 r1 N (bt 64 0) 0) λp50=>
 some p50
theorem aGL{N a0 a1 a2 r}(h:tI N a0 a1 a2=some r):FnM Tryz.prog 310 [] [(eA 32 1 k8 a0),(k32 a1),(eA 12 1 k8 a2)] (eA 64 1 k8 r) []:=by
 unfold tI at h;refine At.f aHA hT hmo Tryz.func310 rfl h ?_;refine At.b 6 (λ_ e=>aM [] (aGD e)) λr1=>?_;refine At.L 17 [6,7,8] 4 (λp2=>([],[(2,.var (eA 16 1 k32 p2))],[])) (λp2 J k=>∃s3 s4,mM N k s3 s4=some p2/\J [6,7,8,9] 4 [(30,(j64 s4))] [(2,.var (eA 16 1 k32 s3))] []) N (λ_ h=>⟨_,_,h,jr⟩) (λp2 k s hI=>?_) λp2=>?_
 ·obtain⟨s3,s4,h,hj⟩:=hI;cases k with
  | zero=>cases h
  | succ k=>
   refine At.jr hj ?_ h;refine At.c 1 ?_ ?_
   ·refine At.L 2 [6,7,8,9,30] 4 (λp5=>([],[(2,.var (eA 16 1 k32 p5))],[])) (λp5 J k=>∃s6 s7,kM N k s6 s7=some p5/\J [6,7,8,9,30,32] 4 [(33,(j64 s7))] [(2,.var (eA 16 1 k32 s6))] []) N (λ_ h=>⟨_,_,h,jr⟩) (λp5 k s hI=>?_) λp5=>?_
    ·obtain⟨s6,s7,h,hj⟩:=hI;cases k with
     | zero=>cases h
     | succ k=>
      refine At.jr hj ?_ h;refine At.c 1 ?_ ?_
      ·refine At.b 0 (λ_ e=>aA6 hT (eA 4 1 j64) (#v[#v[0,4,8,12],#v[1,5,9,13],#v[2,6,10,14],#v[3,7,11,15],#v[0,5,10,15],#v[1,6,11,12],#v[2,7,8,13],#v[3,4,9,14]]) e (by kernel_rfl) (by kernel_rfl)) λe8=>?_;refine bi λu9 hu9=>?_;refine bi λe10 he10=>?_;refine bi λu11 hu11=>?_;refine bi λe12 he12=>?_;refine bi λu13 hu13=>?_;refine bi λe14 he14=>?_;refine bi λu15 hu15=>?_;refine bi λe16 he16=>?_;refine bi λu17 hu17=>?_;refine bi λe18 he18=>?_;refine bi λu19 hu19=>?_;refine bi λe20 he20=>?_;refine bi λu21 hu21=>?_;refine bi λe22 he22=>?_;refine bi λu23 hu23=>?_;refine bi λe24 he24=>?_;refine bi λr25 hr25=>?_;refine At.d 2 (dE1 0 (λ_=>bH hT (k:=1) 4 [] 0 hu9) (dEL hT 1 (j64 e10) j64 0 he10 (dE1 2 (λ_=>bH hT (k:=1) 2 [] 0 hu11) (dEL hT 3 (k32 e12) k32 0 he12 (dE1 4 (λ_=>bH hT (k:=1) 4 [] 0 hu13) (dEL hT 5 (j64 e14) j64 0 he14 (dE1 6 (λ_=>bH hT (k:=1) 2 [] 0 hu15) (dEL hT 7 (k32 e16) k32 0 he16 (dE1 8 (λ_=>bH hT (k:=1) 4 [] 0 hu17) (dEL hT 9 (j64 e18) j64 0 he18 (dE1 10 (λ_=>bH hT (k:=1) 2 [] 0 hu19) (dEL hT 11 (k32 e20) k32 0 he20 (dE1 12 (λ_=>bH hT (k:=1) 4 [] 0 hu21) (dEL hT 13 (j64 e22) j64 0 he22 (dE1 14 (λ_=>bH hT (k:=1) 2 [] 0 hu23) (dEL hT 15 (k32 e24) k32 0 he24 (dE2 17 (eA 4 1 k32 r25) (λ_=>aO (aEv hr25)) dE0))))))))))))))))) dF0 ?_;refine bi λu26 hu26=>?_;refine bi λe27 he27=>?_;refine bi λu28 hu28=>?_;refine bi λe29 he29=>?_;refine bi λu30 hu30=>?_;refine bi λe31 he31=>?_;refine bi λu32 hu32=>?_;refine bi λe33 he33=>?_;refine bi λu34 hu34=>?_;refine bi λe35 he35=>?_;refine bi λu36 hu36=>?_;refine bi λe37 he37=>?_;refine bi λu38 hu38=>?_;refine bi λe39 he39=>?_;refine bi λu40 hu40=>?_;refine bi λe41 he41=>?_;refine bi λu42 hu42=>?_;refine bi λe43 he43=>?_;refine bi λu44 hu44=>?_;refine bi λe45 he45=>?_;refine bi λu46 hu46=>?_;refine bi λe47 he47=>?_;refine bi λu48 hu48=>?_;refine bi λe49 he49=>?_;refine At.d 0 (dE1 0 (λ_=>bH hT (k:=1) 4 [] 0 hu26) (dEL hT 1 (j64 e27) j64 0 he27 (dE1 2 (λ_=>bH hT (k:=1) 4 [] 0 hu28) (dEL hT 3 (j64 e29) j64 0 he29 (dE1 4 (λ_=>bH hT (k:=1) 4 [] 0 hu30) (dEL hT 5 (j64 e31) j64 0 he31 (dE1 6 (λ_=>bH hT (k:=1) 4 [] 0 hu32) (dEL hT 7 (j64 e33) j64 0 he33 (dE1 8 (λ_=>bH hT (k:=1) 5 [] 0 hu34) (dEL hT 9 (k32 e35) k32 0 he35 (dE1 10 (λ_=>bH hT (k:=1) 5 [] 0 hu36) (dEL hT 11 (k32 e37) k32 0 he37 (dE1 12 (λ_=>bH hT (k:=1) 5 [] 0 hu38) (dEL hT 13 (k32 e39) k32 0 he39 (dE1 14 (λ_=>bH hT (k:=1) 5 [] 0 hu40) (dEL hT 15 (k32 e41) k32 0 he41 (dE1 16 (λ_=>bH hT (k:=1) 2 [] 0 hu42) (dE1 18 (λ_=>bH hT (k:=1) 2 [] 0 hu44) (dE1 20 (λ_=>bH hT (k:=1) 2 [] 0 hu46) (dE1 22 (λ_=>bH hT (k:=1) 2 [] 0 hu48) dE0)))))))))))))))))))) (dF 17 (.v (.bool false)) [(2,.var (eA 16 1 k32 (s6.setIfInBounds e27.toNat e35)))] [] (bG (oL hT k32 0 s6 he43 e35 (by kernel_rfl) (by kernel_rfl) (H':=[.var (eA 64 1 k8 (bt 64 0)),.var (eA 16 1 k32 r1),.var (eA 16 1 k32 (s6.setIfInBounds e27.toNat e35)),.var aLC,.var (eA 4 1 j64 e8),.var (eA 4 1 k32 r25)]))) (dF 19 (.v (.bool false)) [(2,.var (eA 16 1 k32 ((s6.setIfInBounds e27.toNat e35).setIfInBounds e29.toNat e37)))] [] (bG (oL hT k32 0 (s6.setIfInBounds e27.toNat e35) he45 e37 (by kernel_rfl) (by kernel_rfl) (H':=[.var (eA 64 1 k8 (bt 64 0)),.var (eA 16 1 k32 r1),.var (eA 16 1 k32 ((s6.setIfInBounds e27.toNat e35).setIfInBounds e29.toNat e37)),.var aLC,.var (eA 4 1 j64 e8),.var (eA 4 1 k32 r25)]))) (dF 21 (.v (.bool false)) [(2,.var (eA 16 1 k32 (((s6.setIfInBounds e27.toNat e35).setIfInBounds e29.toNat e37).setIfInBounds e31.toNat e39)))] [] (bG (oL hT k32 0 ((s6.setIfInBounds e27.toNat e35).setIfInBounds e29.toNat e37) he47 e39 (by kernel_rfl) (by kernel_rfl) (H':=[.var (eA 64 1 k8 (bt 64 0)),.var (eA 16 1 k32 r1),.var (eA 16 1 k32 (((s6.setIfInBounds e27.toNat e35).setIfInBounds e29.toNat e37).setIfInBounds e31.toNat e39)),.var aLC,.var (eA 4 1 j64 e8),.var (eA 4 1 k32 r25)]))) (dF 23 (.v (.bool false)) [(2,.var (eA 16 1 k32 ((((s6.setIfInBounds e27.toNat e35).setIfInBounds e29.toNat e37).setIfInBounds e31.toNat e39).setIfInBounds e33.toNat e41)))] [] (bG (oL hT k32 0 (((s6.setIfInBounds e27.toNat e35).setIfInBounds e29.toNat e37).setIfInBounds e31.toNat e39) he49 e41 (by kernel_rfl) (by kernel_rfl) (H':=[.var (eA 64 1 k8 (bt 64 0)),.var (eA 16 1 k32 r1),.var (eA 16 1 k32 ((((s6.setIfInBounds e27.toNat e35).setIfInBounds e29.toNat e37).setIfInBounds e31.toNat e39).setIfInBounds e33.toNat e41)),.var aLC,.var (eA 4 1 j64 e8),.var (eA 4 1 k32 r25)]))) dF0)))) ?_;exact λh=>At.k 2 ⟨_,_,h,jr⟩
      ·apply rt;exact At.x 0
    ·exact λh=>At.k 2 ⟨_,_,h,jr⟩
   ·apply rt;exact At.x 0
 ·refine At.L 3 [6,13] 5 (λp50=>([],[(4,.var (eA 64 1 k8 p50))],[])) (λp50 J k=>∃s51 s52,mU N p2 r1 k s51 s52=some p50/\J [6,7,13,76] 5 [(77,(j64 s52))] [(4,.var (eA 64 1 k8 s51))] []) N (λ_ h=>⟨_,_,h,jr⟩) (λp50 k s hI=>?_) λp50=>?_
  ·obtain⟨s51,s52,h,hj⟩:=hI;cases k with
   | zero=>cases h
   | succ k=>
    refine At.jr hj ?_ h;refine At.c 1 ?_ ?_
    ·refine At.b 1 (λ_ e=>aA6 hT k32 p2 e (by kernel_rfl) (by kernel_rfl)) λe53=>?_;refine At.b 4 (λ_ e=>bH hT (k:=1) 1 [] 0 e) λu54=>?_;refine At.b 0 (λ_ e=>qF hT k32 0 e) λe55=>?_;refine lx ?_;intro x56;refine lx ?_;intro x57;refine lx ?_;intro x58;refine lx ?_;intro x59;refine lx ?_;intro x60;refine lx ?_;intro x61;refine At.b 24 (λ_ e=>bH hT (k:=1) 4 [] 0 e) λu62=>?_;refine At.b 0 (λ_ e=>oL hT k8 0 s51 e (U8 (U32 (e53+e55))) (by kernel_rfl) (by kernel_rfl) (H':=[.var (eA 64 1 k8 (bt 64 0)),.var (eA 16 1 k32 r1),.var (eA 16 1 k32 p2),.var aLC,.var (eA 64 1 k8 (s51.setIfInBounds ((I64 (4*s52)).toNat) (U8 (U32 (e53+e55)))))])) λe63=>?_;refine At.b 0 (λ_ e=>bH hT (k:=1) 4 [] 0 e) λu64=>?_;refine At.b 0 (λ_ e=>oL hT k8 0 (s51.setIfInBounds ((I64 (4*s52)).toNat) (U8 (U32 (e53+e55)))) e (U8 x59) (by kernel_rfl) (by kernel_rfl) (H':=[.var (eA 64 1 k8 (bt 64 0)),.var (eA 16 1 k32 r1),.var (eA 16 1 k32 p2),.var aLC,.var (eA 64 1 k8 ((s51.setIfInBounds ((I64 (4*s52)).toNat) (U8 (U32 (e53+e55)))).setIfInBounds x56.toNat (U8 x59)))])) λe65=>?_;refine At.b 0 (λ_ e=>bH hT (k:=1) 4 [] 0 e) λu66=>?_;refine At.b 0 (λ_ e=>oL hT k8 0 ((s51.setIfInBounds ((I64 (4*s52)).toNat) (U8 (U32 (e53+e55)))).setIfInBounds x56.toNat (U8 x59)) e (U8 x60) (by kernel_rfl) (by kernel_rfl) (H':=[.var (eA 64 1 k8 (bt 64 0)),.var (eA 16 1 k32 r1),.var (eA 16 1 k32 p2),.var aLC,.var (eA 64 1 k8 (((s51.setIfInBounds ((I64 (4*s52)).toNat) (U8 (U32 (e53+e55)))).setIfInBounds x56.toNat (U8 x59)).setIfInBounds x57.toNat (U8 x60)))])) λe67=>?_;refine At.b 0 (λ_ e=>bH hT (k:=1) 4 [] 0 e) λu68=>?_;refine At.b 0 (λ_ e=>oL hT k8 0 (((s51.setIfInBounds ((I64 (4*s52)).toNat) (U8 (U32 (e53+e55)))).setIfInBounds x56.toNat (U8 x59)).setIfInBounds x57.toNat (U8 x60)) e (U8 x61) (by kernel_rfl) (by kernel_rfl) (H':=[.var (eA 64 1 k8 (bt 64 0)),.var (eA 16 1 k32 r1),.var (eA 16 1 k32 p2),.var aLC,.var (eA 64 1 k8 ((((s51.setIfInBounds ((I64 (4*s52)).toNat) (U8 (U32 (e53+e55)))).setIfInBounds x56.toNat (U8 x59)).setIfInBounds x57.toNat (U8 x60)).setIfInBounds x58.toNat (U8 x61)))])) λe69=>?_;exact λh=>At.k 2 ⟨_,_,h,jr⟩
    ·apply rt;exact At.x 0
  ·apply rt;exact At.r 2
def aCY : Nat->Bool:=imL [2]
def iP(N:Nat)(a0:bL):Nat->(Vector Int 12)->Int->Option ((Vector Int 12))
 | 0,_,_=>none
 | k+1,s2,s3=>
  cond (decide (s3 < 4)) (
   aa (aGP .u32 a0.gE3 (I64 (8*s3))) λx4=>
   aa (aGP .u32 a0.gE4 (I64 (8*s3))) λx5=>
   aa (fM s3 12) λ_=>
   aa (s2.toList[s3.toNat]?) λe7=>
   aa (fM (I64 (4+s3)) 12) λ_=>
   aa ((s2.setIfInBounds s3.toNat (U8 x4)).toList[(I64 (4+s3)).toNat]?) λe9=>
   iP N a0 k ((s2.setIfInBounds s3.toNat (U8 x4)).setIfInBounds ((I64 (4+s3)).toNat) (U8 x5)) (I64 (s3+1))) (
   some s2)
def iU(N:Nat)(a0:bL)(a1:Int):Option ((Vector Int 64)):=
 aa (iP N a0 N (bt 12 0) 0) λp1=>
 aa (wR N a1) λr10=>
 aa (tI N r10 a0.gE5 p1) λr11=>
 some r11
theorem aCR{N a0 a1 r}(h:iU N a0 a1=some r):FnM Tryz.prog 245 [] [(bL.enc a0),(k64 a1)] (eA 64 1 k8 r) []:=by
 unfold iU at h;refine At.f aCY hT hmo Tryz.func245 rfl h ?_;refine At.L 4 [1,2,4,5] 2 (λp1=>([],[(1,.var (eA 12 1 k8 p1))],[])) (λp1 J k=>∃s2 s3,iP N a0 k s2 s3=some p1/\J [1,2,4,5] 2 [(7,(j64 s3))] [(1,.var (eA 12 1 k8 s2))] []) N (λ_ h=>⟨_,_,h,jr⟩) (λp1 k s hI=>?_) λp1=>?_
 ·obtain⟨s2,s3,h,hj⟩:=hI;cases k with
  | zero=>cases h
  | succ k=>
   refine At.jr hj ?_ h;refine At.c 1 ?_ ?_
   ·refine bi λx4 hx4=>?_;refine bi λx5 hx5=>?_;refine bi λu6 hu6=>?_;refine bi λe7 he7=>?_;refine bi λu8 hu8=>?_;refine bi λe9 he9=>?_;refine At.d 2 (dE1 7 (λ_=>zX hT (k' := .i64) hx4 (by kernel_rfl) (by kernel_rfl)) (dE1 13 (λ_=>zX hT (k' := .i64) hx5 (by kernel_rfl) (by kernel_rfl)) (dE1 15 (λ_=>bH hT (k:=1) 1 [] 0 hu6) (dE1 17 (λ_=>bH hT (k:=1) 1 [] 0 hu8) dE0)))) (dF 16 (.v (.bool false)) [(1,.var (eA 12 1 k8 (s2.setIfInBounds s3.toNat (U8 x4))))] [] (bG (oL hT k8 0 s2 he7 (U8 x4) (by kernel_rfl) (by kernel_rfl) (H':=[.var (eA 64 1 k8 (bt 64 0)),.var (eA 12 1 k8 (s2.setIfInBounds s3.toNat (U8 x4)))]))) (dF 18 (.v (.bool false)) [(1,.var (eA 12 1 k8 ((s2.setIfInBounds s3.toNat (U8 x4)).setIfInBounds ((I64 (4+s3)).toNat) (U8 x5))))] [] (bG (oL hT k8 0 (s2.setIfInBounds s3.toNat (U8 x4)) he9 (U8 x5) (by kernel_rfl) (by kernel_rfl) (H':=[.var (eA 64 1 k8 (bt 64 0)),.var (eA 12 1 k8 ((s2.setIfInBounds s3.toNat (U8 x4)).setIfInBounds ((I64 (4+s3)).toNat) (U8 x5)))]))) dF0)) ?_;exact λh=>At.k 2 ⟨_,_,h,jr⟩
   ·apply rt;exact At.x 0
 ·refine bi λr10 hr10=>?_;refine bi λr11 hr11=>?_;refine At.d 0 (dE2 1 (eA 32 1 k8 r10) (λ_=>aO (aIP hr10)) (dE2 5 (eA 64 1 k8 r11) (λ_=>aO (aGL hr11)) dE0)) dF0 ?_;apply rt;exact At.r 0
def aGS : Nat->Bool:=imL [2]
def oQ(N:Nat)(a0:(Vector Int 64))(a1:Int):Option (Int):=
 aU (I64 (4*(fI .i64 a1 15))) λx1=>
 aa (idx a0.toList x1) λe2=>
 aa (idx a0.toList (I64 (x1+1))) λe3=>
 aU (bor .u32 (U32 e2) (shl .u32 (U32 e3) 8)) λx4=>
 aa (idx a0.toList (I64 (x1+2))) λe5=>
 aU (bor .u32 x4 (shl .u32 (U32 e5) 16)) λx6=>
 aa (idx a0.toList (I64 (x1+3))) λe7=>
 aU (bor .u32 x6 (shl .u32 (U32 e7) 24)) λx8=>
 some x8
theorem aFD{N a0 a1 r}(h:oQ N a0 a1=some r):FnM Tryz.prog 246 [] [(eA 64 1 k8 a0),(j64 a1)] (k32 r) []:=by
 unfold oQ at h;refine At.f aGS hT hmo Tryz.func246 rfl h ?_;refine lx ?_;intro x1;refine bi λe2 he2=>?_;refine bi λe3 he3=>?_;refine lx ?_;intro x4;refine bi λe5 he5=>?_;refine lx ?_;intro x6;refine bi λe7 he7=>?_;refine lx ?_;intro x8;refine At.d 6 (dE1 1 (λ_=>eM hT (N:=64) (k:=1) k8 a0 he2) (dE1 6 (λ_=>eM hT (N:=64) (k:=1) k8 a0 he3) (dE1 13 (λ_=>eM hT (N:=64) (k:=1) k8 a0 he5) (dE1 20 (λ_=>eM hT (N:=64) (k:=1) k8 a0 he7) dE0)))) dF0 ?_;apply rt;exact At.r 0
def eF(N:Nat)(a0 a1:Int)(a2:aB):Option (aV×Int):=
 cond (!a2.gA) (
  some ((a2.gD4,0))) (
  aa (aa (oH N a2.gB a2.gD a0 a1) λr2=>
  aa (cond (!a2.gD4.gis) (
   some true) (
   some (!(bL.eq r2 a2.gD4.gE8)))) λp3=>
  cond p3 (
   aa (iU N r2 a2.gC) λr4=>
   some ((aV.mk r2 true r4,r2))) (
   some ((a2.gD4,r2)))) λp1=>
  aa (oQ N p1.1.gE9 a1) λr5=>
  some ((p1.1,r5)))
theorem uN{N a0 a1 a2 r}(h:eF N a0 a1 a2=some r):FnM Tryz.prog 185 [.var (aB.enc a2)] [(.ref 0 [] 0),(j64 a0),(j64 a1)] (k32 r.2) [.var (.st 72 [(aV.enc r.1),(eB a2.gA),(k64 a2.gC),(j64 a2.gB),(j64 a2.gD)])]:=by
 unfold eF at h;refine At.f dG hT hmo Tryz.func185 rfl h ?_;refine At.o 2 (aB1 hT (t:=185) (x:=(.ref 0 [] 0)) (b:=true) (by kernel_rfl) rfl rfl (by kernel_rfl)) ?_;refine At.g [10] 7 ?_;refine At.c 0 ?_ ?_
 ·apply rt;exact At.r 1
 ·refine At.J 0 1 [0,2] 1 (λp1=>([],[(0,.var (.st 72 [(aV.enc p1.1),(eB a2.gA),(k64 a2.gC),(j64 a2.gB),(j64 a2.gD)]))],[.var (bL.enc p1.2)])) (λp1=>?_) λp1=>?_
  ·refine bi λr2 hr2=>?_;refine At.d 0 (dE2 10 (bL.enc r2) (λ_=>aO (aGT hr2)) dE0) dF0 ?_;refine At.J 0 0 [0,2,7] 2 (λp3=>([(42,(eB p3))],[],[])) (λp3=>?_) λp3=>?_
   ·refine boI (λhc6=>?_) (λhc6=>?_)
    ·refine At.d 0 (dE1 6 (λ_=>cO hc6 rfl (cF hT (im:=false) (by kernel_rfl))) dE0) dF0 ?_;apply rt;exact At.jn 0
    ·refine At.d 0 (dE1 6 (λ_=>cO hc6 rfl (cF hT (im:=false) (by kernel_rfl))) (dE1 13 (λ_=>zU aR5 (r2:bL) (a2.gD4.gE8:bL) (by kernel_rfl) (by kernel_rfl) (λ_=>rfl) (λ_=>rfl) (by kernel_rfl) (by kernel_rfl)) dE0)) dF0 ?_;apply rt;exact At.jn 0
   ·refine At.c 0 ?_ ?_
    ·refine bi λr4 hr4=>?_;refine At.d 0 (dE2 7 (eA 64 1 k8 r4) (λ_=>aO (aCR hr4)) dE0) dF0 ?_;apply rt;exact At.jn 0
    ·apply rt;exact At.jn 0
  ·refine At.b 6 (λ_ e=>aM [] (aFD e)) λr5=>?_;apply rt;exact At.r 1
def cM(N:Nat)(b4:(List (List aD)))(a1:Int)(a2:aJ)(a3 a4:aA)(a5:Int)(a6:Bool)(a7:aF)(a8:aG)(a9:aI)(a10:aA)(a11:aE)(a12:aB)(a13:aK):Option (aV×Int):=
 aa (eF N a5 a1 a12) λr1=>
 some ((r1.1,r1.2))
theorem cP{N b4 a1 a2 a3 a4 a5 a6 a7 a8 a9 a10 a11 a12 a13 r}(h:cM N b4 a1 a2 a3 a4 a5 a6 a7 a8 a9 a10 a11 a12 a13=some r):FnM Tryz.prog 105 [.var (.st 26 [(aJ.enc a2),(.ref 1 [] 0),(.ref 2 [] 0),(aA.enc a3),(aA.enc a4),(j64 a5),(eB a6),(aF.enc a7)]),.var (.st 38 [(aG.enc a8),(aI.enc a9),(.ifc 178 (.ref 3 [] 0)),(eO 4 1 (eL 2 aD.enc) b4),(aA.enc a10),(aE.enc a11)]),.var (aB.enc a12),.var (aK.enc a13),.tail (b4.length*1)] [(.ref 0 [] 0),(j64 a1)] (k32 r.2) [.var (.st 26 [(aJ.enc a2),(.ref 1 [] 0),(.ref 2 [] 0),(aA.enc a3),(aA.enc a4),(j64 a5),(eB a6),(aF.enc a7)]),.var (.st 38 [(aG.enc a8),(aI.enc a9),(.ifc 178 (.ref 3 [] 0)),(eO 4 1 (eL 2 aD.enc) b4),(aA.enc a10),(aE.enc a11)]),.var (.st 72 [(aV.enc r.1),(eB a12.gA),(k64 a12.gC),(j64 a12.gB),(j64 a12.gD)]),.var (aK.enc a13),.tail (b4.length*1)]:=by
 unfold cM at h;refine At.f dG hT hmo Tryz.func105 rfl h ?_;refine bi λr1 hr1=>?_;refine At.d 1 dE0 (dF 9 (k32 r1.2) [(2,.var (.st 72 [(aV.enc r1.1),(eB a12.gA),(k64 a12.gC),(j64 a12.gB),(j64 a12.gD)]))] [] (bG (aM [2] (uN hr1))) dF0) ?_;apply rt;exact At.r 0
def pX(N:Nat)(a0:Int):Option (Int):=
 some (I64 a0)
theorem aAQ{N a0 r}(h:pX N a0=some r):FnM Tryz.prog 247 [] [(k32 a0)] (j64 r) []:=by
 unfold pX at h;refine At.f dG hT hmo Tryz.func247 rfl h ?_;apply rt;exact At.r 4
def uF(N:Nat)(a0 a1:Int):Option (Int):=
 aU (cond (decide (a0>=0)) (decide (a1 < 0)) false) λx1=>
 aU (decide ((I64 (a0 - a1)) < 0)) λx2=>
 cond (cond x1 x2 false) (
  some 9223372036854775807) (
  aU (cond (decide (a0 < 0)) (decide (a1 > 0)) false) λx3=>
  aU (decide ((I64 (a0 - a1))>=0)) λx4=>
  cond (cond x3 x4 false) (some (-9223372036854775808)) (some (I64 (a0 - a1))))
theorem aAh{N a0 a1 r}(h:uF N a0 a1=some r):FnM Tryz.prog 248 [] [(j64 a0),(j64 a1)] (j64 r) []:=by
 unfold uF at h;refine At.f dG hT hmo Tryz.func248 rfl h ?_;refine lx ?_;intro x1;refine lx ?_;intro x2;refine At.c 16 ?_ ?_
 ·apply rt;exact At.r 1
 ·refine lx ?_;intro x3;refine lx ?_;intro x4;refine At.c 11 ?_ ?_
  ·apply rt;exact At.r 1
  ·apply rt;exact At.r 2
def aQL : Nat->Bool:=imL [1]
def nH(N:Nat)(a0:aC):Option (aA):=
 aa (iR N a0.gX) λr1=>
 aa (iR N a0.gY) λr2=>
 aa (iR N a0.gZ) λr3=>
 some (aA.mk r1 r2 r3)
theorem sB{N a0 r}(h:nH N a0=some r):FnM Tryz.prog 189 [] [(aC.enc a0)] (aA.enc r) []:=by
 unfold nH at h;refine At.f aQL hT hmo Tryz.func189 rfl h ?_;refine bi λr1 hr1=>?_;refine bi λr2 hr2=>?_;refine bi λr3 hr3=>?_;refine At.d 2 (dE2 2 (j64 r1) (λ_=>aO (iX hr1)) (dE2 5 (j64 r2) (λ_=>aO (iX hr2)) (dE2 8 (j64 r3) (λ_=>aO (iX hr3)) dE0))) dF0 ?_;apply rt;exact At.r 0
def uH(N:Nat)(a0:Int):Option (aS):=
 some (aS.mk (shr .i64 a0 63) (U64 a0))
theorem aAj{N a0 r}(h:uH N a0=some r):FnM Tryz.prog 230 [] [(j64 a0)] (aS.enc r) []:=by
 unfold uH at h;refine At.f dG hT hmo Tryz.func230 rfl h ?_;apply rt;exact At.r 7
def aMg : Nat->Bool:=imL [2]
def aAi(N:Nat)(a0:aS)(a1:Int):Option (aS):=
 aU (decide ((jR a1 0)>=64)) λx1=>
 cond x1 (
  aU (fN (I64 ((jR a1 0) - 64)) 63) λx2=>
  aa (aGP .i64 a0.gHi x2) λx3=>
  aa (uH N x3) λr4=>
  some r4) (
  cond ((jR a1 0)==0) (
   some a0) (
   aa (aGP .i64 a0.gHi (jR a1 0)) λx5=>
   aa (aGP .u64 a0.gLo (jR a1 0)) λx6=>
   aa (aJ4 .u64 (U64 a0.gHi) (I64 (64 - (jR a1 0)))) λx7=>
   some (aS.mk x5 (bor .u64 x6 x7))))
theorem aK6{N a0 a1 r}(h:aAi N a0 a1=some r):FnM Tryz.prog 168 [] [(aS.enc a0),(j64 a1)] (aS.enc r) []:=by
 unfold aAi at h;refine At.f aMg hT hmo Tryz.func168 rfl h ?_;refine lx ?_;intro x1;refine At.c 7 ?_ ?_
 ·refine lx ?_;intro x2;refine At.b 5 (λ_ e=>zX hT (k' := .i64) e (by kernel_rfl) (by kernel_rfl)) λx3=>?_;refine At.b 0 (λ_ e=>aM [] (aAj e)) λr4=>?_;apply rt;exact At.r 1
 ·refine At.c 2 ?_ ?_
  ·apply rt;exact At.r 2
  ·refine bi λx5 hx5=>?_;refine bi λx6 hx6=>?_;refine bi λx7 hx7=>?_;refine At.d 0 (dE1 3 (λ_=>zX hT (k' := .i64) hx5 (by kernel_rfl) (by kernel_rfl)) (dE1 7 (λ_=>zX hT (k' := .i64) hx6 (by kernel_rfl) (by kernel_rfl)) (dE1 13 (λ_=>aC5 hT (k' := .i64) hx7 (by kernel_rfl) (by kernel_rfl)) dE0))) dF0 ?_;apply rt;exact At.r 0
def uC(N:Nat)(a0:(List Int)):Nat->Int->Int->Option (Int)
 | 0,_,_=>none
 | k+1,s2,s3=>
  aU (decide (s3 < ((a0.length:Int)))) λx4=>
  cond x4 (
   aa (aa (idx a0 s3) λe6=>
   cond (s3==0) (
    some e6) (
    aa (fS N s2 e6) λr7=>
    aa (aAi N r7 32) λr8=>
    aa (tD N r8) λr9=>
    some r9)) λp5=>
   uC N a0 k p5 (I64 (s3+1))) (
   some s2)
def xJ(N:Nat)(a0:(List Int)):Option (Int):=
 aa (uC N a0 N 4294967296 0) λp1=>
 some p1
theorem aDr{N a0 r}(h:xJ N a0=some r):FnM Tryz.prog 92 [] [(eL 1 j64 a0)] (j64 r) []:=by
 unfold xJ at h;refine At.f dG hT hmo Tryz.func92 rfl h ?_;refine At.L 5 [] 0 (λp1=>([(3,(j64 p1))],[],[])) (λp1 J k=>∃s2 s3,uC N a0 k s2 s3=some p1/\J [6,7] 0 [(3,(j64 s2)),(8,(j64 s3))] [] []) N (λ_ h=>⟨_,_,h,jr⟩) (λp1 k s hI=>?_) λp1=>?_
 ·obtain⟨s2,s3,h,hj⟩:=hI;cases k with
  | zero=>cases h
  | succ k=>
   refine At.jr hj ?_ h;refine lx ?_;intro x4;refine At.c 1 ?_ ?_
   ·refine At.J 0 2 [6,7,8] 0 (λp5=>([(3,(j64 p5))],[],[])) (λp5=>?_) λp5=>?_
    ·refine At.b 1 (λ_ e=>bT hT j64 e) λe6=>?_;refine At.c 5 ?_ ?_
     ·apply rt;exact At.jn 2
     ·refine At.b 2 (λ_ e=>aM [] (lB e)) λr7=>?_;refine At.b 0 (λ_ e=>aM [] (aK6 e)) λr8=>?_;refine At.b 0 (λ_ e=>aM [] (aCm e)) λr9=>?_;apply rt;exact At.jn 1
    ·exact λh=>At.k 2 ⟨_,_,h,jr⟩
   ·apply rt;exact At.x 0
 ·apply rt;exact At.r 2
def rY(N:Nat)(a0 a1:Int):Option (Int):=
 aa (xJ N ([a0,a1])) λr1=>
 some r1
theorem aAc{N a0 a1 r}(h:rY N a0 a1=some r):FnM Tryz.prog 267 [] [(j64 a0),(j64 a1)] (j64 r) []:=by
 unfold rY at h;refine At.f dG hT hmo Tryz.func267 rfl h ?_;refine At.o 3 (bS hT (x:=(.sl 1 2 [(j64 a0),(j64 a1)]))) ?_;refine At.b 0 (λ_ e=>aM [] (aDr e)) λr1=>?_;apply rt;exact At.r 1
def aD6 : Nat->Bool:=imL [3,4]
def oC(N:Nat)(a0 a1:aA):Option (aA):=
 aa (rY N a0.gX a1.gX) λr1=>
 aa (rY N a0.gY a1.gY) λr2=>
 aa (rY N a0.gZ a1.gZ) λr3=>
 some (aA.mk r1 r2 r3)
theorem aDL{N a0 a1 r}(h:oC N a0 a1=some r):FnM Tryz.prog 198 [] [(aA.enc a0),(aA.enc a1),(.fn (.func 267) [] [])] (aA.enc r) []:=by
 unfold oC at h;refine At.f aD6 hT hmo Tryz.func198 rfl h ?_;refine bi λr1 hr1=>?_;refine bi λr2 hr2=>?_;refine bi λr3 hr3=>?_;refine At.d 3 (dE2 5 (j64 r1) (λ_=>aO (aAc hr1)) (dE2 11 (j64 r2) (λ_=>aO (aAc hr2)) (dE2 17 (j64 r3) (λ_=>aO (aAc hr3)) dE0))) dF0 ?_;apply rt;exact At.r 0
def kO(N:Nat)(a0:(List aA)):Nat->aA->Int->Option (aA)
 | 0,_,_=>none
 | k+1,s2,s3=>
  aU (decide (s3 < ((a0.length:Int)))) λx4=>
  cond x4 (
   aa (idx a0 s3) λe5=>
   aa (oC N s2 e5) λr6=>
   kO N a0 k r6 (I64 (s3+1))) (
   some s2)
def iA(N:Nat)(a0:(List aA)):Option (aA):=
 aa (kO N a0 N (aA.mk 4294967296 4294967296 4294967296) 0) λp1=>
 some p1
theorem rO{N a0 r}(h:iA N a0=some r):FnM Tryz.prog 196 [] [(eL 3 aA.enc a0)] (aA.enc r) []:=by
 unfold iA at h;refine At.f dG hT hmo Tryz.func196 rfl h ?_;refine At.L 7 [2,3] 2 (λp1=>([],[(1,.var (aA.enc p1))],[])) (λp1 J k=>∃s2 s3,kO N a0 k s2 s3=some p1/\J [2,3,7,8] 2 [(9,(j64 s3))] [(1,.var (aA.enc s2))] []) N (λ_ h=>⟨_,_,h,jr⟩) (λp1 k s hI=>?_) λp1=>?_
 ·obtain⟨s2,s3,h,hj⟩:=hI;cases k with
  | zero=>cases h
  | succ k=>
   refine At.jr hj ?_ h;refine lx ?_;intro x4;refine At.c 1 ?_ ?_
   ·refine At.b 0 (λ_ e=>bT hT aA.enc e) λe5=>?_;refine At.b 5 (λ_ e=>aM [] (aDL e)) λr6=>?_;exact λh=>At.k 3 ⟨_,_,h,jr⟩
   ·apply rt;exact At.x 0
 ·apply rt;exact At.r 2
def aK0 : Nat->Bool:=imL [2]
def fP(N:Nat)(a0:aA)(a1:Int):Option (aA):=
 aa (iA N ([a0,aA.mk a1 a1 a1])) λr1=>
 some r1
theorem jS{N a0 a1 r}(h:fP N a0 a1=some r):FnM Tryz.prog 111 [] [(aA.enc a0),(j64 a1)] (aA.enc r) []:=by
 unfold fP at h;refine At.f aK0 hT hmo Tryz.func111 rfl h ?_;refine At.o 7 (bS hT (x:=(.sl 3 2 [(aA.enc a0),(.st 3 [(j64 a1),(j64 a1),(j64 a1)])]))) ?_;refine At.b 0 (λ_ e=>aM [] (rO e)) λr1=>?_;apply rt;exact At.r 1
def aIf : Nat->Bool:=imL [6,11]
def uY(N:Nat)(a0:bR)(a1 a2 a3 a4:Int)(a5:(Vector Int 2)):Option (aA×Int):=
 aa (tW N a0 a1 a2) λr1=>
 cond (r1 != 0) (
  some ((aA.mk 0 0 0,r1))) (
  aU (cond (decide (a3 < 0)) true (decide (a3>=a1))) λx2=>
  aU (cond x2 true (decide (a4 < 0))) λx3=>
  aU (cond x3 true (decide (a4>=a2))) λx4=>
  cond x4 (
   some ((aA.mk 0 0 0,2))) (
   aU (I64 ((I64 (2*a3)) - a1)) λx5=>
   aa (iR N x5) λr6=>
   aa (idx a5.toList 0) λe7=>
   aa (pX N e7) λr8=>
   aa (kF N ([r6,I64 (2*r8)])) λr9=>
   aa (iR N a1) λr10=>
   aa (iZ N r9 r10) λr11=>
   aU (I64 (a2 - (I64 (2*a4)))) λx12=>
   aa (iR N x12) λr13=>
   aa (idx a5.toList 1) λe14=>
   aa (pX N e14) λr15=>
   aa (uF N r13 (I64 (2*r15))) λr16=>
   aa (iR N a2) λr17=>
   aa (iZ N r16 r17) λr18=>
   aa (nH N a0.gE2) λr19=>
   aa (nH N a0.gB4) λr20=>
   aa (fP N r20 r11) λr21=>
   aa (nH N a0.gUp) λr22=>
   aa (fP N r22 r18) λr23=>
   aa (kC N ([r19,r21,r23])) λr24=>
   some ((r24,0))))
theorem aG7{N a0 a1 a2 a3 a4 a5 r}(h:uY N a0 a1 a2 a3 a4 a5=some r):FnM Tryz.prog 186 [] [(bR.enc a0),(j64 a1),(j64 a2),(j64 a3),(j64 a4),(eA 2 1 k32 a5)] (.tup [(aA.enc r.1),(j64 r.2)]) []:=by
 unfold uY at h;refine At.f aIf hT hmo Tryz.func186 rfl h ?_;refine At.b 7 (λ_ e=>aM [] (aDV e)) λr1=>?_;refine At.c 3 ?_ ?_
 ·apply rt;exact At.r 4
 ·refine lx ?_;intro x2;refine lx ?_;intro x3;refine lx ?_;intro x4;refine At.c 16 ?_ ?_
  ·apply rt;exact At.r 3
  ·refine lx ?_;intro x5;refine bi λr6 hr6=>?_;refine bi λe7 he7=>?_;refine bi λr8 hr8=>?_;refine bi λr9 hr9=>?_;refine bi λr10 hr10=>?_;refine bi λr11 hr11=>?_;refine At.d 0 (dE2 4 (j64 r6) (λ_=>aO (iX hr6)) (dE1 5 (λ_=>eM hT (N:=2) (k:=1) k32 a5 he7) (dE2 7 (j64 r8) (λ_=>aO (aAQ hr8)) (dE1 9 (λ_=>bS hT (x:=(.sl 1 2 [(j64 r6),(j64 (I64 (2*r8)))]))) (dE2 10 (j64 r9) (λ_=>aO (pR hr9)) (dE2 12 (j64 r10) (λ_=>aO (iX hr10)) (dE2 13 (j64 r11) (λ_=>aO (lP hr11)) dE0))))))) dF0 ?_;refine lx ?_;intro x12;refine bi λr13 hr13=>?_;refine bi λe14 he14=>?_;refine bi λr15 hr15=>?_;refine bi λr16 hr16=>?_;refine bi λr17 hr17=>?_;refine bi λr18 hr18=>?_;refine At.d 0 (dE2 4 (j64 r13) (λ_=>aO (iX hr13)) (dE1 5 (λ_=>eM hT (N:=2) (k:=1) k32 a5 he14) (dE2 7 (j64 r15) (λ_=>aO (aAQ hr15)) (dE2 9 (j64 r16) (λ_=>aO (aAh hr16)) (dE2 11 (j64 r17) (λ_=>aO (iX hr17)) (dE2 12 (j64 r18) (λ_=>aO (lP hr18)) dE0)))))) dF0 ?_;refine bi λr19 hr19=>?_;refine bi λr20 hr20=>?_;refine bi λr21 hr21=>?_;refine bi λr22 hr22=>?_;refine bi λr23 hr23=>?_;refine bi λr24 hr24=>?_;refine At.d 0 (dE2 2 (aA.enc r19) (λ_=>aO (sB hr19)) (dE2 5 (aA.enc r20) (λ_=>aO (sB hr20)) (dE2 7 (aA.enc r21) (λ_=>aO (jS hr21)) (dE2 10 (aA.enc r22) (λ_=>aO (sB hr22)) (dE2 12 (aA.enc r23) (λ_=>aO (jS hr23)) (dE1 13 (λ_=>bS hT (x:=(.sl 3 3 [(aA.enc r19),(aA.enc r21),(aA.enc r23)]))) (dE2 14 (aA.enc r24) (λ_=>aO (tM hr24)) dE0))))))) dF0 ?_;apply rt;exact At.r 0
def qX(N:Nat)(a0 a1:Int):Option (Int):=
 aU (fN (jR a1 0) 2147483648) λx1=>
 aU (U64 ((U64 a0)*(U64 x1))) λx2=>
 some (I64 (shr .u64 x2 32))
theorem aCG{N a0 a1 r}(h:qX N a0 a1=some r):FnM Tryz.prog 250 [] [(k32 a0),(j64 a1)] (j64 r) []:=by
 unfold qX at h;refine At.f dG hT hmo Tryz.func250 rfl h ?_;refine lx ?_;intro x1;refine lx ?_;intro x2;apply rt;exact At.r 13
def mT(N:Nat)(a0:Int)(a1:bR):Option (Int):=
 aU (I64 ((I64 (2*a1.gD3))+1)) λx1=>
 aa (qX N a0 x1) λr2=>
 aa (iR N (I64 (r2 - a1.gD3))) λr3=>
 aa (iR N 16384) λr4=>
 aa (iZ N r3 r4) λr5=>
 some r5
theorem aAP{N a0 a1 r}(h:mT N a0 a1=some r):FnM Tryz.prog 249 [] [(k32 a0),(.im (bR.enc a1))] (j64 r) []:=by
 unfold mT at h;refine At.f dG hT hmo Tryz.func249 rfl h ?_;refine lx ?_;intro x1;refine bi λr2 hr2=>?_;refine bi λr3 hr3=>?_;refine bi λr4 hr4=>?_;refine bi λr5 hr5=>?_;refine At.d 1 (dE2 5 (j64 r2) (λ_=>aO (aCG hr2)) (dE2 9 (j64 r3) (λ_=>aO (iX hr3)) (dE2 10 (j64 r4) (λ_=>aO (iX hr4)) (dE2 11 (j64 r5) (λ_=>aO (lP hr5)) dE0)))) dF0 ?_;apply rt;exact At.r 0
def tR(N:Nat)(a0:Int):Option (Int):=
 aU (fI .i64 (shr .i64 a0 31) 1) λx1=>
 aU (I64 ((shr .i64 a0 32)+x1)) λx2=>
 some x2
theorem aCC{N a0 r}(h:tR N a0=some r):FnM Tryz.prog 251 [] [(j64 a0)] (j64 r) []:=by
 unfold tR at h;refine At.f dG hT hmo Tryz.func251 rfl h ?_;refine lx ?_;intro x1;refine lx ?_;intro x2;apply rt;exact At.r 8
def aJZ : Nat->Bool:=imL [2,3]
def wZ(N:Nat)(a0:bR)(a1:(Vector Int 4)):Option (aC):=
 aa (nH N a0.gB4) λr1=>
 aa (idx a1.toList 2) λe2=>
 aa (mT N e2 a0) λr3=>
 aa (fP N r1 r3) λr4=>
 aa (nH N a0.gUp) λr5=>
 aa (idx a1.toList 3) λe6=>
 aa (mT N e6 a0) λr7=>
 aa (fP N r5 r7) λr8=>
 aa (kC N ([r4,r8])) λr9=>
 aa (tR N r9.gX) λr10=>
 aa (tR N r9.gY) λr11=>
 aa (tR N r9.gZ) λr12=>
 some (aC.mk r10 r11 r12)
theorem aIV{N a0 a1 r}(h:wZ N a0 a1=some r):FnM Tryz.prog 187 [] [(bR.enc a0),(eA 4 1 k32 a1)] (aC.enc r) []:=by
 unfold wZ at h;refine At.f aJZ hT hmo Tryz.func187 rfl h ?_;refine At.o 3 (rR (x:=(.fn (.func 249) [] [(.im (bR.enc a0))])) (by kernel_rfl) (by kernel_rfl)) ?_;refine bi λr1 hr1=>?_;refine bi λe2 he2=>?_;refine bi λr3 hr3=>?_;refine bi λr4 hr4=>?_;refine bi λr5 hr5=>?_;refine bi λe6 he6=>?_;refine bi λr7 hr7=>?_;refine bi λr8 hr8=>?_;refine bi λr9 hr9=>?_;refine At.d 1 (dE2 2 (aA.enc r1) (λ_=>aO (sB hr1)) (dE1 4 (λ_=>eM hT (N:=4) (k:=1) k32 a1 he2) (dE2 6 (j64 r3) (λ_=>aO (aAP hr3)) (dE2 7 (aA.enc r4) (λ_=>aO (jS hr4)) (dE2 10 (aA.enc r5) (λ_=>aO (sB hr5)) (dE1 12 (λ_=>eM hT (N:=4) (k:=1) k32 a1 he6) (dE2 14 (j64 r7) (λ_=>aO (aAP hr7)) (dE2 15 (aA.enc r8) (λ_=>aO (jS hr8)) (dE1 16 (λ_=>bS hT (x:=(.sl 3 2 [(aA.enc r4),(aA.enc r8)]))) (dE2 17 (aA.enc r9) (λ_=>aO (tM hr9)) dE0)))))))))) dF0 ?_;refine bi λr10 hr10=>?_;refine bi λr11 hr11=>?_;refine bi λr12 hr12=>?_;refine At.d 0 (dE2 2 (j64 r10) (λ_=>aO (aCC hr10)) (dE2 5 (j64 r11) (λ_=>aO (aCC hr11)) (dE2 8 (j64 r12) (λ_=>aO (aCC hr12)) dE0))) dF0 ?_;apply rt;exact At.r 0
def aIG : Nat->Bool:=imL [3,4]
def wN(N:Nat)(a0 a1:aA):Option (aA):=
 aa (uF N a0.gX a1.gX) λr1=>
 aa (uF N a0.gY a1.gY) λr2=>
 aa (uF N a0.gZ a1.gZ) λr3=>
 some (aA.mk r1 r2 r3)
theorem aGO{N a0 a1 r}(h:wN N a0 a1=some r):FnM Tryz.prog 198 [] [(aA.enc a0),(aA.enc a1),(.fn (.func 248) [] [])] (aA.enc r) []:=by
 unfold wN at h;refine At.f aIG hT hmo Tryz.func198 rfl h ?_;refine bi λr1 hr1=>?_;refine bi λr2 hr2=>?_;refine bi λr3 hr3=>?_;refine At.d 3 (dE2 5 (j64 r1) (λ_=>aO (aAh hr1)) (dE2 11 (j64 r2) (λ_=>aO (aAh hr2)) (dE2 17 (j64 r3) (λ_=>aO (aAh hr3)) dE0))) dF0 ?_;apply rt;exact At.r 0
def aOf : Nat->Bool:=imL [2,3]
def tZ(N:Nat)(a0 a1:aA):Option (aA):=
 aa (wN N a0 a1) λr1=>
 some r1
theorem aCA{N a0 a1 r}(h:tZ N a0 a1=some r):FnM Tryz.prog 188 [] [(aA.enc a0),(aA.enc a1)] (aA.enc r) []:=by
 unfold tZ at h;refine At.f aOf hT hmo Tryz.func188 rfl h ?_;refine At.b 5 (λ_ e=>aM [] (aGO e)) λr1=>?_;apply rt;exact At.r 1
def uL(N:Nat)(a0:Int):Option (Int):=
 aa (uF N 0 a0) λr1=>
 some r1
theorem aBz{N a0 r}(h:uL N a0=some r):FnM Tryz.prog 321 [] [(j64 a0)] (j64 r) []:=by
 unfold uL at h;refine At.f dG hT hmo Tryz.func321 rfl h ?_;refine At.b 2 (λ_ e=>aM [] (aAh e)) λr1=>?_;apply rt;exact At.r 1
def xM(N:Nat)(a0:Int):Option (Int):=
 aa (uL N a0) λr1=>
 some (jR a0 r1)
theorem aDj{N a0 r}(h:xM N a0=some r):FnM Tryz.prog 312 [] [(j64 a0)] (j64 r) []:=by
 unfold xM at h;refine At.f dG hT hmo Tryz.func312 rfl h ?_;refine At.b 3 (λ_ e=>aM [] (aBz e)) λr1=>?_;apply rt;exact At.r 2
def aMf : Nat->Bool:=imL [1]
def xS(N:Nat)(a0:aA):Option (Int):=
 aa (xM N a0.gX) λr1=>
 aa (xM N a0.gY) λr2=>
 aa (xM N a0.gZ) λr3=>
 some (jR (jR r1 r2) r3)
theorem aF5{N a0 r}(h:xS N a0=some r):FnM Tryz.prog 252 [] [(aA.enc a0)] (j64 r) []:=by
 unfold xS at h;refine At.f aMf hT hmo Tryz.func252 rfl h ?_;refine bi λr1 hr1=>?_;refine bi λr2 hr2=>?_;refine bi λr3 hr3=>?_;refine At.d 2 (dE2 2 (j64 r1) (λ_=>aO (aDj hr1)) (dE2 5 (j64 r2) (λ_=>aO (aDj hr2)) (dE2 8 (j64 r3) (λ_=>aO (aDj hr3)) (dE1 9 (λ_=>aAT (k := .i64) (i:=r1) (j:=r2) (l:=r3) (by kernel_rfl) (by kernel_rfl)) dE0)))) dF0 ?_;apply rt;exact At.r 0
def jO(N:Nat)(a0 a1 a2:Int):Option (Int):=
 cond (a2==0) (
  some 0) (
  aa (fS N a0 a1) λr1=>
  aa (pW N r1 a2) λr2=>
  aa (qB N r2.1) λr3=>
  cond r3.2 (
   some r3.1) (
   cond (decide (r2.1.gHi < 0)) (some (-9223372036854775808)) (some 9223372036854775807)))
theorem tS{N a0 a1 a2 r}(h:jO N a0 a1 a2=some r):FnM Tryz.prog 254 [] [(j64 a0),(j64 a1),(j64 a2)] (j64 r) []:=by
 unfold jO at h;refine At.f dG hT hmo Tryz.func254 rfl h ?_;refine At.c 3 ?_ ?_
 ·apply rt;exact At.r 1
 ·refine At.b 2 (λ_ e=>aM [] (lB e)) λr1=>?_;refine At.b 4 (λ_ e=>aM [] (aAq e)) λr2=>?_;refine At.b 9 (λ_ e=>aM [] (yS e)) λr3=>?_;refine At.c 6 ?_ ?_
  ·apply rt;exact At.r 2
  ·refine At.c 3 ?_ ?_
   ·apply rt;exact At.r 1
   ·apply rt;exact At.r 1
def kL(N:Nat)(a0 a1:Int):Option (Int):=
 aa (jO N a0 16384 a1) λr1=>
 some (jR r1 (-16384))
theorem vO{N a0 a1 r}(h:kL N a0 a1=some r):FnM Tryz.prog 253 [] [(j64 a0),(.im (j64 a1))] (j64 r) []:=by
 unfold kL at h;refine At.f dG hT hmo Tryz.func253 rfl h ?_;refine At.b 3 (λ_ e=>aM [] (tS e)) λr1=>?_;apply rt;exact At.r 2
def aJc : Nat->Bool:=imL [1]
def uM(N:Nat)(a0:aA):Option (aC×Int):=
 aa (xS N a0) λr1=>
 cond (r1==0) (
  some ((aC.mk 0 0 0,2))) (
  aa (kL N a0.gX r1) λr2=>
  aa (kL N a0.gY r1) λr3=>
  aa (kL N a0.gZ r1) λr4=>
  some ((aC.mk r2 r3 r4,0)))
theorem aDU{N a0 r}(h:uM N a0=some r):FnM Tryz.prog 190 [] [(aA.enc a0)] (.tup [(aC.enc r.1),(j64 r.2)]) []:=by
 unfold uM at h;refine At.f aJc hT hmo Tryz.func190 rfl h ?_;refine At.b 4 (λ_ e=>aM [] (aF5 e)) λr1=>?_;refine At.c 4 ?_ ?_
 ·apply rt;exact At.r 3
 ·refine At.gz 0 1 ((j64 r1)) ?_;refine At.o 0 (rR (x:=(.fn (.func 253) [] [(.im (j64 r1))])) (by kernel_rfl) (by kernel_rfl)) ?_;refine bi λr2 hr2=>?_;refine bi λr3 hr3=>?_;refine bi λr4 hr4=>?_;refine At.d 1 (dE2 3 (j64 r2) (λ_=>aO (vO hr2)) (dE2 7 (j64 r3) (λ_=>aO (vO hr3)) (dE2 11 (j64 r4) (λ_=>aO (vO hr4)) dE0))) dF0 ?_;apply rt;exact At.r 0
def aMh : Nat->Bool:=imL [6,11]
def tF(N:Nat)(a0:bR)(a1 a2 a3 a4:Int)(a5:(Vector Int 4)):Option (aC×aC×Int):=
 aa (idx a5.toList 0) λe1=>
 aa (idx a5.toList 1) λe2=>
 aa (uY N a0 a1 a2 a3 a4 (#v[e1,e2])) λr3=>
 cond (r3.2 != 0) (
  some ((aC.mk 0 0 0,aC.mk 0 0 0,r3.2))) (
  aa (cond (decide (a0.gD3 > 0)) (
   aa (wZ N a0 a5) λr5=>
   aU (I64 (a0.gA9.gX+r5.gX)) λx6=>
   aU (I64 (a0.gA9.gY+r5.gY)) λx7=>
   aU (I64 (a0.gA9.gZ+r5.gZ)) λx8=>
   aa (iR N a0.gD5) λr9=>
   aa (iR N 16384) λr10=>
   aa (iZ N r9 r10) λr11=>
   aa (fP N r3.1 r11) λr12=>
   aa (nH N r5) λr13=>
   aa (tZ N r12 r13) λr14=>
   some ((aC.mk ((I64 (a0.gA9.gX+r5.gX))) ((I64 (a0.gA9.gY+r5.gY))) ((I64 (a0.gA9.gZ+r5.gZ))),r14))) (
   some ((a0.gA9,r3.1)))) λp4=>
  aa (uM N p4.2) λr15=>
  cond (r15.2 != 0) (
   some ((aC.mk 0 0 0,aC.mk 0 0 0,r15.2))) (
   some ((p4.1,r15.1,0))))
theorem aFz{N a0 a1 a2 a3 a4 a5 r}(h:tF N a0 a1 a2 a3 a4 a5=some r):FnM Tryz.prog 106 [] [(bR.enc a0),(j64 a1),(j64 a2),(j64 a3),(j64 a4),(eA 4 1 k32 a5)] (.tup [(aC.enc r.1),(aC.enc r.2.1),(j64 r.2.2)]) []:=by
 unfold tF at h;refine At.f aMh hT hmo Tryz.func106 rfl h ?_;refine At.b 10 (λ_ e=>eM hT (N:=4) (k:=1) k32 a5 e) λe1=>?_;refine At.b 1 (λ_ e=>eM hT (N:=4) (k:=1) k32 a5 e) λe2=>?_;refine At.b 2 (λ_ e=>aM [] (aG7 e)) λr3=>?_;refine At.c 8 ?_ ?_
 ·refine At.d 0 dE0 dF0 ?_;apply rt;exact At.r 0
 ·refine At.J 3 1 [12,13,15] 3 (λp4=>([],[(0,.var (aC.enc p4.1)),(2,.var (aA.enc p4.2))],[])) (λp4=>?_) λp4=>?_
  ·refine At.c 3 ?_ ?_
   ·refine At.b 2 (λ_ e=>aM [] (aIV e)) λr5=>?_;refine lx ?_;intro x6;refine lx ?_;intro x7;refine lx ?_;intro x8;refine bi λr9 hr9=>?_;refine bi λr10 hr10=>?_;refine bi λr11 hr11=>?_;refine bi λr12 hr12=>?_;refine bi λr13 hr13=>?_;refine bi λr14 hr14=>?_;refine At.d 19 (dE2 3 (j64 r9) (λ_=>aO (iX hr9)) (dE2 4 (j64 r10) (λ_=>aO (iX hr10)) (dE2 5 (j64 r11) (λ_=>aO (lP hr11)) (dE2 6 (aA.enc r12) (λ_=>aO (jS hr12)) (dE2 8 (aA.enc r13) (λ_=>aO (sB hr13)) (dE2 9 (aA.enc r14) (λ_=>aO (aCA hr14)) dE0)))))) dF0 ?_;apply rt;exact At.jn 0
   ·apply rt;exact At.jn 0
  ·refine At.b 1 (λ_ e=>aM [] (aDU e)) λr15=>?_;refine At.c 7 ?_ ?_
   ·apply rt;exact At.r 6
   ·refine At.d 0 dE0 dF0 ?_;apply rt;exact At.r 0
def eZ(N:Nat)(a0:aK):Option (Bool):=
 some (!a0.gA)
theorem sK{N a0 r}(h:eZ N a0=some r):FnM Tryz.prog 368 [.var (aK.enc a0)] [(.ref 0 [] 0)] (eB r) [.var (aK.enc a0)]:=by
 unfold eZ at h;refine At.f dG hT hmo Tryz.func368 rfl h ?_;refine At.o 2 (aB1 hT (t:=178) (x:=(.ref 0 [] 0)) (b:=true) (by kernel_rfl) rfl rfl (by kernel_rfl)) ?_;refine At.g [5] 8 ?_;apply rt;exact At.r 0
def mL(N:Nat)(a0:aK):Option (Unit):=
 some (())
theorem aCP{N a0 r}(h:mL N a0=some r):FnM Tryz.prog 367 [.var (aK.enc a0)] [(.ref 0 [0] 0)] (.tup []) [.var (.st 3 [(.st 1 [(j64 (I64 (a0.gD9.gn+1)))]),(eB a0.gA),(eL 19 aH.enc a0.gl)])]:=by
 unfold mL at h;refine At.f dG hT hmo Tryz.func367 rfl h ?_;apply rt;exact At.z 8
def aLN : Nat->Bool:=imL [1]
def vW(N:Nat)(a0:aC):Option (Bool):=
 aa (rS N a0 65536) λr1=>
 some (!r1)
theorem aJo{N a0 r}(h:vW N a0=some r):FnM Tryz.prog 372 [] [(aC.enc a0)] (eB r) []:=by
 unfold vW at h;refine At.f aLN hT hmo Tryz.func372 rfl h ?_;refine At.b 3 (λ_ e=>aM [] (aBJ e)) λr1=>?_;apply rt;exact At.r 2
def dP(N:Nat)(a0:(List aC)):Nat->Int->Option (Sum (Unit) (Int))
 | 0,_=>none
 | k+1,s2=>
  aU (decide (s2 < ((a0.length:Int)))) λx3=>
  cond x3 (
   aa (idx a0 s2) λe4=>
   aa (vW N e4) λr5=>
   cond r5 (
    some (Sum.inr s2)) (
    dP N a0 k (I64 (s2+1)))) (
   some (Sum.inl (())))
def dX(N:Nat)(a0:(List aC)):Option (Int):=
 aa (dP N a0 N 0) λo=>pD o (λp1=>
  some (-1)) (λr=>some r)
theorem qD{N a0 r}(h:dX N a0=some r):FnM Tryz.prog 375 [] [(eL 3 aC.enc a0),(.fn (.func 372) [] [])] (j64 r) []:=by
 unfold dX at h;refine At.f dG hT hmo Tryz.func375 rfl h ?_;refine At.LS 4 [] 0 (λp1=>([],[],[])) (λop1 J k=>∃s2,dP N a0 k s2=some op1/\J [0,1,7] 0 [(8,(j64 s2))] [] []) N (λ_ h=>⟨_,h,jr⟩) (λop1 g1 k s hI=>?_) λp1=>?_
 ·obtain⟨s2,h,hj⟩:=hI;cases k with
  | zero=>cases h
  | succ k=>
   refine At.jr hj ?_ h;refine lx ?_;intro x3;refine At.c 1 ?_ ?_
   ·refine At.b 5 (λ_ e=>bT hT aC.enc e) λe4=>?_;refine At.b 1 (λ_ e=>aM [] (aJo e)) λr5=>?_;refine At.c 0 ?_ ?_
    ·intro e;apply aBm g1 e;exact At.r 2
    ·exact λh=>At.k 2 ⟨_,h,jr⟩
   ·apply rt;exact At.xs 0
 ·apply rt;exact At.r 1
def cE(N:Nat)(a0:(List aC)):Option (Bool):=
 aa (dX N a0) λr1=>
 some (decide (r1>=0))
theorem oN{N a0 r}(h:cE N a0=some r):FnM Tryz.prog 373 [] [(eL 3 aC.enc a0),(.fn (.func 372) [] [])] (eB r) []:=by
 unfold cE at h;refine At.f dG hT hmo Tryz.func373 rfl h ?_;refine At.b 3 (λ_ e=>aM [] (qD e)) λr1=>?_;apply rt;exact At.r 2
def aOT : Nat->Bool:=imL [2,3]
def lO(N:Nat)(a0 a1:aC):Option (aC):=
 some (aC.mk (I64 (a0.gX - a1.gX)) (I64 (a0.gY - a1.gY)) (I64 (a0.gZ - a1.gZ)))
theorem tT{N a0 a1 r}(h:lO N a0 a1=some r):FnM Tryz.prog 257 [] [(aC.enc a0),(aC.enc a1)] (aC.enc r) []:=by
 unfold lO at h;refine At.f aOT hT hmo Tryz.func257 rfl h ?_;apply rt;exact At.r 20
def aK5 : Nat->Bool:=imL [2,3]
def nR(N:Nat)(a0 a1:aC):Option (aC):=
 aU (I64 ((I64 (a0.gY*a1.gZ)) - (I64 (a0.gZ*a1.gY)))) λx1=>
 aU (I64 ((I64 (a0.gZ*a1.gX)) - (I64 (a0.gX*a1.gZ)))) λx2=>
 aU (I64 ((I64 (a0.gX*a1.gY)) - (I64 (a0.gY*a1.gX)))) λx3=>
 some (aC.mk ((I64 ((I64 (a0.gY*a1.gZ)) - (I64 (a0.gZ*a1.gY))))) ((I64 ((I64 (a0.gZ*a1.gX)) - (I64 (a0.gX*a1.gZ))))) ((I64 ((I64 (a0.gX*a1.gY)) - (I64 (a0.gY*a1.gX))))))
theorem aAE{N a0 a1 r}(h:nR N a0 a1=some r):FnM Tryz.prog 256 [] [(aC.enc a0),(aC.enc a1)] (aC.enc r) []:=by
 unfold nR at h;refine At.f aK5 hT hmo Tryz.func256 rfl h ?_;refine lx ?_;intro x1;refine lx ?_;intro x2;refine lx ?_;intro x3;apply rt;exact At.r 38
def aOm : Nat->Bool:=imL [2,3]
def rW(N:Nat)(a0 a1:aC):Option (Int):=
 aU (I64 ((I64 (a0.gX*a1.gX))+(I64 (a0.gY*a1.gY)))) λx1=>
 aU (I64 (x1+(I64 (a0.gZ*a1.gZ)))) λx2=>
 some x2
theorem aAZ{N a0 a1 r}(h:rW N a0 a1=some r):FnM Tryz.prog 374 [] [(aC.enc a0),(aC.enc a1)] (j64 r) []:=by
 unfold rW at h;refine At.f aOm hT hmo Tryz.func374 rfl h ?_;refine lx ?_;intro x1;refine lx ?_;intro x2;apply rt;exact At.r 21
def aOs : Nat->Bool:=imL [3,4,5]
def qI(N:Nat)(a0 a1:aC)(a2:(Vector aC 3)):Option (aN×Bool):=
 aa (aa (qU N a0 a1) λr2=>
 cond (!r2) (
  some true) (
  aa (xW a2.toList 0 3) λs3=>
  aa (cE N s3) λr4=>
  some r4)) λp1=>
 cond p1 (
  some ((aN.mk 0 0 0 0,false))) (
  aa (idx a2.toList 1) λe5=>
  aa (idx a2.toList 0) λe6=>
  aa (lO N e5 e6) λr7=>
  aa (idx a2.toList 2) λe8=>
  aa (idx a2.toList 0) λe9=>
  aa (lO N e8 e9) λr10=>
  aa (nR N a1 r10) λr11=>
  aa (idx a2.toList 0) λe12=>
  aa (lO N a0 e12) λr13=>
  aa (nR N r13 r7) λr14=>
  aa (rW N r10 r14) λr15=>
  aa (rW N r7 r11) λr16=>
  aa (rW N r13 r11) λr17=>
  aa (rW N a1 r14) λr18=>
  aa (cond (decide (r16 < 0)) (
   some (aN.mk (I64 (0 - r15)) (I64 (0 - r16)) (I64 (0 - r17)) (I64 (0 - r18)))) (
   some (aN.mk r15 r16 r17 r18))) λp19=>
  aU (cond (p19.gO==0) true (decide (p19.gU < 0))) λx20=>
  aU (cond x20 true (decide (p19.gV < 0))) λx21=>
  aU (decide ((I64 (p19.gU+p19.gV)) > p19.gO)) λx22=>
  aU (cond (cond x21 true x22) true (decide (p19.gA3<=0))) λx23=>
  cond x23 (some ((aN.mk 0 0 0 0,false))) (some ((p19,true))))
theorem aG1{N a0 a1 a2 r}(h:qI N a0 a1 a2=some r):FnM Tryz.prog 371 [] [(aC.enc a0),(aC.enc a1),(eA 9 3 aC.enc a2)] (.tup [(aN.enc r.1),(eB r.2)]) []:=by
 unfold qI at h;refine At.f aOs hT hmo Tryz.func371 rfl h ?_;refine At.J 6 0 [3,4,5,6] 1 (λp1=>([(22,(eB p1))],[],[])) (λp1=>?_) λp1=>?_
 ·refine At.b 2 (λ_ e=>aM [] (aAY e)) λr2=>?_;refine At.s 18 2 ?_ ?_
  ·refine At.g [18] 4 ?_;apply rt;exact At.jn 0
  ·refine At.b 0 (λ_ e=>aBk hT (N:=9) (k:=3) aC.enc a2 e) λs3=>?_;refine At.g [18] 1 ?_;refine At.b 0 (λ_ e=>aM [] (oN e)) λr4=>?_;refine At.g [18] 1 ?_;apply rt;exact At.jn 0
 ·refine At.c 0 ?_ ?_
  ·apply rt;exact At.r 3
  ·refine bi λe5 he5=>?_;refine bi λe6 he6=>?_;refine bi λr7 hr7=>?_;refine bi λe8 he8=>?_;refine bi λe9 he9=>?_;refine bi λr10 hr10=>?_;refine At.d2 0 [false,false] (dC1 0 (λ_=>eM hT (N:=9) (k:=3) aC.enc a2 he5) (dC1 2 (λ_=>eM hT (N:=9) (k:=3) aC.enc a2 he6) (dC2 4 (aC.enc r7) (λ_=>aO (tT hr7)) (dC1 5 (λ_=>eM hT (N:=9) (k:=3) aC.enc a2 he8) (dC1 7 (λ_=>eM hT (N:=9) (k:=3) aC.enc a2 he9) (dC2 9 (aC.enc r10) (λ_=>aO (tT hr10)) dC0)))))) (dS1 10 ⟨(.ref 1 [] 0),1,.var (.st 3 [(j64 0),(j64 0),(j64 0)]),.dead⟩ [[.var (.st 4 [(j64 0),(j64 0),(j64 0),(j64 0)]),.dead,.dead],[.var (.st 4 [(j64 0),(j64 0),(j64 0),(j64 0)]),.dead,.var (.st 3 [(j64 0),(j64 0),(j64 0)])]] ⟨aW hT 1 (by kernel_rfl) (by kernel_rfl) (by kernel_rfl),aW hT 1 (by kernel_rfl) (by kernel_rfl) (by kernel_rfl),trivial⟩ (dS1 11 ⟨(.ref 2 [] 0),2,.var (.st 3 [(j64 0),(j64 0),(j64 0)]),.dead⟩ [[.var (.st 4 [(j64 0),(j64 0),(j64 0),(j64 0)]),.dead,.dead],[.var (.st 4 [(j64 0),(j64 0),(j64 0),(j64 0)]),.var (.st 3 [(j64 0),(j64 0),(j64 0)]),.dead]] ⟨aW hT 2 (by kernel_rfl) (by kernel_rfl) (by kernel_rfl),aW hT 2 (by kernel_rfl) (by kernel_rfl) (by kernel_rfl),trivial⟩ dS0)) ?_;refine At.b 2 (λ_ e=>aM [] (aAE e)) λr11=>?_;refine At.b 3 (λ_ e=>eM hT (N:=9) (k:=3) aC.enc a2 e) λe12=>?_;refine At.b 1 (λ_ e=>aM [] (tT e)) λr13=>?_;refine At.b 4 (λ_ e=>aM [] (aAE e)) λr14=>?_;refine bi λr15 hr15=>?_;refine bi λr16 hr16=>?_;refine bi λr17 hr17=>?_;refine bi λr18 hr18=>?_;refine At.d 2 (dE2 2 (j64 r15) (λ_=>aO (aAZ hr15)) (dE2 5 (j64 r16) (λ_=>aO (aAZ hr16)) (dE2 8 (j64 r17) (λ_=>aO (aAZ hr17)) (dE2 11 (j64 r18) (λ_=>aO (aAZ hr18)) dE0)))) dF0 ?_;refine At.J 0 1 [6] 6 (λp19=>([],[(0,.var (aN.enc p19))],[])) (λp19=>?_) λp19=>?_
   ·refine At.c 3 ?_ ?_
    ·apply rt;exact At.jn 14
    ·apply rt;exact At.jn 0
   ·refine lx ?_;intro x20;refine lx ?_;intro x21;refine lx ?_;intro x22;refine lx ?_;intro x23;refine At.c 28 ?_ ?_
    ·apply rt;exact At.r 3
    ·apply rt;exact At.r 3
def aAf : Nat->Bool:=imL [7,8]
def dD(N:Nat)(a0 a1:aC)(a2 a3 a4:Int)(a5:aK):Option (aN×Bool):=
 aa (mL N a5) λr1=>
 aa (idx a5.gl a4) λe2=>
 aa (qI N a0 a1 e2.gP) λr3=>
 aa (cond r3.2 (
  aa (idx a5.gl a4) λe5=>
  aU ((fI .u8 e5.gC0 a2) != 0) λx6=>
  cond x6 (
   some (a4 != a3)) (
   some false)) (
  some false)) λp4=>
 some ((r3.1,p4))
theorem sO{N a0 a1 a2 a3 a4 a5 r}(h:dD N a0 a1 a2 a3 a4 a5=some r):FnM Tryz.prog 369 [.var (aK.enc a5)] [(.ref 0 [] 0),(aC.enc a0),(aC.enc a1),(k8 a2),(j64 a3),(j64 a4)] (.tup [(aN.enc r.1),(eB r.2)]) [.var (.st 3 [(.st 1 [(j64 (I64 (a5.gD9.gn+1)))]),(eB a5.gA),(eL 19 aH.enc a5.gl)])]:=by
 unfold dD at h;refine At.f aAf hT hmo Tryz.func369 rfl h ?_;refine At.b 7 (λ_ e=>aM [0] (aCP e)) λr1=>?_;refine bi λe2 he2=>?_;refine bi λr3 hr3=>?_;refine At.d 0 (dE1 7 (λ_=>bT hT aH.enc he2) (dE2 10 (.tup [(aN.enc r3.1),(eB r3.2)]) (λ_=>aO (aG1 hr3)) dE0)) dF0 ?_;refine At.J 0 0 [12] 3 (λp4=>([(13,(eB p4))],[(1,.var (aN.enc r3.1))],[])) (λp4=>?_) λp4=>?_
 ·refine boI (λhc2=>?_) (λhc2=>?_)
  ·refine bi λe5 he5=>?_;refine lx ?_;intro x6;refine boI (λhc15=>?_) (λhc15=>?_)
   ·refine At.d 0 (dE1 2 (λ_=>cO hc2 rfl (cF hT (im:=false) (by kernel_rfl))) (dE1 8 (λ_=>bT hT aH.enc he5) (dE1 15 (λ_=>cO hc15 rfl (cF hT (im:=false) (by kernel_rfl))) dE0))) dF0 ?_;apply rt;exact At.jn 0
   ·refine At.d 0 (dE1 2 (λ_=>cO hc2 rfl (cF hT (im:=false) (by kernel_rfl))) (dE1 8 (λ_=>bT hT aH.enc he5) (dE1 15 (λ_=>cO hc15 rfl (cF hT (im:=false) (by kernel_rfl))) dE0))) dF0 ?_;apply rt;exact At.jn 0
  ·refine At.d 0 (dE1 2 (λ_=>cO hc2 rfl (cF hT (im:=false) (by kernel_rfl))) dE0) dF0 ?_;apply rt;exact At.jn 0
 ·apply rt;exact At.r 0
def aMC : Nat->Bool:=imL [2,3]
def oD(N:Nat)(a0 a1:aS):Option (Int):=
 cond (aS.eq a0 a1) (
  some 0) (
  aa (aU (decide (a0.gHi < a1.gHi)) λx2=>
  cond x2 (
   some x2) (
   aU (decide (a0.gLo < a1.gLo)) λx3=>
   aU (cond (a0.gHi==a1.gHi) x3 false) λx4=>
   some x4)) λp1=>
  cond p1 (some (-1)) (some 1))
theorem aAy{N a0 a1 r}(h:oD N a0 a1=some r):FnM Tryz.prog 332 [] [(aS.enc a0),(aS.enc a1)] (j64 r) []:=by
 unfold oD at h;refine At.f aMC hT hmo Tryz.func332 rfl h ?_;refine At.o 5 (yG aRn (a0:aS) (a1:aS) (by kernel_rfl) (by kernel_rfl) (λ_=>rfl) (λ_=>rfl) (by kernel_rfl) (by kernel_rfl)) ?_;refine At.c 1 ?_ ?_
 ·apply rt;exact At.r 1
 ·refine At.J 0 1 [] 0 (λp1=>([(9,(eB p1))],[],[])) (λp1=>?_) λp1=>?_
  ·refine lx ?_;intro x2;refine At.c 6 ?_ ?_
   ·apply rt;exact At.jn 0
   ·refine lx ?_;intro x3;refine lx ?_;intro x4;apply rt;exact At.jn 13
  ·refine At.c 0 ?_ ?_
   ·apply rt;exact At.r 1
   ·apply rt;exact At.r 1
def aML : Nat->Bool:=imL [2,3]
def rL(N:Nat)(a0 a1:aN):Option (Bool):=
 aU (cond (decide (a0.gO < 1)) true (decide (a1.gO < 1))) λx1=>
 cond x1 (
  some false) (
  aa (fS N a0.gA3 a1.gO) λr2=>
  aa (fS N a1.gA3 a0.gO) λr3=>
  aa (oD N r2 r3) λr4=>
  some (decide (r4 < 0)))
theorem aCs{N a0 a1 r}(h:rL N a0 a1=some r):FnM Tryz.prog 370 [] [(aN.enc a0),(aN.enc a1)] (eB r) []:=by
 unfold rL at h;refine At.f aML hT hmo Tryz.func370 rfl h ?_;refine lx ?_;intro x1;refine At.c 11 ?_ ?_
 ·apply rt;exact At.r 1
 ·refine bi λr2 hr2=>?_;refine bi λr3 hr3=>?_;refine bi λr4 hr4=>?_;refine At.d 0 (dE2 4 (aS.enc r2) (λ_=>aO (lB hr2)) (dE2 9 (aS.enc r3) (λ_=>aO (lB hr3)) (dE2 10 (j64 r4) (λ_=>aO (aAy hr4)) dE0))) dF0 ?_;apply rt;exact At.r 0
def zZ : Nat->Bool:=imL [6,7]
def bW(N:Nat)(a4:aK)(a0 a1:aC)(a2 a3:Int):Nat->aK->aN->Int->Int->Option (aK×aN×Int)
 | 0,_,_,_,_=>none
 | k+1,s3,s4,s5,s6=>
  aU (decide (s6 < ((a4.gl.length:Int)))) λx7=>
  cond x7 (
   aa (aa (dD N a0 a1 a2 a3 s6 s3) λr9=>
   aa (cond (decide (s5 < 0)) (
    some true) (
    aa (rL N r9.1 s4) λr11=>
    some r11)) λp10=>
   cond (cond r9.2 p10 false) (some ((r9.1,r9.1,s6))) (some ((s4,r9.1,s5)))) λp8=>
   bW N a4 a0 a1 a2 a3 k (aK.mk (kG.mk (I64 (s3.gD9.gn+1))) s3.gA s3.gl) p8.1 p8.2.2 (I64 (s6+1))) (
   some ((s3,s4,s5)))
def cA(N:Nat)(a0 a1:aC)(a2 a3:Int)(a4:aK):Option (aK×Int×aN):=
 aa (eZ N a4) λr1=>
 cond r1 (
  some ((a4,-1,aN.mk 0 0 0 0))) (
  aa (bW N a4 a0 a1 a2 a3 N a4 (aN.mk 0 0 0 0) (-1) 0) λp2=>
  some ((p2.1,p2.2.2,p2.2.1)))
theorem rV{N a0 a1 a2 a3 a4 r}(h:cA N a0 a1 a2 a3 a4=some r):FnM Tryz.prog 365 [.var (aK.enc a4)] [(.ref 0 [] 0),(aC.enc a0),(aC.enc a1),(k8 a2),(j64 a3)] (.tup [(j64 r.2.1),(aN.enc r.2.2)]) [.var (aK.enc r.1)]:=by
 unfold cA at h;refine At.f zZ hT hmo Tryz.func365 rfl h ?_;refine At.b 6 (λ_ e=>aM [0] (sK e)) λr1=>?_;refine At.c 0 ?_ ?_
 ·refine At.d 0 dE0 dF0 ?_;apply rt;exact At.r 0
 ·refine At.L 6 [11] 2 (λp2=>([(10,(j64 p2.2.2))],[(0,.var (aK.enc p2.1)),(1,.var (aN.enc p2.2.1))],[])) (λp2 J k=>∃s3 s4 s5 s6,bW N a4 a0 a1 a2 a3 k s3 s4 s5 s6=some p2/\J [0,3,4,6,7,11,24] 2 [(10,(j64 s5)),(25,(j64 s6))] [(0,.var (aK.enc s3)),(1,.var (aN.enc s4))] []) N (λ_ h=>⟨_,_,_,_,h,jr⟩) (λp2 k s hI=>?_) λp2=>?_
  ·obtain⟨s3,s4,s5,s6,h,hj⟩:=hI;cases k with
   | zero=>cases h
   | succ k=>
    refine At.jr hj ?_ h;refine lx ?_;intro x7;refine At.c 1 ?_ ?_
    ·refine At.J 0 2 [0,3,4,6,7,11,24,25] 2 (λp8=>([(10,(j64 p8.2.2))],[(0,.var (.st 3 [(.st 1 [(j64 (I64 (s3.gD9.gn+1)))]),(eB s3.gA),(eL 19 aH.enc s3.gl)])),(1,.var (aN.enc p8.1))],[.var (aN.enc p8.2.1)])) (λp8=>?_) λp8=>?_
     ·refine At.b 8 (λ_ e=>aM [0] (sO e)) λr9=>?_;refine At.J 6 0 [0,3,4,6,7,10,11,12,13,14,24,25] 3 (λp10=>([(15,(eB p10))],[],[])) (λp10=>?_) λp10=>?_
      ·refine At.s 40 3 ?_ ?_
       ·refine At.g [40] 5 ?_;apply rt;exact At.jn 0
       ·refine At.g [40] 2 ?_;refine At.b 0 (λ_ e=>aM [] (aCs e)) λr11=>?_;refine At.g [40] 2 ?_;apply rt;exact At.jn 0
      ·refine At.c 4 ?_ ?_
       ·refine At.d 0 dE0 dF0 ?_;apply rt;exact At.jn 0
       ·apply rt;exact At.jn 0
     ·exact λh=>At.k 2 ⟨_,_,_,_,h,jr⟩
    ·apply rt;exact At.x 0
  ·refine At.d 0 dE0 dF0 ?_;apply rt;exact At.r 0
def oF(N:Nat)(a0:Int):Option (Int):=
 aU (fN (jR a0 (-1073741824)) 1073741824) λx1=>
 some x1
theorem zI{N a0 r}(h:oF N a0=some r):FnM Tryz.prog 313 [] [(j64 a0)] (j64 r) []:=by
 unfold oF at h;refine At.f dG hT hmo Tryz.func313 rfl h ?_;refine lx ?_;intro x1;apply rt;exact At.r 5
def aLX : Nat->Bool:=imL [1]
def qQ(N:Nat)(a0:aS):Nat->Int->Int->Option (Int)
 | 0,_,_=>none
 | k+1,s2,s3=>
  cond (decide (s3 < 64)) (
   aa (aa (aJ4 .u64 1 (I64 (63 - s3))) λx5=>
   aa (kV N (bor .u64 s2 x5) (bor .u64 s2 x5)) λr6=>
   aa (aU (decide (r6.1 < (U64 a0.gHi))) λx8=>
   cond x8 (
    some ((bor .u64 s2 x5,true))) (
    aU (cond (r6.1==(U64 a0.gHi)) (decide (r6.2<=a0.gLo)) false) λx9=>
    some ((bor .u64 s2 x5,x9)))) λp7=>
   cond p7.2 (some p7.1) (some s2)) λp4=>
   qQ N a0 k p4 (I64 (s3+1))) (
   some s2)
def sS(N:Nat)(a0:aS):Option (Int):=
 cond (decide (a0.gHi < 0)) (
  some 0) (
  aa (qQ N a0 N 0 0) λp1=>
  some p1)
theorem aEz{N a0 r}(h:sS N a0=some r):FnM Tryz.prog 271 [] [(aS.enc a0)] (k64 r) []:=by
 unfold sS at h;refine At.f aLX hT hmo Tryz.func271 rfl h ?_;refine At.c 5 ?_ ?_
 ·apply rt;exact At.r 1
 ·refine At.L 2 [] 0 (λp1=>([(3,(k64 p1))],[],[])) (λp1 J k=>∃s2 s3,qQ N a0 k s2 s3=some p1/\J [1] 0 [(3,(k64 s2)),(11,(j64 s3))] [] []) N (λ_ h=>⟨_,_,h,jr⟩) (λp1 k s hI=>?_) λp1=>?_
  ·obtain⟨s2,s3,h,hj⟩:=hI;cases k with
   | zero=>cases h
   | succ k=>
    refine At.jr hj ?_ h;refine At.c 1 ?_ ?_
    ·refine At.J 0 2 [1,11] 0 (λp4=>([(3,(k64 p4))],[],[])) (λp4=>?_) λp4=>?_
     ·refine At.b 5 (λ_ e=>aC5 hT (k' := .i64) e (by kernel_rfl) (by kernel_rfl)) λx5=>?_;refine At.b 4 (λ_ e=>aM [] (aAR e)) λr6=>?_;refine At.J 5 0 [1,3,11] 0 (λp7=>([(5,(k64 p7.1)),(42,(eB p7.2))],[],[])) (λp7=>?_) λp7=>?_
      ·refine lx ?_;intro x8;refine At.s 30 6 ?_ ?_
       ·refine At.g [30,36] 12 ?_;apply rt;exact At.jn 0
       ·refine lx ?_;intro x9;refine At.g [30] 12 ?_;apply rt;exact At.jn 0
      ·refine At.c 0 ?_ ?_
       ·apply rt;exact At.jn 2
       ·apply rt;exact At.jn 0
     ·exact λh=>At.k 2 ⟨_,_,h,jr⟩
    ·apply rt;exact At.x 0
  ·apply rt;exact At.r 2
def kJ(N:Nat)(a0 a1:Int):Option (Int):=
 aa (pW N (aS.mk a0 0) a1) λr1=>
 aa (qB N r1.1) λr2=>
 some r2.1
theorem vT{N a0 a1 r}(h:kJ N a0 a1=some r):FnM Tryz.prog 314 [] [(j64 a0),(.im (j64 a1))] (j64 r) []:=by
 unfold kJ at h;refine At.f dG hT hmo Tryz.func314 rfl h ?_;refine At.b 4 (λ_ e=>aM [] (aAq e)) λr1=>?_;refine At.b 9 (λ_ e=>aM [] (yS e)) λr2=>?_;apply rt;exact At.r 7
def aKD : Nat->Bool:=imL [1]
def fT(N:Nat)(a0:aC):Option (aA):=
 aa (oF N a0.gX) λr1=>
 aa (oF N a0.gY) λr2=>
 aa (oF N a0.gZ) λr3=>
 aU (I64 ((I64 (r1*r1))+(I64 (r2*r2)))) λx4=>
 aU (I64 (x4+(I64 (r3*r3)))) λx5=>
 aa (sS N (aS.mk x5 0)) λr6=>
 cond ((I64 r6)==0) (
  some (aA.mk 0 0 0)) (
  aa (kJ N r1 (I64 r6)) λr7=>
  aa (kJ N r2 (I64 r6)) λr8=>
  aa (kJ N r3 (I64 r6)) λr9=>
  some (aA.mk r7 r8 r9))
theorem mB{N a0 r}(h:fT N a0=some r):FnM Tryz.prog 255 [] [(aC.enc a0)] (aA.enc r) []:=by
 unfold fT at h;refine At.f aKD hT hmo Tryz.func255 rfl h ?_;refine bi λr1 hr1=>?_;refine bi λr2 hr2=>?_;refine bi λr3 hr3=>?_;refine At.d 3 (dE2 3 (j64 r1) (λ_=>aO (zI hr1)) (dE2 7 (j64 r2) (λ_=>aO (zI hr2)) (dE2 11 (j64 r3) (λ_=>aO (zI hr3)) dE0))) dF0 ?_;refine lx ?_;intro x4;refine lx ?_;intro x5;refine At.b 12 (λ_ e=>aM [] (aEz e)) λr6=>?_;refine At.c 5 ?_ ?_
 ·apply rt;exact At.r 2
 ·refine At.gz 0 1 ((j64 (I64 r6))) ?_;refine At.o 0 (rR (x:=(.fn (.func 314) [] [(.im (j64 (I64 r6)))])) (by kernel_rfl) (by kernel_rfl)) ?_;refine At.b 3 (λ_ e=>aM [] (vT e)) λr7=>?_;refine At.b 2 (λ_ e=>aM [] (vT e)) λr8=>?_;refine At.b 2 (λ_ e=>aM [] (vT e)) λr9=>?_;apply rt;exact At.r 2
def sD(N:Nat)(a0:(List aS)):Nat->aS->Int->Option (Sum (aS) (aS×Bool))
 | 0,_,_=>none
 | k+1,s2,s3=>
  aU (decide (s3 < ((a0.length:Int)))) λx4=>
  cond x4 (
   aa (idx a0 s3) λe5=>
   aa (zY s2.gLo e5.gLo 0) λr6=>
   aa (zY (U64 s2.gHi) (U64 e5.gHi) r6.2) λr7=>
   aU ((decide (s2.gHi < 0))==(decide (e5.gHi < 0))) λx8=>
   aU (decide ((I64 r7.1) < 0)) λx9=>
   aU (!(x9==(decide (e5.gHi < 0)))) λx10=>
   cond (cond x8 x10 false) (
    some (Sum.inr ((aS.mk 0 0,false)))) (
    sD N a0 k (aS.mk (I64 r7.1) r6.1) (I64 (s3+1)))) (
   some (Sum.inl s2))
def vP(N:Nat)(a0:(List aS)):Option (aS×Bool):=
 aa (sD N a0 N (aS.mk 0 0) 0) λo=>pD o (λp1=>
  some ((p1,true))) (λr=>some r)
theorem aCl{N a0 r}(h:vP N a0=some r):FnM Tryz.prog 270 [] [(eL 2 aS.enc a0)] (.tup [(aS.enc r.1),(eB r.2)]) []:=by
 unfold vP at h;refine At.f dG hT hmo Tryz.func270 rfl h ?_;refine At.LS 5 [2] 1 (λp1=>([],[(0,.var (aS.enc p1))],[])) (λop1 J k=>∃s2 s3,sD N a0 k s2 s3=some op1/\J [2,11,12] 1 [(13,(j64 s3))] [(0,.var (aS.enc s2))] []) N (λ_ h=>⟨_,_,h,jr⟩) (λop1 g1 k s hI=>?_) λp1=>?_
 ·obtain⟨s2,s3,h,hj⟩:=hI;cases k with
  | zero=>cases h
  | succ k=>
   refine At.jr hj ?_ h;refine lx ?_;intro x4;refine At.c 1 ?_ ?_
   ·refine At.b 0 (λ_ e=>bT hT aS.enc e) λe5=>?_;refine At.b 7 (λ_ e=>aED (aKQ e) (λ_=>aEp)) λr6=>?_;refine At.b 12 (λ_ e=>aED (aKQ e) (λ_=>aEp)) λr7=>?_;refine lx ?_;intro x8;refine lx ?_;intro x9;refine lx ?_;intro x10;refine At.c 23 ?_ ?_
    ·intro e;apply aBm g1 e;exact At.r 3
    ·exact λh=>At.k 6 ⟨_,_,h,jr⟩
   ·apply rt;exact At.xs 0
 ·apply rt;exact At.r 3
def yC(N:Nat)(a0 a1:Int):Option (Int):=
 aa (uH N a0) λr1=>
 aa (uH N a1) λr2=>
 aa (vP N ([r1,r2])) λr3=>
 aa (uH N (-65536)) λr4=>
 aa (uH N 65536) λr5=>
 aa (oD N r3.1 r4) λr6=>
 cond (decide (r6 < 0)) (
  some (-65536)) (
  aa (oD N r3.1 r5) λr7=>
  cond (decide (r7 > 0)) (
   some 65536) (
   aa (qB N r3.1) λr8=>
   some r8.1))
theorem aF6{N a0 a1 r}(h:yC N a0 a1=some r):FnM Tryz.prog 316 [] [(j64 a0),(j64 a1)] (j64 r) []:=by
 unfold yC at h;refine At.f dG hT hmo Tryz.func316 rfl h ?_;refine At.b 2 (λ_ e=>aM [] (aAj e)) λr1=>?_;refine At.b 1 (λ_ e=>aM [] (aAj e)) λr2=>?_;refine At.o 0 (bS hT (x:=(.sl 2 2 [(aS.enc r1),(aS.enc r2)]))) ?_;refine At.b 0 (λ_ e=>aM [] (aCl e)) λr3=>?_;refine At.b 6 (λ_ e=>aM [] (aAj e)) λr4=>?_;refine At.b 0 (λ_ e=>aM [] (aAj e)) λr5=>?_;refine At.b 6 (λ_ e=>aM [] (aAy e)) λr6=>?_;refine At.c 2 ?_ ?_
 ·apply rt;exact At.r 1
 ·refine At.b 2 (λ_ e=>aM [] (aAy e)) λr7=>?_;refine At.c 2 ?_ ?_
  ·apply rt;exact At.r 1
  ·refine At.b 1 (λ_ e=>aM [] (yS e)) λr8=>?_;apply rt;exact At.r 7
def kP(N:Nat)(a0 a1:Int)(a2:aN):Option (Int):=
 cond (decide (a2.gO < 1)) (
  aa (yC N a0 0) λr1=>
  some r1) (
  aa (jO N a1 a2.gA3 a2.gO) λr2=>
  aa (yC N a0 r2) λr3=>
  some r3)
theorem vN{N a0 a1 a2 r}(h:kP N a0 a1 a2=some r):FnM Tryz.prog 315 [] [(j64 a0),(j64 a1),(.im (aN.enc a2))] (j64 r) []:=by
 unfold kP at h;refine At.f dG hT hmo Tryz.func315 rfl h ?_;refine At.c 4 ?_ ?_
 ·refine At.b 1 (λ_ e=>aM [] (aF6 e)) λr1=>?_;apply rt;exact At.r 1
 ·refine At.b 6 (λ_ e=>aM [] (tS e)) λr2=>?_;refine At.b 0 (λ_ e=>aM [] (aF6 e)) λr3=>?_;apply rt;exact At.r 1
def aLi : Nat->Bool:=imL [3,4,5]
def rG(N:Nat)(a0 a1:aC)(a2:aN):Option (aC):=
 aa (kP N a0.gX a1.gX a2) λr1=>
 aa (kP N a0.gY a1.gY a2) λr2=>
 aa (kP N a0.gZ a1.gZ a2) λr3=>
 some (aC.mk r1 r2 r3)
theorem aAJ{N a0 a1 a2 r}(h:rG N a0 a1 a2=some r):FnM Tryz.prog 258 [] [(aC.enc a0),(aC.enc a1),(aN.enc a2)] (aC.enc r) []:=by
 unfold rG at h;refine At.f aLi hT hmo Tryz.func258 rfl h ?_;refine At.o 4 (rR (x:=(.fn (.func 315) [] [(.im (aN.enc a2))])) (by kernel_rfl) (by kernel_rfl)) ?_;refine bi λr1 hr1=>?_;refine bi λr2 hr2=>?_;refine bi λr3 hr3=>?_;refine At.d 1 (dE2 5 (j64 r1) (λ_=>aO (vN hr1)) (dE2 11 (j64 r2) (λ_=>aO (vN hr2)) (dE2 17 (j64 r3) (λ_=>aO (vN hr3)) dE0))) dF0 ?_;apply rt;exact At.r 0
def aOl : Nat->Bool:=imL [2,3]
def sA(N:Nat)(a0 a1:aA):Option (Int):=
 aa (iA N ([a0,a1])) λr1=>
 aa (kF N ([r1.gX,r1.gY,r1.gZ])) λr2=>
 some r2
theorem xP{N a0 a1 r}(h:sA N a0 a1=some r):FnM Tryz.prog 265 [] [(aA.enc a0),(aA.enc a1)] (j64 r) []:=by
 unfold sA at h;refine At.f aOl hT hmo Tryz.func265 rfl h ?_;refine At.o 5 (bS hT (x:=(.sl 3 2 [(aA.enc a0),(aA.enc a1)]))) ?_;refine At.b 0 (λ_ e=>aM [] (rO e)) λr1=>?_;refine At.o 8 (bS hT (x:=(.sl 1 3 [(j64 r1.gX),(j64 r1.gY),(j64 r1.gZ)]))) ?_;refine At.b 0 (λ_ e=>aM [] (pR e)) λr2=>?_;apply rt;exact At.r 1
def aFb : Nat->Bool:=imL [2,3]
def kA(N:Nat)(a0:aA)(a1:aC):Option (aA):=
 aa (fT N a1) λr1=>
 aa (sA N a0 r1) λr2=>
 cond (decide (r2<=0)) (
  some a0) (
  aa (fP N a0 (-4294967296)) λr3=>
  some r3)
theorem sM{N a0 a1 r}(h:kA N a0 a1=some r):FnM Tryz.prog 259 [] [(aA.enc a0),(aC.enc a1)] (aA.enc r) []:=by
 unfold kA at h;refine At.f aFb hT hmo Tryz.func259 rfl h ?_;refine bi λr1 hr1=>?_;refine bi λr2 hr2=>?_;refine At.d 3 (dE2 2 (aA.enc r1) (λ_=>aO (mB hr1)) (dE2 3 (j64 r2) (λ_=>aO (xP hr2)) dE0)) dF0 ?_;refine At.c 0 ?_ ?_
 ·apply rt;exact At.r 2
 ·refine At.b 1 (λ_ e=>aM [] (jS e)) λr3=>?_;apply rt;exact At.r 1
def wU(N:Nat)(a0:(List aD))(a1:Int):Option (aD×Bool):=
 aU (((a0.length:Int))==0) λx1=>
 cond x1 (
  some ((aD.mk 0 [],false))) (
  aU (I64 (((a0.length:Int)) - 1)) λx2=>
  aa (idx a0 (fN (jR a1 0) x2)) λe3=>
  some ((e3,true)))
theorem aIM{N a0 a1 r}(h:wU N a0 a1=some r):FnM Tryz.prog 317 [] [(eL 2 aD.enc a0),(j64 a1)] (.tup [(aD.enc r.1),(eB r.2)]) []:=by
 unfold wU at h;refine At.f dG hT hmo Tryz.func317 rfl h ?_;refine lx ?_;intro x1;refine At.c 5 ?_ ?_
 ·apply rt;exact At.r 3
 ·refine lx ?_;intro x2;refine At.b 7 (λ_ e=>bT hT aD.enc e) λe3=>?_;apply rt;exact At.r 3
def lR(N:Nat)(a0:Int)(a1:aN)(a2:(Vector (Vector Int 2) 3)):Option (Int):=
 aU (I64 ((I64 (a1.gO - a1.gU)) - a1.gV)) λx1=>
 aa (idx a2.toList 0) λe2=>
 aa (idx e2.toList a0) λe3=>
 aa (fS N x1 e3) λr4=>
 aa (idx a2.toList 1) λe5=>
 aa (idx e5.toList a0) λe6=>
 aa (fS N a1.gU e6) λr7=>
 aa (idx a2.toList 2) λe8=>
 aa (idx e8.toList a0) λe9=>
 aa (fS N a1.gV e9) λr10=>
 aa (vP N ([r4,r7,r10])) λr11=>
 cond (!r11.2) (
  some 0) (
  aa (pW N r11.1 a1.gO) λr12=>
  aa (qB N r12.1) λr13=>
  aU (cond (!r13.2) (decide (r12.1.gHi < 0)) false) λx14=>
  cond x14 (
   some (-2147483648)) (
   cond (!r13.2) (
    some 2147483647) (
    aU (jR r13.1 (-2147483648)) λx15=>
    some (fN x15 2147483647))))
theorem zN{N a0 a1 a2 r}(h:lR N a0 a1 a2=some r):FnM Tryz.prog 333 [] [(j64 a0),(.im (aN.enc a1)),(.im (eA 6 2 (eA 2 1 j64) a2))] (j64 r) []:=by
 unfold lR at h;refine At.f dG hT hmo Tryz.func333 rfl h ?_;refine lx ?_;intro x1;refine bi λe2 he2=>?_;refine bi λe3 he3=>?_;refine bi λr4 hr4=>?_;refine bi λe5 he5=>?_;refine bi λe6 he6=>?_;refine bi λr7 hr7=>?_;refine bi λe8 he8=>?_;refine bi λe9 he9=>?_;refine bi λr10 hr10=>?_;refine bi λr11 hr11=>?_;refine At.d 10 (dE1 2 (λ_=>eM hT (N:=6) (k:=2) (eA 2 1 j64) a2 he2) (dE1 3 (λ_=>eM hT (N:=2) (k:=1) j64 e2 he3) (dE2 5 (aS.enc r4) (λ_=>aO (lB hr4)) (dE1 9 (λ_=>eM hT (N:=6) (k:=2) (eA 2 1 j64) a2 he5) (dE1 10 (λ_=>eM hT (N:=2) (k:=1) j64 e5 he6) (dE2 12 (aS.enc r7) (λ_=>aO (lB hr7)) (dE1 16 (λ_=>eM hT (N:=6) (k:=2) (eA 2 1 j64) a2 he8) (dE1 17 (λ_=>eM hT (N:=2) (k:=1) j64 e8 he9) (dE2 19 (aS.enc r10) (λ_=>aO (lB hr10)) (dE1 20 (λ_=>bS hT (x:=(.sl 2 3 [(aS.enc r4),(aS.enc r7),(aS.enc r10)]))) (dE2 21 (.tup [(aS.enc r11.1),(eB r11.2)]) (λ_=>aO (aCl hr11)) dE0))))))))))) dF0 ?_;refine At.c 2 ?_ ?_
 ·apply rt;exact At.r 1
 ·refine At.b 3 (λ_ e=>aM [] (aAq e)) λr12=>?_;refine At.b 9 (λ_ e=>aM [] (yS e)) λr13=>?_;refine lx ?_;intro x14;refine At.c 13 ?_ ?_
  ·apply rt;exact At.r 1
  ·refine At.c 3 ?_ ?_
   ·apply rt;exact At.r 1
   ·refine lx ?_;intro x15;apply rt;exact At.r 4
def aKX : Nat->Bool:=imL [2,3]
def wV(N:Nat)(a0:aN)(a1:(Vector (Vector Int 2) 3)):Option (Int×Int):=
 aa (cond (decide (a0.gO < 1)) (
  some true) (
  aU (decide ((jR (jR (jR a0.gA3 a0.gO) a0.gU) a0.gV) > 1152921504606846976)) λx2=>
  cond x2 (
   some true) (
   aU (decide ((fN (fN a0.gA3 a0.gU) a0.gV) < (-1152921504606846976))) λx3=>
   some x3))) λp1=>
 cond p1 (
  some ((0,0))) (
  aa (lR N 0 a0 a1) λr4=>
  aa (lR N 1 a0 a1) λr5=>
  some ((r4,r5)))
theorem aIl{N a0 a1 r}(h:wV N a0 a1=some r):FnM Tryz.prog 318 [] [(aN.enc a0),(eA 6 2 (eA 2 1 j64) a1)] (.tup [(j64 r.1),(j64 r.2)]) []:=by
 unfold wV at h;refine At.f aKX hT hmo Tryz.func318 rfl h ?_;refine At.J 4 0 [2,3] 0 (λp1=>([(31,(eB p1))],[],[])) (λp1=>?_) λp1=>?_
 ·refine At.s 10 4 ?_ ?_
  ·refine At.g [10,22] 21 ?_;apply rt;exact At.jn 0
  ·refine At.g [10] 8 ?_;refine At.o 0 (aRF (k := .i64) (i:=a0.gA3) (j:=a0.gO) (l:=a0.gU) (m:=a0.gV) (by kernel_rfl) (by kernel_rfl)) ?_;refine lx ?_;intro x2;refine At.g [10] 3 ?_;refine At.s 22 0 ?_ ?_
   ·refine At.g [22] 9 ?_;apply rt;exact At.jn 0
   ·refine At.g [22] 6 ?_;refine At.o 0 (aAO (k := .i64) (i:=a0.gA3) (j:=a0.gU) (l:=a0.gV) (by kernel_rfl) (by kernel_rfl)) ?_;refine lx ?_;intro x3;refine At.g [22] 2 ?_;apply rt;exact At.jn 0
 ·refine At.c 0 ?_ ?_
  ·apply rt;exact At.r 2
  ·refine At.o 0 (rR (x:=(.fn (.func 333) [] [(.im (aN.enc a0)),(.im (eA 6 2 (eA 2 1 j64) a1))])) (by kernel_rfl) (by kernel_rfl)) ?_;refine At.b 2 (λ_ e=>aM [] (zN e)) λr4=>?_;refine At.b 1 (λ_ e=>aM [] (zN e)) λr5=>?_;apply rt;exact At.r 2
def aJ3 : Nat->Bool:=imL [3]
def wL(N:Nat)(a0:aD)(a1 a2:Int):Option ((Vector Int 3)×Int):=
 aa (jT N a0) λr1=>
 cond (r1 != 0) (
  some ((#v[0,0,0],r1))) (
  aa (nP N a0 a1 a2) λr2=>
  some ((r2,0)))
theorem aIR{N a0 a1 a2 r}(h:wL N a0 a1 a2=some r):FnM Tryz.prog 335 [] [(aD.enc a0),(j64 a1),(j64 a2)] (.tup [(eA 3 1 j64 r.1),(j64 r.2)]) []:=by
 unfold wL at h;refine At.f aJ3 hT hmo Tryz.func335 rfl h ?_;refine At.b 4 (λ_ e=>aM [] (uG e)) λr1=>?_;refine At.c 3 ?_ ?_
 ·apply rt;exact At.r 4
 ·refine At.b 3 (λ_ e=>aM [] (vC e)) λr2=>?_;apply rt;exact At.r 2
def eW(N:Nat)(a0 a1:Int)(a2:aD)(a3 a4:Int):Option ((Vector Int 3)):=
 aU (I64 ((shr .i64 a3 16)+a0)) λx1=>
 aU (I64 ((shr .i64 a4 16)+a1)) λx2=>
 aa (wL N a2 x1 x2) λr3=>
 some r3.1
theorem mX{N a0 a1 a2 a3 a4 r}(h:eW N a0 a1 a2 a3 a4=some r):FnM Tryz.prog 334 [] [(j64 a0),(j64 a1),(.im (aD.enc a2)),(.im (j64 a3)),(.im (j64 a4))] (eA 3 1 j64 r) []:=by
 unfold eW at h;refine At.f dG hT hmo Tryz.func334 rfl h ?_;refine lx ?_;intro x1;refine lx ?_;intro x2;refine At.b 10 (λ_ e=>aM [] (aIR e)) λr3=>?_;apply rt;exact At.r 8
def aG0 : Nat->Bool:=imL [3]
def mW(N:Nat)(e20:(Vector Int 3))(s19 x4 x5:Int):Nat->(Vector Int 3)->Int->Option ((Vector Int 3))
 | 0,_,_=>none
 | k+1,s22,s23=>
  cond (decide (s23 < 3)) (
   aa (fM s23 3) λ_=>
   aa (s22.toList[s23.toNat]?) λe25=>
   aa (fM s23 3) λ_=>
   aa (e20.toList[s23.toNat]?) λe27=>
   aa (fM s19 4) λ_=>
   aa ((#v[I64 ((I64 (65536 - (fI .i64 x4 65535)))*(I64 (65536 - (fI .i64 x5 65535)))),(I64 ((fI .i64 x4 65535)*(I64 (65536 - (fI .i64 x5 65535))))),(I64 ((I64 (65536 - (fI .i64 x4 65535)))*(fI .i64 x5 65535))),(I64 ((fI .i64 x4 65535)*(fI .i64 x5 65535)))]).toList[s19.toNat]?) λe29=>
   aU (I64 (e25+(I64 (e27*e29)))) λx30=>
   aa (fM s23 3) λ_=>
   aa (s22.toList[s23.toNat]?) λe32=>
   mW N e20 s19 x4 x5 k (s22.setIfInBounds s23.toNat x30) (I64 (s23+1))) (
   some s22)
def mN(N:Nat)(r13 r14 r15 r16:(Vector Int 3))(x4 x5:Int):Nat->(Vector Int 3)->Int->Option ((Vector Int 3))
 | 0,_,_=>none
 | k+1,s18,s19=>
  cond (decide (s19 < 4)) (
   aa (idx (#v[r13,r14,r15,r16]).toList s19) λe20=>
   aa (mW N e20 s19 x4 x5 N s18 0) λp21=>
   mN N r13 r14 r15 r16 x4 x5 k p21 (I64 (s19+1))) (
   some s18)
def tJ(N:Nat)(a0:aD)(a1 a2:Int):Option (aA×Int):=
 aa (jT N a0) λr1=>
 cond (r1 != 0) (
  some ((aA.mk 0 0 0,r1))) (
  aU (decide ((fN a1 a2) < 0)) λx2=>
  aU (decide ((jR a1 a2) > 65535)) λx3=>
  cond (cond x2 true x3) (
   some ((aA.mk 0 0 0,2))) (
   aU (I64 ((I64 (a1*a0.gI)) - 32768)) λx4=>
   aU (I64 ((I64 (a2*a0.gI)) - 32768)) λx5=>
   aU (I64 (65536 - (fI .i64 x4 65535))) λx6=>
   aU (I64 (65536 - (fI .i64 x5 65535))) λx7=>
   aU (I64 (65536 - (fI .i64 x5 65535))) λx8=>
   aU (I64 ((fI .i64 x4 65535)*x8)) λx9=>
   aU (I64 (65536 - (fI .i64 x4 65535))) λx10=>
   aU (I64 (x10*(fI .i64 x5 65535))) λx11=>
   aU (I64 ((fI .i64 x4 65535)*(fI .i64 x5 65535))) λx12=>
   aa (eW N 0 0 a0 x4 x5) λr13=>
   aa (eW N 1 0 a0 x4 x5) λr14=>
   aa (eW N 0 1 a0 x4 x5) λr15=>
   aa (eW N 1 1 a0 x4 x5) λr16=>
   aa (mN N r13 r14 r15 r16 x4 x5 N (#v[0,0,0]) 0) λp17=>
   aa (fM 0 3) λ_=>
   aa (p17.toList[(bm 0)]?) λe34=>
   aa (fM 1 3) λ_=>
   aa (p17.toList[(bm 1)]?) λe36=>
   aa (fM 2 3) λ_=>
   aa (p17.toList[(bm 2)]?) λe38=>
   some ((aA.mk (I64 (bo e34 255)) (I64 (bo e36 255)) (I64 (bo e38 255)),0))))
theorem aGK{N a0 a1 a2 r}(h:tJ N a0 a1 a2=some r):FnM Tryz.prog 319 [] [(aD.enc a0),(j64 a1),(j64 a2)] (.tup [(aA.enc r.1),(j64 r.2)]) []:=by
 unfold tJ at h;refine At.f aG0 hT hmo Tryz.func319 rfl h ?_;refine At.b 4 (λ_ e=>aM [] (uG e)) λr1=>?_;refine At.c 3 ?_ ?_
 ·apply rt;exact At.r 4
 ·refine lx ?_;intro x2;refine lx ?_;intro x3;refine At.c 10 ?_ ?_
  ·apply rt;exact At.r 3
  ·refine lx ?_;intro x4;refine lx ?_;intro x5;refine At.d2 0 [false,false] dC0 (dS1 10 ⟨(.ref 1 [] 0),1,.var (j64 0),.dead⟩ [[.var (.st 3 [(j64 0),(j64 0),(j64 0)]),.dead,.dead],[.var (.st 3 [(j64 0),(j64 0),(j64 0)]),.dead,.var (j64 0)]] ⟨aW hT 1 (by kernel_rfl) (by kernel_rfl) (by kernel_rfl),aW hT 1 (by kernel_rfl) (by kernel_rfl) (by kernel_rfl),trivial⟩ (dS1 11 ⟨(.ref 2 [] 0),2,.var (j64 0),.dead⟩ [[.var (.st 3 [(j64 0),(j64 0),(j64 0)]),.dead,.dead],[.var (.st 3 [(j64 0),(j64 0),(j64 0)]),.var (j64 0),.dead]] ⟨aW hT 2 (by kernel_rfl) (by kernel_rfl) (by kernel_rfl),aW hT 2 (by kernel_rfl) (by kernel_rfl) (by kernel_rfl),trivial⟩ dS0)) ?_;refine At.d 0 dE0 dF0 ?_;refine At.gz 0 1 ((j64 x4)) ?_;refine At.gz 0 2 ((j64 x5)) ?_;refine At.o 0 (rR (x:=(.fn (.func 334) [] [(.im (aD.enc a0)),(.im (j64 x4)),(.im (j64 x5))])) (by kernel_rfl) (by kernel_rfl)) ?_;refine lx ?_;intro x6;refine lx ?_;intro x7;refine lx ?_;intro x8;refine lx ?_;intro x9;refine lx ?_;intro x10;refine lx ?_;intro x11;refine lx ?_;intro x12;refine At.b 21 (λ_ e=>aM [] (mX e)) λr13=>?_;refine At.b 1 (λ_ e=>aM [] (mX e)) λr14=>?_;refine At.b 1 (λ_ e=>aM [] (mX e)) λr15=>?_;refine At.b 1 (λ_ e=>aM [] (mX e)) λr16=>?_;refine At.L 6 [6,16] 6 (λp17=>([],[(5,.var (eA 3 1 j64 p17))],[])) (λp17 J k=>∃s18 s19,mN N r13 r14 r15 r16 x4 x5 k s18 s19=some p17/\J [6,14,16,78] 6 [(79,(j64 s19))] [(5,.var (eA 3 1 j64 s18))] []) N (λ_ h=>⟨_,_,h,jr⟩) (λp17 k s hI=>?_) λp17=>?_
   ·obtain⟨s18,s19,h,hj⟩:=hI;cases k with
    | zero=>cases h
    | succ k=>
     refine At.jr hj ?_ h;refine At.c 1 ?_ ?_
     ·refine At.b 1 (λ_ e=>aA6 hT (eA 3 1 j64) (#v[r13,r14,r15,r16]) e (by kernel_rfl) (by kernel_rfl)) λe20=>?_;refine At.L 4 [6,14,16,78,79] 7 (λp21=>([],[(5,.var (eA 3 1 j64 p21))],[])) (λp21 J k=>∃s22 s23,mW N e20 s19 x4 x5 k s22 s23=some p21/\J [6,14,16,17,18,78,79] 7 [(83,(j64 s23))] [(5,.var (eA 3 1 j64 s22))] []) N (λ_ h=>⟨_,_,h,jr⟩) (λp21 k s hI=>?_) λp21=>?_
      ·obtain⟨s22,s23,h,hj⟩:=hI;cases k with
       | zero=>cases h
       | succ k=>
        refine At.jr hj ?_ h;refine At.c 1 ?_ ?_
        ·refine bi λu24 hu24=>?_;refine bi λe25 he25=>?_;refine bi λu26 hu26=>?_;refine bi λe27 he27=>?_;refine bi λu28 hu28=>?_;refine bi λe29 he29=>?_;refine lx ?_;intro x30;refine bi λu31 hu31=>?_;refine bi λe32 he32=>?_;refine At.d 2 (dE1 1 (λ_=>bH hT (k:=1) 5 [] 0 hu24) (dEL hT 2 (j64 e25) j64 0 he25 (dE1 4 (λ_=>bH hT (k:=1) 6 [] 0 hu26) (dEL hT 5 (j64 e27) j64 0 he27 (dE1 7 (λ_=>bH hT (k:=1) 3 [] 0 hu28) (dEL hT 8 (j64 e29) j64 0 he29 (dE1 11 (λ_=>bH hT (k:=1) 5 [] 0 hu31) dE0))))))) (dF 12 (.v (.bool false)) [(5,.var (eA 3 1 j64 (s22.setIfInBounds s23.toNat x30)))] [] (bG (oL hT j64 0 s22 he32 x30 (by kernel_rfl) (by kernel_rfl) (H':=[.var (.st 3 [(j64 0),(j64 0),(j64 0)]),.dead,.dead,.var (.arr 4 1 [(j64 (I64 ((I64 (65536 - (fI .i64 x4 65535)))*(I64 (65536 - (fI .i64 x5 65535)))))),(j64 ((I64 ((fI .i64 x4 65535)*(I64 (65536 - (fI .i64 x5 65535))))))),(j64 ((I64 ((I64 (65536 - (fI .i64 x4 65535)))*(fI .i64 x5 65535))))),(j64 ((I64 ((fI .i64 x4 65535)*(fI .i64 x5 65535)))))]),.var (.arr 12 3 [(eA 3 1 j64 r13),(eA 3 1 j64 r14),(eA 3 1 j64 r15),(eA 3 1 j64 r16)]),.var (eA 3 1 j64 (s22.setIfInBounds s23.toNat x30)),.var (eA 3 1 j64 e20)]))) dF0) ?_;exact λh=>At.k 2 ⟨_,_,h,jr⟩
        ·apply rt;exact At.x 0
      ·exact λh=>At.k 2 ⟨_,_,h,jr⟩
     ·apply rt;exact At.x 0
   ·refine At.b 0 (λ_ e=>bH hT (k:=1) 5 [] 0 e) λu33=>?_;refine At.b 0 (λ_ e=>qF hT j64 0 e) λe34=>?_;refine At.b 1 (λ_ e=>bH hT (k:=1) 5 [] 0 e) λu35=>?_;refine At.b 0 (λ_ e=>qF hT j64 0 e) λe36=>?_;refine At.b 1 (λ_ e=>bH hT (k:=1) 5 [] 0 e) λu37=>?_;refine At.b 0 (λ_ e=>qF hT j64 0 e) λe38=>?_;apply rt;exact At.r 4
end Go.UK
