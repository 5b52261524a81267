/- A part of the proof: what the functions of the program compute. -/
import Derived.Test.YtghnafefpogjjaaGreatFT
namespace Go.UK
open Go Go.Proofs
set_option maxRecDepth 20000
set_option maxHeartbeats 40000000
set_option linter.all false
attribute [local irreducible] adv aK7 aJd aBB brPt aM5 aHO pW aBF eN oT fV aK6 aJk lPt owp awl aw FnM aHc opS Stab TOK Big
def aE3 : Nat→Bool:=imL [1]
def mY (N:Nat) (a0:aE):Nat→(List aD)→Int→Option ((List aD))
 | 0,_,_=>none
 | k+1,s2,s3=>
  aT ((a0.gQ.length:Int)) fun x4=>
  aT (cond (decide (s3 < x4)) (decide (s3 < 4)) false) fun x5=>
  cond x5 (
   Option.bind (idx a0.gQ s3) fun e6=>
   aT ((e6.gA2.length:Int)) fun x7=>
   Option.bind (vU e6.gA2 0 (fD x7 260)) fun s8=>
   Option.bind (rF 32 s2 (([aD.mk e6.gE s8]:List aD))) fun z9=>
   mY N a0 k z9 (I64 (s3+1))) (
   some s2)
def pZ (N:Nat) (a0:aE):Option (aE):=
 Option.bind (mY N a0 N [] 0) fun p1=>
 aT ((a0.gK.length:Int)) fun x10=>
 Option.bind (vU a0.gK 0 (fD x10 20)) fun s11=>
 aT ((a0.gA1.length:Int)) fun x12=>
 Option.bind (vU a0.gA1 0 (fD x12 8)) fun s13=>
 aT ((a0.gI.length:Int)) fun x14=>
 Option.bind (vU a0.gI 0 (fD x14 5)) fun s15=>
 aT (fD ((a0.gL.length:Int)) 20) fun x16=>
 Option.bind (vU a0.gL 0 x16) fun s17=>
 aT ((a0.gA5.length:Int)) fun x18=>
 Option.bind (vU a0.gA5 0 (fD x18 20)) fun s19=>
 some (aE.mk s11 s13 p1 s15 s17 s19 a0.gA9 a0.gB5 a0.gTo)
theorem aD7 {N a0 r} (h:pZ N a0=some r):FnM Tryz.prog 10 [] [(aE.enc a0)] (aE.enc r) []:=by
 unfold pZ at h
 refine At.f aE3 hT hmo Tryz.func10 rfl h ?_
 refine At.ownn 4 3 2 ?_
 refine At.L 0 [1,2] 2 (fun p1=>([(3,(eO 1 2 aD.enc p1))],[(1,.tail (p1.length*2))],[])) (fun p1 J k=>∃ s2 s3,mY N a0 k s2 s3=some p1∧J [1,2] 2 [(3,(eO 1 2 aD.enc s2)),(4,(j64 s3))] [(1,.tail (s2.length*2))] []) N (fun _ h=>⟨_,_,h,jr⟩) (fun p1 k s hI=>?_) fun p1=>?_
 ·obtain ⟨s2,s3,h,hj⟩:=hI
  cases k with
  | zero=>cases h
  | succ k=>
   refine At.jr hj ?_ h
   refine lx ?_;intro x4
   refine lx ?_;intro x5
   refine At.c 9 ?_ ?_
   ·refine At.b 3 (fun _ e=>bF hT aD.enc e) fun e6=>?_
    refine lx ?_;intro x7
    refine bi fun s8 hs8=>?_
    refine bi fun z9 hz9=>?_
    refine At.d 3 (dE1 9 (fun _=>aAd hT (k:=3) (eA 3 1 j64) hs8) (dE1 11 (fun _=>bQ hT (x:=(.sl 2 1 [(.st 2 [(j64 e6.gE),(eL 3 (eA 3 1 j64) s8)])]))) dE0)) (dF 12 (eO 1 2 aD.enc z9) [(1,.tail (z9.length*2))] [] (bG (iA hT aD.enc (id:=1) (k:=2) hz9)) dF0) ?_
    exact fun h=>At.k 3 ⟨_,_,h,jr⟩
   ·apply rt;exact At.x 0
 ·refine lx ?_;intro x10
  refine bi fun s11 hs11=>?_
  refine lx ?_;intro x12
  refine bi fun s13 hs13=>?_
  refine lx ?_;intro x14
  refine bi fun s15 hs15=>?_
  refine lx ?_;intro x16
  refine bi fun s17 hs17=>?_
  refine lx ?_;intro x18
  refine bi fun s19 hs19=>?_
  refine At.d 0 (dE1 6 (fun _=>aAd hT (k:=19) aF.enc hs11) (dE1 13 (fun _=>aAd hT (k:=5) aN.enc hs13) (dE1 21 (fun _=>aAd hT (k:=13) aP.enc hs15) (dE1 28 (fun _=>aAd hT (k:=1) k64 hs17) (dE1 35 (fun _=>aAd hT (k:=1) k32 hs19) dE0))))) dF0 ?_
  apply rt;exact At.r 0
def rA (N:Nat) (a0:aI):Option (aI):=
 some (aI.mk (fD a0.gW 3) (fD a0.gH 3) (fD a0.gB2 2) (fD a0.gM 3) a0.gJ a0.gC5 a0.gC8 a0.gS)
theorem aC0 {N a0 r} (h:rA N a0=some r):FnM Tryz.prog 11 [] [(aI.enc a0)] (aI.enc r) []:=by
 unfold rA at h
 refine At.f cQ hT hmo Tryz.func11 rfl h ?_
 apply rt;exact At.r 24
def aJt : Nat→Bool:=imL [2]
def qZ (N:Nat) (a0:aC) (a1:Int):Option (Bool):=
 Option.bind (aT (decide ((jH (jH a0.gX a0.gY) a0.gZ)≤a1)) fun x2=>
 cond x2 (
  aT (decide ((fD (fD a0.gX a0.gY) a0.gZ)≥(I64 (0 - a1)))) fun x3=>
  some x3) (
  some false)) fun p1=>
 some p1
theorem aAz {N a0 a1 r} (h:qZ N a0 a1=some r):FnM Tryz.prog 295 [] [(aC.enc a0),(j64 a1)] (eB r) []:=by
 unfold qZ at h
 refine At.f aJt hT hmo Tryz.func295 rfl h ?_
 refine At.J 2 0 [] 0 (fun p1=>([(4,(eB p1))],[],[])) (fun p1=>?_) fun p1=>?_
 ·refine At.o 6 (aAQ (k := .i64) (i:=a0.gX) (j:=a0.gY) (l:=a0.gZ) (by kernel_rfl) (by kernel_rfl)) ?_
  refine lx ?_;intro x2
  refine At.s 14 3 ?_ ?_
  ·refine At.g [14] 6 ?_
   refine At.o 0 (aAH (k := .i64) (i:=a0.gX) (j:=a0.gY) (l:=a0.gZ) (by kernel_rfl) (by kernel_rfl)) ?_
   refine lx ?_;intro x3
   refine At.g [14] 5 ?_
   apply rt;exact At.jn 0
  ·refine At.g [14] 12 ?_
   apply rt;exact At.jn 0
 ·apply rt;exact At.r 0
def aNL : Nat→Bool:=imL [2,3]
def tM (N:Nat) (a0 a1:aC):Option (Bool):=
 Option.bind (Option.bind (qZ N a0 65536) fun r2=>
 cond r2 (
  Option.bind (qZ N a1 131072) fun r3=>
  cond r3 (
   aT (!(aC.eq a1 (aC.mk 0 0 0))) fun x4=>
   some x4) (
   some false)) (
  some false)) fun p1=>
 some p1
theorem zY {N a0 a1 r} (h:tM N a0 a1=some r):FnM Tryz.prog 234 [] [(aC.enc a0),(aC.enc a1)] (eB r) []:=by
 unfold tM at h
 refine At.f aNL hT hmo Tryz.func234 rfl h ?_
 refine At.J 3 0 [] 0 (fun p1=>([(4,(eB p1))],[],[])) (fun p1=>?_) fun p1=>?_
 ·refine At.b 1 (fun _ e=>aM [] (aAz e)) fun r2=>?_
  refine At.s 7 1 ?_ ?_
  ·refine At.g [7] 1 ?_
   refine At.b 0 (fun _ e=>aM [] (aAz e)) fun r3=>?_
   refine At.g [7] 2 ?_
   refine At.s 11 0 ?_ ?_
   ·refine At.g [11] 2 ?_
    refine At.o 0 (zN aBZ (a1:aC) (aC.mk 0 0 0:aC) (by kernel_rfl) (by kernel_rfl) (fun _=>rfl) (fun _=>rfl) (by kernel_rfl) (by kernel_rfl)) ?_
    refine lx ?_;intro x4
    refine At.g [11] 2 ?_
    apply rt;exact At.jn 0
   ·refine At.g [11] 5 ?_
    apply rt;exact At.jn 0
  ·refine At.g [7,11] 9 ?_
   apply rt;exact At.jn 0
 ·apply rt;exact At.r 0
def aE6 : Nat→Bool:=imL [2,3]
def kO (N:Nat) (a1:aF):Nat→Int→Option (Sum (Unit) (Int))
 | 0,_=>none
 | k+1,s9=>
  cond (decide (s9 < 3)) (
   Option.bind (idx a1.gUv.toList s9) fun e10=>
   Option.bind (Option.bind (eY 0 2) fun _=>
   Option.bind (e10.toList[(Int.toNat 0)]?) fun e13=>
   Option.bind (eY 1 2) fun _=>
   Option.bind (e10.toList[(Int.toNat 1)]?) fun e15=>
   aT (decide ((fD e13 e15) < 0)) fun x16=>
   cond x16 (
    some true) (
    Option.bind (eY 0 2) fun _=>
    Option.bind (e10.toList[(Int.toNat 0)]?) fun e18=>
    Option.bind (eY 1 2) fun _=>
    Option.bind (e10.toList[(Int.toNat 1)]?) fun e20=>
    aT (decide ((jH e18 e20) > 65535)) fun x21=>
    some x21)) fun p11=>
   cond p11 (some (Sum.inr 5)) (kO N a1 k (I64 (s9+1)))) (
   some (Sum.inl (())))
def kR (N:Nat) (a1:aF):Nat→Int→Option (Sum (Unit) (Int))
 | 0,_=>none
 | k+1,s23=>
  cond (decide (s23 < 3)) (
   Option.bind (idx a1.gP.toList s23) fun e24=>
   Option.bind (tM N e24 (aC.mk 1 0 0)) fun r25=>
   cond (!r25) (some (Sum.inr 8)) (kR N a1 k (I64 (s23+1)))) (
   some (Sum.inl (())))
def lJ (N:Nat) (a0:aE) (a1:aF):Option (Int):=
 aT ((a0.gA1.length:Int)) fun x1=>
 aT (cond (decide (a1.gC3 < 0)) true (decide (a1.gC3≥x1))) fun x2=>
 aT (decide (a1.gB4 < (-1))) fun x3=>
 aT ((a0.gQ.length:Int)) fun x4=>
 aT (cond (cond x2 true x3) true (decide (a1.gB4≥x4))) fun x5=>
 aT (cond x5 true (decide (a1.gA0 < 0))) fun x6=>
 aT (decide (a1.gA0≥((a0.gL.length:Int)))) fun x7=>
 cond (cond x6 true x7) (
  some 5) (
  Option.bind (kO N a1 N 0) fun o=>nS o (fun p8=>
   Option.bind (kR N a1 N 0) fun o=>nS o (fun p22=>
    some 0) (fun r=>some r)) (fun r=>some r))
theorem aDp {N a0 a1 r} (h:lJ N a0 a1=some r):FnM Tryz.prog 175 [] [(aE.enc a0),(aF.enc a1)] (j64 r) []:=by
 unfold lJ at h
 refine At.f aE6 hT hmo Tryz.func175 rfl h ?_
 refine lx ?_;intro x1
 refine lx ?_;intro x2
 refine lx ?_;intro x3
 refine lx ?_;intro x4
 refine lx ?_;intro x5
 refine lx ?_;intro x6
 refine lx ?_;intro x7
 refine At.c 40 ?_ ?_
 ·apply rt;exact At.r 1
 ·refine At.LS 3 [3] 0 (fun p8=>([],[],[])) (fun op8 J k=>∃ s9,kO N a1 k s9=some op8∧J [3,47] 0 [(48,(j64 s9))] [] []) N (fun _ h=>⟨_,h,jr⟩) (fun op8 g8 k s hI=>?_) fun p8=>?_
  ·obtain ⟨s9,h,hj⟩:=hI
   cases k with
   | zero=>cases h
   | succ k=>
    refine At.jr hj ?_ h
    refine At.c 1 ?_ ?_
    ·refine At.b 0 (fun _ e=>aAc hT (eA 2 1 j64) a1.gUv e (by kernel_rfl) (by kernel_rfl)) fun e10=>?_
     refine At.J 2 0 [3,47,48] 1 (fun p11=>([(64,(eB p11))],[],[])) (fun p11=>?_) fun p11=>?_
     ·refine At.b 0 (fun _ e=>bH hT (k:=1) 0 [] 0 e) fun u12=>?_
      refine At.b 0 (fun _ e=>pQ hT j64 0 e) fun e13=>?_
      refine At.b 0 (fun _ e=>bH hT (k:=1) 0 [] 0 e) fun u14=>?_
      refine At.b 0 (fun _ e=>pQ hT j64 0 e) fun e15=>?_
      refine lx ?_;intro x16
      refine At.s 57 3 ?_ ?_
      ·refine At.g [57] 7 ?_
       apply rt;exact At.jn 0
      ·refine At.b 0 (fun _ e=>bH hT (k:=1) 0 [] 0 e) fun u17=>?_
       refine At.b 0 (fun _ e=>pQ hT j64 0 e) fun e18=>?_
       refine At.b 0 (fun _ e=>bH hT (k:=1) 0 [] 0 e) fun u19=>?_
       refine At.b 0 (fun _ e=>pQ hT j64 0 e) fun e20=>?_
       refine lx ?_;intro x21
       refine At.g [57] 3 ?_
       apply rt;exact At.jn 0
     ·refine At.c 0 ?_ ?_
      ·intro e;apply aBM g8 e;exact At.r 1
      ·exact fun h=>At.k 2 ⟨_,h,jr⟩
    ·apply rt;exact At.xs 0
  ·refine At.LS 3 [] 0 (fun p22=>([],[],[])) (fun op22 J k=>∃ s23,kR N a1 k s23=some op22∧J [67] 0 [(68,(j64 s23))] [] []) N (fun _ h=>⟨_,h,jr⟩) (fun op22 g22 k s hI=>?_) fun p22=>?_
   ·obtain ⟨s23,h,hj⟩:=hI
    cases k with
    | zero=>cases h
    | succ k=>
     refine At.jr hj ?_ h
     refine At.c 1 ?_ ?_
     ·refine At.b 0 (fun _ e=>aAc hT aC.enc a1.gP e (by kernel_rfl) (by kernel_rfl)) fun e24=>?_
      refine At.b 4 (fun _ e=>aM [] (zY e)) fun r25=>?_
      refine At.c 1 ?_ ?_
      ·intro e;apply aBM g22 e;exact At.r 1
      ·exact fun h=>At.k 2 ⟨_,h,jr⟩
     ·apply rt;exact At.xs 0
   ·apply rt;exact At.r 1
def aDe : Nat→Bool:=imL [2]
def jP (N:Nat) (a0:aF) (a1:aE):Option (Int):=
 Option.bind (lJ N a1 a0) fun r1=>
 some r1
theorem aC1 {N a0 a1 r} (h:jP N a0 a1=some r):FnM Tryz.prog 174 [] [(aF.enc a0),(.im (aE.enc a1))] (j64 r) []:=by
 unfold jP at h
 refine At.f aDe hT hmo Tryz.func174 rfl h ?_
 refine At.b 4 (fun _ e=>aM [] (aDp e)) fun r1=>?_
 apply rt;exact At.r 1
def eK (N:Nat) (a0:(List aF)) (a1:aE):Nat→Int→Option (Sum (Unit) (Int))
 | 0,_=>none
 | k+1,s2=>
  aT (decide (s2 < ((a0.length:Int)))) fun x3=>
  cond x3 (
   Option.bind (idx a0 s2) fun e4=>
   Option.bind (jP N e4 a1) fun r5=>
   cond (r5 != 0) (
    some (Sum.inr r5)) (
    eK N a0 a1 k (I64 (s2+1)))) (
   some (Sum.inl (())))
def cZ (N:Nat) (a0:(List aF)) (a1:aE):Option (Int):=
 Option.bind (eK N a0 a1 N 0) fun o=>nS o (fun p1=>
  some 0) (fun r=>some r)
theorem xE {N a0 a1 r} (h:cZ N a0 a1=some r):FnM Tryz.prog 173 [] [(eL 19 aF.enc a0),(.fn (.func 174) [] [(.im (aE.enc a1))])] (j64 r) []:=by
 unfold cZ at h
 refine At.f cQ hT hmo Tryz.func173 rfl h ?_
 refine At.LS 4 [] 0 (fun p1=>([],[],[])) (fun op1 J k=>∃ s2,eK N a0 a1 k s2=some op1∧J [1,8,9] 0 [(10,(j64 s2))] [] []) N (fun _ h=>⟨_,h,jr⟩) (fun op1 g1 k s hI=>?_) fun p1=>?_
 ·obtain ⟨s2,h,hj⟩:=hI
  cases k with
  | zero=>cases h
  | succ k=>
   refine At.jr hj ?_ h
   refine lx ?_;intro x3
   refine At.c 1 ?_ ?_
   ·refine At.b 0 (fun _ e=>bF hT aF.enc e) fun e4=>?_
    refine At.b 5 (fun _ e=>aM [] (aC1 e)) fun r5=>?_
    refine At.c 3 ?_ ?_
    ·intro e;apply aBM g1 e;exact At.r 2
    ·exact fun h=>At.k 2 ⟨_,h,jr⟩
   ·apply rt;exact At.xs 0
 ·apply rt;exact At.r 1
def mA (N:Nat) (a0 a1:Int):Option (Bool):=
 aT (cond (decide (a0 < 0)) true (decide (a0 > a1))) fun x1=>
 some x1
theorem aB7 {N a0 a1 r} (h:mA N a0 a1=some r):FnM Tryz.prog 297 [] [(j64 a0),(.im (j64 a1))] (eB r) []:=by
 unfold mA at h
 refine At.f cQ hT hmo Tryz.func297 rfl h ?_
 refine lx ?_;intro x1
 apply rt;exact At.r 9
def dZ (N:Nat) (a0:(List Int)) (a1:Int):Nat→Int→Option (Sum (Unit) (Int))
 | 0,_=>none
 | k+1,s2=>
  aT (decide (s2 < ((a0.length:Int)))) fun x3=>
  cond x3 (
   Option.bind (idx a0 s2) fun e4=>
   Option.bind (mA N e4 a1) fun r5=>
   cond r5 (
    some (Sum.inr s2)) (
    dZ N a0 a1 k (I64 (s2+1)))) (
   some (Sum.inl (())))
def eU (N:Nat) (a0:(List Int)) (a1:Int):Option (Int):=
 Option.bind (dZ N a0 a1 N 0) fun o=>nS o (fun p1=>
  some (-1)) (fun r=>some r)
theorem tF {N a0 a1 r} (h:eU N a0 a1=some r):FnM Tryz.prog 309 [] [(eL 1 j64 a0),(.fn (.func 297) [] [(.im (j64 a1))])] (j64 r) []:=by
 unfold eU at h
 refine At.f cQ hT hmo Tryz.func309 rfl h ?_
 refine At.LS 4 [] 0 (fun p1=>([],[],[])) (fun op1 J k=>∃ s2,dZ N a0 a1 k s2=some op1∧J [0,1,7] 0 [(8,(j64 s2))] [] []) N (fun _ h=>⟨_,h,jr⟩) (fun op1 g1 k s hI=>?_) fun p1=>?_
 ·obtain ⟨s2,h,hj⟩:=hI
  cases k with
  | zero=>cases h
  | succ k=>
   refine At.jr hj ?_ h
   refine lx ?_;intro x3
   refine At.c 1 ?_ ?_
   ·refine At.b 5 (fun _ e=>bF hT j64 e) fun e4=>?_
    refine At.b 1 (fun _ e=>aM [] (aB7 e)) fun r5=>?_
    refine At.c 0 ?_ ?_
    ·intro e;apply aBM g1 e;exact At.r 2
    ·exact fun h=>At.k 2 ⟨_,h,jr⟩
   ·apply rt;exact At.xs 0
 ·apply rt;exact At.r 1
def eC (N:Nat) (a0:(List Int)) (a1:Int):Option (Bool):=
 Option.bind (eU N a0 a1) fun r1=>
 some (decide (r1≥0))
theorem rR {N a0 a1 r} (h:eC N a0 a1=some r):FnM Tryz.prog 296 [] [(eL 1 j64 a0),(.fn (.func 297) [] [(.im (j64 a1))])] (eB r) []:=by
 unfold eC at h
 refine At.f cQ hT hmo Tryz.func296 rfl h ?_
 refine At.b 3 (fun _ e=>aM [] (tF e)) fun r1=>?_
 apply rt;exact At.r 2
def aFf : Nat→Bool:=imL [2]
def kT (N:Nat) (a0:Int) (a1:(List Int)):Option (Bool):=
 Option.bind (eC N a1 a0) fun r1=>
 some r1
theorem tU {N a0 a1 r} (h:kT N a0 a1=some r):FnM Tryz.prog 235 [] [(j64 a0),(eL 1 j64 a1)] (eB r) []:=by
 unfold kT at h
 refine At.f aFf hT hmo Tryz.func235 rfl h ?_
 refine At.o 3 (qT (x:=(.fn (.func 297) [] [(.im (j64 a0))])) (by kernel_rfl) (by kernel_rfl)) ?_
 refine At.b 0 (fun _ e=>aM [] (rR e)) fun r1=>?_
 apply rt;exact At.r 1
def aE2 : Nat→Bool:=imL [1]
def nM (N:Nat) (a0:aN):Option (Int):=
 Option.bind (Option.bind (kT N 4 ([a0.gA7])) fun r2=>
 cond r2 (
  some true) (
  Option.bind (idx a0.gA4.toList 0) fun e3=>
  Option.bind (idx a0.gA4.toList 1) fun e4=>
  Option.bind (idx a0.gA4.toList 2) fun e5=>
  Option.bind (kT N 65535 ([e3,e4,e5,a0.gD3])) fun r6=>
  some r6)) fun p1=>
 cond p1 (some 5) (some 0)
theorem aDl {N a0 r} (h:nM N a0=some r):FnM Tryz.prog 177 [] [(aN.enc a0)] (j64 r) []:=by
 unfold nM at h
 refine At.f aE2 hT hmo Tryz.func177 rfl h ?_
 refine At.J 2 0 [] 0 (fun p1=>([(21,(eB p1))],[],[])) (fun p1=>?_) fun p1=>?_
 ·refine At.o 2 (bQ hT (x:=(.sl 1 1 [(j64 a0.gA7)]))) ?_
  refine At.b 0 (fun _ e=>aM [] (tU e)) fun r2=>?_
  refine At.s 7 1 ?_ ?_
  ·refine At.g [7] 14 ?_
   apply rt;exact At.jn 0
  ·refine At.g [7] 1 ?_
   refine At.b 0 (fun _ e=>dS hT (N:=3) (k:=1) j64 a0.gA4 e) fun e3=>?_
   refine At.g [7] 2 ?_
   refine At.b 0 (fun _ e=>dS hT (N:=3) (k:=1) j64 a0.gA4 e) fun e4=>?_
   refine At.g [7] 2 ?_
   refine At.b 0 (fun _ e=>dS hT (N:=3) (k:=1) j64 a0.gA4 e) fun e5=>?_
   refine At.g [7] 3 ?_
   refine At.o 0 (bQ hT (x:=(.sl 1 4 [(j64 e3),(j64 e4),(j64 e5),(j64 a0.gD3)]))) ?_
   refine At.b 0 (fun _ e=>aM [] (tU e)) fun r6=>?_
   refine At.g [7] 1 ?_
   apply rt;exact At.jn 0
 ·refine At.c 0 ?_ ?_
  ·apply rt;exact At.r 1
  ·apply rt;exact At.r 1
def eH (N:Nat) (a0:(List aN)):Nat→Int→Option (Sum (Unit) (Int))
 | 0,_=>none
 | k+1,s2=>
  aT (decide (s2 < ((a0.length:Int)))) fun x3=>
  cond x3 (
   Option.bind (idx a0 s2) fun e4=>
   Option.bind (nM N e4) fun r5=>
   cond (r5 != 0) (
    some (Sum.inr r5)) (
    eH N a0 k (I64 (s2+1)))) (
   some (Sum.inl (())))
def dN (N:Nat) (a0:(List aN)):Option (Int):=
 Option.bind (eH N a0 N 0) fun o=>nS o (fun p1=>
  some 0) (fun r=>some r)
theorem uD {N a0 r} (h:dN N a0=some r):FnM Tryz.prog 176 [] [(eL 5 aN.enc a0),(.fn (.func 177) [] [])] (j64 r) []:=by
 unfold dN at h
 refine At.f cQ hT hmo Tryz.func176 rfl h ?_
 refine At.LS 4 [] 0 (fun p1=>([],[],[])) (fun op1 J k=>∃ s2,eH N a0 k s2=some op1∧J [1,8,9] 0 [(10,(j64 s2))] [] []) N (fun _ h=>⟨_,h,jr⟩) (fun op1 g1 k s hI=>?_) fun p1=>?_
 ·obtain ⟨s2,h,hj⟩:=hI
  cases k with
  | zero=>cases h
  | succ k=>
   refine At.jr hj ?_ h
   refine lx ?_;intro x3
   refine At.c 1 ?_ ?_
   ·refine At.b 0 (fun _ e=>bF hT aN.enc e) fun e4=>?_
    refine At.b 5 (fun _ e=>aM [] (aDl e)) fun r5=>?_
    refine At.c 3 ?_ ?_
    ·intro e;apply aBM g1 e;exact At.r 2
    ·exact fun h=>At.k 2 ⟨_,h,jr⟩
   ·apply rt;exact At.xs 0
 ·apply rt;exact At.r 1
def fH (N:Nat) (a0:(List Int)) (a1:Int):Nat→Int→Option (Sum (Unit) (Int))
 | 0,_=>none
 | k+1,s2=>
  aT (decide (s2 < ((a0.length:Int)))) fun x3=>
  cond x3 (
   Option.bind (idx a0 s2) fun e4=>
   cond (a1==e4) (
    some (Sum.inr s2)) (
    fH N a0 a1 k (I64 (s2+1)))) (
   some (Sum.inl (())))
def nF (N:Nat) (a0:(List Int)) (a1:Int):Option (Int):=
 Option.bind (fH N a0 a1 N 0) fun o=>nS o (fun p1=>
  some (-1)) (fun r=>some r)
theorem aBQ {N a0 a1 r} (h:nF N a0 a1=some r):FnM Tryz.prog 298 [] [(eL 1 j64 a0),(j64 a1)] (j64 r) []:=by
 unfold nF at h
 refine At.f cQ hT hmo Tryz.func298 rfl h ?_
 refine At.LS 4 [] 0 (fun p1=>([],[],[])) (fun op1 J k=>∃ s2,fH N a0 a1 k s2=some op1∧J [0,1,7] 0 [(8,(j64 s2))] [] []) N (fun _ h=>⟨_,h,jr⟩) (fun op1 g1 k s hI=>?_) fun p1=>?_
 ·obtain ⟨s2,h,hj⟩:=hI
  cases k with
  | zero=>cases h
  | succ k=>
   refine At.jr hj ?_ h
   refine lx ?_;intro x3
   refine At.c 1 ?_ ?_
   ·refine At.b 5 (fun _ e=>bF hT j64 e) fun e4=>?_
    refine At.c 2 ?_ ?_
    ·intro e;apply aBM g1 e;exact At.r 2
    ·exact fun h=>At.k 2 ⟨_,h,jr⟩
   ·apply rt;exact At.xs 0
 ·apply rt;exact At.r 1
def iS (N:Nat) (a0:(List Int)) (a1:Int):Option (Bool):=
 Option.bind (nF N a0 a1) fun r1=>
 some (decide (r1≥0))
theorem aAM {N a0 a1 r} (h:iS N a0 a1=some r):FnM Tryz.prog 236 [] [(eL 1 j64 a0),(j64 a1)] (eB r) []:=by
 unfold iS at h
 refine At.f cQ hT hmo Tryz.func236 rfl h ?_
 refine At.b 3 (fun _ e=>aM [] (aBQ e)) fun r1=>?_
 apply rt;exact At.r 2
def aFq : Nat→Bool:=imL [1]
def lE (N:Nat) (x5:Int) (a0:aD):Nat→Int→Option (Sum (Unit) (Int))
 | 0,_=>none
 | k+1,s7=>
  cond (decide (s7 < x5)) (
   Option.bind (idx a0.gA2 s7) fun e8=>
   Option.bind (Option.bind (eY 0 3) fun _=>
   Option.bind (e8.toList[(Int.toNat 0)]?) fun e11=>
   Option.bind (eY 1 3) fun _=>
   Option.bind (e8.toList[(Int.toNat 1)]?) fun e13=>
   Option.bind (eY 2 3) fun _=>
   Option.bind (e8.toList[(Int.toNat 2)]?) fun e15=>
   aT (decide ((fD (fD e11 e13) e15) < 0)) fun x16=>
   cond x16 (
    some true) (
    Option.bind (eY 0 3) fun _=>
    Option.bind (e8.toList[(Int.toNat 0)]?) fun e18=>
    Option.bind (eY 1 3) fun _=>
    Option.bind (e8.toList[(Int.toNat 1)]?) fun e20=>
    Option.bind (eY 2 3) fun _=>
    Option.bind (e8.toList[(Int.toNat 2)]?) fun e22=>
    aT (decide ((jH (jH e18 e20) e22) > 255)) fun x23=>
    some x23)) fun p9=>
   cond p9 (some (Sum.inr 5)) (lE N x5 a0 k (I64 (s7+1)))) (
   some (Sum.inl (())))
def jF (N:Nat) (a0:aD):Option (Int):=
 Option.bind (iS N ([1,2,4,8,16]) a0.gE) fun r1=>
 aT ((a0.gA2.length:Int)) fun x2=>
 aT (I64 (a0.gE*a0.gE)) fun x3=>
 aT (cond (!r1) true (x2 != x3)) fun x4=>
 cond x4 (
  some 5) (
  aT ((a0.gA2.length:Int)) fun x5=>
  Option.bind (lE N x5 a0 N 0) fun o=>nS o (fun p6=>
   some 0) (fun r=>some r))
theorem tJ {N a0 r} (h:jF N a0=some r):FnM Tryz.prog 179 [] [(aD.enc a0)] (j64 r) []:=by
 unfold jF at h
 refine At.f aFq hT hmo Tryz.func179 rfl h ?_
 refine At.o 2 (bQ hT (x:=(.sl 1 5 [(j64 1),(j64 2),(j64 4),(j64 8),(j64 16)]))) ?_
 refine At.b 2 (fun _ e=>aM [] (aAM e)) fun r1=>?_
 refine lx ?_;intro x2
 refine lx ?_;intro x3
 refine lx ?_;intro x4
 refine At.c 12 ?_ ?_
 ·apply rt;exact At.r 1
 ·refine lx ?_;intro x5
  refine At.LS 4 [] 0 (fun p6=>([],[],[])) (fun op6 J k=>∃ s7,lE N x5 a0 k s7=some op6∧J [22,23] 0 [(24,(j64 s7))] [] []) N (fun _ h=>⟨_,h,jr⟩) (fun op6 g6 k s hI=>?_) fun p6=>?_
  ·obtain ⟨s7,h,hj⟩:=hI
   cases k with
   | zero=>cases h
   | succ k=>
    refine At.jr hj ?_ h
    refine At.c 1 ?_ ?_
    ·refine At.b 0 (fun _ e=>bF hT (eA 3 1 j64) e) fun e8=>?_
     refine At.J 3 0 [22,23,24] 1 (fun p9=>([(45,(eB p9))],[],[])) (fun p9=>?_) fun p9=>?_
     ·refine At.b 0 (fun _ e=>bH hT (k:=1) 0 [] 0 e) fun u10=>?_
      refine At.b 0 (fun _ e=>pQ hT j64 0 e) fun e11=>?_
      refine At.b 0 (fun _ e=>bH hT (k:=1) 0 [] 0 e) fun u12=>?_
      refine At.b 0 (fun _ e=>pQ hT j64 0 e) fun e13=>?_
      refine At.b 0 (fun _ e=>bH hT (k:=1) 0 [] 0 e) fun u14=>?_
      refine At.b 0 (fun _ e=>pQ hT j64 0 e) fun e15=>?_
      refine At.o 0 (aAH (k := .i64) (i:=e11) (j:=e13) (l:=e15) (by kernel_rfl) (by kernel_rfl)) ?_
      refine lx ?_;intro x16
      refine At.s 36 2 ?_ ?_
      ·refine At.g [36] 9 ?_
       apply rt;exact At.jn 0
      ·refine At.b 0 (fun _ e=>bH hT (k:=1) 0 [] 0 e) fun u17=>?_
       refine At.b 0 (fun _ e=>pQ hT j64 0 e) fun e18=>?_
       refine At.b 0 (fun _ e=>bH hT (k:=1) 0 [] 0 e) fun u19=>?_
       refine At.b 0 (fun _ e=>pQ hT j64 0 e) fun e20=>?_
       refine At.b 0 (fun _ e=>bH hT (k:=1) 0 [] 0 e) fun u21=>?_
       refine At.b 0 (fun _ e=>pQ hT j64 0 e) fun e22=>?_
       refine At.o 0 (aAQ (k := .i64) (i:=e18) (j:=e20) (l:=e22) (by kernel_rfl) (by kernel_rfl)) ?_
       refine lx ?_;intro x23
       refine At.g [36] 2 ?_
       apply rt;exact At.jn 0
     ·refine At.c 0 ?_ ?_
      ·intro e;apply aBM g6 e;exact At.r 1
      ·exact fun h=>At.k 2 ⟨_,h,jr⟩
    ·apply rt;exact At.xs 0
  ·apply rt;exact At.r 1
def fL (N:Nat) (a0:(List aD)):Nat→Int→Option (Sum (Unit) (Int))
 | 0,_=>none
 | k+1,s2=>
  aT (decide (s2 < ((a0.length:Int)))) fun x3=>
  cond x3 (
   Option.bind (idx a0 s2) fun e4=>
   Option.bind (jF N e4) fun r5=>
   cond (r5 != 0) (
    some (Sum.inr r5)) (
    fL N a0 k (I64 (s2+1)))) (
   some (Sum.inl (())))
def eS (N:Nat) (a0:(List aD)):Option (Int):=
 Option.bind (fL N a0 N 0) fun o=>nS o (fun p1=>
  some 0) (fun r=>some r)
theorem wE {N a0 r} (h:eS N a0=some r):FnM Tryz.prog 178 [] [(eL 2 aD.enc a0),(.fn (.func 179) [] [])] (j64 r) []:=by
 unfold eS at h
 refine At.f cQ hT hmo Tryz.func178 rfl h ?_
 refine At.LS 4 [] 0 (fun p1=>([],[],[])) (fun op1 J k=>∃ s2,fL N a0 k s2=some op1∧J [1,8,9] 0 [(10,(j64 s2))] [] []) N (fun _ h=>⟨_,h,jr⟩) (fun op1 g1 k s hI=>?_) fun p1=>?_
 ·obtain ⟨s2,h,hj⟩:=hI
  cases k with
  | zero=>cases h
  | succ k=>
   refine At.jr hj ?_ h
   refine lx ?_;intro x3
   refine At.c 1 ?_ ?_
   ·refine At.b 0 (fun _ e=>bF hT aD.enc e) fun e4=>?_
    refine At.b 5 (fun _ e=>aM [] (tJ e)) fun r5=>?_
    refine At.c 3 ?_ ?_
    ·intro e;apply aBM g1 e;exact At.r 2
    ·exact fun h=>At.k 2 ⟨_,h,jr⟩
   ·apply rt;exact At.xs 0
 ·apply rt;exact At.r 1
def aFm : Nat→Bool:=imL [1]
def mQ (N:Nat) (a0:aC):Option (Bool):=
 Option.bind (aT (decide ((jH (jH a0.gX a0.gY) a0.gZ) > 4096)) fun x2=>
 cond x2 (
  some true) (
  aT (decide ((fD (fD a0.gX a0.gY) a0.gZ) < (-4096))) fun x3=>
  some x3)) fun p1=>
 some p1
theorem xD {N a0 r} (h:mQ N a0=some r):FnM Tryz.prog 237 [] [(aC.enc a0)] (eB r) []:=by
 unfold mQ at h
 refine At.f aFm hT hmo Tryz.func237 rfl h ?_
 refine At.J 2 0 [] 0 (fun p1=>([(2,(eB p1))],[],[])) (fun p1=>?_) fun p1=>?_
 ·refine At.o 6 (aAQ (k := .i64) (i:=a0.gX) (j:=a0.gY) (l:=a0.gZ) (by kernel_rfl) (by kernel_rfl)) ?_
  refine lx ?_;intro x2
  refine At.s 11 2 ?_ ?_
  ·refine At.g [11] 10 ?_
   apply rt;exact At.jn 0
  ·refine At.g [11] 6 ?_
   refine At.o 0 (aAH (k := .i64) (i:=a0.gX) (j:=a0.gY) (l:=a0.gZ) (by kernel_rfl) (by kernel_rfl)) ?_
   refine lx ?_;intro x3
   refine At.g [11] 3 ?_
   apply rt;exact At.jn 0
 ·apply rt;exact At.r 0
def aH6 : Nat→Bool:=imL [1]
def pM (N:Nat) (a0:aP):Option (Int):=
 Option.bind (Option.bind (kT N 2 ([a0.gA7])) fun r2=>
 cond r2 (
  some true) (
  Option.bind (vU a0.gA4.toList 0 3) fun s3=>
  Option.bind (kT N 1048576 s3) fun r4=>
  some r4)) fun p1=>
 cond p1 (
  some 5) (
  Option.bind (Option.bind (mQ N a0.gAt) fun r6=>
  cond r6 (
   some true) (
   Option.bind (mQ N a0.gU) fun r7=>
   cond r7 (
    some true) (
    Option.bind (mQ N a0.gV) fun r8=>
    some r8))) fun p5=>
  cond p5 (
   some 8) (
   Option.bind (cond (a0.gA7==2) (
    cond (!(aC.eq a0.gAt (aC.mk 0 0 0))) (
     some (Sum.inr 5)) (
     Option.bind (aT (!(aC.eq a0.gU (aC.mk 0 0 0))) fun x11=>
     cond x11 (
      some true) (
      some (!(aC.eq a0.gV (aC.mk 0 0 0))))) fun p10=>
     cond p10 (some (Sum.inr 5)) (some (Sum.inl (()))))) (
    cond (a0.gA7==0) (
     Option.bind (aT (!(aC.eq a0.gU (aC.mk 0 0 0))) fun x13=>
     cond x13 (
      some true) (
      some (!(aC.eq a0.gV (aC.mk 0 0 0))))) fun p12=>
     cond p12 (some (Sum.inr 5)) (some (Sum.inl (())))) (
     some (Sum.inl (()))))) fun o=>nS o (fun p9=>
    some 0) (fun r=>some r)))
theorem aCL {N a0 r} (h:pM N a0=some r):FnM Tryz.prog 181 [] [(aP.enc a0)] (j64 r) []:=by
 unfold pM at h
 refine At.f aH6 hT hmo Tryz.func181 rfl h ?_
 refine At.J 6 0 [1,3,4] 1 (fun p1=>([(6,(eB p1))],[],[])) (fun p1=>?_) fun p1=>?_
 ·refine At.o 2 (bQ hT (x:=(.sl 1 1 [(j64 a0.gA7)]))) ?_
  refine At.b 0 (fun _ e=>aM [] (tU e)) fun r2=>?_
  refine At.s 11 1 ?_ ?_
  ·refine At.g [11] 5 ?_
   apply rt;exact At.jn 0
  ·refine At.g [11] 1 ?_
   refine At.b 0 (fun _ e=>zI hT (N:=3) (k:=1) j64 a0.gA4 e) fun s3=>?_
   refine At.b 0 (fun _ e=>aM [] (tU e)) fun r4=>?_
   refine At.g [11] 2 ?_
   apply rt;exact At.jn 0
 ·refine At.c 0 ?_ ?_
  ·apply rt;exact At.r 1
  ·refine At.J 0 0 [1,4] 1 (fun p5=>([(16,(eB p5))],[],[])) (fun p5=>?_) fun p5=>?_
   ·refine At.b 3 (fun _ e=>aM [] (xD e)) fun r6=>?_
    refine At.s 21 1 ?_ ?_
    ·refine At.g [21,27] 12 ?_
     apply rt;exact At.jn 0
    ·refine At.g [21] 3 ?_
     refine At.b 0 (fun _ e=>aM [] (xD e)) fun r7=>?_
     refine At.g [21] 2 ?_
     refine At.s 27 0 ?_ ?_
     ·refine At.g [27] 6 ?_
      apply rt;exact At.jn 0
     ·refine At.g [27] 3 ?_
      refine At.b 0 (fun _ e=>aM [] (xD e)) fun r8=>?_
      refine At.g [27] 2 ?_
      apply rt;exact At.jn 0
   ·refine At.c 0 ?_ ?_
    ·apply rt;exact At.r 1
    ·refine At.JS 0 1 [] 1 (fun p9=>([],[],[])) (fun op9 g9=>?_) fun p9=>?_
     ·refine At.c 4 ?_ ?_
      ·refine At.o 3 (zN aBZ (a0.gAt:aC) (aC.mk 0 0 0:aC) (by kernel_rfl) (by kernel_rfl) (fun _=>rfl) (fun _=>rfl) (by kernel_rfl) (by kernel_rfl)) ?_
       refine At.c 0 ?_ ?_
       ·intro e;apply aBM g9 e;exact At.r 1
       ·refine At.J 0 0 [] 1 (fun p10=>([(52,(eB p10))],[],[])) (fun p10=>?_) fun p10=>?_
        ·refine At.o 3 (zN aBZ (a0.gU:aC) (aC.mk 0 0 0:aC) (by kernel_rfl) (by kernel_rfl) (fun _=>rfl) (fun _=>rfl) (by kernel_rfl) (by kernel_rfl)) ?_
         refine lx ?_;intro x11
         refine At.s 47 1 ?_ ?_
         ·refine At.g [47] 5 ?_
          apply rt;exact At.jn 0
         ·refine At.g [47] 3 ?_
          refine At.o 0 (zN aBZ (a0.gV:aC) (aC.mk 0 0 0:aC) (by kernel_rfl) (by kernel_rfl) (fun _=>rfl) (fun _=>rfl) (by kernel_rfl) (by kernel_rfl)) ?_
          refine At.g [47] 1 ?_
          apply rt;exact At.jn 0
        ·refine At.c 0 ?_ ?_
         ·intro e;apply aBM g9 e;exact At.r 1
         ·apply rt;exact At.jsn 0
      ·refine At.c 2 ?_ ?_
       ·refine At.J 0 0 [] 1 (fun p12=>([(52,(eB p12))],[],[])) (fun p12=>?_) fun p12=>?_
        ·refine At.o 3 (zN aBZ (a0.gU:aC) (aC.mk 0 0 0:aC) (by kernel_rfl) (by kernel_rfl) (fun _=>rfl) (fun _=>rfl) (by kernel_rfl) (by kernel_rfl)) ?_
         refine lx ?_;intro x13
         refine At.s 47 1 ?_ ?_
         ·refine At.g [47] 5 ?_
          apply rt;exact At.jn 0
         ·refine At.g [47] 3 ?_
          refine At.o 0 (zN aBZ (a0.gV:aC) (aC.mk 0 0 0:aC) (by kernel_rfl) (by kernel_rfl) (fun _=>rfl) (fun _=>rfl) (by kernel_rfl) (by kernel_rfl)) ?_
          refine At.g [47] 1 ?_
          apply rt;exact At.jn 0
        ·refine At.c 0 ?_ ?_
         ·intro e;apply aBM g9 e;exact At.r 1
         ·apply rt;exact At.jsn 0
       ·apply rt;exact At.jsn 0
     ·apply rt;exact At.r 1
def hK (N:Nat) (a0:(List aP)):Nat→Int→Option (Sum (Unit) (Int))
 | 0,_=>none
 | k+1,s2=>
  aT (decide (s2 < ((a0.length:Int)))) fun x3=>
  cond x3 (
   Option.bind (idx a0 s2) fun e4=>
   Option.bind (pM N e4) fun r5=>
   cond (r5 != 0) (
    some (Sum.inr r5)) (
    hK N a0 k (I64 (s2+1)))) (
   some (Sum.inl (())))
def fC (N:Nat) (a0:(List aP)):Option (Int):=
 Option.bind (hK N a0 N 0) fun o=>nS o (fun p1=>
  some 0) (fun r=>some r)
theorem xJ {N a0 r} (h:fC N a0=some r):FnM Tryz.prog 180 [] [(eL 13 aP.enc a0),(.fn (.func 181) [] [])] (j64 r) []:=by
 unfold fC at h
 refine At.f cQ hT hmo Tryz.func180 rfl h ?_
 refine At.LS 4 [] 0 (fun p1=>([],[],[])) (fun op1 J k=>∃ s2,hK N a0 k s2=some op1∧J [1,8,9] 0 [(10,(j64 s2))] [] []) N (fun _ h=>⟨_,h,jr⟩) (fun op1 g1 k s hI=>?_) fun p1=>?_
 ·obtain ⟨s2,h,hj⟩:=hI
  cases k with
  | zero=>cases h
  | succ k=>
   refine At.jr hj ?_ h
   refine lx ?_;intro x3
   refine At.c 1 ?_ ?_
   ·refine At.b 0 (fun _ e=>bF hT aP.enc e) fun e4=>?_
    refine At.b 5 (fun _ e=>aM [] (aCL e)) fun r5=>?_
    refine At.c 3 ?_ ?_
    ·intro e;apply aBM g1 e;exact At.r 2
    ·exact fun h=>At.k 2 ⟨_,h,jr⟩
   ·apply rt;exact At.xs 0
 ·apply rt;exact At.r 1
def aHy : Nat→Bool:=imL [1]
def jA (N:Nat) (a0:aE):Option (Int):=
 aT ((a0.gA5.length:Int)) fun x1=>
 aT (x1 != ((a0.gL.length:Int))) fun x2=>
 cond x2 (
  some 5) (
  Option.bind (cZ N a0.gK a0) fun r3=>
  cond (r3 != 0) (
   some r3) (
   Option.bind (dN N a0.gA1) fun r4=>
   cond (r4 != 0) (
    some r4) (
    Option.bind (eS N a0.gQ) fun r5=>
    cond (r5 != 0) (
     some r5) (
     Option.bind (fC N a0.gI) fun r6=>
     some r6))))
theorem aG2 {N a0 r} (h:jA N a0=some r):FnM Tryz.prog 98 [] [(aE.enc a0)] (j64 r) []:=by
 unfold jA at h
 refine At.f aHy hT hmo Tryz.func98 rfl h ?_
 refine lx ?_;intro x1
 refine lx ?_;intro x2
 refine At.c 9 ?_ ?_
 ·apply rt;exact At.r 1
 ·refine At.o 2 (qT (x:=(.fn (.func 174) [] [(.im (aE.enc a0))])) (by kernel_rfl) (by kernel_rfl)) ?_
  refine At.b 0 (fun _ e=>aM [] (xE e)) fun r3=>?_
  refine At.c 3 ?_ ?_
  ·apply rt;exact At.r 2
  ·refine At.b 2 (fun _ e=>aM [] (uD e)) fun r4=>?_
   refine At.c 3 ?_ ?_
   ·apply rt;exact At.r 2
   ·refine At.b 2 (fun _ e=>aM [] (wE e)) fun r5=>?_
    refine At.c 3 ?_ ?_
    ·apply rt;exact At.r 2
    ·refine At.b 2 (fun _ e=>aM [] (xJ e)) fun r6=>?_
     apply rt;exact At.r 1
def aLh : Nat→Bool:=imL [1]
def vD (N:Nat) (a0:aC):Option (Bool):=
 Option.bind (aT (!(aC.eq a0 (aC.mk 0 0 0))) fun x2=>
 cond x2 (
  aT (decide ((jH (jH a0.gX a0.gY) a0.gZ)≤16384)) fun x3=>
  cond x3 (
   aT (decide ((fD (fD a0.gX a0.gY) a0.gZ)≥(-16384))) fun x4=>
   some x4) (
   some false)) (
  some false)) fun p1=>
 some p1
theorem aB8 {N a0 r} (h:vD N a0=some r):FnM Tryz.prog 172 [] [(aC.enc a0)] (eB r) []:=by
 unfold vD at h
 refine At.f aLh hT hmo Tryz.func172 rfl h ?_
 refine At.J 2 0 [] 0 (fun p1=>([(2,(eB p1))],[],[])) (fun p1=>?_) fun p1=>?_
 ·refine At.o 2 (zN aBZ (a0:aC) (aC.mk 0 0 0:aC) (by kernel_rfl) (by kernel_rfl) (fun _=>rfl) (fun _=>rfl) (by kernel_rfl) (by kernel_rfl)) ?_
  refine lx ?_;intro x2
  refine At.s 6 1 ?_ ?_
  ·refine At.g [6] 6 ?_
   refine At.o 0 (aAQ (k := .i64) (i:=a0.gX) (j:=a0.gY) (l:=a0.gZ) (by kernel_rfl) (by kernel_rfl)) ?_
   refine lx ?_;intro x3
   refine At.g [6] 3 ?_
   refine At.s 16 0 ?_ ?_
   ·refine At.g [16] 6 ?_
    refine At.o 0 (aAH (k := .i64) (i:=a0.gX) (j:=a0.gY) (l:=a0.gZ) (by kernel_rfl) (by kernel_rfl)) ?_
    refine lx ?_;intro x4
    refine At.g [16] 3 ?_
    apply rt;exact At.jn 0
   ·refine At.g [16] 10 ?_
    apply rt;exact At.jn 0
  ·refine At.g [6,16] 20 ?_
   apply rt;exact At.jn 0
 ·apply rt;exact At.r 0
def lW (N:Nat) (a0 a1 a2:Int):Option (Bool):=
 aT (cond (decide (a0≥a1)) (decide (a0≤a2)) false) fun x1=>
 some x1
theorem uS {N a0 a1 a2 r} (h:lW N a0 a1 a2=some r):FnM Tryz.prog 171 [] [(j64 a0),(j64 a1),(j64 a2)] (eB r) []:=by
 unfold lW at h
 refine At.f cQ hT hmo Tryz.func171 rfl h ?_
 refine lx ?_;intro x1
 apply rt;exact At.r 10
def aJe : Nat→Bool:=imL [3]
def tN (N:Nat) (a0:bP) (a1 a2:Int):Option (Int):=
 Option.bind (aT (decide ((jH (jH a0.gA3.gX a0.gA3.gY) a0.gA3.gZ) > 32768)) fun x2=>
 cond x2 (
  some true) (
  aT (decide ((fD (fD a0.gA3.gX a0.gA3.gY) a0.gA3.gZ) < (-32768))) fun x3=>
  some x3)) fun p1=>
 cond p1 (
  some 8) (
  Option.bind (Option.bind (vD N a0.gB3) fun r5=>
  cond (!r5) (
   some true) (
   Option.bind (vD N a0.gUp) fun r6=>
   cond (!r6) (
    some true) (
    Option.bind (vD N a0.gD8) fun r7=>
    some (!r7)))) fun p4=>
  cond p4 (
   some 2) (
   Option.bind (Option.bind (lW N a0.gC4 0 1024) fun r9=>
   cond (!r9) (
    some true) (
    Option.bind (lW N a0.gC7 1 32768) fun r10=>
    cond (!r10) (
     some true) (
     Option.bind (lW N a1 1 64) fun r11=>
     cond (!r11) (
      some true) (
      Option.bind (lW N a2 1 64) fun r12=>
      some (!r12))))) fun p8=>
   cond p8 (some 2) (some 0)))
theorem aDB {N a0 a1 a2 r} (h:tN N a0 a1 a2=some r):FnM Tryz.prog 97 [] [(bP.enc a0),(j64 a1),(j64 a2)] (j64 r) []:=by
 unfold tN at h
 refine At.f aJe hT hmo Tryz.func97 rfl h ?_
 refine At.J 7 0 [1,2,3,8] 1 (fun p1=>([(11,(eB p1))],[],[])) (fun p1=>?_) fun p1=>?_
 ·refine At.o 6 (aAQ (k := .i64) (i:=a0.gA3.gX) (j:=a0.gA3.gY) (l:=a0.gA3.gZ) (by kernel_rfl) (by kernel_rfl)) ?_
  refine lx ?_;intro x2
  refine At.s 20 2 ?_ ?_
  ·refine At.g [20] 10 ?_
   apply rt;exact At.jn 0
  ·refine At.g [20] 6 ?_
   refine At.o 0 (aAH (k := .i64) (i:=a0.gA3.gX) (j:=a0.gA3.gY) (l:=a0.gA3.gZ) (by kernel_rfl) (by kernel_rfl)) ?_
   refine lx ?_;intro x3
   refine At.g [20] 3 ?_
   apply rt;exact At.jn 0
 ·refine At.c 0 ?_ ?_
  ·apply rt;exact At.r 1
  ·refine At.J 0 0 [1,2,3,8] 1 (fun p4=>([(30,(eB p4))],[],[])) (fun p4=>?_) fun p4=>?_
   ·refine At.b 2 (fun _ e=>aM [] (aB8 e)) fun r5=>?_
    refine At.s 35 2 ?_ ?_
    ·refine At.g [35,41] 12 ?_
     apply rt;exact At.jn 0
    ·refine At.g [35] 2 ?_
     refine At.b 0 (fun _ e=>aM [] (aB8 e)) fun r6=>?_
     refine At.g [35] 3 ?_
     refine At.s 41 0 ?_ ?_
     ·refine At.g [41] 6 ?_
      apply rt;exact At.jn 0
     ·refine At.g [41] 2 ?_
      refine At.b 0 (fun _ e=>aM [] (aB8 e)) fun r7=>?_
      refine At.g [41] 3 ?_
      apply rt;exact At.jn 0
   ·refine At.c 0 ?_ ?_
    ·apply rt;exact At.r 1
    ·refine At.J 0 0 [] 1 (fun p8=>([(47,(eB p8))],[],[])) (fun p8=>?_) fun p8=>?_
     ·refine At.b 3 (fun _ e=>aM [] (uS e)) fun r9=>?_
      refine At.s 53 2 ?_ ?_
      ·refine At.g [53,60,66] 19 ?_
       apply rt;exact At.jn 0
      ·refine At.g [53] 3 ?_
       refine At.b 0 (fun _ e=>aM [] (uS e)) fun r10=>?_
       refine At.g [53] 3 ?_
       refine At.s 60 0 ?_ ?_
       ·refine At.g [60,66] 12 ?_
        apply rt;exact At.jn 0
       ·refine At.g [60] 2 ?_
        refine At.b 0 (fun _ e=>aM [] (uS e)) fun r11=>?_
        refine At.g [60] 3 ?_
        refine At.s 66 0 ?_ ?_
        ·refine At.g [66] 6 ?_
         apply rt;exact At.jn 0
        ·refine At.g [66] 2 ?_
         refine At.b 0 (fun _ e=>aM [] (uS e)) fun r12=>?_
         refine At.g [66] 3 ?_
         apply rt;exact At.jn 0
     ·refine At.c 0 ?_ ?_
      ·apply rt;exact At.r 1
      ·apply rt;exact At.r 1
def aKg : Nat→Bool:=imL [1]
def tD (N:Nat) (a0:aI):Option (Int):=
 Option.bind (tN N a0.gC8 a0.gW a0.gH) fun r1=>
 cond (r1 != 0) (
  some r1) (
  aT (decide (a0.gB2 < 1)) fun x2=>
  aT (decide (a0.gB2 > 16)) fun x3=>
  aT (cond (cond x2 true x3) true (decide (a0.gM < 0))) fun x4=>
  aT (cond x4 true (decide (a0.gM > 8))) fun x5=>
  aT (cond x5 true (decide (a0.gJ < 0))) fun x6=>
  aT (cond x6 true (decide (a0.gJ > 2))) fun x7=>
  cond x7 (some 2) (some 0))
theorem aJI {N a0 r} (h:tD N a0=some r):FnM Tryz.prog 44 [] [(aI.enc a0)] (j64 r) []:=by
 unfold tD at h
 refine At.f aKg hT hmo Tryz.func44 rfl h ?_
 refine At.b 8 (fun _ e=>aM [] (aDB e)) fun r1=>?_
 refine At.c 3 ?_ ?_
 ·apply rt;exact At.r 2
 ·refine lx ?_;intro x2
  refine lx ?_;intro x3
  refine lx ?_;intro x4
  refine lx ?_;intro x5
  refine lx ?_;intro x6
  refine lx ?_;intro x7
  refine At.c 28 ?_ ?_
  ·apply rt;exact At.r 1
  ·apply rt;exact At.r 1
def jI (N:Nat) (a0:Int):Option (Int×Int):=
 cond (a0==0) (
  some ((16,4))) (
  cond (a0==1) (
   some ((64,4))) (
   cond (a0==2) (some ((256,8))) (some ((0,0)))))
theorem tE {N a0 r} (h:jI N a0=some r):FnM Tryz.prog 45 [] [(j64 a0)] (.tup [(j64 r.1),(j64 r.2)]) []:=by
 unfold jI at h
 refine At.f cQ hT hmo Tryz.func45 rfl h ?_
 refine At.c 5 ?_ ?_
 ·apply rt;exact At.r 2
 ·refine At.c 2 ?_ ?_
  ·apply rt;exact At.r 2
  ·refine At.c 2 ?_ ?_
   ·apply rt;exact At.r 2
   ·apply rt;exact At.r 2
def aGL : Nat→Bool:=imL [2]
def nW (N:Nat) (a0:aE) (a1:Int):Option (Int):=
 Option.bind (jI N a1) fun r1=>
 aT ((a0.gK.length:Int)) fun x2=>
 aT ((a0.gI.length:Int)) fun x3=>
 aT (cond (decide (x2 > r1.1)) true (decide (x3 > r1.2))) fun x4=>
 cond x4 (some 15) (some 0)
theorem aFi {N a0 a1 r} (h:nW N a0 a1=some r):FnM Tryz.prog 99 [] [(aE.enc a0),(j64 a1)] (j64 r) []:=by
 unfold nW at h
 refine At.f aGL hT hmo Tryz.func99 rfl h ?_
 refine At.b 3 (fun _ e=>aM [] (tE e)) fun r1=>?_
 refine lx ?_;intro x2
 refine lx ?_;intro x3
 refine lx ?_;intro x4
 refine At.c 17 ?_ ?_
 ·apply rt;exact At.r 1
 ·apply rt;exact At.r 1
def tB (N:Nat) (a0:Int):Option (Int×Bool):=
 cond (decide (a0 < 0)) (some ((U64 (0 - (U64 a0)),true))) (some ((U64 a0,false)))
theorem aBn {N a0 r} (h:tB N a0=some r):FnM Tryz.prog 231 [] [(j64 a0)] (.tup [(k64 r.1),(eB r.2)]) []:=by
 unfold tB at h
 refine At.f cQ hT hmo Tryz.func231 rfl h ?_
 refine At.c 4 ?_ ?_
 ·apply rt;exact At.r 5
 ·apply rt;exact At.r 4
def jZ (N:Nat) (a0 a1:Int):Option (Int×Int):=
 aT (iK .u64 a0 4294967295) fun x1=>
 aT (iK .u64 a1 4294967295) fun x2=>
 aT (U64 ((shr .u64 a0 32)*x2)) fun x3=>
 aT (shr .u64 (U64 (x1*x2)) 32) fun x4=>
 aT (iK .u64 (U64 (x3+x4)) 4294967295) fun x5=>
 aT (shr .u64 (U64 (x3+x4)) 32) fun x6=>
 aT (U64 (x1*(shr .u64 a1 32))) fun x7=>
 aT (U64 ((shr .u64 a0 32)*(shr .u64 a1 32))) fun x8=>
 aT (shr .u64 (U64 (x5+x7)) 32) fun x9=>
 aT (U64 ((U64 (x8+x6))+x9)) fun x10=>
 some ((x10,U64 (a0*a1)))
theorem aAT {N a0 a1 r} (h:jZ N a0 a1=some r):FnM Tryz.prog 210 [] [(k64 a0),(k64 a1)] (.tup [(k64 r.1),(k64 r.2)]) []:=by
 unfold jZ at h
 refine At.f cQ hT hmo Tryz.func210 rfl h ?_
 refine lx ?_;intro x1
 refine lx ?_;intro x2
 refine lx ?_;intro x3
 refine lx ?_;intro x4
 refine lx ?_;intro x5
 refine lx ?_;intro x6
 refine lx ?_;intro x7
 refine lx ?_;intro x8
 refine lx ?_;intro x9
 refine lx ?_;intro x10
 apply rt;exact At.r 50
theorem aM3 {x y c:Int} {r:Int×Int} (h:aCj x y c=some r):aHc Tryz.prog 294 [.int .u64 x,.int .u64 y,.int .u64 c] (.tuple #[.int .u64 r.1,.int .u64 r.2]):=
 aNb Tryz.func294 (by kernel_rfl) (by kernel_rfl) (by kernel_rfl) (by kernel_rfl) h
def pO (N:Nat) (a0 a1:Int):Option (Int×Int):=
 Option.bind (aCj 0 a1 0) fun r1=>
 Option.bind (aCj 0 a0 r1.2) fun r2=>
 some ((r2.1,r1.1))
theorem aCS {N a0 a1 r} (h:pO N a0 a1=some r):FnM Tryz.prog 233 [] [(k64 a0),(k64 a1)] (.tup [(k64 r.1),(k64 r.2)]) []:=by
 unfold pO at h
 refine At.f cQ hT hmo Tryz.func233 rfl h ?_
 refine At.b 3 (fun _ e=>aD2 (aM3 e) (fun _=>aD0)) fun r1=>?_
 refine At.b 7 (fun _ e=>aD2 (aM3 e) (fun _=>aD0)) fun r2=>?_
 apply rt;exact At.r 8
def jX (N:Nat) (a0 a1:Int) (a2:Bool):Option (aQ×Bool):=
 Option.bind (cond a2 (
  Option.bind (pO N a0 a1) fun r2=>
  some ((r2.1,r2.2))) (
  some ((a0,a1)))) fun p1=>
 aT (decide ((I64 p1.1) < 0)) fun x3=>
 aT ((bor .u64 p1.1 p1.2)==0) fun x4=>
 aT (cond (x3==a2) true x4) fun x5=>
 some ((aQ.mk (I64 p1.1) p1.2,x5))
theorem aCP {N a0 a1 a2 r} (h:jX N a0 a1 a2=some r):FnM Tryz.prog 232 [] [(k64 a0),(k64 a1),(eB a2)] (.tup [(aQ.enc r.1),(eB r.2)]) []:=by
 unfold jX at h
 refine At.f cQ hT hmo Tryz.func232 rfl h ?_
 refine At.J 2 1 [2,6] 1 (fun p1=>([(0,(k64 p1.1)),(1,(k64 p1.2))],[],[])) (fun p1=>?_) fun p1=>?_
 ·refine At.c 1 ?_ ?_
  ·refine At.b 2 (fun _ e=>aM [] (aCS e)) fun r2=>?_
   apply rt;exact At.jn 5
  ·apply rt;exact At.jn 0
 ·refine lx ?_;intro x3
  refine lx ?_;intro x4
  refine lx ?_;intro x5
  apply rt;exact At.r 20
def iI (N:Nat) (a0 a1:Int):Option (aQ):=
 Option.bind (tB N a0) fun r1=>
 Option.bind (tB N a1) fun r2=>
 Option.bind (jZ N r1.1 r2.1) fun r3=>
 Option.bind (jX N r3.1 r3.2 (!(r1.2==r2.2))) fun r4=>
 some r4.1
theorem kU {N a0 a1 r} (h:iI N a0 a1=some r):FnM Tryz.prog 169 [] [(j64 a0),(j64 a1)] (aQ.enc r) []:=by
 unfold iI at h
 refine At.f cQ hT hmo Tryz.func169 rfl h ?_
 refine At.b 2 (fun _ e=>aM [] (aBn e)) fun r1=>?_
 refine At.b 6 (fun _ e=>aM [] (aBn e)) fun r2=>?_
 refine At.b 7 (fun _ e=>aM [] (aAT e)) fun r3=>?_
 refine At.b 10 (fun _ e=>aM [] (aCP e)) fun r4=>?_
 apply rt;exact At.r 8
def aMH : Nat→Bool:=imL [1]
def pI (N:Nat) (a0:aQ):Option (Int×Bool):=
 aT (shr .i64 (I64 a0.gLo) 63) fun x1=>
 cond (a0.gHi != x1) (some ((0,false))) (some ((I64 a0.gLo,true)))
theorem yB {N a0 r} (h:pI N a0=some r):FnM Tryz.prog 229 [] [(aQ.enc a0)] (.tup [(j64 r.1),(eB r.2)]) []:=by
 unfold pI at h
 refine At.f aMH hT hmo Tryz.func229 rfl h ?_
 refine lx ?_;intro x1
 refine At.c 12 ?_ ?_
 ·apply rt;exact At.r 2
 ·apply rt;exact At.r 3
def aME : Nat→Bool:=imL [1]
def sL (N:Nat) (a0:aQ):Option (Int):=
 Option.bind (pI N a0) fun r1=>
 cond r1.2 (
  some r1.1) (
  cond (decide (a0.gHi < 0)) (some (-9223372036854775808)) (some 9223372036854775807))
theorem aCK {N a0 r} (h:sL N a0=some r):FnM Tryz.prog 167 [] [(aQ.enc a0)] (j64 r) []:=by
 unfold sL at h
 refine At.f aME hT hmo Tryz.func167 rfl h ?_
 refine At.b 3 (fun _ e=>aM [] (yB e)) fun r1=>?_
 refine At.c 6 ?_ ?_
 ·apply rt;exact At.r 2
 ·refine At.c 3 ?_ ?_
  ·apply rt;exact At.r 1
  ·apply rt;exact At.r 1
def iF (N:Nat) (a0:Int):Option (Int):=
 Option.bind (iI N a0 4294967296) fun r1=>
 Option.bind (sL N r1) fun r2=>
 some r2
theorem iQ {N a0 r} (h:iF N a0=some r):FnM Tryz.prog 95 [] [(j64 a0)] (j64 r) []:=by
 unfold iF at h
 refine At.f cQ hT hmo Tryz.func95 rfl h ?_
 refine At.b 2 (fun _ e=>aM [] (kU e)) fun r1=>?_
 refine At.b 0 (fun _ e=>aM [] (aCK e)) fun r2=>?_
 apply rt;exact At.r 1
def oZ (N:Nat) (a0:Int):Option (Int):=
 Option.bind (aT (decide (a0≥4294967296)) fun x2=>
 cond x2 (some ((shr .u64 a0 32,32))) (some ((a0,0)))) fun p1=>
 Option.bind (cond (decide (p1.1≥65536)) (
  some ((shr .u64 p1.1 16,I64 (p1.2+16)))) (
  some ((p1.1,p1.2)))) fun p3=>
 Option.bind (cond (decide (p3.1≥256)) (some ((shr .u64 p3.1 8,I64 (p3.2+8)))) (some ((p3.1,p3.2)))) fun p4=>
 Option.bind (idx aMY.data.toList (U8 p4.1)) fun c5=>
 aT (I64 ((UInt8.toNat c5:Int))) fun x6=>
 some (I64 (p4.2+x6))
theorem aDU {N a0 r} (h:oZ N a0=some r):FnM Tryz.prog 281 [] [(k64 a0)] (j64 r) []:=by
 unfold oZ at h
 refine At.f cQ hT hmo Tryz.func281 rfl h ?_
 refine At.J 1 1 [] 0 (fun p1=>([(0,(k64 p1.1)),(2,(j64 p1.2))],[],[])) (fun p1=>?_) fun p1=>?_
 ·refine lx ?_;intro x2
  refine At.c 2 ?_ ?_
  ·apply rt;exact At.jn 4
  ·apply rt;exact At.jn 0
 ·refine At.J 0 1 [] 0 (fun p3=>([(0,(k64 p3.1)),(2,(j64 p3.2))],[],[])) (fun p3=>?_) fun p3=>?_
  ·refine At.c 2 ?_ ?_
   ·apply rt;exact At.jn 6
   ·apply rt;exact At.jn 0
  ·refine At.J 0 1 [] 0 (fun p4=>([(0,(k64 p4.1)),(2,(j64 p4.2))],[],[])) (fun p4=>?_) fun p4=>?_
   ·refine At.c 2 ?_ ?_
    ·apply rt;exact At.jn 6
    ·apply rt;exact At.jn 0
   ·refine At.b 3 (fun _ e=>aQp hT e (by kernel_rfl) (by kernel_rfl)) fun c5=>?_
    refine lx ?_;intro x6
    apply rt;exact At.r 3
def jY (N:Nat) (a0:Int):Option (Int):=
 Option.bind (oZ N a0) fun r1=>
 some (I64 (64 - r1))
theorem zQ {N a0 r} (h:jY N a0=some r):FnM Tryz.prog 215 [] [(k64 a0)] (j64 r) []:=by
 unfold jY at h
 refine At.f cQ hT hmo Tryz.func215 rfl h ?_
 refine At.b 2 (fun _ e=>aM [] (aDU e)) fun r1=>?_
 apply rt;exact At.r 2
def lY (N:Nat) (x5:Int):Nat→Int→Int→Int→Int→Int→Option (Int×Int×Int×Int)
 | 0,_,_,_,_,_=>none
 | k+1,s14,s15,s16,s17,s18=>
  aT (decide (s17≥4294967296)) fun x19=>
  aT (U64 ((U64 (4294967296*s18))+s16)) fun x20=>
  aT (decide ((U64 (s17*x5)) > x20)) fun x21=>
  cond (cond x19 true x21) (
   aT (decide ((U64 (s18+s14))≥4294967296)) fun x22=>
   cond x22 (
    some ((s14,s15,s16,U64 (s17 - 1)))) (
    lY N x5 k s14 s15 s16 (U64 (s17 - 1)) (U64 (s18+s14)))) (
   some ((s14,s15,s16,s17)))
def mD (N:Nat) (x9 x5:Int) (p13:Int×Int×Int×Int):Nat→Int→Int→Option (Int)
 | 0,_,_=>none
 | k+1,s28,s29=>
  aT (decide (s29≥4294967296)) fun x30=>
  aT (U64 ((U64 (4294967296*s28))+x9)) fun x31=>
  aT (decide ((U64 (s29*x5)) > x31)) fun x32=>
  cond (cond x30 true x32) (
   aT (decide ((U64 (s28+p13.1))≥4294967296)) fun x33=>
   cond x33 (
    some (U64 (s29 - 1))) (
    mD N x9 x5 p13 k (U64 (s28+p13.1)) (U64 (s29 - 1)))) (
   some s29)
def iW (N:Nat) (a0 a1 a2:Int):Option (Int×Int):=
 cond (a2==0) (
  none) (
  cond (decide (a2≤a0)) (
   none) (
   cond (a0==0) (
    Option.bind (aHo .u64 a1 a2) fun x1=>
    Option.bind (aOU .u64 a1 a2) fun x2=>
    some ((x1,x2))) (
    Option.bind (jY N a2) fun r3=>
    Option.bind (aJc .u64 a2 (U64 r3)) fun x4=>
    aT (iK .u64 x4 4294967295) fun x5=>
    Option.bind (aJc .u64 a0 (U64 r3)) fun x6=>
    Option.bind (aFs .u64 a1 (U64 (64 - (U64 r3)))) fun x7=>
    Option.bind (aJc .u64 a1 (U64 r3)) fun x8=>
    aT (iK .u64 x8 4294967295) fun x9=>
    Option.bind (aHo .u64 (bor .u64 x6 x7) (shr .u64 x4 32)) fun x10=>
    aT (U64 (x10*(shr .u64 x4 32))) fun x11=>
    aT (U64 ((bor .u64 x6 x7) - x11)) fun x12=>
    Option.bind (lY N x5 N (shr .u64 x4 32) (bor .u64 x6 x7) (shr .u64 x8 32) x10 x12) fun p13=>
    aT (U64 (p13.2.1*4294967296)) fun x23=>
    aT (U64 ((U64 (x23+p13.2.2.1)) - (U64 (p13.2.2.2*x4)))) fun x24=>
    Option.bind (aHo .u64 x24 p13.1) fun x25=>
    aT (U64 (x24 - (U64 (x25*p13.1)))) fun x26=>
    Option.bind (mD N x9 x5 p13 N x26 x25) fun p27=>
    aT (U64 (p13.2.2.2*4294967296)) fun x34=>
    aT (U64 ((U64 (x24*4294967296))+x9)) fun x35=>
    aT (U64 (x35 - (U64 (p27*x4)))) fun x36=>
    Option.bind (aFs .u64 x36 (U64 r3)) fun x37=>
    some ((U64 (x34+p27),x37)))))
theorem aAN {N a0 a1 a2 r} (h:iW N a0 a1 a2=some r):FnM Tryz.prog 149 [] [(k64 a0),(k64 a1),(k64 a2)] (.tup [(k64 r.1),(k64 r.2)]) []:=by
 unfold iW at h
 refine At.f cQ hT hmo Tryz.func149 rfl h ?_
 refine At.c 4 ?_ ?_
 ·exact nn
 ·refine At.c 3 ?_ ?_
  ·exact nn
  ·refine At.c 2 ?_ ?_
   ·refine bi fun x1 hx1=>?_
    refine bi fun x2 hx2=>?_
    refine At.d 0 (dE1 2 (fun _=>aCo hT hx1 (by kernel_rfl) (by kernel_rfl)) (dE1 5 (fun _=>aMf hT hx2 (by kernel_rfl) (by kernel_rfl)) dE0)) dF0 ?_
    apply rt;exact At.r 0
   ·refine At.b 1 (fun _ e=>aM [] (zQ e)) fun r3=>?_
    refine At.b 4 (fun _ e=>aCm hT (k' := .u64) e (by kernel_rfl) (by kernel_rfl)) fun x4=>?_
    refine lx ?_;intro x5
    refine At.b 9 (fun _ e=>aCm hT (k' := .u64) e (by kernel_rfl) (by kernel_rfl)) fun x6=>?_
    refine At.b 3 (fun _ e=>zO hT (k' := .u64) e (by kernel_rfl) (by kernel_rfl)) fun x7=>?_
    refine At.b 4 (fun _ e=>aCm hT (k' := .u64) e (by kernel_rfl) (by kernel_rfl)) fun x8=>?_
    refine lx ?_;intro x9
    refine At.b 9 (fun _ e=>aCo hT e (by kernel_rfl) (by kernel_rfl)) fun x10=>?_
    refine lx ?_;intro x11
    refine lx ?_;intro x12
    refine At.L 7 [2,8,10,14] 0 (fun p13=>([(9,(k64 p13.1)),(11,(k64 p13.2.1)),(13,(k64 p13.2.2.1)),(15,(k64 p13.2.2.2))],[],[])) (fun p13 J k=>∃ s14 s15 s16 s17 s18,lY N x5 k s14 s15 s16 s17 s18=some p13∧J [2,8,10,14] 0 [(9,(k64 s14)),(11,(k64 s15)),(13,(k64 s16)),(15,(k64 s17)),(16,(k64 s18))] [] []) N (fun _ h=>⟨_,_,_,_,_,h,jr⟩) (fun p13 k s hI=>?_) fun p13=>?_
    ·obtain ⟨s14,s15,s16,s17,s18,h,hj⟩:=hI
     cases k with
     | zero=>cases h
     | succ k=>
      refine At.jr hj ?_ h
      refine lx ?_;intro x19
      refine lx ?_;intro x20
      refine lx ?_;intro x21
      refine At.c 12 ?_ ?_
      ·refine lx ?_;intro x22
       refine At.c 9 ?_ ?_
       ·apply rt;exact At.x 0
       ·exact fun h=>At.k 0 ⟨_,_,_,_,_,h,jr⟩
      ·apply rt;exact At.x 0
    ·refine lx ?_;intro x23
     refine lx ?_;intro x24
     refine At.b 11 (fun _ e=>aCo hT e (by kernel_rfl) (by kernel_rfl)) fun x25=>?_
     refine lx ?_;intro x26
     refine At.L 7 [2,8,14,15,17] 0 (fun p27=>([(18,(k64 p27))],[],[])) (fun p27 J k=>∃ s28 s29,mD N x9 x5 p13 k s28 s29=some p27∧J [2,8,9,10,14,15,17] 0 [(16,(k64 s28)),(18,(k64 s29))] [] []) N (fun _ h=>⟨_,_,h,jr⟩) (fun p27 k s hI=>?_) fun p27=>?_
     ·obtain ⟨s28,s29,h,hj⟩:=hI
      cases k with
      | zero=>cases h
      | succ k=>
       refine At.jr hj ?_ h
       refine lx ?_;intro x30
       refine lx ?_;intro x31
       refine lx ?_;intro x32
       refine At.c 12 ?_ ?_
       ·refine lx ?_;intro x33
        refine At.c 9 ?_ ?_
        ·apply rt;exact At.x 0
        ·exact fun h=>At.k 0 ⟨_,_,h,jr⟩
       ·apply rt;exact At.x 0
     ·refine lx ?_;intro x34
      refine lx ?_;intro x35
      refine lx ?_;intro x36
      refine At.b 13 (fun _ e=>zO hT (k' := .u64) e (by kernel_rfl) (by kernel_rfl)) fun x37=>?_
      apply rt;exact At.r 2
theorem aI0 {x y c:Int} {r:Int×Int} (h:zG x y c=some r):aHc Tryz.prog 216 [.int .u64 x,.int .u64 y,.int .u64 c] (.tuple #[.int .u64 r.1,.int .u64 r.2]):=
 aN1 Tryz.func216 (by kernel_rfl) (by kernel_rfl) (by kernel_rfl) (by kernel_rfl) h
def aMA : Nat→Bool:=imL [2]
def pK (N:Nat) (a0:aQ) (a1:Int):Option (aQ×Int×Bool):=
 cond (a1==0) (
  some ((aQ.mk 0 0,0,false))) (
  Option.bind (cond (decide (a0.gHi < 0)) (
   Option.bind (pO N (U64 a0.gHi) a0.gLo) fun r2=>
   some ((r2.1,r2.2))) (
   some ((U64 a0.gHi,a0.gLo)))) fun p1=>
  Option.bind (tB N a1) fun r3=>
  Option.bind (iW N 0 p1.1 r3.1) fun r4=>
  Option.bind (iW N r4.2 p1.2 r3.1) fun r5=>
  Option.bind (aT (!((decide (a0.gHi < 0))==r3.2)) fun x7=>
  aT (cond x7 (decide (r5.2 > 0)) false) fun x8=>
  cond x8 (
   Option.bind (zG r5.1 1 0) fun r9=>
   some ((U64 (r4.1+r9.2),r9.1,U64 (r3.1 - r5.2)))) (
   some ((r4.1,r5.1,r5.2)))) fun p6=>
  aT (!((decide (a0.gHi < 0))==r3.2)) fun x10=>
  Option.bind (jX N p6.1 p6.2.1 x10) fun r11=>
  cond (!r11.2) (
   some ((aQ.mk 0 0,0,false))) (
   Option.bind (cond r3.2 (some (U64 (0 - p6.2.2))) (some p6.2.2)) fun p12=>
   some ((r11.1,I64 p12,true))))
theorem aAa {N a0 a1 r} (h:pK N a0 a1=some r):FnM Tryz.prog 170 [] [(aQ.enc a0),(j64 a1)] (.tup [(aQ.enc r.1),(j64 r.2.1),(eB r.2.2)]) []:=by
 unfold pK at h
 refine At.f aMA hT hmo Tryz.func170 rfl h ?_
 refine At.c 6 ?_ ?_
 ·apply rt;exact At.r 4
 ·refine At.d 0 dE0 dF0 ?_
  refine At.J 0 1 [1,2,4] 1 (fun p1=>([(7,(k64 p1.1)),(8,(k64 p1.2))],[],[])) (fun p1=>?_) fun p1=>?_
  ·refine At.c 3 ?_ ?_
   ·refine At.b 2 (fun _ e=>aM [] (aCS e)) fun r2=>?_
    apply rt;exact At.jn 5
   ·apply rt;exact At.jn 0
  ·refine At.b 1 (fun _ e=>aM [] (aBn e)) fun r3=>?_
   refine At.b 7 (fun _ e=>aM [] (aAN e)) fun r4=>?_
   refine At.b 8 (fun _ e=>aM [] (aAN e)) fun r5=>?_
   refine At.J 5 1 [2,4,10] 1 (fun p6=>([(11,(k64 p6.1)),(13,(k64 p6.2.1)),(14,(k64 p6.2.2))],[],[])) (fun p6=>?_) fun p6=>?_
   ·refine lx ?_;intro x7
    refine lx ?_;intro x8
    refine At.c 9 ?_ ?_
    ·refine At.b 1 (fun _ e=>aD2 (aI0 e) (fun _=>aD0)) fun r9=>?_
     apply rt;exact At.jn 15
    ·apply rt;exact At.jn 0
   ·refine lx ?_;intro x10
    refine At.b 7 (fun _ e=>aM [] (aCP e)) fun r11=>?_
    refine At.c 7 ?_ ?_
    ·apply rt;exact At.r 4
    ·refine At.J 0 1 [4] 1 (fun p12=>([(14,(k64 p12))],[],[])) (fun p12=>?_) fun p12=>?_
     ·refine At.c 1 ?_ ?_
      ·apply rt;exact At.jn 3
      ·apply rt;exact At.jn 0
     ·apply rt;exact At.r 6
def iN (N:Nat) (a0 a1:Int):Option (Int):=
 cond (a1==0) (
  cond (decide (a0 > 0)) (
   some 9223372036854775807) (
   cond (decide (a0 < 0)) (some (-9223372036854775808)) (some 0))) (
  Option.bind (iI N a0 4294967296) fun r1=>
  Option.bind (pK N r1 a1) fun r2=>
  Option.bind (sL N r2.1) fun r3=>
  some r3)
theorem lK {N a0 a1 r} (h:iN N a0 a1=some r):FnM Tryz.prog 93 [] [(j64 a0),(j64 a1)] (j64 r) []:=by
 unfold iN at h
 refine At.f cQ hT hmo Tryz.func93 rfl h ?_
 refine At.c 3 ?_ ?_
 ·refine At.c 3 ?_ ?_
  ·apply rt;exact At.r 1
  ·refine At.c 3 ?_ ?_
   ·apply rt;exact At.r 1
   ·apply rt;exact At.r 1
 ·refine At.b 1 (fun _ e=>aM [] (kU e)) fun r1=>?_
  refine At.b 1 (fun _ e=>aM [] (aAa e)) fun r2=>?_
  refine At.b 9 (fun _ e=>aM [] (aCK e)) fun r3=>?_
  apply rt;exact At.r 1
def jO (N:Nat) (a0 a1:Int):Option (Int):=
 Option.bind (iF N a0) fun r1=>
 Option.bind (iF N a1) fun r2=>
 Option.bind (iN N r1 r2) fun r3=>
 some r3
theorem uA {N a0 a1 r} (h:jO N a0 a1=some r):FnM Tryz.prog 299 [] [(j64 a0),(.im (j64 a1))] (j64 r) []:=by
 unfold jO at h
 refine At.f cQ hT hmo Tryz.func299 rfl h ?_
 refine bi fun r1 hr1=>?_
 refine bi fun r2 hr2=>?_
 refine bi fun r3 hr3=>?_
 refine At.d 1 (dE2 1 (j64 r1) (fun _=>aO (iQ hr1)) (dE2 3 (j64 r2) (fun _=>aO (iQ hr2)) (dE2 4 (j64 r3) (fun _=>aO (lK hr3)) dE0))) dF0 ?_
 apply rt;exact At.r 0
def aHp : Nat→Bool:=imL [2,3]
def rP (N:Nat) (a0:(Vector Int 3)) (a1:Int):Option (aA):=
 Option.bind (idx a0.toList 0) fun e1=>
 Option.bind (jO N e1 a1) fun r2=>
 Option.bind (idx a0.toList 1) fun e3=>
 Option.bind (jO N e3 a1) fun r4=>
 Option.bind (idx a0.toList 2) fun e5=>
 Option.bind (jO N e5 a1) fun r6=>
 some (aA.mk r2 r4 r6)
theorem aCM {N a0 a1 r} (h:rP N a0 a1=some r):FnM Tryz.prog 238 [] [(eA 3 1 j64 a0),(j64 a1)] (aA.enc r) []:=by
 unfold rP at h
 refine At.f aHp hT hmo Tryz.func238 rfl h ?_
 refine At.o 3 (qT (x:=(.fn (.func 299) [] [(.im (j64 a1))])) (by kernel_rfl) (by kernel_rfl)) ?_
 refine bi fun e1 he1=>?_
 refine bi fun r2 hr2=>?_
 refine bi fun e3 he3=>?_
 refine bi fun r4 hr4=>?_
 refine bi fun e5 he5=>?_
 refine bi fun r6 hr6=>?_
 refine At.d 1 (dE1 1 (fun _=>dS hT (N:=3) (k:=1) j64 a0 he1) (dE2 3 (j64 r2) (fun _=>aO (uA hr2)) (dE1 5 (fun _=>dS hT (N:=3) (k:=1) j64 a0 he3) (dE2 7 (j64 r4) (fun _=>aO (uA hr4)) (dE1 9 (fun _=>dS hT (N:=3) (k:=1) j64 a0 he5) (dE2 11 (j64 r6) (fun _=>aO (uA hr6)) dE0)))))) dF0 ?_
 apply rt;exact At.r 0
def aH4 : Nat→Bool:=imL [1]
def pE (N:Nat) (a0:aP):Option (aA):=
 Option.bind (rP N a0.gA4 65536) fun r1=>
 some r1
theorem aAO {N a0 r} (h:pE N a0=some r):FnM Tryz.prog 182 [] [(aP.enc a0)] (aA.enc r) []:=by
 unfold pE at h
 refine At.f aH4 hT hmo Tryz.func182 rfl h ?_
 refine At.b 4 (fun _ e=>aM [] (aCM e)) fun r1=>?_
 apply rt;exact At.r 1
def nG (N:Nat) (a0:(List Int)):Nat→Int→Int→Option (Int)
 | 0,_,_=>none
 | k+1,s2,s3=>
  aT (decide (s3 < ((a0.length:Int)))) fun x4=>
  cond x4 (
   Option.bind (idx a0 s3) fun e5=>
   Option.bind (aT (cond (decide (s2 > 0)) (decide (e5 > 0)) false) fun x7=>
   aT (decide ((I64 (s2+e5)) < 0)) fun x8=>
   cond (cond x7 x8 false) (
    some 9223372036854775807) (
    aT (cond (decide (s2 < 0)) (decide (e5 < 0)) false) fun x9=>
    aT (decide ((I64 (s2+e5))≥0)) fun x10=>
    cond (cond x9 x10 false) (some (-9223372036854775808)) (some (I64 (s2+e5))))) fun p6=>
   nG N a0 k p6 (I64 (s3+1))) (
   some s2)
def jS (N:Nat) (a0:(List Int)):Option (Int):=
 Option.bind (nG N a0 N 0 0) fun p1=>
 some p1
theorem pN {N a0 r} (h:jS N a0=some r):FnM Tryz.prog 94 [] [(eL 1 j64 a0)] (j64 r) []:=by
 unfold jS at h
 refine At.f cQ hT hmo Tryz.func94 rfl h ?_
 refine At.L 5 [] 0 (fun p1=>([(3,(j64 p1))],[],[])) (fun p1 J k=>∃ s2 s3,nG N a0 k s2 s3=some p1∧J [7,8] 0 [(3,(j64 s2)),(9,(j64 s3))] [] []) N (fun _ h=>⟨_,_,h,jr⟩) (fun p1 k s hI=>?_) fun p1=>?_
 ·obtain ⟨s2,s3,h,hj⟩:=hI
  cases k with
  | zero=>cases h
  | succ k=>
   refine At.jr hj ?_ h
   refine lx ?_;intro x4
   refine At.c 1 ?_ ?_
   ·refine At.b 0 (fun _ e=>bF hT j64 e) fun e5=>?_
    refine At.J 6 2 [7,8,9] 0 (fun p6=>([(6,(j64 p6))],[],[])) (fun p6=>?_) fun p6=>?_
    ·refine lx ?_;intro x7
     refine lx ?_;intro x8
     refine At.c 11 ?_ ?_
     ·apply rt;exact At.jn 1
     ·refine lx ?_;intro x9
      refine lx ?_;intro x10
      refine At.c 11 ?_ ?_
      ·apply rt;exact At.jn 1
      ·apply rt;exact At.jn 0
    ·exact fun h=>At.k 4 ⟨_,_,h,jr⟩
   ·apply rt;exact At.x 0
 ·apply rt;exact At.r 2
def vM (N:Nat) (a0 a1:Int):Option (Int):=
 Option.bind (jS N ([a0,a1])) fun r1=>
 some r1
theorem aBf {N a0 a1 r} (h:vM N a0 a1=some r):FnM Tryz.prog 199 [] [(j64 a0),(j64 a1)] (j64 r) []:=by
 unfold vM at h
 refine At.f cQ hT hmo Tryz.func199 rfl h ?_
 refine At.o 3 (bQ hT (x:=(.sl 1 2 [(j64 a0),(j64 a1)]))) ?_
 refine At.b 0 (fun _ e=>aM [] (pN e)) fun r1=>?_
 apply rt;exact At.r 1
def aEd : Nat→Bool:=imL [3,4]
def qB (N:Nat) (a0 a1:aA):Option (aA):=
 Option.bind (vM N a0.gX a1.gX) fun r1=>
 Option.bind (vM N a0.gY a1.gY) fun r2=>
 Option.bind (vM N a0.gZ a1.gZ) fun r3=>
 some (aA.mk r1 r2 r3)
theorem aD8 {N a0 a1 r} (h:qB N a0 a1=some r):FnM Tryz.prog 198 [] [(aA.enc a0),(aA.enc a1),(.fn (.func 199) [] [])] (aA.enc r) []:=by
 unfold qB at h
 refine At.f aEd hT hmo Tryz.func198 rfl h ?_
 refine bi fun r1 hr1=>?_
 refine bi fun r2 hr2=>?_
 refine bi fun r3 hr3=>?_
 refine At.d 3 (dE2 5 (j64 r1) (fun _=>aO (aBf hr1)) (dE2 11 (j64 r2) (fun _=>aO (aBf hr2)) (dE2 17 (j64 r3) (fun _=>aO (aBf hr3)) dE0))) dF0 ?_
 apply rt;exact At.r 0
def oX (N:Nat) (a0:(List aA)):Nat→aA→Int→Option (aA)
 | 0,_,_=>none
 | k+1,s2,s3=>
  aT (decide (s3 < ((a0.length:Int)))) fun x4=>
  cond x4 (
   Option.bind (idx a0 s3) fun e5=>
   Option.bind (qB N s2 e5) fun r6=>
   oX N a0 k r6 (I64 (s3+1))) (
   some s2)
def kP (N:Nat) (a0:(List aA)):Option (aA):=
 Option.bind (oX N a0 N (aA.mk 0 0 0) 0) fun p1=>
 some p1
theorem rZ {N a0 r} (h:kP N a0=some r):FnM Tryz.prog 109 [] [(eL 3 aA.enc a0)] (aA.enc r) []:=by
 unfold kP at h
 refine At.f cQ hT hmo Tryz.func109 rfl h ?_
 refine At.L 5 [2,3] 2 (fun p1=>([],[(1,.var (aA.enc p1))],[])) (fun p1 J k=>∃ s2 s3,oX N a0 k s2 s3=some p1∧J [2,3,6,7] 2 [(8,(j64 s3))] [(1,.var (aA.enc s2))] []) N (fun _ h=>⟨_,_,h,jr⟩) (fun p1 k s hI=>?_) fun p1=>?_
 ·obtain ⟨s2,s3,h,hj⟩:=hI
  cases k with
  | zero=>cases h
  | succ k=>
   refine At.jr hj ?_ h
   refine lx ?_;intro x4
   refine At.c 1 ?_ ?_
   ·refine At.b 0 (fun _ e=>bF hT aA.enc e) fun e5=>?_
    refine At.b 5 (fun _ e=>aM [] (aD8 e)) fun r6=>?_
    exact fun h=>At.k 3 ⟨_,_,h,jr⟩
   ·apply rt;exact At.x 0
 ·apply rt;exact At.r 2
def rN (N:Nat) (a0:(List aP)):Nat→(List aA)→Int→Option ((List aA))
 | 0,_,_=>none
 | k+1,s2,s3=>
  aT (decide (s3 < ((a0.length:Int)))) fun x4=>
  cond x4 (
   Option.bind (Option.bind (idx a0 s3) fun e6=>
   cond (e6.gA7==2) (
    Option.bind (pE N e6) fun r7=>
    Option.bind (rF 24 s2 (([r7]:List aA))) fun z8=>
    some ((z8,e6))) (
    some ((s2,e6)))) fun p5=>
   rN N a0 k p5.1 (I64 (s3+1))) (
   some s2)
def xI (N:Nat) (a0:(List aP)):Option (aA):=
 Option.bind (rN N a0 N [] 0) fun p1=>
 Option.bind (kP N p1) fun r9=>
 some r9
theorem aKC {N a0 r} (h:xI N a0=some r):FnM Tryz.prog 100 [] [(eL 13 aP.enc a0)] (aA.enc r) []:=by
 unfold xI at h
 refine At.f cQ hT hmo Tryz.func100 rfl h ?_
 refine At.ownn 5 3 3 ?_
 refine At.L 0 [2] 2 (fun p1=>([(3,(eO 1 3 aA.enc p1))],[(1,.tail (p1.length*3))],[])) (fun p1 J k=>∃ s2 s3,rN N a0 k s2 s3=some p1∧J [2,6,7] 2 [(3,(eO 1 3 aA.enc s2)),(8,(j64 s3))] [(1,.tail (s2.length*3))] []) N (fun _ h=>⟨_,_,h,jr⟩) (fun p1 k s hI=>?_) fun p1=>?_
 ·obtain ⟨s2,s3,h,hj⟩:=hI
  cases k with
  | zero=>cases h
  | succ k=>
   refine At.jr hj ?_ h
   refine lx ?_;intro x4
   refine At.c 1 ?_ ?_
   ·refine At.J 0 2 [2,6,7,8] 2 (fun p5=>([(3,(eO 1 3 aA.enc p5.1))],[(1,.tail (p5.1.length*3))],[.var (aP.enc p5.2)])) (fun p5=>?_) fun p5=>?_
    ·refine At.b 0 (fun _ e=>bF hT aP.enc e) fun e6=>?_
     refine At.c 6 ?_ ?_
     ·refine At.b 2 (fun _ e=>aM [] (aAO e)) fun r7=>?_
      refine At.o 0 (bQ hT (x:=(.sl 3 1 [(aA.enc r7)]))) ?_
      refine At.b 0 (fun _ e=>iA hT aA.enc (id:=1) (k:=3) e) fun z8=>?_
      apply rt;exact At.jn 1
     ·apply rt;exact At.jn 0
    ·exact fun h=>At.k 2 ⟨_,_,h,jr⟩
   ·apply rt;exact At.x 0
 ·refine At.b 1 (fun _ e=>aM [] (rZ e)) fun r9=>?_
  apply rt;exact At.r 1
def iJ (N:Nat) (a0:(List (Vector Int 3))):Option ((List (Vector Int 3))):=
 Option.bind (rF 24 (([]:List (Vector Int 3))) a0) fun z1=>
 some z1
theorem yZ {N a0 r} (h:iJ N a0=some r):FnM Tryz.prog 118 [] [(eL 3 (eA 3 1 j64) a0)] (eL 3 (eA 3 1 j64) r) []:=by
 unfold iJ at h
 refine At.f cQ hT hmo Tryz.func118 rfl h ?_
 refine At.q hT 2 (d:=4) (t:=40) (e:=54) (z:=3) (x:=(eL 3 (eA 3 1 j64) a0)) (es:=List.map (eA 3 1 j64) a0) rfl ?_ (fun he=>?_)
 ·refine At.o 1 (xV hT (eA 3 1 j64) (k:=3) ([]:List (Vector Int 3)) (by kernel_rfl) (by kernel_rfl)) ?_
  refine At.b 1 (fun _ e=>iA hT (eA 3 1 j64) (id:=0) (k:=3) e) fun z1=>?_
  apply rt;exact At.r 1
 ·have h0:a0=[]:=List.map_eq_nil_iff.1 he
  subst h0
  change some []=_→_
  apply rt;exact At.r 2
def tO (N:Nat) (a0:aD):Option (Unit):=
 some (())
theorem aEO {N a0 r} (h:tO N a0=some r):FnM Tryz.prog 183 [] [(aD.enc a0)] (.fn (.func 239) [] [(.ref 0 [] 0)]) [.var (aD.enc a0)]:=by
 unfold tO at h
 refine At.f cQ hT hmo Tryz.func183 rfl h ?_
 refine At.o 2 (qT (x:=(.fn (.func 239) [] [(.ref 0 [] 0)])) (by kernel_rfl) (by kernel_rfl)) ?_
 apply rt;exact At.r 1
def aCz : Nat→Bool:=imL [1]
def nA (N:Nat) (b2:(List aD)) (a1 a2:aD):Option ((List aD)):=
 Option.bind (rF 32 b2 (([a2]:List aD))) fun z1=>
 some z1
theorem aCE {N:Nat} {b2:(List aD)} {a1:aD} {a2:aD} {r:(List aD)} (h:nA N b2 a1 a2=some r):YldM Tryz.prog (aQP 25 Tryz.f101.body [1,1,1,0,1,0]) [en 5 (.ref 0 [] 0)] [.var (eO 2 2 aD.enc b2),.var (aD.enc a1),.tail (b2.length*2)] [(aD.enc a2)] [.var (eO 2 2 aD.enc r),.var (aD.enc a1),.tail (r.length*2)] none:=by
 unfold nA at h
 refine aLK (lo:=4) (by kernel_rfl) (fun bk rl=>At.of aCz hT hmo h ?_)
 refine At.to 0 ⟨[en 5 (.ref 0 [] 0),en 19 (aD.enc a2)],[.var (eO 2 2 aD.enc b2),.var (aD.enc a1),.tail (b2.length*2),.loop rl]⟩ ?_
 refine At.mid 2 (fun rl2=>?_)
 refine At.o 2 (bQ hT (x:=(.sl 2 1 [(aD.enc a2)]))) ?_
 refine At.b 0 (fun _ e=>iA hT aD.enc (id:=2) (k:=2) e) fun z1=>?_
 apply rt;exact At.rnd 1
def aJV : Nat→Bool:=imL [3]
def nD (N:Nat) (a0:aD) (a1 a2:Int):Option ((Vector Int 3)):=
 aT (iK .i64 a2 (I64 (a0.gE - 1))) fun x1=>
 aT (iK .i64 a1 (I64 (a0.gE - 1))) fun x2=>
 aT (I64 ((I64 (x1*a0.gE))+x2)) fun x3=>
 Option.bind (idx a0.gA2 x3) fun e4=>
 some e4
theorem uQ {N a0 a1 a2 r} (h:nD N a0 a1 a2=some r):FnM Tryz.prog 300 [] [(aD.enc a0),(j64 a1),(j64 a2)] (eA 3 1 j64 r) []:=by
 unfold nD at h
 refine At.f aJV hT hmo Tryz.func300 rfl h ?_
 refine lx ?_;intro x1
 refine lx ?_;intro x2
 refine lx ?_;intro x3
 refine At.b 18 (fun _ e=>bF hT (eA 3 1 j64) e) fun e4=>?_
 apply rt;exact At.r 2
def aGK : Nat→Bool:=imL [1]
def kJ (N:Nat) (r12 r14 r16 r19:(Vector Int 3)):Nat→(Vector Int 3)→Int→Option ((Vector Int 3))
 | 0,_,_=>none
 | k+1,s21,s22=>
  cond (decide (s22 < 3)) (
   Option.bind (eY s22 3) fun _=>
   Option.bind (r12.toList[s22.toNat]?) fun e24=>
   Option.bind (eY s22 3) fun _=>
   Option.bind (r14.toList[s22.toNat]?) fun e26=>
   Option.bind (eY s22 3) fun _=>
   Option.bind (r16.toList[s22.toNat]?) fun e28=>
   aT (I64 ((I64 (e24+e26))+e28)) fun x29=>
   Option.bind (eY s22 3) fun _=>
   Option.bind (r19.toList[s22.toNat]?) fun e31=>
   aT (I64 ((I64 (x29+e31))+2)) fun x32=>
   Option.bind (eY s22 3) fun _=>
   Option.bind (s21.toList[s22.toNat]?) fun e34=>
   kJ N r12 r14 r16 r19 k (s21.setIfInBounds s22.toNat (I64 (Int.tdiv x32 4))) (I64 (s22+1))) (
   some s21)
def mK (N:Nat) (x2 x3:Int) (a0:aD):Nat→(List (Vector Int 3))→Int→Option ((List (Vector Int 3)))
 | 0,_,_=>none
 | k+1,s5,s6=>
  aT (decide (s6 < (I64 (x2*x3)))) fun x7=>
  cond x7 (
   aT ((I64 (Int.tdiv a0.gE 2))) fun x8=>
   Option.bind (aOU .i64 s6 x8) fun x9=>
   aT ((I64 (Int.tdiv a0.gE 2))) fun x10=>
   Option.bind (aHo .i64 s6 x10) fun x11=>
   Option.bind (nD N a0 (I64 (2*x9)) (I64 (2*x11))) fun r12=>
   aT (I64 ((I64 (2*x9))+1)) fun x13=>
   Option.bind (nD N a0 x13 (I64 (2*x11))) fun r14=>
   aT (I64 ((I64 (2*x11))+1)) fun x15=>
   Option.bind (nD N a0 (I64 (2*x9)) x15) fun r16=>
   aT (I64 ((I64 (2*x9))+1)) fun x17=>
   aT (I64 ((I64 (2*x11))+1)) fun x18=>
   Option.bind (nD N a0 x17 x18) fun r19=>
   Option.bind (kJ N r12 r14 r16 r19 N (#v[0,0,0]) 0) fun p20=>
   Option.bind (rF 24 s5 (([p20]:List (Vector Int 3)))) fun z35=>
   mK N x2 x3 a0 k z35 (I64 (s6+1))) (
   some s5)
def sM (N:Nat) (a0:aD):Option (aD):=
 aT (I64 (Int.tdiv a0.gE 2)) fun x1=>
 aT ((I64 (Int.tdiv a0.gE 2))) fun x2=>
 aT ((I64 (Int.tdiv a0.gE 2))) fun x3=>
 Option.bind (mK N x2 x3 a0 N [] 0) fun p4=>
 some (aD.mk ((I64 (Int.tdiv a0.gE 2))) p4)
theorem aFu {N a0 r} (h:sM N a0=some r):FnM Tryz.prog 240 [] [(aD.enc a0)] (aD.enc r) []:=by
 unfold sM at h
 refine At.f aGK hT hmo Tryz.func240 rfl h ?_
 refine lx ?_;intro x1
 refine lx ?_;intro x2
 refine lx ?_;intro x3
 refine At.ownb 14 1 3 [1] ?_
 refine At.L 0 [2,3] 3 (fun p4=>([],[(1,.var (.st 2 [(j64 ((I64 (Int.tdiv a0.gE 2)))),(eO 2 3 (eA 3 1 j64) p4)])),(2,.tail (p4.length*3))],[])) (fun p4 J k=>∃ s5 s6,mK N x2 x3 a0 k s5 s6=some p4∧J [1,2,3,21] 3 [(22,(j64 s6))] [(1,.var (.st 2 [(j64 ((I64 (Int.tdiv a0.gE 2)))),(eO 2 3 (eA 3 1 j64) s5)])),(2,.tail (s5.length*3))] []) N (fun _ h=>⟨_,_,h,jr⟩) (fun p4 k s hI=>?_) fun p4=>?_
 ·obtain ⟨s5,s6,h,hj⟩:=hI
  cases k with
  | zero=>cases h
  | succ k=>
   refine At.jr hj ?_ h
   refine lx ?_;intro x7
   refine At.c 1 ?_ ?_
   ·refine lx ?_;intro x8
    refine bi fun x9 hx9=>?_
    refine lx ?_;intro x10
    refine bi fun x11 hx11=>?_
    refine At.d 2 (dE1 3 (fun _=>aMf hT hx9 (by kernel_rfl) (by kernel_rfl)) (dE1 8 (fun _=>aCo hT hx11 (by kernel_rfl) (by kernel_rfl)) dE0)) dF0 ?_
    refine bi fun r12 hr12=>?_
    refine lx ?_;intro x13
    refine bi fun r14 hr14=>?_
    refine lx ?_;intro x15
    refine bi fun r16 hr16=>?_
    refine lx ?_;intro x17
    refine lx ?_;intro x18
    refine bi fun r19 hr19=>?_
    refine At.d2 0 [false,false,false,false] (dC2 3 (eA 3 1 j64 r12) (fun _=>aO (uQ hr12)) (dC2 8 (eA 3 1 j64 r14) (fun _=>aO (uQ hr14)) (dC2 13 (eA 3 1 j64 r16) (fun _=>aO (uQ hr16)) (dC2 19 (eA 3 1 j64 r19) (fun _=>aO (uQ hr19)) dC0)))) (dS1 20 ⟨(.ref 3 [] 0),3,.var (.arr 3 1 [(j64 0),(j64 0),(j64 0)]),.dead⟩ [[.var (.st 2 [(j64 0),(.v (.slice none 0 0))]),.var (.st 2 [(j64 ((I64 (Int.tdiv a0.gE 2)))),(eO 2 3 (eA 3 1 j64) s5)]),.tail (s5.length*3),.dead,.dead,.dead,.dead],[.var (.st 2 [(j64 0),(.v (.slice none 0 0))]),.var (.st 2 [(j64 ((I64 (Int.tdiv a0.gE 2)))),(eO 2 3 (eA 3 1 j64) s5)]),.tail (s5.length*3),.dead,.dead,.dead,.var (.arr 3 1 [(j64 0),(j64 0),(j64 0)])],[.var (.st 2 [(j64 0),(.v (.slice none 0 0))]),.var (.st 2 [(j64 ((I64 (Int.tdiv a0.gE 2)))),(eO 2 3 (eA 3 1 j64) s5)]),.tail (s5.length*3),.dead,.dead,.var (.arr 3 1 [(j64 0),(j64 0),(j64 0)]),.dead],[.var (.st 2 [(j64 0),(.v (.slice none 0 0))]),.var (.st 2 [(j64 ((I64 (Int.tdiv a0.gE 2)))),(eO 2 3 (eA 3 1 j64) s5)]),.tail (s5.length*3),.dead,.dead,.var (.arr 3 1 [(j64 0),(j64 0),(j64 0)]),.var (.arr 3 1 [(j64 0),(j64 0),(j64 0)])],[.var (.st 2 [(j64 0),(.v (.slice none 0 0))]),.var (.st 2 [(j64 ((I64 (Int.tdiv a0.gE 2)))),(eO 2 3 (eA 3 1 j64) s5)]),.tail (s5.length*3),.dead,.var (.arr 3 1 [(j64 0),(j64 0),(j64 0)]),.dead,.dead],[.var (.st 2 [(j64 0),(.v (.slice none 0 0))]),.var (.st 2 [(j64 ((I64 (Int.tdiv a0.gE 2)))),(eO 2 3 (eA 3 1 j64) s5)]),.tail (s5.length*3),.dead,.var (.arr 3 1 [(j64 0),(j64 0),(j64 0)]),.dead,.var (.arr 3 1 [(j64 0),(j64 0),(j64 0)])],[.var (.st 2 [(j64 0),(.v (.slice none 0 0))]),.var (.st 2 [(j64 ((I64 (Int.tdiv a0.gE 2)))),(eO 2 3 (eA 3 1 j64) s5)]),.tail (s5.length*3),.dead,.var (.arr 3 1 [(j64 0),(j64 0),(j64 0)]),.var (.arr 3 1 [(j64 0),(j64 0),(j64 0)]),.dead],[.var (.st 2 [(j64 0),(.v (.slice none 0 0))]),.var (.st 2 [(j64 ((I64 (Int.tdiv a0.gE 2)))),(eO 2 3 (eA 3 1 j64) s5)]),.tail (s5.length*3),.dead,.var (.arr 3 1 [(j64 0),(j64 0),(j64 0)]),.var (.arr 3 1 [(j64 0),(j64 0),(j64 0)]),.var (.arr 3 1 [(j64 0),(j64 0),(j64 0)])]] ⟨aW hT 3 (by kernel_rfl) (by kernel_rfl) (by kernel_rfl),aW hT 3 (by kernel_rfl) (by kernel_rfl) (by kernel_rfl),aW hT 3 (by kernel_rfl) (by kernel_rfl) (by kernel_rfl),aW hT 3 (by kernel_rfl) (by kernel_rfl) (by kernel_rfl),aW hT 3 (by kernel_rfl) (by kernel_rfl) (by kernel_rfl),aW hT 3 (by kernel_rfl) (by kernel_rfl) (by kernel_rfl),aW hT 3 (by kernel_rfl) (by kernel_rfl) (by kernel_rfl),aW hT 3 (by kernel_rfl) (by kernel_rfl) (by kernel_rfl),trivial⟩ (dS1 21 ⟨(.ref 4 [] 0),4,.var (.arr 3 1 [(j64 0),(j64 0),(j64 0)]),.dead⟩ [[.var (.st 2 [(j64 0),(.v (.slice none 0 0))]),.var (.st 2 [(j64 ((I64 (Int.tdiv a0.gE 2)))),(eO 2 3 (eA 3 1 j64) s5)]),.tail (s5.length*3),.dead,.dead,.dead,.dead],[.var (.st 2 [(j64 0),(.v (.slice none 0 0))]),.var (.st 2 [(j64 ((I64 (Int.tdiv a0.gE 2)))),(eO 2 3 (eA 3 1 j64) s5)]),.tail (s5.length*3),.dead,.dead,.dead,.var (.arr 3 1 [(j64 0),(j64 0),(j64 0)])],[.var (.st 2 [(j64 0),(.v (.slice none 0 0))]),.var (.st 2 [(j64 ((I64 (Int.tdiv a0.gE 2)))),(eO 2 3 (eA 3 1 j64) s5)]),.tail (s5.length*3),.dead,.dead,.var (.arr 3 1 [(j64 0),(j64 0),(j64 0)]),.dead],[.var (.st 2 [(j64 0),(.v (.slice none 0 0))]),.var (.st 2 [(j64 ((I64 (Int.tdiv a0.gE 2)))),(eO 2 3 (eA 3 1 j64) s5)]),.tail (s5.length*3),.dead,.dead,.var (.arr 3 1 [(j64 0),(j64 0),(j64 0)]),.var (.arr 3 1 [(j64 0),(j64 0),(j64 0)])],[.var (.st 2 [(j64 0),(.v (.slice none 0 0))]),.var (.st 2 [(j64 ((I64 (Int.tdiv a0.gE 2)))),(eO 2 3 (eA 3 1 j64) s5)]),.tail (s5.length*3),.var (.arr 3 1 [(j64 0),(j64 0),(j64 0)]),.dead,.dead,.dead],[.var (.st 2 [(j64 0),(.v (.slice none 0 0))]),.var (.st 2 [(j64 ((I64 (Int.tdiv a0.gE 2)))),(eO 2 3 (eA 3 1 j64) s5)]),.tail (s5.length*3),.var (.arr 3 1 [(j64 0),(j64 0),(j64 0)]),.dead,.dead,.var (.arr 3 1 [(j64 0),(j64 0),(j64 0)])],[.var (.st 2 [(j64 0),(.v (.slice none 0 0))]),.var (.st 2 [(j64 ((I64 (Int.tdiv a0.gE 2)))),(eO 2 3 (eA 3 1 j64) s5)]),.tail (s5.length*3),.var (.arr 3 1 [(j64 0),(j64 0),(j64 0)]),.dead,.var (.arr 3 1 [(j64 0),(j64 0),(j64 0)]),.dead],[.var (.st 2 [(j64 0),(.v (.slice none 0 0))]),.var (.st 2 [(j64 ((I64 (Int.tdiv a0.gE 2)))),(eO 2 3 (eA 3 1 j64) s5)]),.tail (s5.length*3),.var (.arr 3 1 [(j64 0),(j64 0),(j64 0)]),.dead,.var (.arr 3 1 [(j64 0),(j64 0),(j64 0)]),.var (.arr 3 1 [(j64 0),(j64 0),(j64 0)])]] ⟨aW hT 4 (by kernel_rfl) (by kernel_rfl) (by kernel_rfl),aW hT 4 (by kernel_rfl) (by kernel_rfl) (by kernel_rfl),aW hT 4 (by kernel_rfl) (by kernel_rfl) (by kernel_rfl),aW hT 4 (by kernel_rfl) (by kernel_rfl) (by kernel_rfl),aW hT 4 (by kernel_rfl) (by kernel_rfl) (by kernel_rfl),aW hT 4 (by kernel_rfl) (by kernel_rfl) (by kernel_rfl),aW hT 4 (by kernel_rfl) (by kernel_rfl) (by kernel_rfl),aW hT 4 (by kernel_rfl) (by kernel_rfl) (by kernel_rfl),trivial⟩ (dS1 22 ⟨(.ref 5 [] 0),5,.var (.arr 3 1 [(j64 0),(j64 0),(j64 0)]),.dead⟩ [[.var (.st 2 [(j64 0),(.v (.slice none 0 0))]),.var (.st 2 [(j64 ((I64 (Int.tdiv a0.gE 2)))),(eO 2 3 (eA 3 1 j64) s5)]),.tail (s5.length*3),.dead,.dead,.dead,.dead],[.var (.st 2 [(j64 0),(.v (.slice none 0 0))]),.var (.st 2 [(j64 ((I64 (Int.tdiv a0.gE 2)))),(eO 2 3 (eA 3 1 j64) s5)]),.tail (s5.length*3),.dead,.dead,.dead,.var (.arr 3 1 [(j64 0),(j64 0),(j64 0)])],[.var (.st 2 [(j64 0),(.v (.slice none 0 0))]),.var (.st 2 [(j64 ((I64 (Int.tdiv a0.gE 2)))),(eO 2 3 (eA 3 1 j64) s5)]),.tail (s5.length*3),.dead,.var (.arr 3 1 [(j64 0),(j64 0),(j64 0)]),.dead,.dead],[.var (.st 2 [(j64 0),(.v (.slice none 0 0))]),.var (.st 2 [(j64 ((I64 (Int.tdiv a0.gE 2)))),(eO 2 3 (eA 3 1 j64) s5)]),.tail (s5.length*3),.dead,.var (.arr 3 1 [(j64 0),(j64 0),(j64 0)]),.dead,.var (.arr 3 1 [(j64 0),(j64 0),(j64 0)])],[.var (.st 2 [(j64 0),(.v (.slice none 0 0))]),.var (.st 2 [(j64 ((I64 (Int.tdiv a0.gE 2)))),(eO 2 3 (eA 3 1 j64) s5)]),.tail (s5.length*3),.var (.arr 3 1 [(j64 0),(j64 0),(j64 0)]),.dead,.dead,.dead],[.var (.st 2 [(j64 0),(.v (.slice none 0 0))]),.var (.st 2 [(j64 ((I64 (Int.tdiv a0.gE 2)))),(eO 2 3 (eA 3 1 j64) s5)]),.tail (s5.length*3),.var (.arr 3 1 [(j64 0),(j64 0),(j64 0)]),.dead,.dead,.var (.arr 3 1 [(j64 0),(j64 0),(j64 0)])],[.var (.st 2 [(j64 0),(.v (.slice none 0 0))]),.var (.st 2 [(j64 ((I64 (Int.tdiv a0.gE 2)))),(eO 2 3 (eA 3 1 j64) s5)]),.tail (s5.length*3),.var (.arr 3 1 [(j64 0),(j64 0),(j64 0)]),.var (.arr 3 1 [(j64 0),(j64 0),(j64 0)]),.dead,.dead],[.var (.st 2 [(j64 0),(.v (.slice none 0 0))]),.var (.st 2 [(j64 ((I64 (Int.tdiv a0.gE 2)))),(eO 2 3 (eA 3 1 j64) s5)]),.tail (s5.length*3),.var (.arr 3 1 [(j64 0),(j64 0),(j64 0)]),.var (.arr 3 1 [(j64 0),(j64 0),(j64 0)]),.dead,.var (.arr 3 1 [(j64 0),(j64 0),(j64 0)])]] ⟨aW hT 5 (by kernel_rfl) (by kernel_rfl) (by kernel_rfl),aW hT 5 (by kernel_rfl) (by kernel_rfl) (by kernel_rfl),aW hT 5 (by kernel_rfl) (by kernel_rfl) (by kernel_rfl),aW hT 5 (by kernel_rfl) (by kernel_rfl) (by kernel_rfl),aW hT 5 (by kernel_rfl) (by kernel_rfl) (by kernel_rfl),aW hT 5 (by kernel_rfl) (by kernel_rfl) (by kernel_rfl),aW hT 5 (by kernel_rfl) (by kernel_rfl) (by kernel_rfl),aW hT 5 (by kernel_rfl) (by kernel_rfl) (by kernel_rfl),trivial⟩ (dS1 23 ⟨(.ref 6 [] 0),6,.var (.arr 3 1 [(j64 0),(j64 0),(j64 0)]),.dead⟩ [[.var (.st 2 [(j64 0),(.v (.slice none 0 0))]),.var (.st 2 [(j64 ((I64 (Int.tdiv a0.gE 2)))),(eO 2 3 (eA 3 1 j64) s5)]),.tail (s5.length*3),.dead,.dead,.dead,.dead],[.var (.st 2 [(j64 0),(.v (.slice none 0 0))]),.var (.st 2 [(j64 ((I64 (Int.tdiv a0.gE 2)))),(eO 2 3 (eA 3 1 j64) s5)]),.tail (s5.length*3),.dead,.dead,.var (.arr 3 1 [(j64 0),(j64 0),(j64 0)]),.dead],[.var (.st 2 [(j64 0),(.v (.slice none 0 0))]),.var (.st 2 [(j64 ((I64 (Int.tdiv a0.gE 2)))),(eO 2 3 (eA 3 1 j64) s5)]),.tail (s5.length*3),.dead,.var (.arr 3 1 [(j64 0),(j64 0),(j64 0)]),.dead,.dead],[.var (.st 2 [(j64 0),(.v (.slice none 0 0))]),.var (.st 2 [(j64 ((I64 (Int.tdiv a0.gE 2)))),(eO 2 3 (eA 3 1 j64) s5)]),.tail (s5.length*3),.dead,.var (.arr 3 1 [(j64 0),(j64 0),(j64 0)]),.var (.arr 3 1 [(j64 0),(j64 0),(j64 0)]),.dead],[.var (.st 2 [(j64 0),(.v (.slice none 0 0))]),.var (.st 2 [(j64 ((I64 (Int.tdiv a0.gE 2)))),(eO 2 3 (eA 3 1 j64) s5)]),.tail (s5.length*3),.var (.arr 3 1 [(j64 0),(j64 0),(j64 0)]),.dead,.dead,.dead],[.var (.st 2 [(j64 0),(.v (.slice none 0 0))]),.var (.st 2 [(j64 ((I64 (Int.tdiv a0.gE 2)))),(eO 2 3 (eA 3 1 j64) s5)]),.tail (s5.length*3),.var (.arr 3 1 [(j64 0),(j64 0),(j64 0)]),.dead,.var (.arr 3 1 [(j64 0),(j64 0),(j64 0)]),.dead],[.var (.st 2 [(j64 0),(.v (.slice none 0 0))]),.var (.st 2 [(j64 ((I64 (Int.tdiv a0.gE 2)))),(eO 2 3 (eA 3 1 j64) s5)]),.tail (s5.length*3),.var (.arr 3 1 [(j64 0),(j64 0),(j64 0)]),.var (.arr 3 1 [(j64 0),(j64 0),(j64 0)]),.dead,.dead],[.var (.st 2 [(j64 0),(.v (.slice none 0 0))]),.var (.st 2 [(j64 ((I64 (Int.tdiv a0.gE 2)))),(eO 2 3 (eA 3 1 j64) s5)]),.tail (s5.length*3),.var (.arr 3 1 [(j64 0),(j64 0),(j64 0)]),.var (.arr 3 1 [(j64 0),(j64 0),(j64 0)]),.var (.arr 3 1 [(j64 0),(j64 0),(j64 0)]),.dead]] ⟨aW hT 6 (by kernel_rfl) (by kernel_rfl) (by kernel_rfl),aW hT 6 (by kernel_rfl) (by kernel_rfl) (by kernel_rfl),aW hT 6 (by kernel_rfl) (by kernel_rfl) (by kernel_rfl),aW hT 6 (by kernel_rfl) (by kernel_rfl) (by kernel_rfl),aW hT 6 (by kernel_rfl) (by kernel_rfl) (by kernel_rfl),aW hT 6 (by kernel_rfl) (by kernel_rfl) (by kernel_rfl),aW hT 6 (by kernel_rfl) (by kernel_rfl) (by kernel_rfl),aW hT 6 (by kernel_rfl) (by kernel_rfl) (by kernel_rfl),trivial⟩ dS0)))) ?_
    refine At.L 2 [1,2,3,11,21,22] 8 (fun p20=>([],[(7,.var (eA 3 1 j64 p20))],[])) (fun p20 J k=>∃ s21 s22,kJ N r12 r14 r16 r19 k s21 s22=some p20∧J [1,2,3,7,8,9,10,11,21,22] 8 [(55,(j64 s22))] [(7,.var (eA 3 1 j64 s21))] []) N (fun _ h=>⟨_,_,h,jr⟩) (fun p20 k s hI=>?_) fun p20=>?_
    ·obtain ⟨s21,s22,h,hj⟩:=hI
     cases k with
     | zero=>cases h
     | succ k=>
      refine At.jr hj ?_ h
      refine At.c 1 ?_ ?_
      ·refine bi fun u23 hu23=>?_
       refine bi fun e24 he24=>?_
       refine bi fun u25 hu25=>?_
       refine bi fun e26 he26=>?_
       refine bi fun u27 hu27=>?_
       refine bi fun e28 he28=>?_
       refine lx ?_;intro x29
       refine bi fun u30 hu30=>?_
       refine bi fun e31 he31=>?_
       refine lx ?_;intro x32
       refine bi fun u33 hu33=>?_
       refine bi fun e34 he34=>?_
       refine At.d 2 (dE1 2 (fun _=>bH hT (k:=1) 3 [] 0 hu23) (dEL hT 3 (j64 e24) j64 0 he24 (dE1 5 (fun _=>bH hT (k:=1) 4 [] 0 hu25) (dEL hT 6 (j64 e26) j64 0 he26 (dE1 9 (fun _=>bH hT (k:=1) 5 [] 0 hu27) (dEL hT 10 (j64 e28) j64 0 he28 (dE1 13 (fun _=>bH hT (k:=1) 6 [] 0 hu30) (dEL hT 14 (j64 e31) j64 0 he31 (dE1 18 (fun _=>bH hT (k:=1) 7 [] 0 hu33) dE0))))))))) (dF 19 (.v (.bool false)) [(7,.var (eA 3 1 j64 (s21.setIfInBounds s22.toNat (I64 (Int.tdiv x32 4)))))] [] (bG (oA hT j64 0 s21 he34 (I64 (Int.tdiv x32 4)) (by kernel_rfl) (by kernel_rfl) (H':=[.var (.st 2 [(j64 0),(.v (.slice none 0 0))]),.var (.st 2 [(j64 ((I64 (Int.tdiv a0.gE 2)))),(eO 2 3 (eA 3 1 j64) s5)]),.tail (s5.length*3),.var (eA 3 1 j64 r12),.var (eA 3 1 j64 r14),.var (eA 3 1 j64 r16),.var (eA 3 1 j64 r19),.var (eA 3 1 j64 (s21.setIfInBounds s22.toNat (I64 (Int.tdiv x32 4))))]))) dF0) ?_
       exact fun h=>At.k 2 ⟨_,_,h,jr⟩
      ·apply rt;exact At.x 0
    ·refine At.o 3 (bQ hT (x:=(.sl 3 1 [(eA 3 1 j64 p20)]))) ?_
     refine At.b 0 (fun _ e=>iA hT (eA 3 1 j64) (id:=2) (k:=3) e) fun z35=>?_
     exact fun h=>At.k 4 ⟨_,_,h,jr⟩
   ·apply rt;exact At.x 0
 ·apply rt;exact At.r 2
def bU (N:Nat)  : Nat→(List aD)→aD→Option ((List aD)×aD)
 | 0,_,_=>none
 | k+1,s2,s3=>
  Option.bind (nA N s2 s3 s3) fun r4=>
  cond (decide (s3.gE > 1)) (
   Option.bind (sM N s3) fun r5=>
   bU N k r4 r5) (
   some ((r4,s3)))
def dU (N:Nat) (b2:(List aD)) (a1:aD):Option ((List aD)×aD):=
 Option.bind (bU N N b2 a1) fun p1=>
 some ((p1.1,p1.2))
theorem rB {N:Nat} {b2:(List aD)} {a1:aD} {r:(List aD)×aD} (h:dU N b2 a1=some r):ItM Tryz.prog 239 (aQP 25 Tryz.f101.body [1,1,1,0,1,0]) [en 5 (.ref 0 [] 0)] [.var (eO 2 2 aD.enc b2),.var (aD.enc a1),.tail (b2.length*2)] [(.yld 3),(.ref 1 [] 0)] (.tup []) [.var (eO 2 2 aD.enc r.1),.var (aD.enc r.2),.tail (r.1.length*2)] none:=by
 unfold dU at h
 refine aNT (m:=13) (lo:=4) (rs:=[]) hT Tryz.func239 rfl (by kernel_rfl) rfl (fun fn tmps D hsz=>At.of cQ hT hmo h ?_)
 refine At.L 0 [] 4 (fun p1=>([],[(0,.var (eO 2 2 aD.enc p1.1)),(1,.var (aD.enc p1.2)),(2,.tail (p1.1.length*2))],[])) (fun p1 J k=>∃ s2 s3,bU N k s2 s3=some p1∧J [0,1] 4 [] [(0,.var (eO 2 2 aD.enc s2)),(1,.var (aD.enc s3)),(2,.tail (s2.length*2))] []) N (fun _ h=>⟨_,_,h,jr⟩) (fun p1 k s hI=>?_) fun p1=>?_
 ·obtain ⟨s2,s3,h,hj⟩:=hI
  cases k with
  | zero=>cases h
  | succ k=>
   refine At.jr hj ?_ h
   refine At.b 2 (fun _ e=>aRW (aCE e) (fn:=fn) (D:=D) hsz rfl (List.mem_singleton.2 rfl) (by kernel_rfl) (by kernel_rfl)) fun r4=>?_
   refine At.g [6] 5 ?_
   refine At.c 0 ?_ ?_
   ·refine At.b 1 (fun _ e=>aM [] (aFu e)) fun r5=>?_
    exact fun h=>At.k 1 ⟨_,_,h,jr⟩
   ·apply rt;exact At.x 0
 ·apply rt;exact At.z 0
theorem qM : wH Tryz.prog 239:=zZ (show aBH Tryz.prog 239=true by kernel_rfl)
def aEg : Nat→Bool:=imL [1]
def pX (N:Nat) (a0:aD):Option ((List aD)×Int):=
 Option.bind (jF N a0) fun r1=>
 cond (r1 != 0) (
  some (([],r1))) (
  Option.bind (iJ N a0.gA2) fun r2=>
  Option.bind (tO N (aD.mk a0.gE r2)) fun r3=>
  Option.bind (dU N [] ((aD.mk a0.gE r2))) fun r4=>
  some ((r4.1,0)))
theorem aDs {N a0 r} (h:pX N a0=some r):FnM Tryz.prog 101 [] [(aD.enc a0)] (.tup [(eL 2 aD.enc r.1),(j64 r.2)]) []:=by
 unfold pX at h
 refine At.fR aEg hT hmo Tryz.func101 rfl h ?_
 refine At.b 4 (fun _ e=>aM [] (tJ e)) fun r1=>?_
 refine At.c 3 ?_ ?_
 ·apply rt;exact At.r 3
 ·refine bi fun r2 hr2=>?_
  refine bi fun r3 hr3=>?_
  refine At.d 1 (dE2 4 (eL 3 (eA 3 1 j64) r2) (fun _=>aO (yZ hr2)) dE0) (dF 6 (.fn (.func 239) [] [(.ref 1 [] 0)]) [] [.var (aD.enc ((aD.mk a0.gE r2)))] (bG (aM [] (aEO hr3))) dF0) ?_
  refine At.ownb 0 0 2 [] ?_
  refine bi fun r4 hr4=>?_
  refine At.rg 0 (rB hr4) qM (.tmp 18) [0,1,2] ⟨[en 5 (.ref 0 [] 0)],[.var (eO 2 2 aD.enc r4.1),.var (aD.enc r4.2),.tail (r4.1.length*2)]⟩ [(.ref 1 [] 0)] ?_
  apply rt;exact At.r 3
def rY (N:Nat) (a0:(List aF)) (a1:Int):Option (Sum (Int) ((List aF)×Int)):=
 aT (cond (decide (a1 < 0)) true (decide (a1 > 4096))) fun x1=>
 cond x1 (
  some (Sum.inl 2)) (
  aT (decide (((a0.length:Int)) > a1)) fun x2=>
  cond x2 (
   some (Sum.inl 15)) (
   Option.bind (mkO 152 a1) fun _=>
   Option.bind (cpD (List.replicate a1.toNat (aF.mk (#v[aC.mk 0 0 0,aC.mk 0 0 0,aC.mk 0 0 0]) (#v[#v[0,0],#v[0,0],#v[0,0]]) 0 0 0 0:aF)) a0 a1.toNat) fun v4=>
   Option.bind (aAA v4 a1.toNat) fun _=>
   some (Sum.inr ((v4,0)))))
theorem aEJ {N a0 a1 r} (h:rY N a0 a1=some r):FnM Tryz.prog 102 [] [(eL 19 aF.enc a0),(j64 a1)] (aFn r (fun r=>(.tup [(.v (.pointer none)),(j64 r)])) (fun r=>(.tup [(.ref 1 [] 0),(j64 r.2)]))) (aFn r (fun r=>[]) (fun r=>[.dead,.var (.st 3 [(.st 1 [(j64 0)]),(eB true),(eL 19 aF.enc r.1)])])):=by
 unfold rY at h
 refine At.f cQ hT hmo Tryz.func102 rfl h ?_
 refine lx ?_;intro x1
 refine At.c 9 ?_ ?_
 ·apply rt;exact At.r 2
 ·refine lx ?_;intro x2
  refine At.c 5 ?_ ?_
  ·apply rt;exact At.r 2
  ·refine At.b 1 (fun _ e=>aR8 hT aF.enc ((aF.mk (#v[aC.mk 0 0 0,aC.mk 0 0 0,aC.mk 0 0 0]) (#v[#v[0,0],#v[0,0],#v[0,0]]) 0 0 0 0:aF)) (k:=19) (kd := .st [(0,140),(9,142),(15,3),(16,3),(17,3),(18,5)]) e (by kernel_rfl) (by kernel_rfl) rfl) fun u3=>?_
   refine At.b 8 (fun v4 e=>aPQ hT aF.enc (id:=0) (k:=19) (N:=a1.toNat*19) (H':=[.var (.arr (a1.toNat*19) 19 (List.map aF.enc v4)),.var (.st 3 [(.st 1 [(j64 0)]),(eB true),(.bsl 0 [] 0 19 0 a1.toNat)])]) e (by kernel_rfl) (by kernel_rfl) (by kernel_rfl)) fun v4=>?_
   refine bi fun u5 hu5=>?_
   refine At.fz 3 0 19 a1.toNat _ (List.map aF.enc v4) (List.length_map _) (lenM aF.enc hu5) ?_
   apply rt;exact At.r 0
theorem aHK {N a0 a1 r} (h:rY N a0 a1=some (Sum.inl r)):FnM Tryz.prog 102 [] [(eL 19 aF.enc a0),(j64 a1)] (.tup [(.v (.pointer none)),(j64 r)]) []:=aEJ h
theorem aHS {N a0 a1 r} (h:rY N a0 a1=some (Sum.inr r)):FnM Tryz.prog 102 [] [(eL 19 aF.enc a0),(j64 a1)] (.tup [(.ref 1 [] 0),(j64 r.2)]) [.dead,.var (.st 3 [(.st 1 [(j64 0)]),(eB true),(eL 19 aF.enc r.1)])]:=aEJ h
def qG (N:Nat) (a0:aF):Nat→aC→aC→Int→Option (aC×aC)
 | 0,_,_,_=>none
 | k+1,s2,s3,s4=>
  aT (decide (s4 < ((3:Int)))) fun x5=>
  cond x5 (
   Option.bind (eY s4 3) fun _=>
   Option.bind (a0.gP.toList[s4.toNat]?) fun e7=>
   Option.bind (cond (s4==0) (some ((e7,e7))) (some ((s2,s3)))) fun p8=>
   qG N a0 k (aC.mk (fD p8.1.gX e7.gX) (fD p8.1.gY e7.gY) (fD p8.1.gZ e7.gZ)) (aC.mk (jH p8.2.gX e7.gX) (jH p8.2.gY e7.gY) (jH p8.2.gZ e7.gZ)) (I64 (s4+1))) (
   some ((s2,s3)))
def yD (N:Nat) (a0:aF):Option (aC×aC):=
 Option.bind (qG N a0 N (aC.mk 0 0 0) (aC.mk 0 0 0) 0) fun p1=>
 some ((p1.1,p1.2))
theorem aJ5 {N a0 r} (h:yD N a0=some r):FnM Tryz.prog 241 [.var (aF.enc a0)] [(.bsl 0 [0] 0 3 0 3)] (.tup [(aC.enc r.1),(aC.enc r.2)]) [.var (aF.enc a0)]:=by
 unfold yD at h
 refine At.f cQ hT hmo Tryz.func241 rfl h ?_
 refine At.L 5 [2,3] 3 (fun p1=>([],[(1,.var (aC.enc p1.1)),(2,.var (aC.enc p1.2))],[])) (fun p1 J k=>∃ s2 s3 s4,qG N a0 k s2 s3 s4=some p1∧J [2,3,6,7] 3 [(8,(j64 s4))] [(1,.var (aC.enc s2)),(2,.var (aC.enc s3))] []) N (fun _ h=>⟨_,_,_,h,jr⟩) (fun p1 k s hI=>?_) fun p1=>?_
 ·obtain ⟨s2,s3,s4,h,hj⟩:=hI
  cases k with
  | zero=>cases h
  | succ k=>
   refine At.jr hj ?_ h
   refine lx ?_;intro x5
   refine At.c 1 ?_ ?_
   ·refine At.b 1 (fun _ e=>aF2 hT 0 [0] 0 0 3 (k:=3) e (by kernel_rfl) (by kernel_rfl)) fun u6=>?_
    refine At.b 0 (fun _ e=>pQ hT aC.enc 1 e) fun e7=>?_
    refine At.J 3 1 [2,3,5,6,7,8] 4 (fun p8=>([],[(1,.var (aC.enc p8.1)),(2,.var (aC.enc p8.2))],[])) (fun p8=>?_) fun p8=>?_
    ·refine At.c 2 ?_ ?_
     ·refine At.d 0 dE0 dF0 ?_
      apply rt;exact At.jn 0
     ·apply rt;exact At.jn 0
    ·exact fun h=>At.k 36 ⟨_,_,_,h,jr⟩
   ·apply rt;exact At.x 0
 ·refine At.d 0 dE0 dF0 ?_
  apply rt;exact At.r 0
def tW (N:Nat) (a0:(List aC)):Nat→aC→aC→Int→Option (aC×aC)
 | 0,_,_,_=>none
 | k+1,s2,s3,s4=>
  aT (decide (s4 < ((a0.length:Int)))) fun x5=>
  cond x5 (
   Option.bind (idx a0 s4) fun e6=>
   Option.bind (cond (s4==0) (some ((e6,e6))) (some ((s2,s3)))) fun p7=>
   tW N a0 k (aC.mk (fD p7.1.gX e6.gX) (fD p7.1.gY e6.gY) (fD p7.1.gZ e6.gZ)) (aC.mk (jH p7.2.gX e6.gX) (jH p7.2.gY e6.gY) (jH p7.2.gZ e6.gZ)) (I64 (s4+1))) (
   some ((s2,s3)))
def nL (N:Nat) (a0:(List aC)):Option (aC×aC):=
 Option.bind (tW N a0 N (aC.mk 0 0 0) (aC.mk 0 0 0) 0) fun p1=>
 some ((p1.1,p1.2))
theorem sF {N a0 r} (h:nL N a0=some r):FnM Tryz.prog 241 [] [(eL 3 aC.enc a0)] (.tup [(aC.enc r.1),(aC.enc r.2)]) []:=by
 unfold nL at h
 refine At.f cQ hT hmo Tryz.func241 rfl h ?_
 refine At.L 5 [2,3] 2 (fun p1=>([],[(0,.var (aC.enc p1.1)),(1,.var (aC.enc p1.2))],[])) (fun p1 J k=>∃ s2 s3 s4,tW N a0 k s2 s3 s4=some p1∧J [2,3,6,7] 2 [(8,(j64 s4))] [(0,.var (aC.enc s2)),(1,.var (aC.enc s3))] []) N (fun _ h=>⟨_,_,_,h,jr⟩) (fun p1 k s hI=>?_) fun p1=>?_
 ·obtain ⟨s2,s3,s4,h,hj⟩:=hI
  cases k with
  | zero=>cases h
  | succ k=>
   refine At.jr hj ?_ h
   refine lx ?_;intro x5
   refine At.c 1 ?_ ?_
   ·refine At.b 1 (fun _ e=>bF hT aC.enc e) fun e6=>?_
    refine At.J 4 1 [2,3,5,6,7,8] 3 (fun p7=>([],[(0,.var (aC.enc p7.1)),(1,.var (aC.enc p7.2))],[])) (fun p7=>?_) fun p7=>?_
    ·refine At.c 2 ?_ ?_
     ·refine At.d 0 dE0 dF0 ?_
      apply rt;exact At.jn 0
     ·apply rt;exact At.jn 0
    ·exact fun h=>At.k 36 ⟨_,_,_,h,jr⟩
   ·apply rt;exact At.x 0
 ·refine At.d 0 dE0 dF0 ?_
  apply rt;exact At.r 0
def oG (N a3:Nat) (b0:(List Int)) (a2:Nat) (a1:(List aF)):Nat→aC→aC→Int→Option (aC×aC)
 | 0,_,_,_=>none
 | k+1,s2,s3,s4=>
  aT (decide (s4 < ((a3:Int)))) fun x5=>
  cond x5 (
   Option.bind (Option.bind (yR b0.length a2 a3 s4) fun _=>
   Option.bind (b0[(zF a2 s4.toNat)]?) fun e8=>
   Option.bind (idx a1 e8) fun e9=>
   Option.bind (vU e9.gP.toList 0 3) fun s10=>
   Option.bind (nL N s10) fun r11=>
   cond (s4==0) (
    some ((r11.1,r11.2,r11.1,r11.2))) (
    Option.bind (nL N ([s2,r11.1])) fun r12=>
    Option.bind (nL N ([s3,r11.2])) fun r13=>
    some ((r12.1,r13.2,r11.1,r11.2)))) fun p6=>
   oG N a3 b0 a2 a1 k p6.1 p6.2.1 (I64 (s4+1))) (
   some ((s2,s3)))
def vY (N:Nat) (b0:(List Int)) (a1:(List aF)) (a2 a3:Nat):Option (aC×aC):=
 Option.bind (oG N a3 b0 a2 a1 N (aC.mk 0 0 0) (aC.mk 0 0 0) 0) fun p1=>
 some ((p1.1,p1.2))
theorem aH3 {N b0 a1 a2 a3 r} (h:vY N b0 a1 a2 a3=some r):FnM Tryz.prog 242 [.gro 1 (List.map j64 b0)] [(eL 19 aF.enc a1),(.gro 0 1 b0.length (.sub a2 a3))] (.tup [(aC.enc r.1),(aC.enc r.2)]) [.gro 1 (List.map j64 b0)]:=by
 unfold vY at h
 refine At.f cQ hT hmo Tryz.func242 rfl h ?_
 refine At.L 5 [4,5] 3 (fun p1=>([],[(1,.var (aC.enc p1.1)),(2,.var (aC.enc p1.2))],[])) (fun p1 J k=>∃ s2 s3 s4,oG N a3 b0 a2 a1 k s2 s3 s4=some p1∧J [0,4,5,10,11] 3 [(12,(j64 s4))] [(1,.var (aC.enc s2)),(2,.var (aC.enc s3))] []) N (fun _ h=>⟨_,_,_,h,jr⟩) (fun p1 k s hI=>?_) fun p1=>?_
 ·obtain ⟨s2,s3,s4,h,hj⟩:=hI
  cases k with
  | zero=>cases h
  | succ k=>
   refine At.jr hj ?_ h
   refine lx ?_;intro x5
   refine At.c 1 ?_ ?_
   ·refine At.J 0 2 [0,4,5,10,11,12] 3 (fun p6=>([],[(1,.var (aC.enc p6.1)),(2,.var (aC.enc p6.2.1))],[.var (aC.enc p6.2.2.1),.var (aC.enc p6.2.2.2)])) (fun p6=>?_) fun p6=>?_
    ·refine At.b 1 (fun _ e=>kL hT (id:=0) (k:=1) e (by kernel_rfl) (by kernel_rfl)) fun u7=>?_
     refine At.b 0 (fun _ e=>oQ hT j64 [] e rfl (by kernel_rfl) (by kernel_rfl)) fun e8=>?_
     refine At.b 4 (fun _ e=>bF hT aF.enc e) fun e9=>?_
     refine At.b 1 (fun _ e=>zI hT (N:=9) (k:=3) aC.enc e9.gP e) fun s10=>?_
     refine At.b 0 (fun _ e=>aM [] (sF e)) fun r11=>?_
     refine At.c 9 ?_ ?_
     ·refine At.d 0 dE0 dF0 ?_
      apply rt;exact At.jn 0
     ·refine At.o 2 (bQ hT (x:=(.sl 3 2 [(aC.enc s2),(aC.enc r11.1)]))) ?_
      refine At.b 0 (fun _ e=>aM [] (sF e)) fun r12=>?_
      refine At.o 6 (bQ hT (x:=(.sl 3 2 [(aC.enc s3),(aC.enc r11.2)]))) ?_
      refine At.b 0 (fun _ e=>aM [] (sF e)) fun r13=>?_
      apply rt;exact At.jn 4
    ·exact fun h=>At.k 2 ⟨_,_,_,h,jr⟩
   ·apply rt;exact At.x 0
 ·refine At.d 0 dE0 dF0 ?_
  apply rt;exact At.r 0
def aJU : Nat→Bool:=imL [1]
def jE (N:Nat) (a0:aF):Option (aC):=
 Option.bind (vU a0.gP.toList 0 3) fun s1=>
 Option.bind (nL N s1) fun r2=>
 aT (I64 (r2.1.gX+r2.2.gX)) fun x3=>
 aT (I64 (r2.1.gY+r2.2.gY)) fun x4=>
 aT (I64 (r2.1.gZ+r2.2.gZ)) fun x5=>
 some (aC.mk ((I64 (r2.1.gX+r2.2.gX))) ((I64 (r2.1.gY+r2.2.gY))) ((I64 (r2.1.gZ+r2.2.gZ))))
theorem uO {N a0 r} (h:jE N a0=some r):FnM Tryz.prog 301 [] [(aF.enc a0)] (aC.enc r) []:=by
 unfold jE at h
 refine At.f aJU hT hmo Tryz.func301 rfl h ?_
 refine At.b 3 (fun _ e=>zI hT (N:=9) (k:=3) aC.enc a0.gP e) fun s1=>?_
 refine At.b 0 (fun _ e=>aM [] (sF e)) fun r2=>?_
 refine lx ?_;intro x3
 refine lx ?_;intro x4
 refine lx ?_;intro x5
 apply rt;exact At.r 24
def aL1 : Nat→Bool:=imL [2]
def lO (N:Nat) (a0:aC) (a1:Int):Option (Int):=
 Option.bind (idx (#v[a0.gX,a0.gY,a0.gZ]).toList a1) fun e1=>
 some e1
theorem nI {N a0 a1 r} (h:lO N a0 a1=some r):FnM Tryz.prog 302 [] [(aC.enc a0),(j64 a1)] (j64 r) []:=by
 unfold lO at h
 refine At.f aL1 hT hmo Tryz.func302 rfl h ?_
 refine At.b 10 (fun _ e=>aAc hT j64 (#v[a0.gX,a0.gY,a0.gZ]) e (by kernel_rfl) (by kernel_rfl)) fun e1=>?_
 apply rt;exact At.r 1
def pB (N:Nat) (a0 a1:Int) (a2:(List aF)) (a3:Int):Option (Int):=
 Option.bind (idx a2 a0) fun e1=>
 Option.bind (jE N e1) fun r2=>
 Option.bind (lO N r2 a3) fun r3=>
 Option.bind (idx a2 a1) fun e4=>
 Option.bind (jE N e4) fun r5=>
 Option.bind (lO N r5 a3) fun r6=>
 some (I64 (r3 - r6))
theorem aDS {N a0 a1 a2 a3 r} (h:pB N a0 a1 a2 a3=some r):FnM Tryz.prog 304 [.var (j64 a3)] [(j64 a0),(j64 a1),(.im (eL 19 aF.enc a2)),(.ref 0 [] 0)] (j64 r) [.var (j64 a3)]:=by
 unfold pB at h
 refine At.f cQ hT hmo Tryz.func304 rfl h ?_
 refine bi fun e1 he1=>?_
 refine bi fun r2 hr2=>?_
 refine bi fun r3 hr3=>?_
 refine bi fun e4 he4=>?_
 refine bi fun r5 hr5=>?_
 refine bi fun r6 hr6=>?_
 refine At.d 1 (dE1 2 (fun _=>bF hT aF.enc he1) (dE2 4 (aC.enc r2) (fun _=>aO (uO hr2)) (dE2 6 (j64 r3) (fun _=>aO (nI hr3)) (dE1 9 (fun _=>bF hT aF.enc he4) (dE2 11 (aC.enc r5) (fun _=>aO (uO hr5)) (dE2 13 (j64 r6) (fun _=>aO (nI hr6)) dE0)))))) dF0 ?_
 apply rt;exact At.r 0
def bL (N:Nat) (a3:Int) (a1:Nat) (a5:(List aF)) (a6:Int):Nat→(List Int)→Nat→Int→Option ((List Int)×Nat)
 | 0,_,_,_=>none
 | k+1,s6,s7,s8=>
  Option.bind (cond (decide (s8 > a3)) (
   Option.bind (yR s6.length a1 s7 s8) fun _=>
   Option.bind (s6[(zF a1 s8.toNat)]?) fun e11=>
   Option.bind (yR s6.length a1 s7 (I64 (s8 - 1))) fun _=>
   Option.bind (s6[(zF a1 ((I64 (s8 - 1)).toNat))]?) fun e13=>
   Option.bind (pB N e11 e13 a5 a6) fun r14=>
   some (decide (r14 < 0))) (
   some false)) fun p9=>
  cond p9 (
   Option.bind (yR s6.length a1 s7 (I64 (s8 - 1))) fun _=>
   Option.bind (s6[(zF a1 ((I64 (s8 - 1)).toNat))]?) fun e16=>
   Option.bind (yR s6.length a1 s7 s8) fun _=>
   Option.bind (s6[(zF a1 s8.toNat)]?) fun e18=>
   Option.bind (yR s6.length a1 s7 s8) fun _=>
   Option.bind (aGZ s6 ((zF a1 s8.toNat)) e16) fun z20=>
   Option.bind (yR s6.length a1 s7 (I64 (s8 - 1))) fun _=>
   Option.bind (aGZ z20 ((zF a1 ((I64 (s8 - 1)).toNat))) e18) fun z22=>
   bL N a3 a1 a5 a6 k z22 s7 (I64 (s8 - 1))) (
   some ((s6,s7)))
def bW (N:Nat) (a4 a3:Int) (a1:Nat) (a5:(List aF)) (a6:Int):Nat→(List Int)→Nat→Int→Option ((List Int))
 | 0,_,_,_=>none
 | k+1,s2,s3,s4=>
  cond (decide (s4 < a4)) (
   Option.bind (bL N a3 a1 a5 a6 N s2 s3 s4) fun p5=>
   bW N a4 a3 a1 a5 a6 k p5.1 p5.2 (I64 (s4+1))) (
   some s2)
def bI (N:Nat) (b0:(List Int)) (a1 a2:Nat) (a3 a4:Int) (a5:(List aF)) (a6:Int):Option ((List Int)):=
 Option.bind (bW N a4 a3 a1 a5 a6 N b0 a2 (I64 (a3+1))) fun p1=>
 some p1
theorem jB {N b0 a1 a2 a3 a4 a5 a6 r} (h:bI N b0 a1 a2 a3 a4 a5 a6=some r):FnM Tryz.prog 340 [.gro 1 (List.map j64 b0),.var (j64 a6)] [(.gro 0 1 b0.length (.sub a1 a2)),(j64 a3),(j64 a4),(.fn (.func 304) [] [(.im (eL 19 aF.enc a5)),(.ref 1 [] 0)])] (.tup []) [.gro 1 (List.map j64 r),.var (j64 a6)]:=by
 unfold bI at h
 refine At.f cQ hT hmo Tryz.func340 rfl h ?_
 refine At.L 3 [] 2 (fun p1=>([],[(0,.gro 1 (List.map j64 p1))],[])) (fun p1 J k=>∃ s2 s3 s4,bW N a4 a3 a1 a5 a6 k s2 s3 s4=some p1∧J [1,2,3] 2 [(0,(.gro 0 1 s2.length (.sub a1 s3))),(8,(j64 s4))] [(0,.gro 1 (List.map j64 s2))] []) N (fun _ h=>⟨_,_,_,h,jr⟩) (fun p1 k s hI=>?_) fun p1=>?_
 ·obtain ⟨s2,s3,s4,h,hj⟩:=hI
  cases k with
  | zero=>cases h
  | succ k=>
   refine At.jr hj ?_ h
   refine At.c 3 ?_ ?_
   ·refine At.L 2 [1,2,3,8] 2 (fun p5=>([(0,(.gro 0 1 p5.1.length (.sub a1 p5.2)))],[(0,.gro 1 (List.map j64 p5.1))],[])) (fun p5 J k=>∃ s6 s7 s8,bL N a3 a1 a5 a6 k s6 s7 s8=some p5∧J [1,2,3,8] 2 [(0,(.gro 0 1 s6.length (.sub a1 s7))),(9,(j64 s8))] [(0,.gro 1 (List.map j64 s6))] []) N (fun _ h=>⟨_,_,_,h,jr⟩) (fun p5 k s hI=>?_) fun p5=>?_
    ·obtain ⟨s6,s7,s8,h,hj⟩:=hI
     cases k with
     | zero=>cases h
     | succ k=>
      refine At.jr hj ?_ h
      refine At.J 0 0 [0,1,2,3,8,9] 2 (fun p9=>([(34,(eB p9))],[],[])) (fun p9=>?_) fun p9=>?_
      ·refine boI (fun hc3=>?_) (fun hc3=>?_)
       ·refine bi fun u10 hu10=>?_
        refine bi fun e11 he11=>?_
        refine bi fun u12 hu12=>?_
        refine bi fun e13 he13=>?_
        refine bi fun r14 hr14=>?_
        refine At.d 0 (dE1 3 (fun _=>cD hc3 rfl (bY hT (im:=false) (by kernel_rfl))) (dE1 7 (fun _=>kL hT (id:=0) (k:=1) hu10 (by kernel_rfl) (by kernel_rfl)) (dET 8 (j64 e11) [[.gro 1 (List.map j64 s6),.var (j64 a6)]] ⟨bG (oQ hT j64 [] he11 rfl (by kernel_rfl) (by kernel_rfl)),trivial⟩ (dE1 12 (fun _=>kL hT (id:=0) (k:=1) hu12 (by kernel_rfl) (by kernel_rfl)) (dET 13 (j64 e13) [[.gro 1 (List.map j64 s6),.var (j64 a6)]] ⟨bG (oQ hT j64 [] he13 rfl (by kernel_rfl) (by kernel_rfl)),trivial⟩ dE0))))) (dF 14 (j64 r14) [] [] (bG (aM [1] (aDS hr14))) dF0) ?_
        apply rt;exact At.jn 0
       ·refine At.d 0 (dE1 3 (fun _=>cD hc3 rfl (bY hT (im:=false) (by kernel_rfl))) dE0) dF0 ?_
        apply rt;exact At.jn 0
      ·refine At.c 0 ?_ ?_
       ·refine bi fun u15 hu15=>?_
        refine bi fun e16 he16=>?_
        refine bi fun u17 hu17=>?_
        refine bi fun e18 he18=>?_
        refine bi fun u19 hu19=>?_
        refine bi fun z20 hz20=>?_
        refine bi fun u21 hu21=>?_
        refine bi fun z22 hz22=>?_
        refine At.d 0 (dE1 8 (fun _=>kL hT (id:=0) (k:=1) hu15 (by kernel_rfl) (by kernel_rfl)) (dET 9 (j64 e16) [[.gro 1 (List.map j64 s6),.var (j64 a6)]] ⟨bG (oQ hT j64 [] he16 rfl (by kernel_rfl) (by kernel_rfl)),trivial⟩ (dE1 12 (fun _=>kL hT (id:=0) (k:=1) hu17 (by kernel_rfl) (by kernel_rfl)) (dET 13 (j64 e18) [[.gro 1 (List.map j64 s6),.var (j64 a6)]] ⟨bG (oQ hT j64 [] he18 rfl (by kernel_rfl) (by kernel_rfl)),trivial⟩ (dE1 14 (fun _=>kL hT (id:=0) (k:=1) hu19 (by kernel_rfl) (by kernel_rfl)) (dE1 16 (fun _=>kL hT (id:=0) (k:=1) hu21 (by kernel_rfl) (by kernel_rfl)) dE0)))))) (dF 15 (.v (.bool false)) [(0,.gro 1 (List.map j64 z20))] [] (bG (aCJ hT j64 (k:=1) e16 hz20 rfl (by kernel_rfl) (fun _=>by kernel_rfl) (by kernel_rfl) (H':=[.gro 1 (List.map j64 z20),.var (j64 a6)]) (by kernel_rfl))) (dF 17 (.v (.bool false)) [(0,.gro 1 (List.map j64 z22))] [] (bG (aCJ hT j64 (k:=1) e18 hz22 ((aCc hz20).2.2).symm (by kernel_rfl) (fun _=>by kernel_rfl) (by kernel_rfl) (H':=[.gro 1 (List.map j64 z22),.var (j64 a6)]) (by kernel_rfl))) dF0)) ?_
        refine At.gl 0 [0] [] 0 s6.length z22.length (((aCc hz22).2.2).trans ((aCc hz20).2.2)) ?_
        exact fun h=>At.k 3 ⟨_,_,_,h,jr⟩
       ·apply rt;exact At.x 0
    ·exact fun h=>At.k 3 ⟨_,_,_,h,jr⟩
   ·apply rt;exact At.x 0
 ·apply rt;exact At.z 0
def bX (N:Nat) (a3:Int) (a1:Nat) (a4:(List aF)) (a5:Int):Nat→(List Int)→Nat→Int→Int→Option ((List Int)×Nat×Int)
 | 0,_,_,_,_=>none
 | k+1,s2,s3,s4,s5=>
  cond (decide (s5≤a3)) (
   Option.bind (bI N s2 a1 s3 s4 s5 a4 a5) fun r6=>
   Option.bind (aAA r6 s2.length) fun _=>
   bX N a3 a1 a4 a5 k r6 s3 s5 (I64 (s5+20))) (
   some ((s2,s3,s4)))
def fN (N:Nat) (s11 a3:Int):Nat→Option (Unit)
 | 0=>none
 | k+1=>
  aT (decide ((I64 (2*s11))≤a3)) fun x13=>
  cond x13 (none) (some (()))
def cP (N:Nat) (a3:Int):Nat→Int→Option (Unit)
 | 0,_=>none
 | k+1,s11=>
  cond (decide (s11 < a3)) (
   Option.bind (fN N s11 a3 N ) fun p12=>
   Option.bind (aT (decide ((I64 (0+s11)) < a3)) fun x15=>
   cond x15 (none) (some (()))) fun p14=>
   cP N a3 k (I64 (s11*2))) (
   some (()))
def eJ (N:Nat) (b0:(List Int)) (a1 a2:Nat) (a3:Int) (a4:(List aF)) (a5:Int):Option ((List Int)):=
 Option.bind (bX N a3 a1 a4 a5 N b0 a2 0 20) fun p1=>
 Option.bind (bI N p1.1 a1 p1.2.1 p1.2.2 a3 a4 a5) fun r8=>
 Option.bind (aAA r8 p1.1.length) fun _=>
 Option.bind (cP N a3 N 20) fun p10=>
 some r8
theorem rX {N b0 a1 a2 a3 a4 a5 r} (h:eJ N b0 a1 a2 a3 a4 a5=some r):FnM Tryz.prog 327 [.gro 1 (List.map j64 b0),.var (j64 a5)] [(.gro 0 1 b0.length (.sub a1 a2)),(j64 a3),(.fn (.func 304) [] [(.im (eL 19 aF.enc a4)),(.ref 1 [] 0)])] (.tup []) [.gro 1 (List.map j64 r),.var (j64 a5)]:=by
 unfold eJ at h
 refine At.f cQ hT hmo Tryz.func327 rfl h ?_
 refine At.L 4 [1,2,6] 2 (fun p1=>([(0,(.gro 0 1 p1.1.length (.sub a1 p1.2.1))),(7,(j64 p1.2.2))],[(0,.gro 1 (List.map j64 p1.1))],[])) (fun p1 J k=>∃ s2 s3 s4 s5,bX N a3 a1 a4 a5 k s2 s3 s4 s5=some p1∧J [1,2,6] 2 [(0,(.gro 0 1 s2.length (.sub a1 s3))),(7,(j64 s4)),(8,(j64 s5))] [(0,.gro 1 (List.map j64 s2))] []) N (fun _ h=>⟨_,_,_,_,h,jr⟩) (fun p1 k s hI=>?_) fun p1=>?_
 ·obtain ⟨s2,s3,s4,s5,h,hj⟩:=hI
  cases k with
  | zero=>cases h
  | succ k=>
   refine At.jr hj ?_ h
   refine At.c 3 ?_ ?_
   ·refine bi fun r6 hr6=>?_
    refine bi fun u7 hu7=>?_
    refine At.o 4 (aM [0,1] (jB hr6)) ?_
    refine At.gl 0 [0] [] 0 s2.length r6.length (aCf hu7) ?_
    exact fun h=>At.k 6 ⟨_,_,_,_,h,jr⟩
   ·apply rt;exact At.x 0
 ·refine bi fun r8 hr8=>?_
  refine bi fun u9 hu9=>?_
  refine At.o 4 (aM [0,1] (jB hr8)) ?_
  refine At.gl 0 [0] [] 0 p1.1.length r8.length (aCf hu9) ?_
  refine At.L 0 [] 2 (fun p10=>([],[],[])) (fun p10 J k=>∃ s11,cP N a3 k s11=some p10∧J [0,1,2] 2 [(6,(j64 s11))] [] []) N (fun _ h=>⟨_,h,jr⟩) (fun p10 k s hI=>?_) fun p10=>?_
  ·obtain ⟨s11,h,hj⟩:=hI
   cases k with
   | zero=>cases h
   | succ k=>
    refine At.jr hj ?_ h
    refine At.c 3 ?_ ?_
    ·refine At.L 4 [0,1,2,6,7] 2 (fun p12=>([],[],[])) (fun p12 J k=>fN N s11 a3 k  = some p12∧J [0,1,2,6,7,8] 2 [] [] []) N (fun _ h=>⟨h,jr⟩) (fun p12 k s hI=>?_) fun p12=>?_
     ·obtain ⟨h,hj⟩:=hI
      cases k with
      | zero=>cases h
      | succ k=>
       unfold fN at h
       dsimp only at h
       refine At.jr hj ?_ h
       refine lx ?_;intro x13
       refine At.c 3 ?_ ?_
       ·exact nn
       ·apply rt;exact At.x 0
     ·refine At.J 0 1 [0,1,2,6] 2 (fun p14=>([],[],[])) (fun p14=>?_) fun p14=>?_
      ·refine lx ?_;intro x15
       refine At.c 7 ?_ ?_
       ·exact nn
       ·apply rt;exact At.jn 0
      ·exact fun h=>At.k 3 ⟨_,h,jr⟩
    ·apply rt;exact At.x 0
  ·apply rt;exact At.z 0
def cJ (N:Nat) (b0:(List Int)) (a1 a2:Nat) (a3:(List aF)) (a4:Int):Option ((List Int)):=
 Option.bind (eJ N b0 a1 a2 ((a2:Int)) a3 a4) fun r1=>
 some r1
theorem qC {N b0 a1 a2 a3 a4 r} (h:cJ N b0 a1 a2 a3 a4=some r):FnM Tryz.prog 303 [.gro 1 (List.map j64 b0),.var (j64 a4)] [(.gro 0 1 b0.length (.sub a1 a2)),(.fn (.func 304) [] [(.im (eL 19 aF.enc a3)),(.ref 1 [] 0)])] (.tup []) [.gro 1 (List.map j64 r),.var (j64 a4)]:=by
 unfold cJ at h
 refine At.f cQ hT hmo Tryz.func303 rfl h ?_
 refine At.b 4 (fun _ e=>aM [0,1] (rX e)) fun r1=>?_
 apply rt;exact At.z 0
def vH (N:Nat) (a0 a1 a2:Int):Option (Int):=
 aT (I64 ((I64 (a0 - a1))*8)) fun x1=>
 Option.bind (aHo .i64 x1 (I64 (a2 - a1))) fun x2=>
 some (fD x2 7)
theorem aGX {N a0 a1 a2 r} (h:vH N a0 a1 a2=some r):FnM Tryz.prog 307 [] [(j64 a0),(j64 a1),(j64 a2)] (j64 r) []:=by
 unfold vH at h
 refine At.f cQ hT hmo Tryz.func307 rfl h ?_
 refine lx ?_;intro x1
 refine At.b 8 (fun _ e=>aCo hT e (by kernel_rfl) (by kernel_rfl)) fun x2=>?_
 apply rt;exact At.r 2
def aHW : Nat→Bool:=imL [4]
def nP (N:Nat) (a0:bE) (a1:Int) (a2 a3:aC):Option (bE):=
 cond (a1==0) (
  some a0) (
  Option.bind (cond (decide (a0.gn > 0)) (
   Option.bind (nL N ([a0.glo,a2])) fun r2=>
   Option.bind (nL N ([a0.ghi,a3])) fun r3=>
   some ((r2.1,r3.2))) (
   some ((a2,a3)))) fun p1=>
  some (bE.mk (I64 (a0.gn+a1)) p1.1 p1.2))
theorem yF {N a0 a1 a2 a3 r} (h:nP N a0 a1 a2 a3=some r):FnM Tryz.prog 328 [] [(bE.enc a0),(j64 a1),(aC.enc a2),(aC.enc a3)] (bE.enc r) []:=by
 unfold nP at h
 refine At.f aHW hT hmo Tryz.func328 rfl h ?_
 refine At.c 6 ?_ ?_
 ·apply rt;exact At.r 2
 ·refine At.J 0 1 [1,4,6,7,8] 3 (fun p1=>([],[(0,.var (aC.enc p1.1)),(1,.var (aC.enc p1.2))],[])) (fun p1=>?_) fun p1=>?_
  ·refine At.c 3 ?_ ?_
   ·refine At.o 3 (bQ hT (x:=(.sl 3 2 [(aC.enc a0.glo),(aC.enc a2)]))) ?_
    refine At.b 0 (fun _ e=>aM [] (sF e)) fun r2=>?_
    refine At.o 7 (bQ hT (x:=(.sl 3 2 [(aC.enc a0.ghi),(aC.enc a3)]))) ?_
    refine At.b 0 (fun _ e=>aM [] (sF e)) fun r3=>?_
    apply rt;exact At.jn 4
   ·apply rt;exact At.jn 0
  ·apply rt;exact At.r 8
def aLv : Nat→Bool:=imL [2,3]
def aBb (N:Nat) (a0 a1:aC):Option (Int):=
 aT (shr .i64 (I64 (a1.gX - a0.gX)) 10) fun x1=>
 aT (shr .i64 (I64 (a1.gY - a0.gY)) 10) fun x2=>
 aT (shr .i64 (I64 (a1.gZ - a0.gZ)) 10) fun x3=>
 aT (I64 ((I64 (x1+1))*(I64 (x2+1)))) fun x4=>
 aT (I64 ((I64 (x2+1))*(I64 (x3+1)))) fun x5=>
 aT (I64 ((I64 (x3+1))*(I64 (x1+1)))) fun x6=>
 aT (I64 ((I64 (x4+x5))+x6)) fun x7=>
 some x7
theorem aJ9 {N a0 a1 r} (h:aBb N a0 a1=some r):FnM Tryz.prog 342 [] [(aC.enc a0),(aC.enc a1)] (j64 r) []:=by
 unfold aBb at h
 refine At.f aLv hT hmo Tryz.func342 rfl h ?_
 refine lx ?_;intro x1
 refine lx ?_;intro x2
 refine lx ?_;intro x3
 refine At.d 3 dE0 dF0 ?_
 refine lx ?_;intro x4
 refine lx ?_;intro x5
 refine lx ?_;intro x6
 refine lx ?_;intro x7
 apply rt;exact At.r 12
def aFj : Nat→Bool:=imL [1]
def oE (N:Nat) (a0:bE):Option (Int):=
 cond (a0.gn==0) (
  some 1152921504606846976) (
  Option.bind (aBb N a0.glo a0.ghi) fun r1=>
  some (I64 (a0.gn*r1)))
theorem aBK {N a0 r} (h:oE N a0=some r):FnM Tryz.prog 329 [] [(bE.enc a0)] (j64 r) []:=by
 unfold oE at h
 refine At.f aFj hT hmo Tryz.func329 rfl h ?_
 refine At.c 5 ?_ ?_
 ·apply rt;exact At.r 1
 ·refine bi fun r1 hr1=>?_
  refine At.d 0 (dE2 6 (j64 r1) (fun _=>aO (aJ9 hr1)) dE0) dF0 ?_
  apply rt;exact At.r 0
def lL (N a3:Nat) (b0:(List Int)) (a2:Nat) (a1:(List aF)) (a4 a5 a6:Int):Nat→(Vector bE 8)→Int→Option ((Vector bE 8))
 | 0,_,_=>none
 | k+1,s2,s3=>
  aT (decide (s3 < ((a3:Int)))) fun x4=>
  cond x4 (
   Option.bind (yR b0.length a2 a3 s3) fun _=>
   Option.bind (b0[(zF a2 s3.toNat)]?) fun e6=>
   Option.bind (idx a1 e6) fun e7=>
   Option.bind (vU e7.gP.toList 0 3) fun s8=>
   Option.bind (nL N s8) fun r9=>
   Option.bind (idx a1 e6) fun e10=>
   Option.bind (jE N e10) fun r11=>
   Option.bind (lO N r11 a4) fun r12=>
   Option.bind (vH N r12 a5 a6) fun r13=>
   Option.bind (eY r13 8) fun _=>
   Option.bind (s2.toList[r13.toNat]?) fun e15=>
   Option.bind (nP N e15 1 r9.1 r9.2) fun r16=>
   Option.bind (eY r13 8) fun _=>
   Option.bind (s2.toList[r13.toNat]?) fun e18=>
   lL N a3 b0 a2 a1 a4 a5 a6 k (s2.setIfInBounds r13.toNat r16) (I64 (s3+1))) (
   some s2)
def lF (N:Nat) (p1:(Vector bE 8)) (s22:Int):Nat→bE→bE→Int→Option (bE×bE)
 | 0,_,_,_=>none
 | k+1,s25,s26,s27=>
  cond (decide (s27 < 8)) (
   Option.bind (Option.bind (idx p1.toList s27) fun e29=>
   cond (decide (s27 < s22)) (
    Option.bind (nP N s25 e29.gn e29.glo e29.ghi) fun r30=>
    some ((r30,s26,e29))) (
    Option.bind (nP N s26 e29.gn e29.glo e29.ghi) fun r31=>
    some ((s25,r31,e29)))) fun p28=>
   lF N p1 s22 k p28.1 p28.2.1 (I64 (s27+1))) (
   some ((s25,s26)))
def nZ (N:Nat) (p1:(Vector bE 8)):Nat→Int→Int→Int→Option (Int)
 | 0,_,_,_=>none
 | k+1,s20,s21,s22=>
  cond (decide (s22 < 8)) (
   Option.bind (Option.bind (lF N p1 s22 N (bE.mk 0 (aC.mk 0 0 0) (aC.mk 0 0 0)) (bE.mk 0 (aC.mk 0 0 0) (aC.mk 0 0 0)) 0) fun p24=>
   Option.bind (oE N p24.1) fun r32=>
   aT (fD r32 576460752303423488) fun x33=>
   Option.bind (oE N p24.2) fun r34=>
   aT (fD r34 576460752303423488) fun x35=>
   aT (cond (decide (p24.1.gn > 0)) (decide (p24.2.gn > 0)) false) fun x36=>
   aT (decide ((I64 (x33+x35)) < s20)) fun x37=>
   cond (cond x36 x37 false) (
    some ((p24.1,p24.2,I64 (x33+x35),s22))) (
    some ((p24.1,p24.2,s20,s21)))) fun p23=>
   nZ N p1 k p23.2.2.1 p23.2.2.2 (I64 (s22+1))) (
   some s21)
def rC (N:Nat) (b0:(List Int)) (a1:(List aF)) (a2 a3:Nat) (a4 a5 a6:Int):Option (Int):=
 Option.bind (lL N a3 b0 a2 a1 a4 a5 a6 N (Vector.replicate 8 (bE.mk 0 (aC.mk 0 0 0) (aC.mk 0 0 0))) 0) fun p1=>
 Option.bind (nZ N p1 N 2305843009213693952 1 1) fun p19=>
 some p19
theorem aEw {N b0 a1 a2 a3 a4 a5 a6 r} (h:rC N b0 a1 a2 a3 a4 a5 a6=some r):FnM Tryz.prog 305 [.gro 1 (List.map j64 b0)] [(eL 19 aF.enc a1),(.gro 0 1 b0.length (.sub a2 a3)),(j64 a4),(j64 a5),(j64 a6)] (j64 r) [.gro 1 (List.map j64 b0)]:=by
 unfold rC at h
 refine At.f cQ hT hmo Tryz.func305 rfl h ?_
 refine At.L 5 [11] 2 (fun p1=>([],[(1,.var (eA 56 7 bE.enc p1))],[])) (fun p1 J k=>∃ s2 s3,lL N a3 b0 a2 a1 a4 a5 a6 k s2 s3=some p1∧J [0,2,3,4,11,25,26] 2 [(27,(j64 s3))] [(1,.var (eA 56 7 bE.enc s2))] []) N (fun _ h=>⟨_,_,h,jr⟩) (fun p1 k s hI=>?_) fun p1=>?_
 ·obtain ⟨s2,s3,h,hj⟩:=hI
  cases k with
  | zero=>cases h
  | succ k=>
   refine At.jr hj ?_ h
   refine lx ?_;intro x4
   refine At.c 1 ?_ ?_
   ·refine At.b 0 (fun _ e=>kL hT (id:=0) (k:=1) e (by kernel_rfl) (by kernel_rfl)) fun u5=>?_
    refine At.b 0 (fun _ e=>oQ hT j64 [] e rfl (by kernel_rfl) (by kernel_rfl)) fun e6=>?_
    refine At.b 3 (fun _ e=>bF hT aF.enc e) fun e7=>?_
    refine At.b 1 (fun _ e=>zI hT (N:=9) (k:=3) aC.enc e7.gP e) fun s8=>?_
    refine At.b 0 (fun _ e=>aM [] (sF e)) fun r9=>?_
    refine At.b 9 (fun _ e=>bF hT aF.enc e) fun e10=>?_
    refine At.b 1 (fun _ e=>aM [] (uO e)) fun r11=>?_
    refine At.b 1 (fun _ e=>aM [] (nI e)) fun r12=>?_
    refine At.b 2 (fun _ e=>aM [] (aGX e)) fun r13=>?_
    refine bi fun u14 hu14=>?_
    refine bi fun e15 he15=>?_
    refine bi fun r16 hr16=>?_
    refine bi fun u17 hu17=>?_
    refine bi fun e18 he18=>?_
    refine At.d 1 (dE1 2 (fun _=>bH hT (k:=7) 1 [] 0 hu14) (dEL hT 3 (bE.enc e15) bE.enc 0 he15 (dE2 6 (bE.enc r16) (fun _=>aO (yF hr16)) (dE1 7 (fun _=>bH hT (k:=7) 1 [] 0 hu17) dE0)))) (dF 8 (.v (.bool false)) [(1,.var (eA 56 7 bE.enc (s2.setIfInBounds r13.toNat r16)))] [] (bG (oA hT bE.enc 0 s2 he18 r16 (by kernel_rfl) (by kernel_rfl) (H':=[.gro 1 (List.map j64 b0),.var (eA 56 7 bE.enc (s2.setIfInBounds r13.toNat r16)),.var (aC.enc r9.1),.var (aC.enc r9.2)]))) dF0) ?_
    exact fun h=>At.k 2 ⟨_,_,h,jr⟩
   ·apply rt;exact At.x 0
 ·refine At.L 3 [] 2 (fun p19=>([(18,(j64 p19))],[],[])) (fun p19 J k=>∃ s20 s21 s22,nZ N p1 k s20 s21 s22=some p19∧J [11] 2 [(17,(j64 s20)),(18,(j64 s21)),(19,(j64 s22))] [] []) N (fun _ h=>⟨_,_,_,h,jr⟩) (fun p19 k s hI=>?_) fun p19=>?_
  ·obtain ⟨s20,s21,s22,h,hj⟩:=hI
   cases k with
   | zero=>cases h
   | succ k=>
    refine At.jr hj ?_ h
    refine At.c 2 ?_ ?_
    ·refine At.J 0 2 [11,19] 2 (fun p23=>([(17,(j64 p23.2.2.1)),(18,(j64 p23.2.2.2))],[],[.var (bE.enc p23.1),.var (bE.enc p23.2.1)])) (fun p23=>?_) fun p23=>?_
     ·refine At.L 4 [11,17,18,19,20,21] 4 (fun p24=>([],[(2,.var (bE.enc p24.1)),(3,.var (bE.enc p24.2))],[])) (fun p24 J k=>∃ s25 s26 s27,lF N p1 s22 k s25 s26 s27=some p24∧J [11,17,18,19,20,21,63] 4 [(64,(j64 s27))] [(2,.var (bE.enc s25)),(3,.var (bE.enc s26))] []) N (fun _ h=>⟨_,_,_,h,jr⟩) (fun p24 k s hI=>?_) fun p24=>?_
      ·obtain ⟨s25,s26,s27,h,hj⟩:=hI
       cases k with
       | zero=>cases h
       | succ k=>
        refine At.jr hj ?_ h
        refine At.c 1 ?_ ?_
        ·refine At.J 0 2 [11,17,18,19,20,21,63,64] 4 (fun p28=>([],[(2,.var (bE.enc p28.1)),(3,.var (bE.enc p28.2.1))],[.var (bE.enc p28.2.2)])) (fun p28=>?_) fun p28=>?_
         ·refine At.b 1 (fun _ e=>aAc hT bE.enc p1 e (by kernel_rfl) (by kernel_rfl)) fun e29=>?_
          refine At.c 6 ?_ ?_
          ·refine At.b 7 (fun _ e=>aM [] (yF e)) fun r30=>?_
           apply rt;exact At.jn 1
          ·refine At.b 7 (fun _ e=>aM [] (yF e)) fun r31=>?_
           apply rt;exact At.jn 1
         ·exact fun h=>At.k 2 ⟨_,_,_,h,jr⟩
        ·apply rt;exact At.x 0
      ·refine bi fun r32 hr32=>?_
       refine lx ?_;intro x33
       refine bi fun r34 hr34=>?_
       refine lx ?_;intro x35
       refine At.d 0 (dE2 1 (j64 r32) (fun _=>aO (aBK hr32)) (dE2 4 (j64 r34) (fun _=>aO (aBK hr34)) dE0)) dF0 ?_
       refine lx ?_;intro x36
       refine lx ?_;intro x37
       refine At.c 13 ?_ ?_
       ·apply rt;exact At.jn 4
       ·apply rt;exact At.jn 0
     ·exact fun h=>At.k 3 ⟨_,_,_,h,jr⟩
    ·apply rt;exact At.x 0
  ·apply rt;exact At.r 2
def fU (N:Nat) (a0:Int) (a1:(List aF)) (a2 a3 a4 a5:Int):Option (Bool):=
 Option.bind (idx a1 a0) fun e1=>
 Option.bind (jE N e1) fun r2=>
 Option.bind (lO N r2 a5) fun r3=>
 Option.bind (vH N r3 a2 a3) fun r4=>
 some (decide (r4≥a4))
theorem oV {N a0 a1 a2 a3 a4 a5 r} (h:fU N a0 a1 a2 a3 a4 a5=some r):FnM Tryz.prog 306 [.var (j64 a5)] [(j64 a0),(.im (eL 19 aF.enc a1)),(.ref 0 [] 0),(.im (j64 a2)),(.im (j64 a3)),(.im (j64 a4))] (eB r) [.var (j64 a5)]:=by
 unfold fU at h
 refine At.f cQ hT hmo Tryz.func306 rfl h ?_
 refine bi fun e1 he1=>?_
 refine bi fun r2 hr2=>?_
 refine bi fun r3 hr3=>?_
 refine bi fun r4 hr4=>?_
 refine At.d 1 (dE1 2 (fun _=>bF hT aF.enc he1) (dE2 4 (aC.enc r2) (fun _=>aO (uO hr2)) (dE2 6 (j64 r3) (fun _=>aO (nI hr3)) (dE2 9 (j64 r4) (fun _=>aO (aGX hr4)) dE0)))) dF0 ?_
 apply rt;exact At.r 0
def qE (N:Nat) (a0 a1:Int) (a2:(List aF)) (a3 a4 a5 a6:Int):Option (Int):=
 Option.bind (fU N a0 a2 a3 a4 a5 a6) fun r1=>
 Option.bind (fU N a1 a2 a3 a4 a5 a6) fun r2=>
 cond (r1==r2) (
  some 0) (
  Option.bind (fU N a1 a2 a3 a4 a5 a6) fun r3=>
  cond r3 (some (-1)) (some 1))
theorem aEM {N a0 a1 a2 a3 a4 a5 a6 r} (h:qE N a0 a1 a2 a3 a4 a5 a6=some r):FnM Tryz.prog 308 [.var (.fn (.func 306) [] [(.im (eL 19 aF.enc a2)),(.ref 1 [] 0),(.im (j64 a3)),(.im (j64 a4)),(.im (j64 a5))]),.var (j64 a6)] [(j64 a0),(j64 a1),(.ref 0 [] 0)] (j64 r) [.var (.fn (.func 306) [] [(.im (eL 19 aF.enc a2)),(.ref 1 [] 0),(.im (j64 a3)),(.im (j64 a4)),(.im (j64 a5))]),.var (j64 a6)]:=by
 unfold qE at h
 refine At.f cQ hT hmo Tryz.func308 rfl h ?_
 refine bi fun r1 hr1=>?_
 refine bi fun r2 hr2=>?_
 refine At.d 1 dE0 (dF 2 (eB r1) [] [] (bG (aM [1] (oV hr1))) (dF 5 (eB r2) [] [] (bG (aM [1] (oV hr2))) dF0)) ?_
 refine At.c 0 ?_ ?_
 ·apply rt;exact At.r 1
 ·refine At.b 2 (fun _ e=>aM [1] (oV e)) fun r3=>?_
  refine At.c 1 ?_ ?_
  ·apply rt;exact At.r 1
  ·apply rt;exact At.r 1
def bM (N:Nat) (a3:Int) (a1:Nat) (a5:(List aF)) (a6 a7 a8 a9:Int):Nat→(List Int)→Nat→Int→Option ((List Int)×Nat)
 | 0,_,_,_=>none
 | k+1,s6,s7,s8=>
  Option.bind (cond (decide (s8 > a3)) (
   Option.bind (yR s6.length a1 s7 s8) fun _=>
   Option.bind (s6[(zF a1 s8.toNat)]?) fun e11=>
   Option.bind (yR s6.length a1 s7 (I64 (s8 - 1))) fun _=>
   Option.bind (s6[(zF a1 ((I64 (s8 - 1)).toNat))]?) fun e13=>
   Option.bind (qE N e11 e13 a5 a6 a7 a8 a9) fun r14=>
   some (decide (r14 < 0))) (
   some false)) fun p9=>
  cond p9 (
   Option.bind (yR s6.length a1 s7 (I64 (s8 - 1))) fun _=>
   Option.bind (s6[(zF a1 ((I64 (s8 - 1)).toNat))]?) fun e16=>
   Option.bind (yR s6.length a1 s7 s8) fun _=>
   Option.bind (s6[(zF a1 s8.toNat)]?) fun e18=>
   Option.bind (yR s6.length a1 s7 s8) fun _=>
   Option.bind (aGZ s6 ((zF a1 s8.toNat)) e16) fun z20=>
   Option.bind (yR s6.length a1 s7 (I64 (s8 - 1))) fun _=>
   Option.bind (aGZ z20 ((zF a1 ((I64 (s8 - 1)).toNat))) e18) fun z22=>
   bM N a3 a1 a5 a6 a7 a8 a9 k z22 s7 (I64 (s8 - 1))) (
   some ((s6,s7)))
def cA (N:Nat) (a4 a3:Int) (a1:Nat) (a5:(List aF)) (a6 a7 a8 a9:Int):Nat→(List Int)→Nat→Int→Option ((List Int))
 | 0,_,_,_=>none
 | k+1,s2,s3,s4=>
  cond (decide (s4 < a4)) (
   Option.bind (bM N a3 a1 a5 a6 a7 a8 a9 N s2 s3 s4) fun p5=>
   cA N a4 a3 a1 a5 a6 a7 a8 a9 k p5.1 p5.2 (I64 (s4+1))) (
   some s2)
def bJ (N:Nat) (b0:(List Int)) (a1 a2:Nat) (a3 a4:Int) (a5:(List aF)) (a6 a7 a8 a9:Int):Option ((List Int)):=
 Option.bind (cA N a4 a3 a1 a5 a6 a7 a8 a9 N b0 a2 (I64 (a3+1))) fun p1=>
 some p1
theorem jJ {N b0 a1 a2 a3 a4 a5 a6 a7 a8 a9 r} (h:bJ N b0 a1 a2 a3 a4 a5 a6 a7 a8 a9=some r):FnM Tryz.prog 340 [.gro 1 (List.map j64 b0),.var (.fn (.func 306) [] [(.im (eL 19 aF.enc a5)),(.ref 2 [] 0),(.im (j64 a6)),(.im (j64 a7)),(.im (j64 a8))]),.var (j64 a9)] [(.gro 0 1 b0.length (.sub a1 a2)),(j64 a3),(j64 a4),(.fn (.func 308) [] [(.ref 1 [] 0)])] (.tup []) [.gro 1 (List.map j64 r),.var (.fn (.func 306) [] [(.im (eL 19 aF.enc a5)),(.ref 2 [] 0),(.im (j64 a6)),(.im (j64 a7)),(.im (j64 a8))]),.var (j64 a9)]:=by
 unfold bJ at h
 refine At.f cQ hT hmo Tryz.func340 rfl h ?_
 refine At.L 3 [] 3 (fun p1=>([],[(0,.gro 1 (List.map j64 p1))],[])) (fun p1 J k=>∃ s2 s3 s4,cA N a4 a3 a1 a5 a6 a7 a8 a9 k s2 s3 s4=some p1∧J [1,2,3] 3 [(0,(.gro 0 1 s2.length (.sub a1 s3))),(8,(j64 s4))] [(0,.gro 1 (List.map j64 s2))] []) N (fun _ h=>⟨_,_,_,h,jr⟩) (fun p1 k s hI=>?_) fun p1=>?_
 ·obtain ⟨s2,s3,s4,h,hj⟩:=hI
  cases k with
  | zero=>cases h
  | succ k=>
   refine At.jr hj ?_ h
   refine At.c 3 ?_ ?_
   ·refine At.L 2 [1,2,3,8] 3 (fun p5=>([(0,(.gro 0 1 p5.1.length (.sub a1 p5.2)))],[(0,.gro 1 (List.map j64 p5.1))],[])) (fun p5 J k=>∃ s6 s7 s8,bM N a3 a1 a5 a6 a7 a8 a9 k s6 s7 s8=some p5∧J [1,2,3,8] 3 [(0,(.gro 0 1 s6.length (.sub a1 s7))),(9,(j64 s8))] [(0,.gro 1 (List.map j64 s6))] []) N (fun _ h=>⟨_,_,_,h,jr⟩) (fun p5 k s hI=>?_) fun p5=>?_
    ·obtain ⟨s6,s7,s8,h,hj⟩:=hI
     cases k with
     | zero=>cases h
     | succ k=>
      refine At.jr hj ?_ h
      refine At.J 0 0 [0,1,2,3,8,9] 3 (fun p9=>([(34,(eB p9))],[],[])) (fun p9=>?_) fun p9=>?_
      ·refine boI (fun hc3=>?_) (fun hc3=>?_)
       ·refine bi fun u10 hu10=>?_
        refine bi fun e11 he11=>?_
        refine bi fun u12 hu12=>?_
        refine bi fun e13 he13=>?_
        refine bi fun r14 hr14=>?_
        refine At.d 0 (dE1 3 (fun _=>cD hc3 rfl (bY hT (im:=false) (by kernel_rfl))) (dE1 7 (fun _=>kL hT (id:=0) (k:=1) hu10 (by kernel_rfl) (by kernel_rfl)) (dET 8 (j64 e11) [[.gro 1 (List.map j64 s6),.var (.fn (.func 306) [] [(.im (eL 19 aF.enc a5)),(.ref 2 [] 0),(.im (j64 a6)),(.im (j64 a7)),(.im (j64 a8))]),.var (j64 a9)]] ⟨bG (oQ hT j64 [] he11 rfl (by kernel_rfl) (by kernel_rfl)),trivial⟩ (dE1 12 (fun _=>kL hT (id:=0) (k:=1) hu12 (by kernel_rfl) (by kernel_rfl)) (dET 13 (j64 e13) [[.gro 1 (List.map j64 s6),.var (.fn (.func 306) [] [(.im (eL 19 aF.enc a5)),(.ref 2 [] 0),(.im (j64 a6)),(.im (j64 a7)),(.im (j64 a8))]),.var (j64 a9)]] ⟨bG (oQ hT j64 [] he13 rfl (by kernel_rfl) (by kernel_rfl)),trivial⟩ dE0))))) (dF 14 (j64 r14) [] [] (bG (aM [1,2] (aEM hr14))) dF0) ?_
        apply rt;exact At.jn 0
       ·refine At.d 0 (dE1 3 (fun _=>cD hc3 rfl (bY hT (im:=false) (by kernel_rfl))) dE0) dF0 ?_
        apply rt;exact At.jn 0
      ·refine At.c 0 ?_ ?_
       ·refine bi fun u15 hu15=>?_
        refine bi fun e16 he16=>?_
        refine bi fun u17 hu17=>?_
        refine bi fun e18 he18=>?_
        refine bi fun u19 hu19=>?_
        refine bi fun z20 hz20=>?_
        refine bi fun u21 hu21=>?_
        refine bi fun z22 hz22=>?_
        refine At.d 0 (dE1 8 (fun _=>kL hT (id:=0) (k:=1) hu15 (by kernel_rfl) (by kernel_rfl)) (dET 9 (j64 e16) [[.gro 1 (List.map j64 s6),.var (.fn (.func 306) [] [(.im (eL 19 aF.enc a5)),(.ref 2 [] 0),(.im (j64 a6)),(.im (j64 a7)),(.im (j64 a8))]),.var (j64 a9)]] ⟨bG (oQ hT j64 [] he16 rfl (by kernel_rfl) (by kernel_rfl)),trivial⟩ (dE1 12 (fun _=>kL hT (id:=0) (k:=1) hu17 (by kernel_rfl) (by kernel_rfl)) (dET 13 (j64 e18) [[.gro 1 (List.map j64 s6),.var (.fn (.func 306) [] [(.im (eL 19 aF.enc a5)),(.ref 2 [] 0),(.im (j64 a6)),(.im (j64 a7)),(.im (j64 a8))]),.var (j64 a9)]] ⟨bG (oQ hT j64 [] he18 rfl (by kernel_rfl) (by kernel_rfl)),trivial⟩ (dE1 14 (fun _=>kL hT (id:=0) (k:=1) hu19 (by kernel_rfl) (by kernel_rfl)) (dE1 16 (fun _=>kL hT (id:=0) (k:=1) hu21 (by kernel_rfl) (by kernel_rfl)) dE0)))))) (dF 15 (.v (.bool false)) [(0,.gro 1 (List.map j64 z20))] [] (bG (aCJ hT j64 (k:=1) e16 hz20 rfl (by kernel_rfl) (fun _=>by kernel_rfl) (by kernel_rfl) (H':=[.gro 1 (List.map j64 z20),.var (.fn (.func 306) [] [(.im (eL 19 aF.enc a5)),(.ref 2 [] 0),(.im (j64 a6)),(.im (j64 a7)),(.im (j64 a8))]),.var (j64 a9)]) (by kernel_rfl))) (dF 17 (.v (.bool false)) [(0,.gro 1 (List.map j64 z22))] [] (bG (aCJ hT j64 (k:=1) e18 hz22 ((aCc hz20).2.2).symm (by kernel_rfl) (fun _=>by kernel_rfl) (by kernel_rfl) (H':=[.gro 1 (List.map j64 z22),.var (.fn (.func 306) [] [(.im (eL 19 aF.enc a5)),(.ref 2 [] 0),(.im (j64 a6)),(.im (j64 a7)),(.im (j64 a8))]),.var (j64 a9)]) (by kernel_rfl))) dF0)) ?_
        refine At.gl 0 [0] [] 0 s6.length z22.length (((aCc hz22).2.2).trans ((aCc hz20).2.2)) ?_
        exact fun h=>At.k 3 ⟨_,_,_,h,jr⟩
       ·apply rt;exact At.x 0
    ·exact fun h=>At.k 3 ⟨_,_,_,h,jr⟩
   ·apply rt;exact At.x 0
 ·apply rt;exact At.z 0
def cB (N:Nat) (a3:Int) (a1:Nat) (a4:(List aF)) (a5 a6 a7 a8:Int):Nat→(List Int)→Nat→Int→Int→Option ((List Int)×Nat×Int)
 | 0,_,_,_,_=>none
 | k+1,s2,s3,s4,s5=>
  cond (decide (s5≤a3)) (
   Option.bind (bJ N s2 a1 s3 s4 s5 a4 a5 a6 a7 a8) fun r6=>
   Option.bind (aAA r6 s2.length) fun _=>
   cB N a3 a1 a4 a5 a6 a7 a8 k r6 s3 s5 (I64 (s5+20))) (
   some ((s2,s3,s4)))
def fZ (N:Nat) (s11 a3:Int):Nat→Option (Unit)
 | 0=>none
 | k+1=>
  aT (decide ((I64 (2*s11))≤a3)) fun x13=>
  cond x13 (none) (some (()))
def cR (N:Nat) (a3:Int):Nat→Int→Option (Unit)
 | 0,_=>none
 | k+1,s11=>
  cond (decide (s11 < a3)) (
   Option.bind (fZ N s11 a3 N ) fun p12=>
   Option.bind (aT (decide ((I64 (0+s11)) < a3)) fun x15=>
   cond x15 (none) (some (()))) fun p14=>
   cR N a3 k (I64 (s11*2))) (
   some (()))
def eR (N:Nat) (b0:(List Int)) (a1 a2:Nat) (a3:Int) (a4:(List aF)) (a5 a6 a7 a8:Int):Option ((List Int)):=
 Option.bind (cB N a3 a1 a4 a5 a6 a7 a8 N b0 a2 0 20) fun p1=>
 Option.bind (bJ N p1.1 a1 p1.2.1 p1.2.2 a3 a4 a5 a6 a7 a8) fun r8=>
 Option.bind (aAA r8 p1.1.length) fun _=>
 Option.bind (cR N a3 N 20) fun p10=>
 some r8
theorem sI {N b0 a1 a2 a3 a4 a5 a6 a7 a8 r} (h:eR N b0 a1 a2 a3 a4 a5 a6 a7 a8=some r):FnM Tryz.prog 327 [.gro 1 (List.map j64 b0),.var (.fn (.func 306) [] [(.im (eL 19 aF.enc a4)),(.ref 2 [] 0),(.im (j64 a5)),(.im (j64 a6)),(.im (j64 a7))]),.var (j64 a8)] [(.gro 0 1 b0.length (.sub a1 a2)),(j64 a3),(.fn (.func 308) [] [(.ref 1 [] 0)])] (.tup []) [.gro 1 (List.map j64 r),.var (.fn (.func 306) [] [(.im (eL 19 aF.enc a4)),(.ref 2 [] 0),(.im (j64 a5)),(.im (j64 a6)),(.im (j64 a7))]),.var (j64 a8)]:=by
 unfold eR at h
 refine At.f cQ hT hmo Tryz.func327 rfl h ?_
 refine At.L 4 [1,2,6] 3 (fun p1=>([(0,(.gro 0 1 p1.1.length (.sub a1 p1.2.1))),(7,(j64 p1.2.2))],[(0,.gro 1 (List.map j64 p1.1))],[])) (fun p1 J k=>∃ s2 s3 s4 s5,cB N a3 a1 a4 a5 a6 a7 a8 k s2 s3 s4 s5=some p1∧J [1,2,6] 3 [(0,(.gro 0 1 s2.length (.sub a1 s3))),(7,(j64 s4)),(8,(j64 s5))] [(0,.gro 1 (List.map j64 s2))] []) N (fun _ h=>⟨_,_,_,_,h,jr⟩) (fun p1 k s hI=>?_) fun p1=>?_
 ·obtain ⟨s2,s3,s4,s5,h,hj⟩:=hI
  cases k with
  | zero=>cases h
  | succ k=>
   refine At.jr hj ?_ h
   refine At.c 3 ?_ ?_
   ·refine bi fun r6 hr6=>?_
    refine bi fun u7 hu7=>?_
    refine At.o 4 (aM [0,1,2] (jJ hr6)) ?_
    refine At.gl 0 [0] [] 0 s2.length r6.length (aCf hu7) ?_
    exact fun h=>At.k 6 ⟨_,_,_,_,h,jr⟩
   ·apply rt;exact At.x 0
 ·refine bi fun r8 hr8=>?_
  refine bi fun u9 hu9=>?_
  refine At.o 4 (aM [0,1,2] (jJ hr8)) ?_
  refine At.gl 0 [0] [] 0 p1.1.length r8.length (aCf hu9) ?_
  refine At.L 0 [] 3 (fun p10=>([],[],[])) (fun p10 J k=>∃ s11,cR N a3 k s11=some p10∧J [0,1,2] 3 [(6,(j64 s11))] [] []) N (fun _ h=>⟨_,h,jr⟩) (fun p10 k s hI=>?_) fun p10=>?_
  ·obtain ⟨s11,h,hj⟩:=hI
   cases k with
   | zero=>cases h
   | succ k=>
    refine At.jr hj ?_ h
    refine At.c 3 ?_ ?_
    ·refine At.L 4 [0,1,2,6,7] 3 (fun p12=>([],[],[])) (fun p12 J k=>fZ N s11 a3 k  = some p12∧J [0,1,2,6,7,8] 3 [] [] []) N (fun _ h=>⟨h,jr⟩) (fun p12 k s hI=>?_) fun p12=>?_
     ·obtain ⟨h,hj⟩:=hI
      cases k with
      | zero=>cases h
      | succ k=>
       unfold fZ at h
       dsimp only at h
       refine At.jr hj ?_ h
       refine lx ?_;intro x13
       refine At.c 3 ?_ ?_
       ·exact nn
       ·apply rt;exact At.x 0
     ·refine At.J 0 1 [0,1,2,6] 3 (fun p14=>([],[],[])) (fun p14=>?_) fun p14=>?_
      ·refine lx ?_;intro x15
       refine At.c 7 ?_ ?_
       ·exact nn
       ·apply rt;exact At.jn 0
      ·exact fun h=>At.k 3 ⟨_,h,jr⟩
    ·apply rt;exact At.x 0
  ·apply rt;exact At.z 0
def cM (N:Nat) (b0:(List Int)) (a1 a2:Nat) (a3:(List aF)) (a4 a5 a6 a7:Int):Option ((List Int)):=
 Option.bind (eR N b0 a1 a2 ((a2:Int)) a3 a4 a5 a6 a7) fun r1=>
 some r1
theorem qP {N b0 a1 a2 a3 a4 a5 a6 a7 r} (h:cM N b0 a1 a2 a3 a4 a5 a6 a7=some r):FnM Tryz.prog 303 [.gro 1 (List.map j64 b0),.var (.fn (.func 306) [] [(.im (eL 19 aF.enc a3)),(.ref 2 [] 0),(.im (j64 a4)),(.im (j64 a5)),(.im (j64 a6))]),.var (j64 a7)] [(.gro 0 1 b0.length (.sub a1 a2)),(.fn (.func 308) [] [(.ref 1 [] 0)])] (.tup []) [.gro 1 (List.map j64 r),.var (.fn (.func 306) [] [(.im (eL 19 aF.enc a3)),(.ref 2 [] 0),(.im (j64 a4)),(.im (j64 a5)),(.im (j64 a6))]),.var (j64 a7)]:=by
 unfold cM at h
 refine At.f cQ hT hmo Tryz.func303 rfl h ?_
 refine At.b 4 (fun _ e=>aM [0,1,2] (sI e)) fun r1=>?_
 apply rt;exact At.z 0
def bK (N a2:Nat) (b0:(List Int)) (a1:Nat) (a3:(List aF)) (a4 a5 a6 a7:Int):Nat→Int→Option (Sum (Unit) (Int))
 | 0,_=>none
 | k+1,s2=>
  aT (decide (s2 < ((a2:Int)))) fun x3=>
  cond x3 (
   Option.bind (yR b0.length a1 a2 s2) fun _=>
   Option.bind (b0[(zF a1 s2.toNat)]?) fun e5=>
   Option.bind (fU N e5 a3 a4 a5 a6 a7) fun r6=>
   cond r6 (
    some (Sum.inr s2)) (
    bK N a2 b0 a1 a3 a4 a5 a6 a7 k (I64 (s2+1)))) (
   some (Sum.inl (())))
def cO (N:Nat) (b0:(List Int)) (a1 a2:Nat) (a3:(List aF)) (a4 a5 a6 a7:Int):Option (Int):=
 Option.bind (bK N a2 b0 a1 a3 a4 a5 a6 a7 N 0) fun o=>nS o (fun p1=>
  some (-1)) (fun r=>some r)
theorem qX {N b0 a1 a2 a3 a4 a5 a6 a7 r} (h:cO N b0 a1 a2 a3 a4 a5 a6 a7=some r):FnM Tryz.prog 309 [.gro 1 (List.map j64 b0),.var (j64 a7)] [(.gro 0 1 b0.length (.sub a1 a2)),(.fn (.func 306) [] [(.im (eL 19 aF.enc a3)),(.ref 1 [] 0),(.im (j64 a4)),(.im (j64 a5)),(.im (j64 a6))])] (j64 r) [.gro 1 (List.map j64 b0),.var (j64 a7)]:=by
 unfold cO at h
 refine At.f cQ hT hmo Tryz.func309 rfl h ?_
 refine At.LS 4 [] 2 (fun p1=>([],[],[])) (fun op1 J k=>∃ s2,bK N a2 b0 a1 a3 a4 a5 a6 a7 k s2=some op1∧J [0,1,7] 2 [(8,(j64 s2))] [] []) N (fun _ h=>⟨_,h,jr⟩) (fun op1 g1 k s hI=>?_) fun p1=>?_
 ·obtain ⟨s2,h,hj⟩:=hI
  cases k with
  | zero=>cases h
  | succ k=>
   refine At.jr hj ?_ h
   refine lx ?_;intro x3
   refine At.c 1 ?_ ?_
   ·refine At.b 5 (fun _ e=>kL hT (id:=0) (k:=1) e (by kernel_rfl) (by kernel_rfl)) fun u4=>?_
    refine At.b 0 (fun _ e=>oQ hT j64 [] e rfl (by kernel_rfl) (by kernel_rfl)) fun e5=>?_
    refine At.b 0 (fun _ e=>aM [1] (oV e)) fun r6=>?_
    refine At.c 0 ?_ ?_
    ·intro e;apply aBM g1 e;exact At.r 2
    ·exact fun h=>At.k 2 ⟨_,h,jr⟩
   ·apply rt;exact At.xs 0
 ·apply rt;exact At.r 1
def aGe : Nat→Bool:=imL [3]
def mJ (N a3:Nat) (b0:(List Int)) (a2:Nat) (a1:(List aF)):Nat→(List aC)→Int→Option ((List aC))
 | 0,_,_=>none
 | k+1,s3,s4=>
  aT (decide (s4 < ((a3:Int)))) fun x5=>
  cond x5 (
   Option.bind (yR b0.length a2 a3 s4) fun _=>
   Option.bind (b0[(zF a2 s4.toNat)]?) fun e7=>
   Option.bind (idx a1 e7) fun e8=>
   Option.bind (jE N e8) fun r9=>
   Option.bind (rF 24 s3 (([r9]:List aC))) fun z10=>
   mJ N a3 b0 a2 a1 k z10 (I64 (s4+1))) (
   some s3)
def pA (N:Nat) (r11:aC×aC):Nat→Int→Int→Option (Int)
 | 0,_,_=>none
 | k+1,s13,s14=>
  cond (decide (s14 < 3)) (
   Option.bind (Option.bind (lO N r11.2 s14) fun r16=>
   Option.bind (lO N r11.1 s14) fun r17=>
   Option.bind (lO N r11.2 s13) fun r18=>
   Option.bind (lO N r11.1 s13) fun r19=>
   aT (decide ((I64 (r16 - r17)) > (I64 (r18 - r19)))) fun x20=>
   cond x20 (some s14) (some s13)) fun p15=>
   pA N r11 k p15 (I64 (s14+1))) (
   some s13)
def sE (N:Nat) (b0:(List Int)) (a1:(List aF)) (a2 a3:Nat) (a4:Int):Option ((List Int)×Int):=
 aT (decide (((a3:Int))≤4)) fun x1=>
 cond x1 (
  some ((b0,0))) (
  Option.bind (mJ N a3 b0 a2 a1 N [] 0) fun p2=>
  Option.bind (nL N p2) fun r11=>
  Option.bind (pA N r11 N 0 1) fun p12=>
  Option.bind (lO N r11.1 p12) fun r21=>
  Option.bind (lO N r11.2 p12) fun r22=>
  cond (r21==r22) (
   some ((b0,0))) (
   cond (decide (a4 > 31)) (
    Option.bind (cJ N b0 a2 a3 a1 p12) fun r23=>
    Option.bind (aAA r23 b0.length) fun _=>
    aT (I64 (Int.tdiv ((a3:Int)) 2)) fun x25=>
    some ((r23,x25))) (
    Option.bind (rC N b0 a1 a2 a3 p12 r21 r22) fun r26=>
    Option.bind (cM N b0 a2 a3 a1 r21 r22 r26 p12) fun r27=>
    Option.bind (aAA r27 b0.length) fun _=>
    Option.bind (cO N r27 a2 a3 a1 r21 r22 r26 p12) fun r29=>
    some ((r27,r29)))))
theorem aFb {N b0 a1 a2 a3 a4 r} (h:sE N b0 a1 a2 a3 a4=some r):FnM Tryz.prog 243 [.gro 1 (List.map j64 b0)] [(eL 19 aF.enc a1),(.gro 0 1 b0.length (.sub a2 a3)),(j64 a4)] (j64 r.2) [.gro 1 (List.map j64 r.1)]:=by
 unfold sE at h
 refine At.f aGe hT hmo Tryz.func243 rfl h ?_
 refine lx ?_;intro x1
 refine At.c 5 ?_ ?_
 ·apply rt;exact At.r 1
 ·refine At.ownn 4 7 3 ?_
  refine At.L 0 [1,2,3] 2 (fun p2=>([(7,(eO 1 3 aC.enc p2))],[(1,.tail (p2.length*3))],[])) (fun p2 J k=>∃ s3 s4,mJ N a3 b0 a2 a1 k s3 s4=some p2∧J [1,2,3,21,22] 2 [(7,(eO 1 3 aC.enc s3)),(23,(j64 s4))] [(1,.tail (s3.length*3))] []) N (fun _ h=>⟨_,_,h,jr⟩) (fun p2 k s hI=>?_) fun p2=>?_
  ·obtain ⟨s3,s4,h,hj⟩:=hI
   cases k with
   | zero=>cases h
   | succ k=>
    refine At.jr hj ?_ h
    refine lx ?_;intro x5
    refine At.c 1 ?_ ?_
    ·refine At.b 0 (fun _ e=>kL hT (id:=0) (k:=1) e (by kernel_rfl) (by kernel_rfl)) fun u6=>?_
     refine At.b 0 (fun _ e=>oQ hT j64 [] e rfl (by kernel_rfl) (by kernel_rfl)) fun e7=>?_
     refine At.b 4 (fun _ e=>bF hT aF.enc e) fun e8=>?_
     refine At.b 1 (fun _ e=>aM [] (uO e)) fun r9=>?_
     refine At.o 0 (bQ hT (x:=(.sl 3 1 [(aC.enc r9)]))) ?_
     refine At.b 0 (fun _ e=>iA hT aC.enc (id:=1) (k:=3) e) fun z10=>?_
     exact fun h=>At.k 3 ⟨_,_,h,jr⟩
    ·apply rt;exact At.x 0
  ·refine At.b 1 (fun _ e=>aM [] (sF e)) fun r11=>?_
   refine At.L 10 [1,2,3,10,11,12] 5 (fun p12=>([],[(4,.var (j64 p12))],[])) (fun p12 J k=>∃ s13 s14,pA N r11 k s13 s14=some p12∧J [1,2,3,10,11,12] 5 [(13,(j64 s14))] [(4,.var (j64 s13))] []) N (fun _ h=>⟨_,_,h,jr⟩) (fun p12 k s hI=>?_) fun p12=>?_
   ·obtain ⟨s13,s14,h,hj⟩:=hI
    cases k with
    | zero=>cases h
    | succ k=>
     refine At.jr hj ?_ h
     refine At.c 2 ?_ ?_
     ·refine At.J 0 2 [1,2,3,10,11,12,13] 5 (fun p15=>([],[(4,.var (j64 p15))],[])) (fun p15=>?_) fun p15=>?_
      ·refine bi fun r16 hr16=>?_
       refine bi fun r17 hr17=>?_
       refine bi fun r18 hr18=>?_
       refine bi fun r19 hr19=>?_
       refine lx ?_;intro x20
       refine At.d 0 (dE2 2 (j64 r16) (fun _=>aO (nI hr16)) (dE2 5 (j64 r17) (fun _=>aO (nI hr17)) (dE2 9 (j64 r18) (fun _=>aO (nI hr18)) (dE2 12 (j64 r19) (fun _=>aO (nI hr19)) dE0)))) dF0 ?_
       refine At.c 0 ?_ ?_
       ·apply rt;exact At.jn 2
       ·apply rt;exact At.jn 0
      ·exact fun h=>At.k 3 ⟨_,_,h,jr⟩
     ·apply rt;exact At.x 0
   ·refine bi fun r21 hr21=>?_
    refine bi fun r22 hr22=>?_
    refine At.d2 0 [false,false] (dC2 2 (j64 r21) (fun _=>aO (nI hr21)) (dC2 5 (j64 r22) (fun _=>aO (nI hr22)) dC0)) (dS1 6 ⟨(.ref 5 [] 0),5,.var (j64 0),.dead⟩ [[.gro 1 (List.map j64 b0),.tail (p2.length*3),.var (aC.enc r11.1),.var (aC.enc r11.2),.var (j64 p12),.dead,.dead],[.gro 1 (List.map j64 b0),.tail (p2.length*3),.var (aC.enc r11.1),.var (aC.enc r11.2),.var (j64 p12),.dead,.var (j64 0)]] ⟨aW hT 5 (by kernel_rfl) (by kernel_rfl) (by kernel_rfl),aW hT 5 (by kernel_rfl) (by kernel_rfl) (by kernel_rfl),trivial⟩ (dS1 7 ⟨(.ref 6 [] 0),6,.var (j64 0),.dead⟩ [[.gro 1 (List.map j64 b0),.tail (p2.length*3),.var (aC.enc r11.1),.var (aC.enc r11.2),.var (j64 p12),.dead,.dead],[.gro 1 (List.map j64 b0),.tail (p2.length*3),.var (aC.enc r11.1),.var (aC.enc r11.2),.var (j64 p12),.var (j64 0),.dead]] ⟨aW hT 6 (by kernel_rfl) (by kernel_rfl) (by kernel_rfl),aW hT 6 (by kernel_rfl) (by kernel_rfl) (by kernel_rfl),trivial⟩ dS0)) ?_
    refine At.c 3 ?_ ?_
    ·apply rt;exact At.r 1
    ·refine At.c 2 ?_ ?_
     ·refine At.o 1 (qT (x:=(.fn (.func 304) [] [(.im (eL 19 aF.enc a1)),(.ref 4 [] 0)])) (by kernel_rfl) (by kernel_rfl)) ?_
      refine bi fun r23 hr23=>?_
      refine bi fun u24 hu24=>?_
      refine At.o 0 (aM [0,4] (qC hr23)) ?_
      refine At.gl 0 [1] [] 0 b0.length r23.length (aCf hu24) ?_
      refine lx ?_;intro x25
      apply rt;exact At.r 4
     ·refine At.b 5 (fun _ e=>aM [0] (aEw e)) fun r26=>?_
      refine At.gz 2 5 ((j64 r21)) ?_
      refine At.gz 0 6 ((j64 r22)) ?_
      refine At.gz 0 7 ((j64 r26)) ?_
      refine At.o 0 (qT (x:=(.fn (.func 306) [] [(.im (eL 19 aF.enc a1)),(.ref 4 [] 0),(.im (j64 r21)),(.im (j64 r22)),(.im (j64 r26))])) (by kernel_rfl) (by kernel_rfl)) ?_
      refine At.o 3 (qT (x:=(.fn (.func 308) [] [(.ref 8 [] 0)])) (by kernel_rfl) (by kernel_rfl)) ?_
      refine bi fun r27 hr27=>?_
      refine bi fun u28 hu28=>?_
      refine At.o 0 (aM [0,8,4] (qP hr27)) ?_
      refine At.gl 0 [1] [] 0 b0.length r27.length (aCf hu28) ?_
      refine At.b 2 (fun _ e=>aM [0,4] (qX e)) fun r29=>?_
      apply rt;exact At.r 1
def pY (N:Nat) (a0:(List aF)):Nat→Int→Option (Sum (Unit) (aX×Int))
 | 0,_=>none
 | k+1,s3=>
  aT (decide (s3 < ((a0.length:Int)))) fun x4=>
  cond x4 (
   Option.bind (idx a0 s3) fun e5=>
   Option.bind (aPx 3 0 3) fun _=>
   Option.bind (yD N e5) fun r7=>
   Option.bind (aT (decide ((fD (fD r7.1.gX r7.1.gY) r7.1.gZ) < (-1048576))) fun x9=>
   cond x9 (
    some true) (
    aT (decide ((jH (jH r7.2.gX r7.2.gY) r7.2.gZ) > 1048576)) fun x10=>
    some x10)) fun p8=>
   cond p8 (
    some (Sum.inr ((aX.mk [] [],8)))) (
    pY N a0 k (I64 (s3+1)))) (
   some (Sum.inl (())))
def qK (N:Nat) (a0:(List aF)):Nat→(List Int)→Int→Option ((List Int))
 | 0,_,_=>none
 | k+1,s13,s14=>
  aT (decide (s14 < ((a0.length:Int)))) fun x15=>
  cond x15 (
   Option.bind (rF 8 s13 (([s14]:List Int))) fun z16=>
   qK N a0 k z16 (I64 (s14+1))) (
   some s13)
def pU (N:Nat) (a0:(List aF)):Nat→(List Int)→(List bA)→(List aZ)→Nat→Option ((List Int)×(List bA)×(List aZ))
 | 0,_,_,_,_=>none
 | k+1,s18,s19,s20,s21=>
  aT (decide (((s21:Int)) > 0)) fun x22=>
  cond x22 (
   aT (I64 (((s21:Int)) - 1)) fun x23=>
   Option.bind (yR s20.length 0 s21 x23) fun _=>
   Option.bind (s20[x23.toNat]?) fun e25=>
   aT (I64 (((s21:Int)) - 1)) fun x26=>
   Option.bind (aJ3 s20.length 0 s21 0 x26) fun _=>
   aT (I64 (e25.gB+e25.gR)) fun x28=>
   Option.bind (aJ3 s18.length 0 s18.length e25.gB x28) fun _=>
   Option.bind (vY N s18 a0 e25.gB.toNat (x28.toNat - e25.gB.toNat)) fun r30=>
   Option.bind (Option.bind (sE N s18 a0 e25.gB.toNat (x28.toNat - e25.gB.toNat) e25.gD5) fun r32=>
   Option.bind (aAA r32.1 s18.length) fun _=>
   cond (decide (r32.2 > 0)) (
    aT (I64 (((s19.length:Int))+1)) fun x34=>
    Option.bind (rF 80 s19 (([bA.mk (aC.mk 0 0 0) (aC.mk 0 0 0) 0 0 0 0,bA.mk (aC.mk 0 0 0) (aC.mk 0 0 0) 0 0 0 0]:List bA))) fun z35=>
    aT (I64 (((s19.length:Int))+1)) fun x36=>
    aT (I64 (e25.gB+r32.2)) fun x37=>
    aT (I64 (e25.gR - r32.2)) fun x38=>
    Option.bind (aK4 32 s20 x26.toNat (([aZ.mk x36 x37 x38 (I64 (e25.gD5+1)),aZ.mk ((s19.length:Int)) e25.gB r32.2 (I64 (e25.gD5+1))]:List aZ))) fun z39=>
    some ((r32.1,z35,z39,bA.mk r30.1 r30.2 ((s19.length:Int)) ((I64 (((s19.length:Int))+1))) 0 0,x26.toNat+2))) (
    some ((r32.1,s19,s20,bA.mk r30.1 r30.2 (-1) (-1) e25.gB e25.gR,x26.toNat)))) fun p31=>
   Option.bind (eY e25.gT p31.2.1.length) fun _=>
   Option.bind (aGZ p31.2.1 e25.gT.toNat p31.2.2.2.1) fun z41=>
   pU N a0 k p31.1 z41 p31.2.2.1 p31.2.2.2.2) (
   some ((s18,s19,s20)))
def yA (N:Nat) (a0:(List aF)):Option (aX×Int):=
 aT (decide (((a0.length:Int)) > 4096)) fun x1=>
 cond x1 (
  some ((aX.mk [] [],3))) (
  Option.bind (pY N a0 N 0) fun o=>nS o (fun p2=>
   aT (((a0.length:Int))==0) fun x11=>
   cond x11 (
    some ((aX.mk [] [],0))) (
    Option.bind (qK N a0 N [] 0) fun p12=>
    Option.bind (pU N a0 N p12 (([bA.mk (aC.mk 0 0 0) (aC.mk 0 0 0) 0 0 0 0]:List bA)) (([aZ.mk 0 0 ((a0.length:Int)) 1]:List aZ)) ((([aZ.mk 0 0 ((a0.length:Int)) 1]:List aZ)).length)) fun p17=>
    some ((aX.mk p17.2.1 p17.1,0)))) (fun r=>some r))
theorem aJ0 {N a0 r} (h:yA N a0=some r):FnM Tryz.prog 184 [] [(eL 19 aF.enc a0)] (.tup [(aX.enc r.1),(j64 r.2)]) []:=by
 unfold yA at h
 refine At.f cQ hT hmo Tryz.func184 rfl h ?_
 refine lx ?_;intro x1
 refine At.c 5 ?_ ?_
 ·apply rt;exact At.r 3
 ·refine At.LS 3 [0,2] 1 (fun p2=>([],[],[])) (fun op2 J k=>∃ s3,pY N a0 k s3=some op2∧J [0,2,22,23] 1 [(24,(j64 s3))] [] []) N (fun _ h=>⟨_,h,jr⟩) (fun op2 g2 k s hI=>?_) fun p2=>?_
  ·obtain ⟨s3,h,hj⟩:=hI
   cases k with
   | zero=>cases h
   | succ k=>
    refine At.jr hj ?_ h
    refine lx ?_;intro x4
    refine At.c 1 ?_ ?_
    ·refine At.b 0 (fun _ e=>bF hT aF.enc e) fun e5=>?_
     refine At.b 4 (fun _ e=>aMb hT (k:=3) 1 [0] 0 e (by kernel_rfl) (by kernel_rfl) (by decide)) fun s6=>?_
     refine At.b 0 (fun _ e=>aM [1] (aJ5 e)) fun r7=>?_
     refine At.J 7 0 [0,2,22,23,24] 4 (fun p8=>([(51,(eB p8))],[],[])) (fun p8=>?_) fun p8=>?_
     ·refine At.o 6 (aAH (k := .i64) (i:=r7.1.gX) (j:=r7.1.gY) (l:=r7.1.gZ) (by kernel_rfl) (by kernel_rfl)) ?_
      refine lx ?_;intro x9
      refine At.s 42 2 ?_ ?_
      ·refine At.g [42] 9 ?_
       apply rt;exact At.jn 0
      ·refine At.g [42] 6 ?_
       refine At.o 0 (aAQ (k := .i64) (i:=r7.2.gX) (j:=r7.2.gY) (l:=r7.2.gZ) (by kernel_rfl) (by kernel_rfl)) ?_
       refine lx ?_;intro x10
       refine At.g [42] 2 ?_
       apply rt;exact At.jn 0
     ·refine At.c 0 ?_ ?_
      ·intro e;apply aBM g2 e;exact At.r 3
      ·exact fun h=>At.k 2 ⟨_,h,jr⟩
    ·apply rt;exact At.xs 0
  ·refine lx ?_;intro x11
   refine At.c 4 ?_ ?_
   ·apply rt;exact At.r 3
   ·refine At.grob 3 1 1 [1] ?_
    refine At.L 0 [0,2,8] 3 (fun p12=>([],[(1,.var (.st 2 [(.v (.slice none 0 0)),(.gro 2 1 p12.length .all)])),(2,.gro 1 (List.map j64 p12))],[])) (fun p12 J k=>∃ s13 s14,qK N a0 k s13 s14=some p12∧J [0,2,8,59] 3 [(60,(j64 s14))] [(1,.var (.st 2 [(.v (.slice none 0 0)),(.gro 2 1 s13.length .all)])),(2,.gro 1 (List.map j64 s13))] []) N (fun _ h=>⟨_,_,h,jr⟩) (fun p12 k s hI=>?_) fun p12=>?_
    ·obtain ⟨s13,s14,h,hj⟩:=hI
     cases k with
     | zero=>cases h
     | succ k=>
      refine At.jr hj ?_ h
      refine lx ?_;intro x15
      refine At.c 1 ?_ ?_
      ·refine At.o 5 (bQ hT (x:=(.sl 1 1 [(j64 s14)]))) ?_
       refine At.b 0 (fun z16 e=>aIV hT j64 (id:=2) (k:=1) e (by kernel_rfl) (by kernel_rfl) (H':=[.var (.st 2 [(.v (.slice none 0 0)),(.v (.slice none 0 0))]),.var (.st 2 [(.v (.slice none 0 0)),(.gro 2 1 s13.length .all)]),.gro 1 (List.map j64 z16)]) (by kernel_rfl)) fun z16=>?_
       exact fun h=>At.k 4 ⟨_,_,h,jr⟩
      ·apply rt;exact At.x 0
    ·refine At.o 1 (aD5 hT bA.enc (k:=10) ([bA.mk (aC.mk 0 0 0) (aC.mk 0 0 0) 0 0 0 0]:List bA) (by kernel_rfl) (by kernel_rfl)) ?_
     refine At.o 5 (aD5 hT aZ.enc (k:=4) ([aZ.mk 0 0 ((a0.length:Int)) 1]:List aZ) (by kernel_rfl) (by kernel_rfl)) ?_
     refine At.gsub 1 10 ?_
     refine At.L 0 [2,8] 5 (fun p17=>([],[(1,.var (.st 2 [(.gro 3 10 p17.2.1.length .all),(.gro 2 1 p17.1.length .all)])),(2,.gro 1 (List.map j64 p17.1)),(3,.gro 10 (List.map bA.enc p17.2.1)),(4,.gro 4 (List.map aZ.enc p17.2.2))],[])) (fun p17 J k=>∃ s18 s19 s20 s21,pU N a0 k s18 s19 s20 s21=some p17∧J [0,2,8] 5 [(10,(.gro 4 4 s20.length (.sub 0 s21)))] [(1,.var (.st 2 [(.gro 3 10 s19.length .all),(.gro 2 1 s18.length .all)])),(2,.gro 1 (List.map j64 s18)),(3,.gro 10 (List.map bA.enc s19)),(4,.gro 4 (List.map aZ.enc s20))] []) N (fun _ h=>⟨_,_,_,_,h,jr⟩) (fun p17 k s hI=>?_) fun p17=>?_
     ·obtain ⟨s18,s19,s20,s21,h,hj⟩:=hI
      cases k with
      | zero=>cases h
      | succ k=>
       refine At.jr hj ?_ h
       refine lx ?_;intro x22
       refine At.c 3 ?_ ?_
       ·refine lx ?_;intro x23
        refine At.b 4 (fun _ e=>kL hT (id:=4) (k:=4) e (by kernel_rfl) (by kernel_rfl)) fun u24=>?_
        refine At.b 0 (fun _ e=>oQ hT aZ.enc [] e rfl (by kernel_rfl) (by kernel_rfl)) fun e25=>?_
        refine lx ?_;intro x26
        refine At.b 6 (fun _ e=>aGA hT (id:=4) (k:=4) (L:=s20.length) (lo0:=0) (m:=s21) e (by kernel_rfl) (by kernel_rfl)) fun s27=>?_
        refine lx ?_;intro x28
        refine At.b 10 (fun _ e=>aGA hT (id:=2) (k:=1) (L:=s18.length) (lo0:=0) (m:=s18.length) e (by kernel_rfl) (by kernel_rfl)) fun s29=>?_
        refine At.b 3 (fun _ e=>aM [2] (aH3 e)) fun r30=>?_
        refine At.J 16 1 [0,2,8,11,15] 9 (fun p31=>([(10,(.gro 4 4 p31.2.2.1.length (.sub 0 p31.2.2.2.2)))],[(1,.var (.st 2 [(.gro 3 10 p31.2.1.length .all),(.gro 2 1 p31.1.length .all)])),(2,.gro 1 (List.map j64 p31.1)),(3,.gro 10 (List.map bA.enc p31.2.1)),(4,.gro 4 (List.map aZ.enc p31.2.2.1)),(8,.var (bA.enc p31.2.2.2.1))],[])) (fun p31=>?_) fun p31=>?_
        ·refine bi fun r32 hr32=>?_
         refine bi fun u33 hu33=>?_
         refine At.o 4 (aM [2] (aFb hr32)) ?_
         refine At.gl 0 [] [1] 2 s18.length r32.1.length (aCf hu33) ?_
         refine At.c 3 ?_ ?_
         ·refine lx ?_;intro x34
          refine At.o 15 (bQ hT (x:=(.sl 10 2 [(.st 10 [(.st 3 [(j64 0),(j64 0),(j64 0)]),(.st 3 [(j64 0),(j64 0),(j64 0)]),(j64 0),(j64 0),(j64 0),(j64 0)]),(.st 10 [(.st 3 [(j64 0),(j64 0),(j64 0)]),(.st 3 [(j64 0),(j64 0),(j64 0)]),(j64 0),(j64 0),(j64 0),(j64 0)])]))) ?_
          refine At.b 0 (fun z35 e=>aIV hT bA.enc (id:=3) (k:=10) e (by kernel_rfl) (by kernel_rfl) (H':=[.var (.st 2 [(.v (.slice none 0 0)),(.v (.slice none 0 0))]),.var (.st 2 [(.gro 3 10 s19.length .all),(.gro 2 1 r32.1.length .all)]),.gro 1 (List.map j64 r32.1),.gro 10 (List.map bA.enc z35),.gro 4 (List.map aZ.enc s20),.var (aZ.enc e25),.var (aC.enc r30.1),.var (aC.enc r30.2),.var (.st 10 [(aC.enc r30.1),(aC.enc r30.2),(j64 ((s19.length:Int))),(j64 ((I64 (((s19.length:Int))+1)))),(j64 0),(j64 0)])]) (by kernel_rfl)) fun z35=>?_
          refine lx ?_;intro x36
          refine lx ?_;intro x37
          refine lx ?_;intro x38
          refine At.o 25 (bQ hT (x:=(.sl 4 2 [(.st 4 [(j64 x36),(j64 x37),(j64 x38),(j64 (I64 (e25.gD5+1)))]),(.st 4 [(j64 ((s19.length:Int))),(j64 e25.gB),(j64 r32.2),(j64 (I64 (e25.gD5+1)))])]))) ?_
          refine At.b 0 (fun z39 e=>aEr hT aZ.enc (id:=4) (k:=4) e (by kernel_rfl) (by kernel_rfl) (H':=[.var (.st 2 [(.v (.slice none 0 0)),(.v (.slice none 0 0))]),.var (.st 2 [(.gro 3 10 z35.length .all),(.gro 2 1 r32.1.length .all)]),.gro 1 (List.map j64 r32.1),.gro 10 (List.map bA.enc z35),.gro 4 (List.map aZ.enc z39),.var (aZ.enc e25),.var (aC.enc r30.1),.var (aC.enc r30.2),.var (.st 10 [(aC.enc r30.1),(aC.enc r30.2),(j64 ((s19.length:Int))),(j64 ((I64 (((s19.length:Int))+1)))),(j64 0),(j64 0)])]) (by kernel_rfl)) fun z39=>?_
          apply rt;exact At.jn 1
         ·apply rt;exact At.jn 0
        ·refine At.b 5 (fun _ e=>aQl hT (id:=3) (k:=10) e (by kernel_rfl) (by kernel_rfl)) fun u40=>?_
         refine bi fun z41 hz41=>?_
         refine At.o 0 (aCJ hT bA.enc (k:=10) p31.2.2.2.1 hz41 rfl (by kernel_rfl) (fun _=>by kernel_rfl) (by kernel_rfl) (H':=[.var (.st 2 [(.v (.slice none 0 0)),(.v (.slice none 0 0))]),.var (.st 2 [(.gro 3 10 p31.2.1.length .all),(.gro 2 1 p31.1.length .all)]),.gro 1 (List.map j64 p31.1),.gro 10 (List.map bA.enc z41),.gro 4 (List.map aZ.enc p31.2.2.1),.var (aZ.enc e25),.var (aC.enc r30.1),.var (aC.enc r30.2),.var (bA.enc p31.2.2.2.1)]) (by kernel_rfl)) ?_
         refine At.gl 0 [167] [1] 3 p31.2.1.length z41.length ((aCc hz41).2.2) ?_
         exact fun h=>At.k 0 ⟨_,_,_,_,h,jr⟩
       ·apply rt;exact At.x 0
     ·refine At.fz 3 2 1 p17.1.length _ (List.map j64 p17.1) (List.length_map _) (List.length_map _) ?_
      refine At.fz 0 3 10 p17.2.1.length _ (List.map bA.enc p17.2.1) (List.length_map _) (List.length_map _) ?_
      apply rt;exact At.r 0
def iM (N:Nat) (a0:(List aF)):Option ((List aF)):=
 Option.bind (rF 152 (([]:List aF)) a0) fun z1=>
 some z1
theorem wP {N a0 r} (h:iM N a0=some r):FnM Tryz.prog 113 [] [(eL 19 aF.enc a0)] (eL 19 aF.enc r) []:=by
 unfold iM at h
 refine At.f cQ hT hmo Tryz.func113 rfl h ?_
 refine At.q hT 2 (d:=4) (t:=22) (e:=144) (z:=19) (x:=(eL 19 aF.enc a0)) (es:=List.map aF.enc a0) rfl ?_ (fun he=>?_)
 ·refine At.o 1 (xV hT aF.enc (k:=19) ([]:List aF) (by kernel_rfl) (by kernel_rfl)) ?_
  refine At.b 1 (fun _ e=>iA hT aF.enc (id:=0) (k:=19) e) fun z1=>?_
  apply rt;exact At.r 1
 ·have h0:a0=[]:=List.map_eq_nil_iff.1 he
  subst h0
  change some []=_→_
  apply rt;exact At.r 2
def vC (N:Nat) (a0:(List aF)):Option (Sum (Int) (aX×aL×Int)):=
 Option.bind (yA N a0) fun r1=>
 cond (r1.2 != 0) (
  some (Sum.inl r1.2)) (
  Option.bind (iM N a0) fun r2=>
  some (Sum.inr ((r1.1,aL.mk r1.1 true r2 0,0))))
theorem aFF {N a0 r} (h:vC N a0=some r):FnM Tryz.prog 103 [] [(eL 19 aF.enc a0)] (aFn r (fun r=>(.tup [(.v (.pointer none)),(j64 r)])) (fun r=>(.tup [(.ref 1 [] 0),(j64 r.2.2)]))) (aFn r (fun r=>[]) (fun r=>[.var (aX.enc r.1),.var (aL.enc r.2.1)])):=by
 unfold vC at h
 refine At.f cQ hT hmo Tryz.func103 rfl h ?_
 refine At.b 3 (fun _ e=>aM [] (aJ0 e)) fun r1=>?_
 refine At.c 8 ?_ ?_
 ·apply rt;exact At.r 3
 ·refine bi fun r2 hr2=>?_
  refine At.d 0 (dE2 2 (eL 19 aF.enc r2) (fun _=>aO (wP hr2)) dE0) dF0 ?_
  apply rt;exact At.r 0
theorem aHv {N a0 r} (h:vC N a0=some (Sum.inl r)):FnM Tryz.prog 103 [] [(eL 19 aF.enc a0)] (.tup [(.v (.pointer none)),(j64 r)]) []:=aFF h
theorem aHn {N a0 r} (h:vC N a0=some (Sum.inr r)):FnM Tryz.prog 103 [] [(eL 19 aF.enc a0)] (.tup [(.ref 1 [] 0),(j64 r.2.2)]) [.var (aX.enc r.1),.var (aL.enc r.2.1)]:=aFF h
def aKF : Nat→Bool:=imL [2,3]
def lZ (N:Nat) (x8:Int) (a0:aE):Nat→(List (List aD))→Int→Option ((List (List aD)))
 | 0,_,_=>none
 | k+1,s10,s11=>
  cond (decide (s11 < x8)) (
   Option.bind (idx a0.gQ s11) fun e12=>
   Option.bind (pX N e12) fun r13=>
   Option.bind (rF 24 s10 (([r13.1]:List (List aD)))) fun z14=>
   lZ N x8 a0 k z14 (I64 (s11+1))) (
   some s10)
def jQ (N:Nat) (a0:aE) (a1:aI):Option (Sum (Int) (Sum ((List aF)×(List aN)×(List aP)×(List (List aD))×aA×Int) (Sum ((List aF)×(List aN)×(List aP)×(List (List aD))×aA×(List aF)×Int) (Sum ((List aF)×(List aN)×(List aP)×(List (List aD))×aA×Int) ((List aF)×(List aN)×(List aP)×(List (List aD))×aA×aX×aL×Int))))):=
 Option.bind (jA N a0) fun r1=>
 cond (r1 != 0) (
  some (Sum.inl r1)) (
  Option.bind (tD N a1) fun r2=>
  cond (r2 != 0) (
   some (Sum.inl r2)) (
   Option.bind (nW N a0 a1.gJ) fun r3=>
   cond (r3 != 0) (
    some (Sum.inl r3)) (
    Option.bind (xI N a0.gI) fun r4=>
    Option.bind (rF 152 (([]:List aF)) a0.gK) fun z5=>
    Option.bind (rF 40 (([]:List aN)) a0.gA1) fun z6=>
    Option.bind (rF 104 (([]:List aP)) a0.gI) fun z7=>
    aT ((a0.gQ.length:Int)) fun x8=>
    Option.bind (lZ N x8 a0 N [] 0) fun p9=>
    cond a1.gS (
     Option.bind (jI N a1.gJ) fun r15=>
     Option.bind (rY N a0.gK r15.1) fun q=>
     nS q (fun r17=>
      some (Sum.inr (Sum.inl ((z5,z6,z7,p9,r4,r17))))) (fun r18=>
      some (Sum.inr (Sum.inr (Sum.inl ((z5,z6,z7,p9,r4,r18.1,r18.2))))))) (
     Option.bind (vC N a0.gK) fun q=>
     nS q (fun r20=>
      some (Sum.inr (Sum.inr (Sum.inr (Sum.inl ((z5,z6,z7,p9,r4,r20))))))) (fun r21=>
      some (Sum.inr (Sum.inr (Sum.inr (Sum.inr ((z5,z6,z7,p9,r4,r21.1,r21.2.1,r21.2.2)))))))))))
theorem wG {N a0 a1 r} (h:jQ N a0 a1=some r):FnM Tryz.prog 46 [] [(aE.enc a0),(aI.enc a1)] (aFn r (fun r=>(.tup [(.v (.pointer none)),(j64 r)])) (fun r=>aFn r (fun r=>(.tup [(.ref 0 [] 0),(j64 r.2.2.2.2.2)])) (fun r=>aFn r (fun r=>(.tup [(.ref 0 [] 0),(j64 r.2.2.2.2.2.2)])) (fun r=>aFn r (fun r=>(.tup [(.ref 0 [] 0),(j64 r.2.2.2.2.2)])) (fun r=>(.tup [(.ref 0 [] 0),(j64 r.2.2.2.2.2.2.2)])))))) (aFn r (fun r=>[]) (fun r=>aFn r (fun r=>[.var (.st 38 [(.st 9 [(eL 19 aF.enc r.1),(eL 5 aN.enc r.2.1),(eL 2 aD.enc a0.gQ),(eL 13 aP.enc r.2.2.1),(eL 1 k64 a0.gL),(eL 1 k32 a0.gA5),(k32 a0.gA9),(k32 a0.gB5),(k32 a0.gTo)]),(aI.enc a1),(.ifc 178 (.v (.pointer none))),(eL 1 (eL 2 aD.enc) r.2.2.2.1),(aA.enc r.2.2.2.2.1),(.st 3 [(j64 0),(j64 0),(j64 0)])])]) (fun r=>aFn r (fun r=>[.var (.st 38 [(.st 9 [(eO 1 19 aF.enc r.1),(eO 2 5 aN.enc r.2.1),(eL 2 aD.enc a0.gQ),(eO 3 13 aP.enc r.2.2.1),(eL 1 k64 a0.gL),(eL 1 k32 a0.gA5),(k32 a0.gA9),(k32 a0.gB5),(k32 a0.gTo)]),(aI.enc a1),(.ifc 178 (.ref 6 [] 0)),(eO 4 1 (eL 2 aD.enc) r.2.2.2.1),(aA.enc r.2.2.2.2.1),(.st 3 [(j64 0),(j64 0),(j64 0)])]),.tail (r.1.length*19),.tail (r.2.1.length*5),.tail (r.2.2.1.length*13),.tail (r.2.2.2.1.length*1),.dead,.var (.st 3 [(.st 1 [(j64 0)]),(eB true),(eL 19 aF.enc r.2.2.2.2.2.1)])]) (fun r=>aFn r (fun r=>[.var (.st 38 [(.st 9 [(eL 19 aF.enc r.1),(eL 5 aN.enc r.2.1),(eL 2 aD.enc a0.gQ),(eL 13 aP.enc r.2.2.1),(eL 1 k64 a0.gL),(eL 1 k32 a0.gA5),(k32 a0.gA9),(k32 a0.gB5),(k32 a0.gTo)]),(aI.enc a1),(.ifc 181 (.v (.pointer none))),(eL 1 (eL 2 aD.enc) r.2.2.2.1),(aA.enc r.2.2.2.2.1),(.st 3 [(j64 0),(j64 0),(j64 0)])])]) (fun r=>[.var (.st 38 [(.st 9 [(eO 1 19 aF.enc r.1),(eO 2 5 aN.enc r.2.1),(eL 2 aD.enc a0.gQ),(eO 3 13 aP.enc r.2.2.1),(eL 1 k64 a0.gL),(eL 1 k32 a0.gA5),(k32 a0.gA9),(k32 a0.gB5),(k32 a0.gTo)]),(aI.enc a1),(.ifc 181 (.ref 6 [] 0)),(eO 4 1 (eL 2 aD.enc) r.2.2.2.1),(aA.enc r.2.2.2.2.1),(.st 3 [(j64 0),(j64 0),(j64 0)])]),.tail (r.1.length*19),.tail (r.2.1.length*5),.tail (r.2.2.1.length*13),.tail (r.2.2.2.1.length*1),.var (aX.enc r.2.2.2.2.2.1),.var (aL.enc r.2.2.2.2.2.2.1)]))))):=by
 unfold jQ at h
 refine At.f aKF hT hmo Tryz.func46 rfl h ?_
 refine At.b 5 (fun _ e=>aM [] (aG2 e)) fun r1=>?_
 refine At.c 3 ?_ ?_
 ·apply rt;exact At.r 3
 ·refine At.b 1 (fun _ e=>aM [] (aJI e)) fun r2=>?_
  refine At.c 3 ?_ ?_
  ·apply rt;exact At.r 3
  ·refine At.b 3 (fun _ e=>aM [] (aFi e)) fun r3=>?_
   refine At.c 3 ?_ ?_
   ·apply rt;exact At.r 3
   ·refine bi fun r4 hr4=>?_
    refine At.d 0 (dE2 4 (aA.enc r4) (fun _=>aO (aKC hr4)) dE0) dF0 ?_
    refine At.o 1 (xV hT aF.enc (k:=19) ([]:List aF) (by kernel_rfl) (by kernel_rfl)) ?_
    refine At.b 2 (fun _ e=>iA hT aF.enc (id:=1) (k:=19) e) fun z5=>?_
    refine At.o 5 (xV hT aN.enc (k:=5) ([]:List aN) (by kernel_rfl) (by kernel_rfl)) ?_
    refine At.b 2 (fun _ e=>iA hT aN.enc (id:=2) (k:=5) e) fun z6=>?_
    refine At.o 5 (xV hT aP.enc (k:=13) ([]:List aP) (by kernel_rfl) (by kernel_rfl)) ?_
    refine At.b 2 (fun _ e=>iA hT aP.enc (id:=3) (k:=13) e) fun z7=>?_
    refine lx ?_;intro x8
    refine At.ownb 8 0 1 [3] ?_
    refine At.L 0 [2,3,9] 5 (fun p9=>([],[(0,.var (.st 38 [(.st 9 [(eO 1 19 aF.enc z5),(eO 2 5 aN.enc z6),(eL 2 aD.enc a0.gQ),(eO 3 13 aP.enc z7),(eL 1 k64 a0.gL),(eL 1 k32 a0.gA5),(k32 a0.gA9),(k32 a0.gB5),(k32 a0.gTo)]),(aI.enc a1),(.v .nilIface),(eO 4 1 (eL 2 aD.enc) p9),(aA.enc r4),(.st 3 [(j64 0),(j64 0),(j64 0)])])),(4,.tail (p9.length*1))],[])) (fun p9 J k=>∃ s10 s11,lZ N x8 a0 k s10 s11=some p9∧J [2,3,9,69,70] 5 [(71,(j64 s11))] [(0,.var (.st 38 [(.st 9 [(eO 1 19 aF.enc z5),(eO 2 5 aN.enc z6),(eL 2 aD.enc a0.gQ),(eO 3 13 aP.enc z7),(eL 1 k64 a0.gL),(eL 1 k32 a0.gA5),(k32 a0.gA9),(k32 a0.gB5),(k32 a0.gTo)]),(aI.enc a1),(.v .nilIface),(eO 4 1 (eL 2 aD.enc) s10),(aA.enc r4),(.st 3 [(j64 0),(j64 0),(j64 0)])])),(4,.tail (s10.length*1))] []) N (fun _ h=>⟨_,_,h,jr⟩) (fun p9 k s hI=>?_) fun p9=>?_
    ·obtain ⟨s10,s11,h,hj⟩:=hI
     cases k with
     | zero=>cases h
     | succ k=>
      refine At.jr hj ?_ h
      refine At.c 1 ?_ ?_
      ·refine At.b 0 (fun _ e=>bF hT aD.enc e) fun e12=>?_
       refine At.b 4 (fun _ e=>aM [] (aDs e)) fun r13=>?_
       refine At.o 11 (bQ hT (x:=(.sl 1 1 [(eL 2 aD.enc r13.1)]))) ?_
       refine At.b 0 (fun _ e=>iA hT (eL 2 aD.enc) (id:=4) (k:=1) e) fun z14=>?_
       exact fun h=>At.k 5 ⟨_,_,h,jr⟩
      ·apply rt;exact At.x 0
    ·refine At.c 2 ?_ ?_
     ·refine At.b 2 (fun _ e=>aM [] (tE e)) fun r15=>?_
      refine sumI (fun r17 hr17=>?_) (fun r18 hr18=>?_)
      ·refine At.o 8 (aM [] (aHK hr17)) ?_
       refine At.o 7 (aCx hT (t:=178) (x:=(.v (.pointer none))) (by kernel_rfl) (by kernel_rfl)) ?_
       apply rt;exact At.r 7
      ·refine At.o 8 (aM [] (aHS hr18)) ?_
       refine At.o 7 (aCx hT (t:=178) (x:=(.ref 6 [] 0)) (by kernel_rfl) (by kernel_rfl)) ?_
       apply rt;exact At.r 7
     ·refine sumI (fun r20 hr20=>?_) (fun r21 hr21=>?_)
      ·refine At.o 2 (aM [] (aHv hr20)) ?_
       refine At.o 7 (aCx hT (t:=181) (x:=(.v (.pointer none))) (by kernel_rfl) (by kernel_rfl)) ?_
       apply rt;exact At.r 7
      ·refine At.o 2 (aM [] (aHn hr21)) ?_
       refine At.o 7 (aCx hT (t:=181) (x:=(.ref 6 [] 0)) (by kernel_rfl) (by kernel_rfl)) ?_
       apply rt;exact At.r 7
theorem aHZ {N a0 a1 r} (h:jQ N a0 a1=some (Sum.inl r)):FnM Tryz.prog 46 [] [(aE.enc a0),(aI.enc a1)] (.tup [(.v (.pointer none)),(j64 r)]) []:=wG h
theorem aGp {N a0 a1 r} (h:jQ N a0 a1=some (Sum.inr (Sum.inl r))):FnM Tryz.prog 46 [] [(aE.enc a0),(aI.enc a1)] (.tup [(.ref 0 [] 0),(j64 r.2.2.2.2.2)]) [.var (.st 38 [(.st 9 [(eL 19 aF.enc r.1),(eL 5 aN.enc r.2.1),(eL 2 aD.enc a0.gQ),(eL 13 aP.enc r.2.2.1),(eL 1 k64 a0.gL),(eL 1 k32 a0.gA5),(k32 a0.gA9),(k32 a0.gB5),(k32 a0.gTo)]),(aI.enc a1),(.ifc 178 (.v (.pointer none))),(eL 1 (eL 2 aD.enc) r.2.2.2.1),(aA.enc r.2.2.2.2.1),(.st 3 [(j64 0),(j64 0),(j64 0)])])]:=wG h
theorem aGr {N a0 a1 r} (h:jQ N a0 a1=some (Sum.inr (Sum.inr (Sum.inl r)))):FnM Tryz.prog 46 [] [(aE.enc a0),(aI.enc a1)] (.tup [(.ref 0 [] 0),(j64 r.2.2.2.2.2.2)]) [.var (.st 38 [(.st 9 [(eO 1 19 aF.enc r.1),(eO 2 5 aN.enc r.2.1),(eL 2 aD.enc a0.gQ),(eO 3 13 aP.enc r.2.2.1),(eL 1 k64 a0.gL),(eL 1 k32 a0.gA5),(k32 a0.gA9),(k32 a0.gB5),(k32 a0.gTo)]),(aI.enc a1),(.ifc 178 (.ref 6 [] 0)),(eO 4 1 (eL 2 aD.enc) r.2.2.2.1),(aA.enc r.2.2.2.2.1),(.st 3 [(j64 0),(j64 0),(j64 0)])]),.tail (r.1.length*19),.tail (r.2.1.length*5),.tail (r.2.2.1.length*13),.tail (r.2.2.2.1.length*1),.dead,.var (.st 3 [(.st 1 [(j64 0)]),(eB true),(eL 19 aF.enc r.2.2.2.2.2.1)])]:=wG h
theorem aGc {N a0 a1 r} (h:jQ N a0 a1=some (Sum.inr (Sum.inr (Sum.inr (Sum.inl r))))):FnM Tryz.prog 46 [] [(aE.enc a0),(aI.enc a1)] (.tup [(.ref 0 [] 0),(j64 r.2.2.2.2.2)]) [.var (.st 38 [(.st 9 [(eL 19 aF.enc r.1),(eL 5 aN.enc r.2.1),(eL 2 aD.enc a0.gQ),(eL 13 aP.enc r.2.2.1),(eL 1 k64 a0.gL),(eL 1 k32 a0.gA5),(k32 a0.gA9),(k32 a0.gB5),(k32 a0.gTo)]),(aI.enc a1),(.ifc 181 (.v (.pointer none))),(eL 1 (eL 2 aD.enc) r.2.2.2.1),(aA.enc r.2.2.2.2.1),(.st 3 [(j64 0),(j64 0),(j64 0)])])]:=wG h
theorem aHU {N a0 a1 r} (h:jQ N a0 a1=some (Sum.inr (Sum.inr (Sum.inr (Sum.inr r))))):FnM Tryz.prog 46 [] [(aE.enc a0),(aI.enc a1)] (.tup [(.ref 0 [] 0),(j64 r.2.2.2.2.2.2.2)]) [.var (.st 38 [(.st 9 [(eO 1 19 aF.enc r.1),(eO 2 5 aN.enc r.2.1),(eL 2 aD.enc a0.gQ),(eO 3 13 aP.enc r.2.2.1),(eL 1 k64 a0.gL),(eL 1 k32 a0.gA5),(k32 a0.gA9),(k32 a0.gB5),(k32 a0.gTo)]),(aI.enc a1),(.ifc 181 (.ref 6 [] 0)),(eO 4 1 (eL 2 aD.enc) r.2.2.2.1),(aA.enc r.2.2.2.2.1),(.st 3 [(j64 0),(j64 0),(j64 0)])]),.tail (r.1.length*19),.tail (r.2.1.length*5),.tail (r.2.2.1.length*13),.tail (r.2.2.2.1.length*1),.var (aX.enc r.2.2.2.2.2.1),.var (aL.enc r.2.2.2.2.2.2.1)]:=wG h
def tI (N:Nat) (a0 a1 a2:Int):Option (Unit):=
 some (())
theorem aDD {N a0 a1 a2 r} (h:tI N a0 a1 a2=some r):FnM Tryz.prog 104 [] [(k64 a0),(j64 a1),(j64 a2)] (.ref 0 [] 0) [.var (.st 72 [cv_6,(eB true),(k64 a0),(j64 a1),(j64 a2)])]:=by
 unfold tI at h
 refine At.f cQ hT hmo Tryz.func104 rfl h ?_
 apply rt;exact At.r 7
def wC (N:Nat) (a0 a1 a2 a3:Int):Option (bS):=
 aT (U32 (iK .i64 a2 65535)) fun x1=>
 aT (U32 (Int.tdiv (U32 (iK .i64 a3 63)) 16)) fun x2=>
 aT (U32 ((U32 (x1*4))+x2)) fun x3=>
 some (bS.mk (U32 a0) (U32 a1) ((U32 ((U32 ((U32 (iK .i64 a2 65535))*4))+(U32 (Int.tdiv (U32 (iK .i64 a3 63)) 16))))))
theorem aFr {N a0 a1 a2 a3 r} (h:wC N a0 a1 a2 a3=some r):FnM Tryz.prog 244 [] [(j64 a0),(j64 a1),(j64 a2),(j64 a3)] (bS.enc r) []:=by
 unfold wC at h
 refine At.f cQ hT hmo Tryz.func244 rfl h ?_
 refine lx ?_;intro x1
 refine lx ?_;intro x2
 refine lx ?_;intro x3
 apply rt;exact At.r 16
def oJ (N:Nat) (a0:Int):Nat→(Vector Int 32)→Int→Option ((Vector Int 32))
 | 0,_,_=>none
 | k+1,s4,s5=>
  cond (decide (s5 < 8)) (
   Option.bind (aFs .u64 a0 (I64 (8*s5))) fun x6=>
   Option.bind (eY (I64 (24+s5)) 32) fun _=>
   Option.bind (s4.toList[(I64 (24+s5)).toNat]?) fun e8=>
   oJ N a0 k (s4.setIfInBounds ((I64 (24+s5)).toNat) (U8 x6)) (I64 (s5+1))) (
   some s4)
def wF (N:Nat) (a0:Int):Option ((Vector Int 32)):=
 Option.bind (aPx 32 0 32) fun _=>
 Option.bind (cpV (Vector.replicate 32 0) (aLP str_1) 0 32) fun v2=>
 Option.bind (oJ N a0 N v2 0) fun p3=>
 some p3
theorem aHj {N a0 r} (h:wF N a0=some r):FnM Tryz.prog 311 [] [(k64 a0)] (eA 32 1 k8 r) []:=by
 unfold wF at h
 refine At.f cQ hT hmo Tryz.func311 rfl h ?_
 refine At.b 2 (fun _ e=>aMb hT (k:=1) 1 [] 0 e (by kernel_rfl) (by kernel_rfl) (by decide)) fun s1=>?_
 refine At.b 0 (fun v2 e=>aPX hT k8 (id:=1) (path:=[]) (off:=0) (H':=[.var (eA 32 1 k8 (Vector.replicate 32 0)),.var (eA 32 1 k8 v2)]) e (by kernel_rfl) (by kernel_rfl) (by kernel_rfl)) fun v2=>?_
 refine At.L 1 [2,3] 2 (fun p3=>([],[(1,.var (eA 32 1 k8 p3))],[])) (fun p3 J k=>∃ s4 s5,oJ N a0 k s4 s5=some p3∧J [0,2,3] 2 [(7,(j64 s5))] [(1,.var (eA 32 1 k8 s4))] []) N (fun _ h=>⟨_,_,h,jr⟩) (fun p3 k s hI=>?_) fun p3=>?_
 ·obtain ⟨s4,s5,h,hj⟩:=hI
  cases k with
  | zero=>cases h
  | succ k=>
   refine At.jr hj ?_ h
   refine At.c 1 ?_ ?_
   ·refine At.b 7 (fun _ e=>zO hT (k' := .i64) e (by kernel_rfl) (by kernel_rfl)) fun x6=>?_
    refine At.b 1 (fun _ e=>bH hT (k:=1) 1 [] 0 e) fun u7=>?_
    refine At.b 0 (fun _ e=>oA hT k8 0 s4 e (U8 x6) (by kernel_rfl) (by kernel_rfl) (H':=[.var (eA 32 1 k8 (Vector.replicate 32 0)),.var (eA 32 1 k8 (s4.setIfInBounds ((I64 (24+s5)).toNat) (U8 x6)))])) fun e8=>?_
    exact fun h=>At.k 2 ⟨_,_,h,jr⟩
   ·apply rt;exact At.x 0
 ·apply rt;exact At.r 2
def oI (N:Nat) (a0:(List Int)):Option (Int):=
 Option.bind (idx a0 0) fun e1=>
 Option.bind (idx a0 1) fun e2=>
 aT (bor .u32 (U32 e1) (shl .u32 (U32 e2) 8)) fun x3=>
 Option.bind (idx a0 2) fun e4=>
 aT (bor .u32 x3 (shl .u32 (U32 e4) 16)) fun x5=>
 Option.bind (idx a0 3) fun e6=>
 aT (bor .u32 x5 (shl .u32 (U32 e6) 24)) fun x7=>
 some x7
theorem aBD {N a0 r} (h:oI N a0=some r):FnM Tryz.prog 343 [] [(eL 1 k8 a0)] (k32 r) []:=by
 unfold oI at h
 refine At.f cQ hT hmo Tryz.func343 rfl h ?_
 refine bi fun e1 he1=>?_
 refine bi fun e2 he2=>?_
 refine lx ?_;intro x3
 refine bi fun e4 he4=>?_
 refine lx ?_;intro x5
 refine bi fun e6 he6=>?_
 refine lx ?_;intro x7
 refine At.d 1 (dE1 1 (fun _=>bF hT k8 he1) (dE1 5 (fun _=>bF hT k8 he2) (dE1 11 (fun _=>bF hT k8 he4) (dE1 17 (fun _=>bF hT k8 he6) dE0)))) dF0 ?_
 apply rt;exact At.r 0
def aHd : Nat→Bool:=imL [3,5]
def mL (N:Nat) (a0:(Vector Int 32)):Nat→(Vector Int 16)→Int→Option ((Vector Int 16))
 | 0,_,_=>none
 | k+1,s2,s3=>
  cond (decide (s3 < 8)) (
   Option.bind (vU a0.toList (I64 (4*s3)) 32) fun s4=>
   Option.bind (oI N s4) fun r5=>
   Option.bind (eY (I64 (4+s3)) 16) fun _=>
   Option.bind (s2.toList[(I64 (4+s3)).toNat]?) fun e7=>
   mL N a0 k (s2.setIfInBounds ((I64 (4+s3)).toNat) r5) (I64 (s3+1))) (
   some s2)
def mO (N:Nat) (a2:(Vector Int 12)):Nat→(Vector Int 16)→Int→Option ((Vector Int 16))
 | 0,_,_=>none
 | k+1,s9,s10=>
  cond (decide (s10 < 3)) (
   Option.bind (vU a2.toList (I64 (4*s10)) 12) fun s11=>
   Option.bind (oI N s11) fun r12=>
   Option.bind (eY (I64 (13+s10)) 16) fun _=>
   Option.bind (s9.toList[(I64 (13+s10)).toNat]?) fun e14=>
   mO N a2 k (s9.setIfInBounds ((I64 (13+s10)).toNat) r12) (I64 (s10+1))) (
   some s9)
def sN (N:Nat) (a0:(Vector Int 32)) (a1:Int) (a2:(Vector Int 12)):Option ((Vector Int 16)):=
 Option.bind (mL N a0 N (#v[1634760805,857760878,2036477234,1797285236,0,0,0,0,0,0,0,0,a1,0,0,0]) 0) fun p1=>
 Option.bind (mO N a2 N p1 0) fun p8=>
 some p8
theorem aFa {N a0 a1 a2 r} (h:sN N a0 a1 a2=some r):FnM Tryz.prog 330 [] [(eA 32 1 k8 a0),(k32 a1),(eA 12 1 k8 a2)] (eA 16 1 k32 r) []:=by
 unfold sN at h
 refine At.f aHd hT hmo Tryz.func330 rfl h ?_
 refine At.L 8 [5,6,7] 2 (fun p1=>([],[(1,.var (eA 16 1 k32 p1))],[])) (fun p1 J k=>∃ s2 s3,mL N a0 k s2 s3=some p1∧J [3,5,6,7] 2 [(12,(j64 s3))] [(1,.var (eA 16 1 k32 s2))] []) N (fun _ h=>⟨_,_,h,jr⟩) (fun p1 k s hI=>?_) fun p1=>?_
 ·obtain ⟨s2,s3,h,hj⟩:=hI
  cases k with
  | zero=>cases h
  | succ k=>
   refine At.jr hj ?_ h
   refine At.c 1 ?_ ?_
   ·refine At.b 6 (fun _ e=>zI hT (N:=32) (k:=1) k8 a0 e) fun s4=>?_
    refine At.b 0 (fun _ e=>aM [] (aBD e)) fun r5=>?_
    refine At.b 0 (fun _ e=>bH hT (k:=1) 1 [] 0 e) fun u6=>?_
    refine At.b 0 (fun _ e=>oA hT k32 0 s2 e r5 (by kernel_rfl) (by kernel_rfl) (H':=[.var (eA 16 1 k32 (Vector.replicate 16 0)),.var (eA 16 1 k32 (s2.setIfInBounds ((I64 (4+s3)).toNat) r5))])) fun e7=>?_
    exact fun h=>At.k 2 ⟨_,_,h,jr⟩
   ·apply rt;exact At.x 0
 ·refine At.L 1 [6,7] 2 (fun p8=>([],[(1,.var (eA 16 1 k32 p8))],[])) (fun p8 J k=>∃ s9 s10,mO N a2 k s9 s10=some p8∧J [5,6,7] 2 [(23,(j64 s10))] [(1,.var (eA 16 1 k32 s9))] []) N (fun _ h=>⟨_,_,h,jr⟩) (fun p8 k s hI=>?_) fun p8=>?_
  ·obtain ⟨s9,s10,h,hj⟩:=hI
   cases k with
   | zero=>cases h
   | succ k=>
    refine At.jr hj ?_ h
    refine At.c 1 ?_ ?_
    ·refine At.b 6 (fun _ e=>zI hT (N:=12) (k:=1) k8 a2 e) fun s11=>?_
     refine At.b 0 (fun _ e=>aM [] (aBD e)) fun r12=>?_
     refine At.b 0 (fun _ e=>bH hT (k:=1) 1 [] 0 e) fun u13=>?_
     refine At.b 0 (fun _ e=>oA hT k32 0 s9 e r12 (by kernel_rfl) (by kernel_rfl) (H':=[.var (eA 16 1 k32 (Vector.replicate 16 0)),.var (eA 16 1 k32 (s9.setIfInBounds ((I64 (13+s10)).toNat) r12))])) fun e14=>?_
     exact fun h=>At.k 2 ⟨_,_,h,jr⟩
    ·apply rt;exact At.x 0
  ·apply rt;exact At.r 2
def dK (N:Nat) (a0 a1:Int):Option (Int):=
 Option.bind (aJc .u32 a0 (iK .u64 (U64 a1) 31)) fun x1=>
 aT (U64 (32 - (iK .u64 (U64 a1) 31))) fun x2=>
 Option.bind (aFs .u32 a0 x2) fun x3=>
 some (bor .u32 x1 x3)
theorem kV {N a0 a1 r} (h:dK N a0 a1=some r):FnM Tryz.prog 344 [] [(k32 a0),(j64 a1)] (k32 r) []:=by
 unfold dK at h
 refine At.f cQ hT hmo Tryz.func344 rfl h ?_
 refine At.b 7 (fun _ e=>aCm hT (k' := .u64) e (by kernel_rfl) (by kernel_rfl)) fun x1=>?_
 refine lx ?_;intro x2
 refine At.b 3 (fun _ e=>zO hT (k' := .u64) e (by kernel_rfl) (by kernel_rfl)) fun x3=>?_
 apply rt;exact At.r 2
def aEu : Nat→Bool:=imL [1]
def pT (N:Nat) (a0:(Vector Int 4)):Option ((Vector Int 4)):=
 Option.bind (idx a0.toList 0) fun e1=>
 Option.bind (idx a0.toList 1) fun e2=>
 Option.bind (idx a0.toList 2) fun e3=>
 Option.bind (idx a0.toList 3) fun e4=>
 aT (bxor .u32 e4 (U32 (e1+e2))) fun x5=>
 Option.bind (dK N x5 16) fun r6=>
 aT (bxor .u32 e2 (U32 (e3+r6))) fun x7=>
 Option.bind (dK N x7 12) fun r8=>
 aT (U32 ((U32 (e1+e2))+r8)) fun x9=>
 Option.bind (dK N (bxor .u32 r6 x9) 8) fun r10=>
 aT (U32 ((U32 (e3+r6))+r10)) fun x11=>
 Option.bind (dK N (bxor .u32 r8 x11) 7) fun r12=>
 some (#v[x9,r12,x11,r10])
theorem aED {N a0 r} (h:pT N a0=some r):FnM Tryz.prog 331 [] [(eA 4 1 k32 a0)] (eA 4 1 k32 r) []:=by
 unfold pT at h
 refine At.f aEu hT hmo Tryz.func331 rfl h ?_
 refine bi fun e1 he1=>?_
 refine bi fun e2 he2=>?_
 refine bi fun e3 he3=>?_
 refine bi fun e4 he4=>?_
 refine At.d 2 (dE1 0 (fun _=>dS hT (N:=4) (k:=1) k32 a0 he1) (dE1 2 (fun _=>dS hT (N:=4) (k:=1) k32 a0 he2) (dE1 4 (fun _=>dS hT (N:=4) (k:=1) k32 a0 he3) (dE1 6 (fun _=>dS hT (N:=4) (k:=1) k32 a0 he4) dE0)))) dF0 ?_
 refine lx ?_;intro x5
 refine At.b 7 (fun _ e=>aM [] (kV e)) fun r6=>?_
 refine lx ?_;intro x7
 refine At.b 8 (fun _ e=>aM [] (kV e)) fun r8=>?_
 refine lx ?_;intro x9
 refine At.b 8 (fun _ e=>aM [] (kV e)) fun r10=>?_
 refine lx ?_;intro x11
 refine At.b 8 (fun _ e=>aM [] (kV e)) fun r12=>?_
 apply rt;exact At.r 7
def aHG : Nat→Bool:=imL [3,5]
def kF (N:Nat)  : Nat→(Vector Int 16)→Int→Option ((Vector Int 16))
 | 0,_,_=>none
 | k+1,s6,s7=>
  cond (decide (s7 < 8)) (
   Option.bind (idx (#v[#v[0,4,8,12],#v[1,5,9,13],#v[2,6,10,14],#v[3,7,11,15],#v[0,5,10,15],#v[1,6,11,12],#v[2,7,8,13],#v[3,4,9,14]]).toList s7) fun e8=>
   Option.bind (eY 0 4) fun _=>
   Option.bind (e8.toList[(Int.toNat 0)]?) fun e10=>
   Option.bind (eY e10 16) fun _=>
   Option.bind (s6.toList[e10.toNat]?) fun e12=>
   Option.bind (eY 1 4) fun _=>
   Option.bind (e8.toList[(Int.toNat 1)]?) fun e14=>
   Option.bind (eY e14 16) fun _=>
   Option.bind (s6.toList[e14.toNat]?) fun e16=>
   Option.bind (eY 2 4) fun _=>
   Option.bind (e8.toList[(Int.toNat 2)]?) fun e18=>
   Option.bind (eY e18 16) fun _=>
   Option.bind (s6.toList[e18.toNat]?) fun e20=>
   Option.bind (eY 3 4) fun _=>
   Option.bind (e8.toList[(Int.toNat 3)]?) fun e22=>
   Option.bind (eY e22 16) fun _=>
   Option.bind (s6.toList[e22.toNat]?) fun e24=>
   Option.bind (pT N (#v[e12,e16,e20,e24])) fun r25=>
   Option.bind (eY 0 4) fun _=>
   Option.bind (e8.toList[(Int.toNat 0)]?) fun e27=>
   Option.bind (eY 1 4) fun _=>
   Option.bind (e8.toList[(Int.toNat 1)]?) fun e29=>
   Option.bind (eY 2 4) fun _=>
   Option.bind (e8.toList[(Int.toNat 2)]?) fun e31=>
   Option.bind (eY 3 4) fun _=>
   Option.bind (e8.toList[(Int.toNat 3)]?) fun e33=>
   Option.bind (eY 0 4) fun _=>
   Option.bind (r25.toList[(Int.toNat 0)]?) fun e35=>
   Option.bind (eY 1 4) fun _=>
   Option.bind (r25.toList[(Int.toNat 1)]?) fun e37=>
   Option.bind (eY 2 4) fun _=>
   Option.bind (r25.toList[(Int.toNat 2)]?) fun e39=>
   Option.bind (eY 3 4) fun _=>
   Option.bind (r25.toList[(Int.toNat 3)]?) fun e41=>
   Option.bind (eY e27 16) fun _=>
   Option.bind (s6.toList[e27.toNat]?) fun e43=>
   Option.bind (eY e29 16) fun _=>
   Option.bind ((s6.setIfInBounds e27.toNat e35).toList[e29.toNat]?) fun e45=>
   Option.bind (eY e31 16) fun _=>
   Option.bind (((s6.setIfInBounds e27.toNat e35).setIfInBounds e29.toNat e37).toList[e31.toNat]?) fun e47=>
   Option.bind (eY e33 16) fun _=>
   Option.bind ((((s6.setIfInBounds e27.toNat e35).setIfInBounds e29.toNat e37).setIfInBounds e31.toNat e39).toList[e33.toNat]?) fun e49=>
   kF N k ((((s6.setIfInBounds e27.toNat e35).setIfInBounds e29.toNat e37).setIfInBounds e31.toNat e39).setIfInBounds e33.toNat e41) (I64 (s7+1))) (
   some s6)
def mM (N:Nat)  : Nat→(Vector Int 16)→Int→Option ((Vector Int 16))
 | 0,_,_=>none
 | k+1,s3,s4=>
  cond (decide (s4 < 10)) (
   Option.bind (kF N N s3 0) fun p5=>
   mM N k p5 (I64 (s4+1))) (
   some s3)
def mH (N:Nat) (p2 r1:(Vector Int 16)):Nat→(Vector Int 64)→Int→Option ((Vector Int 64))
 | 0,_,_=>none
 | k+1,s51,s52=>
  cond (decide (s52 < 16)) (
   Option.bind (idx p2.toList s52) fun e53=>
   Option.bind (eY s52 16) fun _=>
   Option.bind (r1.toList[s52.toNat]?) fun e55=>
   aT (I64 ((I64 (4*s52))+1)) fun x56=>
   aT (I64 ((I64 (4*s52))+2)) fun x57=>
   aT (I64 ((I64 (4*s52))+3)) fun x58=>
   aT (shr .u32 (U32 (e53+e55)) 8) fun x59=>
   aT (shr .u32 (U32 (e53+e55)) 16) fun x60=>
   aT (shr .u32 (U32 (e53+e55)) 24) fun x61=>
   Option.bind (eY (I64 (4*s52)) 64) fun _=>
   Option.bind (s51.toList[(I64 (4*s52)).toNat]?) fun e63=>
   Option.bind (eY x56 64) fun _=>
   Option.bind ((s51.setIfInBounds ((I64 (4*s52)).toNat) (U8 (U32 (e53+e55)))).toList[x56.toNat]?) fun e65=>
   Option.bind (eY x57 64) fun _=>
   Option.bind (((s51.setIfInBounds ((I64 (4*s52)).toNat) (U8 (U32 (e53+e55)))).setIfInBounds x56.toNat (U8 x59)).toList[x57.toNat]?) fun e67=>
   Option.bind (eY x58 64) fun _=>
   Option.bind ((((s51.setIfInBounds ((I64 (4*s52)).toNat) (U8 (U32 (e53+e55)))).setIfInBounds x56.toNat (U8 x59)).setIfInBounds x57.toNat (U8 x60)).toList[x58.toNat]?) fun e69=>
   mH N p2 r1 k ((((s51.setIfInBounds ((I64 (4*s52)).toNat) (U8 (U32 (e53+e55)))).setIfInBounds x56.toNat (U8 x59)).setIfInBounds x57.toNat (U8 x60)).setIfInBounds x58.toNat (U8 x61)) (I64 (s52+1))) (
   some s51)
def tA (N:Nat) (a0:(Vector Int 32)) (a1:Int) (a2:(Vector Int 12)):Option ((Vector Int 64)):=
 Option.bind (sN N a0 a1 a2) fun r1=>
 Option.bind (mM N N r1 0) fun p2=>
 Option.bind (mH N p2 r1 N (Vector.replicate 64 0) 0) fun p50=>
 some p50
theorem aFk {N a0 a1 a2 r} (h:tA N a0 a1 a2=some r):FnM Tryz.prog 310 [] [(eA 32 1 k8 a0),(k32 a1),(eA 12 1 k8 a2)] (eA 64 1 k8 r) []:=by
 unfold tA at h
 refine At.f aHG hT hmo Tryz.func310 rfl h ?_
 refine At.b 6 (fun _ e=>aM [] (aFa e)) fun r1=>?_
 refine At.L 17 [6,7,8] 4 (fun p2=>([],[(2,.var (eA 16 1 k32 p2))],[])) (fun p2 J k=>∃ s3 s4,mM N k s3 s4=some p2∧J [6,7,8,9] 4 [(30,(j64 s4))] [(2,.var (eA 16 1 k32 s3))] []) N (fun _ h=>⟨_,_,h,jr⟩) (fun p2 k s hI=>?_) fun p2=>?_
 ·obtain ⟨s3,s4,h,hj⟩:=hI
  cases k with
  | zero=>cases h
  | succ k=>
   refine At.jr hj ?_ h
   refine At.c 1 ?_ ?_
   ·refine At.L 2 [6,7,8,9,30] 4 (fun p5=>([],[(2,.var (eA 16 1 k32 p5))],[])) (fun p5 J k=>∃ s6 s7,kF N k s6 s7=some p5∧J [6,7,8,9,30,32] 4 [(33,(j64 s7))] [(2,.var (eA 16 1 k32 s6))] []) N (fun _ h=>⟨_,_,h,jr⟩) (fun p5 k s hI=>?_) fun p5=>?_
    ·obtain ⟨s6,s7,h,hj⟩:=hI
     cases k with
     | zero=>cases h
     | succ k=>
      refine At.jr hj ?_ h
      refine At.c 1 ?_ ?_
      ·refine At.b 0 (fun _ e=>aAc hT (eA 4 1 j64) (#v[#v[0,4,8,12],#v[1,5,9,13],#v[2,6,10,14],#v[3,7,11,15],#v[0,5,10,15],#v[1,6,11,12],#v[2,7,8,13],#v[3,4,9,14]]) e (by kernel_rfl) (by kernel_rfl)) fun e8=>?_
       refine bi fun u9 hu9=>?_
       refine bi fun e10 he10=>?_
       refine bi fun u11 hu11=>?_
       refine bi fun e12 he12=>?_
       refine bi fun u13 hu13=>?_
       refine bi fun e14 he14=>?_
       refine bi fun u15 hu15=>?_
       refine bi fun e16 he16=>?_
       refine bi fun u17 hu17=>?_
       refine bi fun e18 he18=>?_
       refine bi fun u19 hu19=>?_
       refine bi fun e20 he20=>?_
       refine bi fun u21 hu21=>?_
       refine bi fun e22 he22=>?_
       refine bi fun u23 hu23=>?_
       refine bi fun e24 he24=>?_
       refine bi fun r25 hr25=>?_
       refine At.d 2 (dE1 0 (fun _=>bH hT (k:=1) 4 [] 0 hu9) (dEL hT 1 (j64 e10) j64 0 he10 (dE1 2 (fun _=>bH hT (k:=1) 2 [] 0 hu11) (dEL hT 3 (k32 e12) k32 0 he12 (dE1 4 (fun _=>bH hT (k:=1) 4 [] 0 hu13) (dEL hT 5 (j64 e14) j64 0 he14 (dE1 6 (fun _=>bH hT (k:=1) 2 [] 0 hu15) (dEL hT 7 (k32 e16) k32 0 he16 (dE1 8 (fun _=>bH hT (k:=1) 4 [] 0 hu17) (dEL hT 9 (j64 e18) j64 0 he18 (dE1 10 (fun _=>bH hT (k:=1) 2 [] 0 hu19) (dEL hT 11 (k32 e20) k32 0 he20 (dE1 12 (fun _=>bH hT (k:=1) 4 [] 0 hu21) (dEL hT 13 (j64 e22) j64 0 he22 (dE1 14 (fun _=>bH hT (k:=1) 2 [] 0 hu23) (dEL hT 15 (k32 e24) k32 0 he24 (dE2 17 (eA 4 1 k32 r25) (fun _=>aO (aED hr25)) dE0))))))))))))))))) dF0 ?_
       refine bi fun u26 hu26=>?_
       refine bi fun e27 he27=>?_
       refine bi fun u28 hu28=>?_
       refine bi fun e29 he29=>?_
       refine bi fun u30 hu30=>?_
       refine bi fun e31 he31=>?_
       refine bi fun u32 hu32=>?_
       refine bi fun e33 he33=>?_
       refine bi fun u34 hu34=>?_
       refine bi fun e35 he35=>?_
       refine bi fun u36 hu36=>?_
       refine bi fun e37 he37=>?_
       refine bi fun u38 hu38=>?_
       refine bi fun e39 he39=>?_
       refine bi fun u40 hu40=>?_
       refine bi fun e41 he41=>?_
       refine bi fun u42 hu42=>?_
       refine bi fun e43 he43=>?_
       refine bi fun u44 hu44=>?_
       refine bi fun e45 he45=>?_
       refine bi fun u46 hu46=>?_
       refine bi fun e47 he47=>?_
       refine bi fun u48 hu48=>?_
       refine bi fun e49 he49=>?_
       refine At.d 0 (dE1 0 (fun _=>bH hT (k:=1) 4 [] 0 hu26) (dEL hT 1 (j64 e27) j64 0 he27 (dE1 2 (fun _=>bH hT (k:=1) 4 [] 0 hu28) (dEL hT 3 (j64 e29) j64 0 he29 (dE1 4 (fun _=>bH hT (k:=1) 4 [] 0 hu30) (dEL hT 5 (j64 e31) j64 0 he31 (dE1 6 (fun _=>bH hT (k:=1) 4 [] 0 hu32) (dEL hT 7 (j64 e33) j64 0 he33 (dE1 8 (fun _=>bH hT (k:=1) 5 [] 0 hu34) (dEL hT 9 (k32 e35) k32 0 he35 (dE1 10 (fun _=>bH hT (k:=1) 5 [] 0 hu36) (dEL hT 11 (k32 e37) k32 0 he37 (dE1 12 (fun _=>bH hT (k:=1) 5 [] 0 hu38) (dEL hT 13 (k32 e39) k32 0 he39 (dE1 14 (fun _=>bH hT (k:=1) 5 [] 0 hu40) (dEL hT 15 (k32 e41) k32 0 he41 (dE1 16 (fun _=>bH hT (k:=1) 2 [] 0 hu42) (dE1 18 (fun _=>bH hT (k:=1) 2 [] 0 hu44) (dE1 20 (fun _=>bH hT (k:=1) 2 [] 0 hu46) (dE1 22 (fun _=>bH hT (k:=1) 2 [] 0 hu48) dE0)))))))))))))))))))) (dF 17 (.v (.bool false)) [(2,.var (eA 16 1 k32 (s6.setIfInBounds e27.toNat e35)))] [] (bG (oA hT k32 0 s6 he43 e35 (by kernel_rfl) (by kernel_rfl) (H':=[.var (eA 64 1 k8 (Vector.replicate 64 0)),.var (eA 16 1 k32 r1),.var (eA 16 1 k32 (s6.setIfInBounds e27.toNat e35)),.var aKl,.var (eA 4 1 j64 e8),.var (eA 4 1 k32 r25)]))) (dF 19 (.v (.bool false)) [(2,.var (eA 16 1 k32 ((s6.setIfInBounds e27.toNat e35).setIfInBounds e29.toNat e37)))] [] (bG (oA hT k32 0 (s6.setIfInBounds e27.toNat e35) he45 e37 (by kernel_rfl) (by kernel_rfl) (H':=[.var (eA 64 1 k8 (Vector.replicate 64 0)),.var (eA 16 1 k32 r1),.var (eA 16 1 k32 ((s6.setIfInBounds e27.toNat e35).setIfInBounds e29.toNat e37)),.var aKl,.var (eA 4 1 j64 e8),.var (eA 4 1 k32 r25)]))) (dF 21 (.v (.bool false)) [(2,.var (eA 16 1 k32 (((s6.setIfInBounds e27.toNat e35).setIfInBounds e29.toNat e37).setIfInBounds e31.toNat e39)))] [] (bG (oA hT k32 0 ((s6.setIfInBounds e27.toNat e35).setIfInBounds e29.toNat e37) he47 e39 (by kernel_rfl) (by kernel_rfl) (H':=[.var (eA 64 1 k8 (Vector.replicate 64 0)),.var (eA 16 1 k32 r1),.var (eA 16 1 k32 (((s6.setIfInBounds e27.toNat e35).setIfInBounds e29.toNat e37).setIfInBounds e31.toNat e39)),.var aKl,.var (eA 4 1 j64 e8),.var (eA 4 1 k32 r25)]))) (dF 23 (.v (.bool false)) [(2,.var (eA 16 1 k32 ((((s6.setIfInBounds e27.toNat e35).setIfInBounds e29.toNat e37).setIfInBounds e31.toNat e39).setIfInBounds e33.toNat e41)))] [] (bG (oA hT k32 0 (((s6.setIfInBounds e27.toNat e35).setIfInBounds e29.toNat e37).setIfInBounds e31.toNat e39) he49 e41 (by kernel_rfl) (by kernel_rfl) (H':=[.var (eA 64 1 k8 (Vector.replicate 64 0)),.var (eA 16 1 k32 r1),.var (eA 16 1 k32 ((((s6.setIfInBounds e27.toNat e35).setIfInBounds e29.toNat e37).setIfInBounds e31.toNat e39).setIfInBounds e33.toNat e41)),.var aKl,.var (eA 4 1 j64 e8),.var (eA 4 1 k32 r25)]))) dF0)))) ?_
       exact fun h=>At.k 2 ⟨_,_,h,jr⟩
      ·apply rt;exact At.x 0
    ·exact fun h=>At.k 2 ⟨_,_,h,jr⟩
   ·apply rt;exact At.x 0
 ·refine At.L 3 [6,13] 5 (fun p50=>([],[(4,.var (eA 64 1 k8 p50))],[])) (fun p50 J k=>∃ s51 s52,mH N p2 r1 k s51 s52=some p50∧J [6,7,13,76] 5 [(77,(j64 s52))] [(4,.var (eA 64 1 k8 s51))] []) N (fun _ h=>⟨_,_,h,jr⟩) (fun p50 k s hI=>?_) fun p50=>?_
  ·obtain ⟨s51,s52,h,hj⟩:=hI
   cases k with
   | zero=>cases h
   | succ k=>
    refine At.jr hj ?_ h
    refine At.c 1 ?_ ?_
    ·refine At.b 1 (fun _ e=>aAc hT k32 p2 e (by kernel_rfl) (by kernel_rfl)) fun e53=>?_
     refine At.b 4 (fun _ e=>bH hT (k:=1) 1 [] 0 e) fun u54=>?_
     refine At.b 0 (fun _ e=>pQ hT k32 0 e) fun e55=>?_
     refine lx ?_;intro x56
     refine lx ?_;intro x57
     refine lx ?_;intro x58
     refine lx ?_;intro x59
     refine lx ?_;intro x60
     refine lx ?_;intro x61
     refine At.b 24 (fun _ e=>bH hT (k:=1) 4 [] 0 e) fun u62=>?_
     refine At.b 0 (fun _ e=>oA hT k8 0 s51 e (U8 (U32 (e53+e55))) (by kernel_rfl) (by kernel_rfl) (H':=[.var (eA 64 1 k8 (Vector.replicate 64 0)),.var (eA 16 1 k32 r1),.var (eA 16 1 k32 p2),.var aKl,.var (eA 64 1 k8 (s51.setIfInBounds ((I64 (4*s52)).toNat) (U8 (U32 (e53+e55)))))])) fun e63=>?_
     refine At.b 0 (fun _ e=>bH hT (k:=1) 4 [] 0 e) fun u64=>?_
     refine At.b 0 (fun _ e=>oA hT k8 0 (s51.setIfInBounds ((I64 (4*s52)).toNat) (U8 (U32 (e53+e55)))) e (U8 x59) (by kernel_rfl) (by kernel_rfl) (H':=[.var (eA 64 1 k8 (Vector.replicate 64 0)),.var (eA 16 1 k32 r1),.var (eA 16 1 k32 p2),.var aKl,.var (eA 64 1 k8 ((s51.setIfInBounds ((I64 (4*s52)).toNat) (U8 (U32 (e53+e55)))).setIfInBounds x56.toNat (U8 x59)))])) fun e65=>?_
     refine At.b 0 (fun _ e=>bH hT (k:=1) 4 [] 0 e) fun u66=>?_
     refine At.b 0 (fun _ e=>oA hT k8 0 ((s51.setIfInBounds ((I64 (4*s52)).toNat) (U8 (U32 (e53+e55)))).setIfInBounds x56.toNat (U8 x59)) e (U8 x60) (by kernel_rfl) (by kernel_rfl) (H':=[.var (eA 64 1 k8 (Vector.replicate 64 0)),.var (eA 16 1 k32 r1),.var (eA 16 1 k32 p2),.var aKl,.var (eA 64 1 k8 (((s51.setIfInBounds ((I64 (4*s52)).toNat) (U8 (U32 (e53+e55)))).setIfInBounds x56.toNat (U8 x59)).setIfInBounds x57.toNat (U8 x60)))])) fun e67=>?_
     refine At.b 0 (fun _ e=>bH hT (k:=1) 4 [] 0 e) fun u68=>?_
     refine At.b 0 (fun _ e=>oA hT k8 0 (((s51.setIfInBounds ((I64 (4*s52)).toNat) (U8 (U32 (e53+e55)))).setIfInBounds x56.toNat (U8 x59)).setIfInBounds x57.toNat (U8 x60)) e (U8 x61) (by kernel_rfl) (by kernel_rfl) (H':=[.var (eA 64 1 k8 (Vector.replicate 64 0)),.var (eA 16 1 k32 r1),.var (eA 16 1 k32 p2),.var aKl,.var (eA 64 1 k8 ((((s51.setIfInBounds ((I64 (4*s52)).toNat) (U8 (U32 (e53+e55)))).setIfInBounds x56.toNat (U8 x59)).setIfInBounds x57.toNat (U8 x60)).setIfInBounds x58.toNat (U8 x61)))])) fun e69=>?_
     exact fun h=>At.k 2 ⟨_,_,h,jr⟩
    ·apply rt;exact At.x 0
  ·apply rt;exact At.r 2
def aCY : Nat→Bool:=imL [2]
def iD (N:Nat) (a0:bS):Nat→(Vector Int 12)→Int→Option ((Vector Int 12))
 | 0,_,_=>none
 | k+1,s2,s3=>
  cond (decide (s3 < 4)) (
   Option.bind (aFs .u32 a0.gD9 (I64 (8*s3))) fun x4=>
   Option.bind (aFs .u32 a0.gE0 (I64 (8*s3))) fun x5=>
   Option.bind (eY s3 12) fun _=>
   Option.bind (s2.toList[s3.toNat]?) fun e7=>
   Option.bind (eY (I64 (4+s3)) 12) fun _=>
   Option.bind ((s2.setIfInBounds s3.toNat (U8 x4)).toList[(I64 (4+s3)).toNat]?) fun e9=>
   iD N a0 k ((s2.setIfInBounds s3.toNat (U8 x4)).setIfInBounds ((I64 (4+s3)).toNat) (U8 x5)) (I64 (s3+1))) (
   some s2)
def lX (N:Nat) (a0:bS) (a1:Int):Option ((Vector Int 64)):=
 Option.bind (iD N a0 N (Vector.replicate 12 0) 0) fun p1=>
 Option.bind (wF N a1) fun r10=>
 Option.bind (tA N r10 a0.gE1 p1) fun r11=>
 some r11
theorem aB6 {N a0 a1 r} (h:lX N a0 a1=some r):FnM Tryz.prog 245 [] [(bS.enc a0),(k64 a1)] (eA 64 1 k8 r) []:=by
 unfold lX at h
 refine At.f aCY hT hmo Tryz.func245 rfl h ?_
 refine At.L 4 [1,2,4,5] 2 (fun p1=>([],[(1,.var (eA 12 1 k8 p1))],[])) (fun p1 J k=>∃ s2 s3,iD N a0 k s2 s3=some p1∧J [1,2,4,5] 2 [(7,(j64 s3))] [(1,.var (eA 12 1 k8 s2))] []) N (fun _ h=>⟨_,_,h,jr⟩) (fun p1 k s hI=>?_) fun p1=>?_
 ·obtain ⟨s2,s3,h,hj⟩:=hI
  cases k with
  | zero=>cases h
  | succ k=>
   refine At.jr hj ?_ h
   refine At.c 1 ?_ ?_
   ·refine bi fun x4 hx4=>?_
    refine bi fun x5 hx5=>?_
    refine bi fun u6 hu6=>?_
    refine bi fun e7 he7=>?_
    refine bi fun u8 hu8=>?_
    refine bi fun e9 he9=>?_
    refine At.d 2 (dE1 7 (fun _=>zO hT (k' := .i64) hx4 (by kernel_rfl) (by kernel_rfl)) (dE1 13 (fun _=>zO hT (k' := .i64) hx5 (by kernel_rfl) (by kernel_rfl)) (dE1 15 (fun _=>bH hT (k:=1) 1 [] 0 hu6) (dE1 17 (fun _=>bH hT (k:=1) 1 [] 0 hu8) dE0)))) (dF 16 (.v (.bool false)) [(1,.var (eA 12 1 k8 (s2.setIfInBounds s3.toNat (U8 x4))))] [] (bG (oA hT k8 0 s2 he7 (U8 x4) (by kernel_rfl) (by kernel_rfl) (H':=[.var (eA 64 1 k8 (Vector.replicate 64 0)),.var (eA 12 1 k8 (s2.setIfInBounds s3.toNat (U8 x4)))]))) (dF 18 (.v (.bool false)) [(1,.var (eA 12 1 k8 ((s2.setIfInBounds s3.toNat (U8 x4)).setIfInBounds ((I64 (4+s3)).toNat) (U8 x5))))] [] (bG (oA hT k8 0 (s2.setIfInBounds s3.toNat (U8 x4)) he9 (U8 x5) (by kernel_rfl) (by kernel_rfl) (H':=[.var (eA 64 1 k8 (Vector.replicate 64 0)),.var (eA 12 1 k8 ((s2.setIfInBounds s3.toNat (U8 x4)).setIfInBounds ((I64 (4+s3)).toNat) (U8 x5)))]))) dF0)) ?_
    exact fun h=>At.k 2 ⟨_,_,h,jr⟩
   ·apply rt;exact At.x 0
 ·refine bi fun r10 hr10=>?_
  refine bi fun r11 hr11=>?_
  refine At.d 0 (dE2 1 (eA 32 1 k8 r10) (fun _=>aO (aHj hr10)) (dE2 5 (eA 64 1 k8 r11) (fun _=>aO (aFk hr11)) dE0)) dF0 ?_
  apply rt;exact At.r 0
def aFg : Nat→Bool:=imL [2]
def rD (N:Nat) (a0:(Vector Int 64)) (a1:Int):Option (Int):=
 aT (I64 (4*(iK .i64 a1 15))) fun x1=>
 Option.bind (idx a0.toList x1) fun e2=>
 Option.bind (idx a0.toList (I64 (x1+1))) fun e3=>
 aT (bor .u32 (U32 e2) (shl .u32 (U32 e3) 8)) fun x4=>
 Option.bind (idx a0.toList (I64 (x1+2))) fun e5=>
 aT (bor .u32 x4 (shl .u32 (U32 e5) 16)) fun x6=>
 Option.bind (idx a0.toList (I64 (x1+3))) fun e7=>
 aT (bor .u32 x6 (shl .u32 (U32 e7) 24)) fun x8=>
 some x8
theorem aEp {N a0 a1 r} (h:rD N a0 a1=some r):FnM Tryz.prog 246 [] [(eA 64 1 k8 a0),(j64 a1)] (k32 r) []:=by
 unfold rD at h
 refine At.f aFg hT hmo Tryz.func246 rfl h ?_
 refine lx ?_;intro x1
 refine bi fun e2 he2=>?_
 refine bi fun e3 he3=>?_
 refine lx ?_;intro x4
 refine bi fun e5 he5=>?_
 refine lx ?_;intro x6
 refine bi fun e7 he7=>?_
 refine lx ?_;intro x8
 refine At.d 6 (dE1 1 (fun _=>dS hT (N:=64) (k:=1) k8 a0 he2) (dE1 6 (fun _=>dS hT (N:=64) (k:=1) k8 a0 he3) (dE1 13 (fun _=>dS hT (N:=64) (k:=1) k8 a0 he5) (dE1 20 (fun _=>dS hT (N:=64) (k:=1) k8 a0 he7) dE0)))) dF0 ?_
 apply rt;exact At.r 0
def fP (N:Nat) (a0 a1:Int) (a2:aB):Option (aU×Int):=
 cond (!a2.gA) (
  some ((a2.gE2,0))) (
  Option.bind (Option.bind (wC N a2.gB a2.gD a0 a1) fun r2=>
  Option.bind (cond (!a2.gE2.gis) (
   some true) (
   some (!(bS.eq r2 a2.gE2.gE8)))) fun p3=>
  cond p3 (
   Option.bind (lX N r2 a2.gC) fun r4=>
   some ((aU.mk r2 true r4,r2))) (
   some ((a2.gE2,r2)))) fun p1=>
  Option.bind (rD N p1.1.gE9 a1) fun r5=>
  some ((p1.1,r5)))
theorem tY {N a0 a1 a2 r} (h:fP N a0 a1 a2=some r):FnM Tryz.prog 185 [.var (aB.enc a2)] [(.ref 0 [] 0),(j64 a0),(j64 a1)] (k32 r.2) [.var (.st 72 [(aU.enc r.1),(eB a2.gA),(k64 a2.gC),(j64 a2.gB),(j64 a2.gD)])]:=by
 unfold fP at h
 refine At.f cQ hT hmo Tryz.func185 rfl h ?_
 refine At.o 2 (aBl hT (t:=185) (x:=(.ref 0 [] 0)) (b:=true) (by kernel_rfl) rfl rfl (by kernel_rfl)) ?_
 refine At.g [10] 7 ?_
 refine At.c 0 ?_ ?_
 ·apply rt;exact At.r 1
 ·refine At.J 0 1 [0,2] 1 (fun p1=>([],[(0,.var (.st 72 [(aU.enc p1.1),(eB a2.gA),(k64 a2.gC),(j64 a2.gB),(j64 a2.gD)]))],[.var (bS.enc p1.2)])) (fun p1=>?_) fun p1=>?_
  ·refine bi fun r2 hr2=>?_
   refine At.d 0 (dE2 10 (bS.enc r2) (fun _=>aO (aFr hr2)) dE0) dF0 ?_
   refine At.J 0 0 [0,2,7] 2 (fun p3=>([(42,(eB p3))],[],[])) (fun p3=>?_) fun p3=>?_
   ·refine boI (fun hc6=>?_) (fun hc6=>?_)
    ·refine At.d 0 (dE1 6 (fun _=>cD hc6 rfl (bY hT (im:=false) (by kernel_rfl))) dE0) dF0 ?_
     apply rt;exact At.jn 0
    ·refine At.d 0 (dE1 6 (fun _=>cD hc6 rfl (bY hT (im:=false) (by kernel_rfl))) (dE1 13 (fun _=>zN aRX (r2:bS) (a2.gE2.gE8:bS) (by kernel_rfl) (by kernel_rfl) (fun _=>rfl) (fun _=>rfl) (by kernel_rfl) (by kernel_rfl)) dE0)) dF0 ?_
     apply rt;exact At.jn 0
   ·refine At.c 0 ?_ ?_
    ·refine bi fun r4 hr4=>?_
     refine At.d 0 (dE2 7 (eA 64 1 k8 r4) (fun _=>aO (aB6 hr4)) dE0) dF0 ?_
     apply rt;exact At.jn 0
    ·apply rt;exact At.jn 0
  ·refine At.b 6 (fun _ e=>aM [] (aEp e)) fun r5=>?_
   apply rt;exact At.r 1
def cX (N:Nat) (b4:(List (List aD))) (a1:Int) (a2:aK) (a3 a4:aA) (a5:Int) (a6:Bool) (a7:aG) (a8:aE) (a9:aI) (a10:aA) (a11:aH) (a12:aB) (a13:aJ):Option (aU×Int):=
 Option.bind (fP N a5 a1 a12) fun r1=>
 some ((r1.1,r1.2))
theorem cF {N b4 a1 a2 a3 a4 a5 a6 a7 a8 a9 a10 a11 a12 a13 r} (h:cX N b4 a1 a2 a3 a4 a5 a6 a7 a8 a9 a10 a11 a12 a13=some r):FnM Tryz.prog 105 [.var (.st 26 [(aK.enc a2),(.ref 1 [] 0),(.ref 2 [] 0),(aA.enc a3),(aA.enc a4),(j64 a5),(eB a6),(aG.enc a7)]),.var (.st 38 [(aE.enc a8),(aI.enc a9),(.ifc 178 (.ref 3 [] 0)),(eO 4 1 (eL 2 aD.enc) b4),(aA.enc a10),(aH.enc a11)]),.var (aB.enc a12),.var (aJ.enc a13),.tail (b4.length*1)] [(.ref 0 [] 0),(j64 a1)] (k32 r.2) [.var (.st 26 [(aK.enc a2),(.ref 1 [] 0),(.ref 2 [] 0),(aA.enc a3),(aA.enc a4),(j64 a5),(eB a6),(aG.enc a7)]),.var (.st 38 [(aE.enc a8),(aI.enc a9),(.ifc 178 (.ref 3 [] 0)),(eO 4 1 (eL 2 aD.enc) b4),(aA.enc a10),(aH.enc a11)]),.var (.st 72 [(aU.enc r.1),(eB a12.gA),(k64 a12.gC),(j64 a12.gB),(j64 a12.gD)]),.var (aJ.enc a13),.tail (b4.length*1)]:=by
 unfold cX at h
 refine At.f cQ hT hmo Tryz.func105 rfl h ?_
 refine bi fun r1 hr1=>?_
 refine At.d 1 dE0 (dF 9 (k32 r1.2) [(2,.var (.st 72 [(aU.enc r1.1),(eB a12.gA),(k64 a12.gC),(j64 a12.gB),(j64 a12.gD)]))] [] (bG (aM [2] (tY hr1))) dF0) ?_
 apply rt;exact At.r 0
def pH (N:Nat) (a0:Int):Option (Int):=
 some (I64 a0)
theorem aAB {N a0 r} (h:pH N a0=some r):FnM Tryz.prog 247 [] [(k32 a0)] (j64 r) []:=by
 unfold pH at h
 refine At.f cQ hT hmo Tryz.func247 rfl h ?_
 apply rt;exact At.r 4
def tL (N:Nat) (a0 a1:Int):Option (Int):=
 aT (cond (decide (a0≥0)) (decide (a1 < 0)) false) fun x1=>
 aT (decide ((I64 (a0 - a1)) < 0)) fun x2=>
 cond (cond x1 x2 false) (
  some 9223372036854775807) (
  aT (cond (decide (a0 < 0)) (decide (a1 > 0)) false) fun x3=>
  aT (decide ((I64 (a0 - a1))≥0)) fun x4=>
  cond (cond x3 x4 false) (some (-9223372036854775808)) (some (I64 (a0 - a1))))
theorem aAU {N a0 a1 r} (h:tL N a0 a1=some r):FnM Tryz.prog 248 [] [(j64 a0),(j64 a1)] (j64 r) []:=by
 unfold tL at h
 refine At.f cQ hT hmo Tryz.func248 rfl h ?_
 refine lx ?_;intro x1
 refine lx ?_;intro x2
 refine At.c 16 ?_ ?_
 ·apply rt;exact At.r 1
 ·refine lx ?_;intro x3
  refine lx ?_;intro x4
  refine At.c 11 ?_ ?_
  ·apply rt;exact At.r 1
  ·apply rt;exact At.r 2
def aQG : Nat→Bool:=imL [1]
def pD (N:Nat) (a0:aC):Option (aA):=
 Option.bind (iF N a0.gX) fun r1=>
 Option.bind (iF N a0.gY) fun r2=>
 Option.bind (iF N a0.gZ) fun r3=>
 some (aA.mk r1 r2 r3)
theorem rM {N a0 r} (h:pD N a0=some r):FnM Tryz.prog 189 [] [(aC.enc a0)] (aA.enc r) []:=by
 unfold pD at h
 refine At.f aQG hT hmo Tryz.func189 rfl h ?_
 refine bi fun r1 hr1=>?_
 refine bi fun r2 hr2=>?_
 refine bi fun r3 hr3=>?_
 refine At.d 2 (dE2 2 (j64 r1) (fun _=>aO (iQ hr1)) (dE2 5 (j64 r2) (fun _=>aO (iQ hr2)) (dE2 8 (j64 r3) (fun _=>aO (iQ hr3)) dE0))) dF0 ?_
 apply rt;exact At.r 0
def tR (N:Nat) (a0:Int):Option (aQ):=
 some (aQ.mk (shr .i64 a0 63) (U64 a0))
theorem aAC {N a0 r} (h:tR N a0=some r):FnM Tryz.prog 230 [] [(j64 a0)] (aQ.enc r) []:=by
 unfold tR at h
 refine At.f cQ hT hmo Tryz.func230 rfl h ?_
 apply rt;exact At.r 7
def aMD : Nat→Bool:=imL [2]
def aAJ (N:Nat) (a0:aQ) (a1:Int):Option (aQ):=
 aT (decide ((jH a1 0)≥64)) fun x1=>
 cond x1 (
  aT (fD (I64 ((jH a1 0) - 64)) 63) fun x2=>
  Option.bind (aFs .i64 a0.gHi x2) fun x3=>
  Option.bind (tR N x3) fun r4=>
  some r4) (
  cond ((jH a1 0)==0) (
   some a0) (
   Option.bind (aFs .i64 a0.gHi (jH a1 0)) fun x5=>
   Option.bind (aFs .u64 a0.gLo (jH a1 0)) fun x6=>
   Option.bind (aJc .u64 (U64 a0.gHi) (I64 (64 - (jH a1 0)))) fun x7=>
   some (aQ.mk x5 (bor .u64 x6 x7))))
theorem aKh {N a0 a1 r} (h:aAJ N a0 a1=some r):FnM Tryz.prog 168 [] [(aQ.enc a0),(j64 a1)] (aQ.enc r) []:=by
 unfold aAJ at h
 refine At.f aMD hT hmo Tryz.func168 rfl h ?_
 refine lx ?_;intro x1
 refine At.c 7 ?_ ?_
 ·refine lx ?_;intro x2
  refine At.b 5 (fun _ e=>zO hT (k' := .i64) e (by kernel_rfl) (by kernel_rfl)) fun x3=>?_
  refine At.b 0 (fun _ e=>aM [] (aAC e)) fun r4=>?_
  apply rt;exact At.r 1
 ·refine At.c 2 ?_ ?_
  ·apply rt;exact At.r 2
  ·refine bi fun x5 hx5=>?_
   refine bi fun x6 hx6=>?_
   refine bi fun x7 hx7=>?_
   refine At.d 0 (dE1 3 (fun _=>zO hT (k' := .i64) hx5 (by kernel_rfl) (by kernel_rfl)) (dE1 7 (fun _=>zO hT (k' := .i64) hx6 (by kernel_rfl) (by kernel_rfl)) (dE1 13 (fun _=>aCm hT (k' := .i64) hx7 (by kernel_rfl) (by kernel_rfl)) dE0))) dF0 ?_
   apply rt;exact At.r 0
def tS (N:Nat) (a0:(List Int)):Nat→Int→Int→Option (Int)
 | 0,_,_=>none
 | k+1,s2,s3=>
  aT (decide (s3 < ((a0.length:Int)))) fun x4=>
  cond x4 (
   Option.bind (Option.bind (idx a0 s3) fun e6=>
   cond (s3==0) (
    some e6) (
    Option.bind (iI N s2 e6) fun r7=>
    Option.bind (aAJ N r7 32) fun r8=>
    Option.bind (sL N r8) fun r9=>
    some r9)) fun p5=>
   tS N a0 k p5 (I64 (s3+1))) (
   some s2)
def xP (N:Nat) (a0:(List Int)):Option (Int):=
 Option.bind (tS N a0 N 4294967296 0) fun p1=>
 some p1
theorem aDa {N a0 r} (h:xP N a0=some r):FnM Tryz.prog 92 [] [(eL 1 j64 a0)] (j64 r) []:=by
 unfold xP at h
 refine At.f cQ hT hmo Tryz.func92 rfl h ?_
 refine At.L 5 [] 0 (fun p1=>([(3,(j64 p1))],[],[])) (fun p1 J k=>∃ s2 s3,tS N a0 k s2 s3=some p1∧J [6,7] 0 [(3,(j64 s2)),(8,(j64 s3))] [] []) N (fun _ h=>⟨_,_,h,jr⟩) (fun p1 k s hI=>?_) fun p1=>?_
 ·obtain ⟨s2,s3,h,hj⟩:=hI
  cases k with
  | zero=>cases h
  | succ k=>
   refine At.jr hj ?_ h
   refine lx ?_;intro x4
   refine At.c 1 ?_ ?_
   ·refine At.J 0 2 [6,7,8] 0 (fun p5=>([(3,(j64 p5))],[],[])) (fun p5=>?_) fun p5=>?_
    ·refine At.b 1 (fun _ e=>bF hT j64 e) fun e6=>?_
     refine At.c 5 ?_ ?_
     ·apply rt;exact At.jn 2
     ·refine At.b 2 (fun _ e=>aM [] (kU e)) fun r7=>?_
      refine At.b 0 (fun _ e=>aM [] (aKh e)) fun r8=>?_
      refine At.b 0 (fun _ e=>aM [] (aCK e)) fun r9=>?_
      apply rt;exact At.jn 1
    ·exact fun h=>At.k 2 ⟨_,_,h,jr⟩
   ·apply rt;exact At.x 0
 ·apply rt;exact At.r 2
def rK (N:Nat) (a0 a1:Int):Option (Int):=
 Option.bind (xP N ([a0,a1])) fun r1=>
 some r1
theorem aAR {N a0 a1 r} (h:rK N a0 a1=some r):FnM Tryz.prog 267 [] [(j64 a0),(j64 a1)] (j64 r) []:=by
 unfold rK at h
 refine At.f cQ hT hmo Tryz.func267 rfl h ?_
 refine At.o 3 (bQ hT (x:=(.sl 1 2 [(j64 a0),(j64 a1)]))) ?_
 refine At.b 0 (fun _ e=>aM [] (aDa e)) fun r1=>?_
 apply rt;exact At.r 1
def aDL : Nat→Bool:=imL [3,4]
def nU (N:Nat) (a0 a1:aA):Option (aA):=
 Option.bind (rK N a0.gX a1.gX) fun r1=>
 Option.bind (rK N a0.gY a1.gY) fun r2=>
 Option.bind (rK N a0.gZ a1.gZ) fun r3=>
 some (aA.mk r1 r2 r3)
theorem aC3 {N a0 a1 r} (h:nU N a0 a1=some r):FnM Tryz.prog 198 [] [(aA.enc a0),(aA.enc a1),(.fn (.func 267) [] [])] (aA.enc r) []:=by
 unfold nU at h
 refine At.f aDL hT hmo Tryz.func198 rfl h ?_
 refine bi fun r1 hr1=>?_
 refine bi fun r2 hr2=>?_
 refine bi fun r3 hr3=>?_
 refine At.d 3 (dE2 5 (j64 r1) (fun _=>aO (aAR hr1)) (dE2 11 (j64 r2) (fun _=>aO (aAR hr2)) (dE2 17 (j64 r3) (fun _=>aO (aAR hr3)) dE0))) dF0 ?_
 apply rt;exact At.r 0
def kA (N:Nat) (a0:(List aA)):Nat→aA→Int→Option (aA)
 | 0,_,_=>none
 | k+1,s2,s3=>
  aT (decide (s3 < ((a0.length:Int)))) fun x4=>
  cond x4 (
   Option.bind (idx a0 s3) fun e5=>
   Option.bind (nU N s2 e5) fun r6=>
   kA N a0 k r6 (I64 (s3+1))) (
   some s2)
def iX (N:Nat) (a0:(List aA)):Option (aA):=
 Option.bind (kA N a0 N (aA.mk 4294967296 4294967296 4294967296) 0) fun p1=>
 some p1
theorem qS {N a0 r} (h:iX N a0=some r):FnM Tryz.prog 196 [] [(eL 3 aA.enc a0)] (aA.enc r) []:=by
 unfold iX at h
 refine At.f cQ hT hmo Tryz.func196 rfl h ?_
 refine At.L 7 [2,3] 2 (fun p1=>([],[(1,.var (aA.enc p1))],[])) (fun p1 J k=>∃ s2 s3,kA N a0 k s2 s3=some p1∧J [2,3,7,8] 2 [(9,(j64 s3))] [(1,.var (aA.enc s2))] []) N (fun _ h=>⟨_,_,h,jr⟩) (fun p1 k s hI=>?_) fun p1=>?_
 ·obtain ⟨s2,s3,h,hj⟩:=hI
  cases k with
  | zero=>cases h
  | succ k=>
   refine At.jr hj ?_ h
   refine lx ?_;intro x4
   refine At.c 1 ?_ ?_
   ·refine At.b 0 (fun _ e=>bF hT aA.enc e) fun e5=>?_
    refine At.b 5 (fun _ e=>aM [] (aC3 e)) fun r6=>?_
    exact fun h=>At.k 3 ⟨_,_,h,jr⟩
   ·apply rt;exact At.x 0
 ·apply rt;exact At.r 2
def aKy : Nat→Bool:=imL [2]
def fE (N:Nat) (a0:aA) (a1:Int):Option (aA):=
 Option.bind (iX N ([a0,aA.mk a1 a1 a1])) fun r1=>
 some r1
theorem jG {N a0 a1 r} (h:fE N a0 a1=some r):FnM Tryz.prog 111 [] [(aA.enc a0),(j64 a1)] (aA.enc r) []:=by
 unfold fE at h
 refine At.f aKy hT hmo Tryz.func111 rfl h ?_
 refine At.o 7 (bQ hT (x:=(.sl 3 2 [(aA.enc a0),(.st 3 [(j64 a1),(j64 a1),(j64 a1)])]))) ?_
 refine At.b 0 (fun _ e=>aM [] (qS e)) fun r1=>?_
 apply rt;exact At.r 1
def aHi : Nat→Bool:=imL [6,11]
def uK (N:Nat) (a0:bP) (a1 a2 a3 a4:Int) (a5:(Vector Int 2)):Option (aA×Int):=
 Option.bind (tN N a0 a1 a2) fun r1=>
 cond (r1 != 0) (
  some ((aA.mk 0 0 0,r1))) (
  aT (cond (decide (a3 < 0)) true (decide (a3≥a1))) fun x2=>
  aT (cond x2 true (decide (a4 < 0))) fun x3=>
  aT (cond x3 true (decide (a4≥a2))) fun x4=>
  cond x4 (
   some ((aA.mk 0 0 0,2))) (
   aT (I64 ((I64 (2*a3)) - a1)) fun x5=>
   Option.bind (iF N x5) fun r6=>
   Option.bind (idx a5.toList 0) fun e7=>
   Option.bind (pH N e7) fun r8=>
   Option.bind (jS N ([r6,I64 (2*r8)])) fun r9=>
   Option.bind (iF N a1) fun r10=>
   Option.bind (iN N r9 r10) fun r11=>
   aT (I64 (a2 - (I64 (2*a4)))) fun x12=>
   Option.bind (iF N x12) fun r13=>
   Option.bind (idx a5.toList 1) fun e14=>
   Option.bind (pH N e14) fun r15=>
   Option.bind (tL N r13 (I64 (2*r15))) fun r16=>
   Option.bind (iF N a2) fun r17=>
   Option.bind (iN N r16 r17) fun r18=>
   Option.bind (pD N a0.gD8) fun r19=>
   Option.bind (pD N a0.gB3) fun r20=>
   Option.bind (fE N r20 r11) fun r21=>
   Option.bind (pD N a0.gUp) fun r22=>
   Option.bind (fE N r22 r18) fun r23=>
   Option.bind (kP N ([r19,r21,r23])) fun r24=>
   some ((r24,0))))
theorem aGq {N a0 a1 a2 a3 a4 a5 r} (h:uK N a0 a1 a2 a3 a4 a5=some r):FnM Tryz.prog 186 [] [(bP.enc a0),(j64 a1),(j64 a2),(j64 a3),(j64 a4),(eA 2 1 k32 a5)] (.tup [(aA.enc r.1),(j64 r.2)]) []:=by
 unfold uK at h
 refine At.f aHi hT hmo Tryz.func186 rfl h ?_
 refine At.b 7 (fun _ e=>aM [] (aDB e)) fun r1=>?_
 refine At.c 3 ?_ ?_
 ·apply rt;exact At.r 4
 ·refine lx ?_;intro x2
  refine lx ?_;intro x3
  refine lx ?_;intro x4
  refine At.c 16 ?_ ?_
  ·apply rt;exact At.r 3
  ·refine lx ?_;intro x5
   refine bi fun r6 hr6=>?_
   refine bi fun e7 he7=>?_
   refine bi fun r8 hr8=>?_
   refine bi fun r9 hr9=>?_
   refine bi fun r10 hr10=>?_
   refine bi fun r11 hr11=>?_
   refine At.d 0 (dE2 4 (j64 r6) (fun _=>aO (iQ hr6)) (dE1 5 (fun _=>dS hT (N:=2) (k:=1) k32 a5 he7) (dE2 7 (j64 r8) (fun _=>aO (aAB hr8)) (dE1 9 (fun _=>bQ hT (x:=(.sl 1 2 [(j64 r6),(j64 (I64 (2*r8)))]))) (dE2 10 (j64 r9) (fun _=>aO (pN hr9)) (dE2 12 (j64 r10) (fun _=>aO (iQ hr10)) (dE2 13 (j64 r11) (fun _=>aO (lK hr11)) dE0))))))) dF0 ?_
   refine lx ?_;intro x12
   refine bi fun r13 hr13=>?_
   refine bi fun e14 he14=>?_
   refine bi fun r15 hr15=>?_
   refine bi fun r16 hr16=>?_
   refine bi fun r17 hr17=>?_
   refine bi fun r18 hr18=>?_
   refine At.d 0 (dE2 4 (j64 r13) (fun _=>aO (iQ hr13)) (dE1 5 (fun _=>dS hT (N:=2) (k:=1) k32 a5 he14) (dE2 7 (j64 r15) (fun _=>aO (aAB hr15)) (dE2 9 (j64 r16) (fun _=>aO (aAU hr16)) (dE2 11 (j64 r17) (fun _=>aO (iQ hr17)) (dE2 12 (j64 r18) (fun _=>aO (lK hr18)) dE0)))))) dF0 ?_
   refine bi fun r19 hr19=>?_
   refine bi fun r20 hr20=>?_
   refine bi fun r21 hr21=>?_
   refine bi fun r22 hr22=>?_
   refine bi fun r23 hr23=>?_
   refine bi fun r24 hr24=>?_
   refine At.d 0 (dE2 2 (aA.enc r19) (fun _=>aO (rM hr19)) (dE2 5 (aA.enc r20) (fun _=>aO (rM hr20)) (dE2 7 (aA.enc r21) (fun _=>aO (jG hr21)) (dE2 10 (aA.enc r22) (fun _=>aO (rM hr22)) (dE2 12 (aA.enc r23) (fun _=>aO (jG hr23)) (dE1 13 (fun _=>bQ hT (x:=(.sl 3 3 [(aA.enc r19),(aA.enc r21),(aA.enc r23)]))) (dE2 14 (aA.enc r24) (fun _=>aO (rZ hr24)) dE0))))))) dF0 ?_
   apply rt;exact At.r 0
def qD (N:Nat) (a0 a1:Int):Option (Int):=
 aT (fD (jH a1 0) 2147483648) fun x1=>
 aT (U64 ((U64 a0)*(U64 x1))) fun x2=>
 some (I64 (shr .u64 x2 32))
theorem aBw {N a0 a1 r} (h:qD N a0 a1=some r):FnM Tryz.prog 250 [] [(k32 a0),(j64 a1)] (j64 r) []:=by
 unfold qD at h
 refine At.f cQ hT hmo Tryz.func250 rfl h ?_
 refine lx ?_;intro x1
 refine lx ?_;intro x2
 apply rt;exact At.r 13
def mF (N:Nat) (a0:Int) (a1:bP):Option (Int):=
 aT (I64 ((I64 (2*a1.gC4))+1)) fun x1=>
 Option.bind (qD N a0 x1) fun r2=>
 Option.bind (iF N (I64 (r2 - a1.gC4))) fun r3=>
 Option.bind (iF N 16384) fun r4=>
 Option.bind (iN N r3 r4) fun r5=>
 some r5
theorem aAE {N a0 a1 r} (h:mF N a0 a1=some r):FnM Tryz.prog 249 [] [(k32 a0),(.im (bP.enc a1))] (j64 r) []:=by
 unfold mF at h
 refine At.f cQ hT hmo Tryz.func249 rfl h ?_
 refine lx ?_;intro x1
 refine bi fun r2 hr2=>?_
 refine bi fun r3 hr3=>?_
 refine bi fun r4 hr4=>?_
 refine bi fun r5 hr5=>?_
 refine At.d 1 (dE2 5 (j64 r2) (fun _=>aO (aBw hr2)) (dE2 9 (j64 r3) (fun _=>aO (iQ hr3)) (dE2 10 (j64 r4) (fun _=>aO (iQ hr4)) (dE2 11 (j64 r5) (fun _=>aO (lK hr5)) dE0)))) dF0 ?_
 apply rt;exact At.r 0
def sG (N:Nat) (a0:Int):Option (Int):=
 aT (iK .i64 (shr .i64 a0 31) 1) fun x1=>
 aT (I64 ((shr .i64 a0 32)+x1)) fun x2=>
 some x2
theorem aBh {N a0 r} (h:sG N a0=some r):FnM Tryz.prog 251 [] [(j64 a0)] (j64 r) []:=by
 unfold sG at h
 refine At.f cQ hT hmo Tryz.func251 rfl h ?_
 refine lx ?_;intro x1
 refine lx ?_;intro x2
 apply rt;exact At.r 8
def aJQ : Nat→Bool:=imL [2,3]
def wA (N:Nat) (a0:bP) (a1:(Vector Int 4)):Option (aC):=
 Option.bind (pD N a0.gB3) fun r1=>
 Option.bind (idx a1.toList 2) fun e2=>
 Option.bind (mF N e2 a0) fun r3=>
 Option.bind (fE N r1 r3) fun r4=>
 Option.bind (pD N a0.gUp) fun r5=>
 Option.bind (idx a1.toList 3) fun e6=>
 Option.bind (mF N e6 a0) fun r7=>
 Option.bind (fE N r5 r7) fun r8=>
 Option.bind (kP N ([r4,r8])) fun r9=>
 Option.bind (sG N r9.gX) fun r10=>
 Option.bind (sG N r9.gY) fun r11=>
 Option.bind (sG N r9.gZ) fun r12=>
 some (aC.mk r10 r11 r12)
theorem aHh {N a0 a1 r} (h:wA N a0 a1=some r):FnM Tryz.prog 187 [] [(bP.enc a0),(eA 4 1 k32 a1)] (aC.enc r) []:=by
 unfold wA at h
 refine At.f aJQ hT hmo Tryz.func187 rfl h ?_
 refine At.o 3 (qT (x:=(.fn (.func 249) [] [(.im (bP.enc a0))])) (by kernel_rfl) (by kernel_rfl)) ?_
 refine bi fun r1 hr1=>?_
 refine bi fun e2 he2=>?_
 refine bi fun r3 hr3=>?_
 refine bi fun r4 hr4=>?_
 refine bi fun r5 hr5=>?_
 refine bi fun e6 he6=>?_
 refine bi fun r7 hr7=>?_
 refine bi fun r8 hr8=>?_
 refine bi fun r9 hr9=>?_
 refine At.d 1 (dE2 2 (aA.enc r1) (fun _=>aO (rM hr1)) (dE1 4 (fun _=>dS hT (N:=4) (k:=1) k32 a1 he2) (dE2 6 (j64 r3) (fun _=>aO (aAE hr3)) (dE2 7 (aA.enc r4) (fun _=>aO (jG hr4)) (dE2 10 (aA.enc r5) (fun _=>aO (rM hr5)) (dE1 12 (fun _=>dS hT (N:=4) (k:=1) k32 a1 he6) (dE2 14 (j64 r7) (fun _=>aO (aAE hr7)) (dE2 15 (aA.enc r8) (fun _=>aO (jG hr8)) (dE1 16 (fun _=>bQ hT (x:=(.sl 3 2 [(aA.enc r4),(aA.enc r8)]))) (dE2 17 (aA.enc r9) (fun _=>aO (rZ hr9)) dE0)))))))))) dF0 ?_
 refine bi fun r10 hr10=>?_
 refine bi fun r11 hr11=>?_
 refine bi fun r12 hr12=>?_
 refine At.d 0 (dE2 2 (j64 r10) (fun _=>aO (aBh hr10)) (dE2 5 (j64 r11) (fun _=>aO (aBh hr11)) (dE2 8 (j64 r12) (fun _=>aO (aBh hr12)) dE0))) dF0 ?_
 apply rt;exact At.r 0
def aHP : Nat→Bool:=imL [3,4]
def vX (N:Nat) (a0 a1:aA):Option (aA):=
 Option.bind (tL N a0.gX a1.gX) fun r1=>
 Option.bind (tL N a0.gY a1.gY) fun r2=>
 Option.bind (tL N a0.gZ a1.gZ) fun r3=>
 some (aA.mk r1 r2 r3)
theorem aFp {N a0 a1 r} (h:vX N a0 a1=some r):FnM Tryz.prog 198 [] [(aA.enc a0),(aA.enc a1),(.fn (.func 248) [] [])] (aA.enc r) []:=by
 unfold vX at h
 refine At.f aHP hT hmo Tryz.func198 rfl h ?_
 refine bi fun r1 hr1=>?_
 refine bi fun r2 hr2=>?_
 refine bi fun r3 hr3=>?_
 refine At.d 3 (dE2 5 (j64 r1) (fun _=>aO (aAU hr1)) (dE2 11 (j64 r2) (fun _=>aO (aAU hr2)) (dE2 17 (j64 r3) (fun _=>aO (aAU hr3)) dE0))) dF0 ?_
 apply rt;exact At.r 0
def aNz : Nat→Bool:=imL [2,3]
def vJ (N:Nat) (a0 a1:aA):Option (aA):=
 Option.bind (vX N a0 a1) fun r1=>
 some r1
theorem aBc {N a0 a1 r} (h:vJ N a0 a1=some r):FnM Tryz.prog 188 [] [(aA.enc a0),(aA.enc a1)] (aA.enc r) []:=by
 unfold vJ at h
 refine At.f aNz hT hmo Tryz.func188 rfl h ?_
 refine At.b 5 (fun _ e=>aM [] (aFp e)) fun r1=>?_
 apply rt;exact At.r 1
def tX (N:Nat) (a0:Int):Option (Int):=
 Option.bind (tL N 0 a0) fun r1=>
 some r1
theorem aBq {N a0 r} (h:tX N a0=some r):FnM Tryz.prog 321 [] [(j64 a0)] (j64 r) []:=by
 unfold tX at h
 refine At.f cQ hT hmo Tryz.func321 rfl h ?_
 refine At.b 2 (fun _ e=>aM [] (aAU e)) fun r1=>?_
 apply rt;exact At.r 1
def xL (N:Nat) (a0:Int):Option (Int):=
 Option.bind (tX N a0) fun r1=>
 some (jH a0 r1)
theorem aDI {N a0 r} (h:xL N a0=some r):FnM Tryz.prog 312 [] [(j64 a0)] (j64 r) []:=by
 unfold xL at h
 refine At.f cQ hT hmo Tryz.func312 rfl h ?_
 refine At.b 3 (fun _ e=>aM [] (aBq e)) fun r1=>?_
 apply rt;exact At.r 2
def aLS : Nat→Bool:=imL [1]
def wZ (N:Nat) (a0:aA):Option (Int):=
 Option.bind (xL N a0.gX) fun r1=>
 Option.bind (xL N a0.gY) fun r2=>
 Option.bind (xL N a0.gZ) fun r3=>
 some (jH (jH r1 r2) r3)
theorem aFT {N a0 r} (h:wZ N a0=some r):FnM Tryz.prog 252 [] [(aA.enc a0)] (j64 r) []:=by
 unfold wZ at h
 refine At.f aLS hT hmo Tryz.func252 rfl h ?_
 refine bi fun r1 hr1=>?_
 refine bi fun r2 hr2=>?_
 refine bi fun r3 hr3=>?_
 refine At.d 2 (dE2 2 (j64 r1) (fun _=>aO (aDI hr1)) (dE2 5 (j64 r2) (fun _=>aO (aDI hr2)) (dE2 8 (j64 r3) (fun _=>aO (aDI hr3)) (dE1 9 (fun _=>aAQ (k := .i64) (i:=r1) (j:=r2) (l:=r3) (by kernel_rfl) (by kernel_rfl)) dE0)))) dF0 ?_
 apply rt;exact At.r 0
def jC (N:Nat) (a0 a1 a2:Int):Option (Int):=
 cond (a2==0) (
  some 0) (
  Option.bind (iI N a0 a1) fun r1=>
  Option.bind (pK N r1 a2) fun r2=>
  Option.bind (pI N r2.1) fun r3=>
  cond r3.2 (
   some r3.1) (
   cond (decide (r2.1.gHi < 0)) (some (-9223372036854775808)) (some 9223372036854775807)))
theorem sW {N a0 a1 a2 r} (h:jC N a0 a1 a2=some r):FnM Tryz.prog 254 [] [(j64 a0),(j64 a1),(j64 a2)] (j64 r) []:=by
 unfold jC at h
 refine At.f cQ hT hmo Tryz.func254 rfl h ?_
 refine At.c 3 ?_ ?_
 ·apply rt;exact At.r 1
 ·refine At.b 2 (fun _ e=>aM [] (kU e)) fun r1=>?_
  refine At.b 4 (fun _ e=>aM [] (aAa e)) fun r2=>?_
  refine At.b 9 (fun _ e=>aM [] (yB e)) fun r3=>?_
  refine At.c 6 ?_ ?_
  ·apply rt;exact At.r 2
  ·refine At.c 3 ?_ ?_
   ·apply rt;exact At.r 1
   ·apply rt;exact At.r 1
def kG (N:Nat) (a0 a1:Int):Option (Int):=
 Option.bind (jC N a0 16384 a1) fun r1=>
 some (jH r1 (-16384))
theorem vF {N a0 a1 r} (h:kG N a0 a1=some r):FnM Tryz.prog 253 [] [(j64 a0),(.im (j64 a1))] (j64 r) []:=by
 unfold kG at h
 refine At.f cQ hT hmo Tryz.func253 rfl h ?_
 refine At.b 3 (fun _ e=>aM [] (sW e)) fun r1=>?_
 apply rt;exact At.r 2
def aJK : Nat→Bool:=imL [1]
def tP (N:Nat) (a0:aA):Option (aC×Int):=
 Option.bind (wZ N a0) fun r1=>
 cond (r1==0) (
  some ((aC.mk 0 0 0,2))) (
  Option.bind (kG N a0.gX r1) fun r2=>
  Option.bind (kG N a0.gY r1) fun r3=>
  Option.bind (kG N a0.gZ r1) fun r4=>
  some ((aC.mk r2 r3 r4,0)))
theorem aDG {N a0 r} (h:tP N a0=some r):FnM Tryz.prog 190 [] [(aA.enc a0)] (.tup [(aC.enc r.1),(j64 r.2)]) []:=by
 unfold tP at h
 refine At.f aJK hT hmo Tryz.func190 rfl h ?_
 refine At.b 4 (fun _ e=>aM [] (aFT e)) fun r1=>?_
 refine At.c 4 ?_ ?_
 ·apply rt;exact At.r 3
 ·refine At.gz 0 1 ((j64 r1)) ?_
  refine At.o 0 (qT (x:=(.fn (.func 253) [] [(.im (j64 r1))])) (by kernel_rfl) (by kernel_rfl)) ?_
  refine bi fun r2 hr2=>?_
  refine bi fun r3 hr3=>?_
  refine bi fun r4 hr4=>?_
  refine At.d 1 (dE2 3 (j64 r2) (fun _=>aO (vF hr2)) (dE2 7 (j64 r3) (fun _=>aO (vF hr3)) (dE2 11 (j64 r4) (fun _=>aO (vF hr4)) dE0))) dF0 ?_
  apply rt;exact At.r 0
def aLz : Nat→Bool:=imL [6,11]
def vA (N:Nat) (a0:bP) (a1 a2 a3 a4:Int) (a5:(Vector Int 4)):Option (aC×aC×Int):=
 Option.bind (idx a5.toList 0) fun e1=>
 Option.bind (idx a5.toList 1) fun e2=>
 Option.bind (uK N a0 a1 a2 a3 a4 (#v[e1,e2])) fun r3=>
 cond (r3.2 != 0) (
  some ((aC.mk 0 0 0,aC.mk 0 0 0,r3.2))) (
  Option.bind (cond (decide (a0.gC4 > 0)) (
   Option.bind (wA N a0 a5) fun r5=>
   aT (I64 (a0.gA3.gX+r5.gX)) fun x6=>
   aT (I64 (a0.gA3.gY+r5.gY)) fun x7=>
   aT (I64 (a0.gA3.gZ+r5.gZ)) fun x8=>
   Option.bind (iF N a0.gC7) fun r9=>
   Option.bind (iF N 16384) fun r10=>
   Option.bind (iN N r9 r10) fun r11=>
   Option.bind (fE N r3.1 r11) fun r12=>
   Option.bind (pD N r5) fun r13=>
   Option.bind (vJ N r12 r13) fun r14=>
   some ((aC.mk ((I64 (a0.gA3.gX+r5.gX))) ((I64 (a0.gA3.gY+r5.gY))) ((I64 (a0.gA3.gZ+r5.gZ))),r14))) (
   some ((a0.gA3,r3.1)))) fun p4=>
  Option.bind (tP N p4.2) fun r15=>
  cond (r15.2 != 0) (
   some ((aC.mk 0 0 0,aC.mk 0 0 0,r15.2))) (
   some ((p4.1,r15.1,0))))
theorem aFK {N a0 a1 a2 a3 a4 a5 r} (h:vA N a0 a1 a2 a3 a4 a5=some r):FnM Tryz.prog 106 [] [(bP.enc a0),(j64 a1),(j64 a2),(j64 a3),(j64 a4),(eA 4 1 k32 a5)] (.tup [(aC.enc r.1),(aC.enc r.2.1),(j64 r.2.2)]) []:=by
 unfold vA at h
 refine At.f aLz hT hmo Tryz.func106 rfl h ?_
 refine At.b 10 (fun _ e=>dS hT (N:=4) (k:=1) k32 a5 e) fun e1=>?_
 refine At.b 1 (fun _ e=>dS hT (N:=4) (k:=1) k32 a5 e) fun e2=>?_
 refine At.b 2 (fun _ e=>aM [] (aGq e)) fun r3=>?_
 refine At.c 8 ?_ ?_
 ·refine At.d 0 dE0 dF0 ?_
  apply rt;exact At.r 0
 ·refine At.J 3 1 [12,13,15] 3 (fun p4=>([],[(0,.var (aC.enc p4.1)),(2,.var (aA.enc p4.2))],[])) (fun p4=>?_) fun p4=>?_
  ·refine At.c 3 ?_ ?_
   ·refine At.b 2 (fun _ e=>aM [] (aHh e)) fun r5=>?_
    refine lx ?_;intro x6
    refine lx ?_;intro x7
    refine lx ?_;intro x8
    refine bi fun r9 hr9=>?_
    refine bi fun r10 hr10=>?_
    refine bi fun r11 hr11=>?_
    refine bi fun r12 hr12=>?_
    refine bi fun r13 hr13=>?_
    refine bi fun r14 hr14=>?_
    refine At.d 19 (dE2 3 (j64 r9) (fun _=>aO (iQ hr9)) (dE2 4 (j64 r10) (fun _=>aO (iQ hr10)) (dE2 5 (j64 r11) (fun _=>aO (lK hr11)) (dE2 6 (aA.enc r12) (fun _=>aO (jG hr12)) (dE2 8 (aA.enc r13) (fun _=>aO (rM hr13)) (dE2 9 (aA.enc r14) (fun _=>aO (aBc hr14)) dE0)))))) dF0 ?_
    apply rt;exact At.jn 0
   ·apply rt;exact At.jn 0
  ·refine At.b 1 (fun _ e=>aM [] (aDG e)) fun r15=>?_
   refine At.c 7 ?_ ?_
   ·apply rt;exact At.r 6
   ·refine At.d 0 dE0 dF0 ?_
    apply rt;exact At.r 0
def iH (N:Nat) (a0:aJ):Option (Bool):=
 some (!a0.gA)
theorem rQ {N a0 r} (h:iH N a0=some r):FnM Tryz.prog 368 [.var (aJ.enc a0)] [(.ref 0 [] 0)] (eB r) [.var (aJ.enc a0)]:=by
 unfold iH at h
 refine At.f cQ hT hmo Tryz.func368 rfl h ?_
 refine At.o 2 (aBl hT (t:=178) (x:=(.ref 0 [] 0)) (b:=true) (by kernel_rfl) rfl rfl (by kernel_rfl)) ?_
 refine At.g [5] 8 ?_
 apply rt;exact At.r 0
def oS (N:Nat) (a0:aJ):Option (Unit):=
 some (())
theorem aB4 {N a0 r} (h:oS N a0=some r):FnM Tryz.prog 367 [.var (aJ.enc a0)] [(.ref 0 [0] 0)] (.tup []) [.var (.st 3 [(.st 1 [(j64 (I64 (a0.gD4.gn+1)))]),(eB a0.gA),(eL 19 aF.enc a0.gl)])]:=by
 unfold oS at h
 refine At.f cQ hT hmo Tryz.func367 rfl h ?_
 apply rt;exact At.z 8
def aKd : Nat→Bool:=imL [1]
def vT (N:Nat) (a0:aC):Option (Bool):=
 Option.bind (qZ N a0 65536) fun r1=>
 some (!r1)
theorem aIm {N a0 r} (h:vT N a0=some r):FnM Tryz.prog 372 [] [(aC.enc a0)] (eB r) []:=by
 unfold vT at h
 refine At.f aKd hT hmo Tryz.func372 rfl h ?_
 refine At.b 3 (fun _ e=>aM [] (aAz e)) fun r1=>?_
 apply rt;exact At.r 2
def cU (N:Nat) (a0:(List aC)):Nat→Int→Option (Sum (Unit) (Int))
 | 0,_=>none
 | k+1,s2=>
  aT (decide (s2 < ((a0.length:Int)))) fun x3=>
  cond x3 (
   Option.bind (idx a0 s2) fun e4=>
   Option.bind (vT N e4) fun r5=>
   cond r5 (
    some (Sum.inr s2)) (
    cU N a0 k (I64 (s2+1)))) (
   some (Sum.inl (())))
def dC (N:Nat) (a0:(List aC)):Option (Int):=
 Option.bind (cU N a0 N 0) fun o=>nS o (fun p1=>
  some (-1)) (fun r=>some r)
theorem pP {N a0 r} (h:dC N a0=some r):FnM Tryz.prog 375 [] [(eL 3 aC.enc a0),(.fn (.func 372) [] [])] (j64 r) []:=by
 unfold dC at h
 refine At.f cQ hT hmo Tryz.func375 rfl h ?_
 refine At.LS 4 [] 0 (fun p1=>([],[],[])) (fun op1 J k=>∃ s2,cU N a0 k s2=some op1∧J [0,1,7] 0 [(8,(j64 s2))] [] []) N (fun _ h=>⟨_,h,jr⟩) (fun op1 g1 k s hI=>?_) fun p1=>?_
 ·obtain ⟨s2,h,hj⟩:=hI
  cases k with
  | zero=>cases h
  | succ k=>
   refine At.jr hj ?_ h
   refine lx ?_;intro x3
   refine At.c 1 ?_ ?_
   ·refine At.b 5 (fun _ e=>bF hT aC.enc e) fun e4=>?_
    refine At.b 1 (fun _ e=>aM [] (aIm e)) fun r5=>?_
    refine At.c 0 ?_ ?_
    ·intro e;apply aBM g1 e;exact At.r 2
    ·exact fun h=>At.k 2 ⟨_,h,jr⟩
   ·apply rt;exact At.xs 0
 ·apply rt;exact At.r 1
def bZ (N:Nat) (a0:(List aC)):Option (Bool):=
 Option.bind (dC N a0) fun r1=>
 some (decide (r1≥0))
theorem oC {N a0 r} (h:bZ N a0=some r):FnM Tryz.prog 373 [] [(eL 3 aC.enc a0),(.fn (.func 372) [] [])] (eB r) []:=by
 unfold bZ at h
 refine At.f cQ hT hmo Tryz.func373 rfl h ?_
 refine At.b 3 (fun _ e=>aM [] (pP e)) fun r1=>?_
 apply rt;exact At.r 2
def aON : Nat→Bool:=imL [2,3]
def pV (N:Nat) (a0 a1:aC):Option (aC):=
 some (aC.mk (I64 (a0.gX - a1.gX)) (I64 (a0.gY - a1.gY)) (I64 (a0.gZ - a1.gZ)))
theorem sR {N a0 a1 r} (h:pV N a0 a1=some r):FnM Tryz.prog 257 [] [(aC.enc a0),(aC.enc a1)] (aC.enc r) []:=by
 unfold pV at h
 refine At.f aON hT hmo Tryz.func257 rfl h ?_
 apply rt;exact At.r 20
def aKP : Nat→Bool:=imL [2,3]
def sP (N:Nat) (a0 a1:aC):Option (aC):=
 aT (I64 ((I64 (a0.gY*a1.gZ)) - (I64 (a0.gZ*a1.gY)))) fun x1=>
 aT (I64 ((I64 (a0.gZ*a1.gX)) - (I64 (a0.gX*a1.gZ)))) fun x2=>
 aT (I64 ((I64 (a0.gX*a1.gY)) - (I64 (a0.gY*a1.gX)))) fun x3=>
 some (aC.mk ((I64 ((I64 (a0.gY*a1.gZ)) - (I64 (a0.gZ*a1.gY))))) ((I64 ((I64 (a0.gZ*a1.gX)) - (I64 (a0.gX*a1.gZ))))) ((I64 ((I64 (a0.gX*a1.gY)) - (I64 (a0.gY*a1.gX))))))
theorem yY {N a0 a1 r} (h:sP N a0 a1=some r):FnM Tryz.prog 256 [] [(aC.enc a0),(aC.enc a1)] (aC.enc r) []:=by
 unfold sP at h
 refine At.f aKP hT hmo Tryz.func256 rfl h ?_
 refine lx ?_;intro x1
 refine lx ?_;intro x2
 refine lx ?_;intro x3
 apply rt;exact At.r 38
def aNq : Nat→Bool:=imL [2,3]
def vI (N:Nat) (a0 a1:aC):Option (Int):=
 aT (I64 ((I64 (a0.gX*a1.gX))+(I64 (a0.gY*a1.gY)))) fun x1=>
 aT (I64 (x1+(I64 (a0.gZ*a1.gZ)))) fun x2=>
 some x2
theorem aAG {N a0 a1 r} (h:vI N a0 a1=some r):FnM Tryz.prog 374 [] [(aC.enc a0),(aC.enc a1)] (j64 r) []:=by
 unfold vI at h
 refine At.f aNq hT hmo Tryz.func374 rfl h ?_
 refine lx ?_;intro x1
 refine lx ?_;intro x2
 apply rt;exact At.r 21
def aNg : Nat→Bool:=imL [3,4,5]
def zW (N:Nat) (a0 a1:aC) (a2:(Vector aC 3)):Option (aS×Bool):=
 Option.bind (Option.bind (tM N a0 a1) fun r2=>
 cond (!r2) (
  some true) (
  Option.bind (vU a2.toList 0 3) fun s3=>
  Option.bind (bZ N s3) fun r4=>
  some r4)) fun p1=>
 cond p1 (
  some ((aS.mk 0 0 0 0,false))) (
  Option.bind (idx a2.toList 1) fun e5=>
  Option.bind (idx a2.toList 0) fun e6=>
  Option.bind (pV N e5 e6) fun r7=>
  Option.bind (idx a2.toList 2) fun e8=>
  Option.bind (idx a2.toList 0) fun e9=>
  Option.bind (pV N e8 e9) fun r10=>
  Option.bind (sP N a1 r10) fun r11=>
  Option.bind (idx a2.toList 0) fun e12=>
  Option.bind (pV N a0 e12) fun r13=>
  Option.bind (sP N r13 r7) fun r14=>
  Option.bind (vI N r10 r14) fun r15=>
  Option.bind (vI N r7 r11) fun r16=>
  Option.bind (vI N r13 r11) fun r17=>
  Option.bind (vI N a1 r14) fun r18=>
  Option.bind (cond (decide (r16 < 0)) (
   some (aS.mk (I64 (0 - r15)) (I64 (0 - r16)) (I64 (0 - r17)) (I64 (0 - r18)))) (
   some (aS.mk r15 r16 r17 r18))) fun p19=>
  aT (cond (p19.gB7==0) true (decide (p19.gU < 0))) fun x20=>
  aT (cond x20 true (decide (p19.gV < 0))) fun x21=>
  aT (decide ((I64 (p19.gU+p19.gV)) > p19.gB7)) fun x22=>
  aT (cond (cond x21 true x22) true (decide (p19.gC1≤0))) fun x23=>
  cond x23 (some ((aS.mk 0 0 0 0,false))) (some ((p19,true))))
theorem aGx {N a0 a1 a2 r} (h:zW N a0 a1 a2=some r):FnM Tryz.prog 371 [] [(aC.enc a0),(aC.enc a1),(eA 9 3 aC.enc a2)] (.tup [(aS.enc r.1),(eB r.2)]) []:=by
 unfold zW at h
 refine At.f aNg hT hmo Tryz.func371 rfl h ?_
 refine At.J 6 0 [3,4,5,6] 1 (fun p1=>([(22,(eB p1))],[],[])) (fun p1=>?_) fun p1=>?_
 ·refine At.b 2 (fun _ e=>aM [] (zY e)) fun r2=>?_
  refine At.s 18 2 ?_ ?_
  ·refine At.g [18] 4 ?_
   apply rt;exact At.jn 0
  ·refine At.b 0 (fun _ e=>zI hT (N:=9) (k:=3) aC.enc a2 e) fun s3=>?_
   refine At.g [18] 1 ?_
   refine At.b 0 (fun _ e=>aM [] (oC e)) fun r4=>?_
   refine At.g [18] 1 ?_
   apply rt;exact At.jn 0
 ·refine At.c 0 ?_ ?_
  ·apply rt;exact At.r 3
  ·refine bi fun e5 he5=>?_
   refine bi fun e6 he6=>?_
   refine bi fun r7 hr7=>?_
   refine bi fun e8 he8=>?_
   refine bi fun e9 he9=>?_
   refine bi fun r10 hr10=>?_
   refine At.d2 0 [false,false] (dC1 0 (fun _=>dS hT (N:=9) (k:=3) aC.enc a2 he5) (dC1 2 (fun _=>dS hT (N:=9) (k:=3) aC.enc a2 he6) (dC2 4 (aC.enc r7) (fun _=>aO (sR hr7)) (dC1 5 (fun _=>dS hT (N:=9) (k:=3) aC.enc a2 he8) (dC1 7 (fun _=>dS hT (N:=9) (k:=3) aC.enc a2 he9) (dC2 9 (aC.enc r10) (fun _=>aO (sR hr10)) dC0)))))) (dS1 10 ⟨(.ref 1 [] 0),1,.var (.st 3 [(j64 0),(j64 0),(j64 0)]),.dead⟩ [[.var (.st 4 [(j64 0),(j64 0),(j64 0),(j64 0)]),.dead,.dead],[.var (.st 4 [(j64 0),(j64 0),(j64 0),(j64 0)]),.dead,.var (.st 3 [(j64 0),(j64 0),(j64 0)])]] ⟨aW hT 1 (by kernel_rfl) (by kernel_rfl) (by kernel_rfl),aW hT 1 (by kernel_rfl) (by kernel_rfl) (by kernel_rfl),trivial⟩ (dS1 11 ⟨(.ref 2 [] 0),2,.var (.st 3 [(j64 0),(j64 0),(j64 0)]),.dead⟩ [[.var (.st 4 [(j64 0),(j64 0),(j64 0),(j64 0)]),.dead,.dead],[.var (.st 4 [(j64 0),(j64 0),(j64 0),(j64 0)]),.var (.st 3 [(j64 0),(j64 0),(j64 0)]),.dead]] ⟨aW hT 2 (by kernel_rfl) (by kernel_rfl) (by kernel_rfl),aW hT 2 (by kernel_rfl) (by kernel_rfl) (by kernel_rfl),trivial⟩ dS0)) ?_
   refine At.b 2 (fun _ e=>aM [] (yY e)) fun r11=>?_
   refine At.b 3 (fun _ e=>dS hT (N:=9) (k:=3) aC.enc a2 e) fun e12=>?_
   refine At.b 1 (fun _ e=>aM [] (sR e)) fun r13=>?_
   refine At.b 4 (fun _ e=>aM [] (yY e)) fun r14=>?_
   refine bi fun r15 hr15=>?_
   refine bi fun r16 hr16=>?_
   refine bi fun r17 hr17=>?_
   refine bi fun r18 hr18=>?_
   refine At.d 2 (dE2 2 (j64 r15) (fun _=>aO (aAG hr15)) (dE2 5 (j64 r16) (fun _=>aO (aAG hr16)) (dE2 8 (j64 r17) (fun _=>aO (aAG hr17)) (dE2 11 (j64 r18) (fun _=>aO (aAG hr18)) dE0)))) dF0 ?_
   refine At.J 0 1 [6] 6 (fun p19=>([],[(0,.var (aS.enc p19))],[])) (fun p19=>?_) fun p19=>?_
   ·refine At.c 3 ?_ ?_
    ·apply rt;exact At.jn 14
    ·apply rt;exact At.jn 0
   ·refine lx ?_;intro x20
    refine lx ?_;intro x21
    refine lx ?_;intro x22
    refine lx ?_;intro x23
    refine At.c 28 ?_ ?_
    ·apply rt;exact At.r 3
    ·apply rt;exact At.r 3
def aAD : Nat→Bool:=imL [7,8]
def dQ (N:Nat) (a0 a1:aC) (a2 a3 a4:Int) (a5:aJ):Option (aS×Bool):=
 Option.bind (oS N a5) fun r1=>
 Option.bind (idx a5.gl a4) fun e2=>
 Option.bind (zW N a0 a1 e2.gP) fun r3=>
 Option.bind (cond r3.2 (
  Option.bind (idx a5.gl a4) fun e5=>
  aT ((iK .u8 e5.gD2 a2) != 0) fun x6=>
  cond x6 (
   some (a4 != a3)) (
   some false)) (
  some false)) fun p4=>
 some ((r3.1,p4))
theorem rU {N a0 a1 a2 a3 a4 a5 r} (h:dQ N a0 a1 a2 a3 a4 a5=some r):FnM Tryz.prog 369 [.var (aJ.enc a5)] [(.ref 0 [] 0),(aC.enc a0),(aC.enc a1),(k8 a2),(j64 a3),(j64 a4)] (.tup [(aS.enc r.1),(eB r.2)]) [.var (.st 3 [(.st 1 [(j64 (I64 (a5.gD4.gn+1)))]),(eB a5.gA),(eL 19 aF.enc a5.gl)])]:=by
 unfold dQ at h
 refine At.f aAD hT hmo Tryz.func369 rfl h ?_
 refine At.b 7 (fun _ e=>aM [0] (aB4 e)) fun r1=>?_
 refine bi fun e2 he2=>?_
 refine bi fun r3 hr3=>?_
 refine At.d 0 (dE1 7 (fun _=>bF hT aF.enc he2) (dE2 10 (.tup [(aS.enc r3.1),(eB r3.2)]) (fun _=>aO (aGx hr3)) dE0)) dF0 ?_
 refine At.J 0 0 [12] 3 (fun p4=>([(13,(eB p4))],[(1,.var (aS.enc r3.1))],[])) (fun p4=>?_) fun p4=>?_
 ·refine boI (fun hc2=>?_) (fun hc2=>?_)
  ·refine bi fun e5 he5=>?_
   refine lx ?_;intro x6
   refine boI (fun hc15=>?_) (fun hc15=>?_)
   ·refine At.d 0 (dE1 2 (fun _=>cD hc2 rfl (bY hT (im:=false) (by kernel_rfl))) (dE1 8 (fun _=>bF hT aF.enc he5) (dE1 15 (fun _=>cD hc15 rfl (bY hT (im:=false) (by kernel_rfl))) dE0))) dF0 ?_
    apply rt;exact At.jn 0
   ·refine At.d 0 (dE1 2 (fun _=>cD hc2 rfl (bY hT (im:=false) (by kernel_rfl))) (dE1 8 (fun _=>bF hT aF.enc he5) (dE1 15 (fun _=>cD hc15 rfl (bY hT (im:=false) (by kernel_rfl))) dE0))) dF0 ?_
    apply rt;exact At.jn 0
  ·refine At.d 0 (dE1 2 (fun _=>cD hc2 rfl (bY hT (im:=false) (by kernel_rfl))) dE0) dF0 ?_
   apply rt;exact At.jn 0
 ·apply rt;exact At.r 0
def aLc : Nat→Bool:=imL [2,3]
def sJ (N:Nat) (a0 a1:aQ):Option (Int):=
 cond (aQ.eq a0 a1) (
  some 0) (
  Option.bind (aT (decide (a0.gHi < a1.gHi)) fun x2=>
  cond x2 (
   some x2) (
   aT (decide (a0.gLo < a1.gLo)) fun x3=>
   aT (cond (a0.gHi==a1.gHi) x3 false) fun x4=>
   some x4)) fun p1=>
  cond p1 (some (-1)) (some 1))
theorem aAi {N a0 a1 r} (h:sJ N a0 a1=some r):FnM Tryz.prog 332 [] [(aQ.enc a0),(aQ.enc a1)] (j64 r) []:=by
 unfold sJ at h
 refine At.f aLc hT hmo Tryz.func332 rfl h ?_
 refine At.o 5 (aF8 aQS (a0:aQ) (a1:aQ) (by kernel_rfl) (by kernel_rfl) (fun _=>rfl) (fun _=>rfl) (by kernel_rfl) (by kernel_rfl)) ?_
 refine At.c 1 ?_ ?_
 ·apply rt;exact At.r 1
 ·refine At.J 0 1 [] 0 (fun p1=>([(9,(eB p1))],[],[])) (fun p1=>?_) fun p1=>?_
  ·refine lx ?_;intro x2
   refine At.c 6 ?_ ?_
   ·apply rt;exact At.jn 0
   ·refine lx ?_;intro x3
    refine lx ?_;intro x4
    apply rt;exact At.jn 13
  ·refine At.c 0 ?_ ?_
   ·apply rt;exact At.r 1
   ·apply rt;exact At.r 1
def aLL : Nat→Bool:=imL [2,3]
def uW (N:Nat) (a0 a1:aS):Option (Bool):=
 aT (cond (decide (a0.gB7 < 1)) true (decide (a1.gB7 < 1))) fun x1=>
 cond x1 (
  some false) (
  Option.bind (iI N a0.gC1 a1.gB7) fun r2=>
  Option.bind (iI N a1.gC1 a0.gB7) fun r3=>
  Option.bind (sJ N r2 r3) fun r4=>
  some (decide (r4 < 0)))
theorem aCT {N a0 a1 r} (h:uW N a0 a1=some r):FnM Tryz.prog 370 [] [(aS.enc a0),(aS.enc a1)] (eB r) []:=by
 unfold uW at h
 refine At.f aLL hT hmo Tryz.func370 rfl h ?_
 refine lx ?_;intro x1
 refine At.c 11 ?_ ?_
 ·apply rt;exact At.r 1
 ·refine bi fun r2 hr2=>?_
  refine bi fun r3 hr3=>?_
  refine bi fun r4 hr4=>?_
  refine At.d 0 (dE2 4 (aQ.enc r2) (fun _=>aO (kU hr2)) (dE2 9 (aQ.enc r3) (fun _=>aO (kU hr3)) (dE2 10 (j64 r4) (fun _=>aO (aAi hr4)) dE0))) dF0 ?_
  apply rt;exact At.r 0
def zD : Nat→Bool:=imL [6,7]
def dO (N:Nat) (a4:aJ) (a0 a1:aC) (a2 a3:Int):Nat→aJ→aS→Int→Int→Option (aJ×aS×Int)
 | 0,_,_,_,_=>none
 | k+1,s3,s4,s5,s6=>
  aT (decide (s6 < ((a4.gl.length:Int)))) fun x7=>
  cond x7 (
   Option.bind (Option.bind (dQ N a0 a1 a2 a3 s6 s3) fun r9=>
   Option.bind (cond (decide (s5 < 0)) (
    some true) (
    Option.bind (uW N r9.1 s4) fun r11=>
    some r11)) fun p10=>
   cond (cond r9.2 p10 false) (some ((r9.1,r9.1,s6))) (some ((s4,r9.1,s5)))) fun p8=>
   dO N a4 a0 a1 a2 a3 k (aJ.mk (jW.mk (I64 (s3.gD4.gn+1))) s3.gA s3.gl) p8.1 p8.2.2 (I64 (s6+1))) (
   some ((s3,s4,s5)))
def hO (N:Nat) (a0 a1:aC) (a2 a3:Int) (a4:aJ):Option (aJ×Int×aS):=
 Option.bind (iH N a4) fun r1=>
 cond r1 (
  some ((a4,-1,aS.mk 0 0 0 0))) (
  Option.bind (dO N a4 a0 a1 a2 a3 N a4 (aS.mk 0 0 0 0) (-1) 0) fun p2=>
  some ((p2.1,p2.2.2,p2.2.1)))
theorem rE {N a0 a1 a2 a3 a4 r} (h:hO N a0 a1 a2 a3 a4=some r):FnM Tryz.prog 365 [.var (aJ.enc a4)] [(.ref 0 [] 0),(aC.enc a0),(aC.enc a1),(k8 a2),(j64 a3)] (.tup [(j64 r.2.1),(aS.enc r.2.2)]) [.var (aJ.enc r.1)]:=by
 unfold hO at h
 refine At.f zD hT hmo Tryz.func365 rfl h ?_
 refine At.b 6 (fun _ e=>aM [0] (rQ e)) fun r1=>?_
 refine At.c 0 ?_ ?_
 ·refine At.d 0 dE0 dF0 ?_
  apply rt;exact At.r 0
 ·refine At.L 6 [11] 2 (fun p2=>([(10,(j64 p2.2.2))],[(0,.var (aJ.enc p2.1)),(1,.var (aS.enc p2.2.1))],[])) (fun p2 J k=>∃ s3 s4 s5 s6,dO N a4 a0 a1 a2 a3 k s3 s4 s5 s6=some p2∧J [0,3,4,6,7,11,24] 2 [(10,(j64 s5)),(25,(j64 s6))] [(0,.var (aJ.enc s3)),(1,.var (aS.enc s4))] []) N (fun _ h=>⟨_,_,_,_,h,jr⟩) (fun p2 k s hI=>?_) fun p2=>?_
  ·obtain ⟨s3,s4,s5,s6,h,hj⟩:=hI
   cases k with
   | zero=>cases h
   | succ k=>
    refine At.jr hj ?_ h
    refine lx ?_;intro x7
    refine At.c 1 ?_ ?_
    ·refine At.J 0 2 [0,3,4,6,7,11,24,25] 2 (fun p8=>([(10,(j64 p8.2.2))],[(0,.var (.st 3 [(.st 1 [(j64 (I64 (s3.gD4.gn+1)))]),(eB s3.gA),(eL 19 aF.enc s3.gl)])),(1,.var (aS.enc p8.1))],[.var (aS.enc p8.2.1)])) (fun p8=>?_) fun p8=>?_
     ·refine At.b 8 (fun _ e=>aM [0] (rU e)) fun r9=>?_
      refine At.J 6 0 [0,3,4,6,7,10,11,12,13,14,24,25] 3 (fun p10=>([(15,(eB p10))],[],[])) (fun p10=>?_) fun p10=>?_
      ·refine At.s 40 3 ?_ ?_
       ·refine At.g [40] 5 ?_
        apply rt;exact At.jn 0
       ·refine At.g [40] 2 ?_
        refine At.b 0 (fun _ e=>aM [] (aCT e)) fun r11=>?_
        refine At.g [40] 2 ?_
        apply rt;exact At.jn 0
      ·refine At.c 4 ?_ ?_
       ·refine At.d 0 dE0 dF0 ?_
        apply rt;exact At.jn 0
       ·apply rt;exact At.jn 0
     ·exact fun h=>At.k 2 ⟨_,_,_,_,h,jr⟩
    ·apply rt;exact At.x 0
  ·refine At.d 0 dE0 dF0 ?_
   apply rt;exact At.r 0
def nV (N:Nat) (a0:Int):Option (Int):=
 aT (fD (jH a0 (-1073741824)) 1073741824) fun x1=>
 some x1
theorem yG {N a0 r} (h:nV N a0=some r):FnM Tryz.prog 313 [] [(j64 a0)] (j64 r) []:=by
 unfold nV at h
 refine At.f cQ hT hmo Tryz.func313 rfl h ?_
 refine lx ?_;intro x1
 apply rt;exact At.r 5
def aKq : Nat→Bool:=imL [1]
def qF (N:Nat) (a0:aQ):Nat→Int→Int→Option (Int)
 | 0,_,_=>none
 | k+1,s2,s3=>
  cond (decide (s3 < 64)) (
   Option.bind (Option.bind (aJc .u64 1 (I64 (63 - s3))) fun x5=>
   Option.bind (jZ N (bor .u64 s2 x5) (bor .u64 s2 x5)) fun r6=>
   Option.bind (aT (decide (r6.1 < (U64 a0.gHi))) fun x8=>
   cond x8 (
    some ((bor .u64 s2 x5,true))) (
    aT (cond (r6.1==(U64 a0.gHi)) (decide (r6.2≤a0.gLo)) false) fun x9=>
    some ((bor .u64 s2 x5,x9)))) fun p7=>
   cond p7.2 (some p7.1) (some s2)) fun p4=>
   qF N a0 k p4 (I64 (s3+1))) (
   some s2)
def sQ (N:Nat) (a0:aQ):Option (Int):=
 cond (decide (a0.gHi < 0)) (
  some 0) (
  Option.bind (qF N a0 N 0 0) fun p1=>
  some p1)
theorem aEU {N a0 r} (h:sQ N a0=some r):FnM Tryz.prog 271 [] [(aQ.enc a0)] (k64 r) []:=by
 unfold sQ at h
 refine At.f aKq hT hmo Tryz.func271 rfl h ?_
 refine At.c 5 ?_ ?_
 ·apply rt;exact At.r 1
 ·refine At.L 2 [] 0 (fun p1=>([(3,(k64 p1))],[],[])) (fun p1 J k=>∃ s2 s3,qF N a0 k s2 s3=some p1∧J [1] 0 [(3,(k64 s2)),(11,(j64 s3))] [] []) N (fun _ h=>⟨_,_,h,jr⟩) (fun p1 k s hI=>?_) fun p1=>?_
  ·obtain ⟨s2,s3,h,hj⟩:=hI
   cases k with
   | zero=>cases h
   | succ k=>
    refine At.jr hj ?_ h
    refine At.c 1 ?_ ?_
    ·refine At.J 0 2 [1,11] 0 (fun p4=>([(3,(k64 p4))],[],[])) (fun p4=>?_) fun p4=>?_
     ·refine At.b 5 (fun _ e=>aCm hT (k' := .i64) e (by kernel_rfl) (by kernel_rfl)) fun x5=>?_
      refine At.b 4 (fun _ e=>aM [] (aAT e)) fun r6=>?_
      refine At.J 5 0 [1,3,11] 0 (fun p7=>([(5,(k64 p7.1)),(42,(eB p7.2))],[],[])) (fun p7=>?_) fun p7=>?_
      ·refine lx ?_;intro x8
       refine At.s 30 6 ?_ ?_
       ·refine At.g [30,36] 12 ?_
        apply rt;exact At.jn 0
       ·refine lx ?_;intro x9
        refine At.g [30] 12 ?_
        apply rt;exact At.jn 0
      ·refine At.c 0 ?_ ?_
       ·apply rt;exact At.jn 2
       ·apply rt;exact At.jn 0
     ·exact fun h=>At.k 2 ⟨_,_,h,jr⟩
    ·apply rt;exact At.x 0
  ·apply rt;exact At.r 2
def kD (N:Nat) (a0 a1:Int):Option (Int):=
 Option.bind (pK N (aQ.mk a0 0) a1) fun r1=>
 Option.bind (pI N r1.1) fun r2=>
 some r2.1
theorem uZ {N a0 a1 r} (h:kD N a0 a1=some r):FnM Tryz.prog 314 [] [(j64 a0),(.im (j64 a1))] (j64 r) []:=by
 unfold kD at h
 refine At.f cQ hT hmo Tryz.func314 rfl h ?_
 refine At.b 4 (fun _ e=>aM [] (aAa e)) fun r1=>?_
 refine At.b 9 (fun _ e=>aM [] (yB e)) fun r2=>?_
 apply rt;exact At.r 7
def aIz : Nat→Bool:=imL [1]
def hP (N:Nat) (a0:aC):Option (aA):=
 Option.bind (nV N a0.gX) fun r1=>
 Option.bind (nV N a0.gY) fun r2=>
 Option.bind (nV N a0.gZ) fun r3=>
 aT (I64 ((I64 (r1*r1))+(I64 (r2*r2)))) fun x4=>
 aT (I64 (x4+(I64 (r3*r3)))) fun x5=>
 Option.bind (sQ N (aQ.mk x5 0)) fun r6=>
 cond ((I64 r6)==0) (
  some (aA.mk 0 0 0)) (
  Option.bind (kD N r1 (I64 r6)) fun r7=>
  Option.bind (kD N r2 (I64 r6)) fun r8=>
  Option.bind (kD N r3 (I64 r6)) fun r9=>
  some (aA.mk r7 r8 r9))
theorem lU {N a0 r} (h:hP N a0=some r):FnM Tryz.prog 255 [] [(aC.enc a0)] (aA.enc r) []:=by
 unfold hP at h
 refine At.f aIz hT hmo Tryz.func255 rfl h ?_
 refine bi fun r1 hr1=>?_
 refine bi fun r2 hr2=>?_
 refine bi fun r3 hr3=>?_
 refine At.d 3 (dE2 3 (j64 r1) (fun _=>aO (yG hr1)) (dE2 7 (j64 r2) (fun _=>aO (yG hr2)) (dE2 11 (j64 r3) (fun _=>aO (yG hr3)) dE0))) dF0 ?_
 refine lx ?_;intro x4
 refine lx ?_;intro x5
 refine At.b 12 (fun _ e=>aM [] (aEU e)) fun r6=>?_
 refine At.c 5 ?_ ?_
 ·apply rt;exact At.r 2
 ·refine At.gz 0 1 ((j64 (I64 r6))) ?_
  refine At.o 0 (qT (x:=(.fn (.func 314) [] [(.im (j64 (I64 r6)))])) (by kernel_rfl) (by kernel_rfl)) ?_
  refine At.b 3 (fun _ e=>aM [] (uZ e)) fun r7=>?_
  refine At.b 2 (fun _ e=>aM [] (uZ e)) fun r8=>?_
  refine At.b 2 (fun _ e=>aM [] (uZ e)) fun r9=>?_
  apply rt;exact At.r 2
def rJ (N:Nat) (a0:(List aQ)):Nat→aQ→Int→Option (Sum (aQ) (aQ×Bool))
 | 0,_,_=>none
 | k+1,s2,s3=>
  aT (decide (s3 < ((a0.length:Int)))) fun x4=>
  cond x4 (
   Option.bind (idx a0 s3) fun e5=>
   Option.bind (zG s2.gLo e5.gLo 0) fun r6=>
   Option.bind (zG (U64 s2.gHi) (U64 e5.gHi) r6.2) fun r7=>
   aT ((decide (s2.gHi < 0))==(decide (e5.gHi < 0))) fun x8=>
   aT (decide ((I64 r7.1) < 0)) fun x9=>
   aT (!(x9==(decide (e5.gHi < 0)))) fun x10=>
   cond (cond x8 x10 false) (
    some (Sum.inr ((aQ.mk 0 0,false)))) (
    rJ N a0 k (aQ.mk (I64 r7.1) r6.1) (I64 (s3+1)))) (
   some (Sum.inl s2))
def uV (N:Nat) (a0:(List aQ)):Option (aQ×Bool):=
 Option.bind (rJ N a0 N (aQ.mk 0 0) 0) fun o=>nS o (fun p1=>
  some ((p1,true))) (fun r=>some r)
theorem aCi {N a0 r} (h:uV N a0=some r):FnM Tryz.prog 270 [] [(eL 2 aQ.enc a0)] (.tup [(aQ.enc r.1),(eB r.2)]) []:=by
 unfold uV at h
 refine At.f cQ hT hmo Tryz.func270 rfl h ?_
 refine At.LS 5 [2] 1 (fun p1=>([],[(0,.var (aQ.enc p1))],[])) (fun op1 J k=>∃ s2 s3,rJ N a0 k s2 s3=some op1∧J [2,11,12] 1 [(13,(j64 s3))] [(0,.var (aQ.enc s2))] []) N (fun _ h=>⟨_,_,h,jr⟩) (fun op1 g1 k s hI=>?_) fun p1=>?_
 ·obtain ⟨s2,s3,h,hj⟩:=hI
  cases k with
  | zero=>cases h
  | succ k=>
   refine At.jr hj ?_ h
   refine lx ?_;intro x4
   refine At.c 1 ?_ ?_
   ·refine At.b 0 (fun _ e=>bF hT aQ.enc e) fun e5=>?_
    refine At.b 7 (fun _ e=>aD2 (aI0 e) (fun _=>aD0)) fun r6=>?_
    refine At.b 12 (fun _ e=>aD2 (aI0 e) (fun _=>aD0)) fun r7=>?_
    refine lx ?_;intro x8
    refine lx ?_;intro x9
    refine lx ?_;intro x10
    refine At.c 23 ?_ ?_
    ·intro e;apply aBM g1 e;exact At.r 3
    ·exact fun h=>At.k 6 ⟨_,_,h,jr⟩
   ·apply rt;exact At.xs 0
 ·apply rt;exact At.r 3
def xA (N:Nat) (a0 a1:Int):Option (Int):=
 Option.bind (tR N a0) fun r1=>
 Option.bind (tR N a1) fun r2=>
 Option.bind (uV N ([r1,r2])) fun r3=>
 Option.bind (tR N (-65536)) fun r4=>
 Option.bind (tR N 65536) fun r5=>
 Option.bind (sJ N r3.1 r4) fun r6=>
 cond (decide (r6 < 0)) (
  some (-65536)) (
  Option.bind (sJ N r3.1 r5) fun r7=>
  cond (decide (r7 > 0)) (
   some 65536) (
   Option.bind (pI N r3.1) fun r8=>
   some r8.1))
theorem aFR {N a0 a1 r} (h:xA N a0 a1=some r):FnM Tryz.prog 316 [] [(j64 a0),(j64 a1)] (j64 r) []:=by
 unfold xA at h
 refine At.f cQ hT hmo Tryz.func316 rfl h ?_
 refine At.b 2 (fun _ e=>aM [] (aAC e)) fun r1=>?_
 refine At.b 1 (fun _ e=>aM [] (aAC e)) fun r2=>?_
 refine At.o 0 (bQ hT (x:=(.sl 2 2 [(aQ.enc r1),(aQ.enc r2)]))) ?_
 refine At.b 0 (fun _ e=>aM [] (aCi e)) fun r3=>?_
 refine At.b 6 (fun _ e=>aM [] (aAC e)) fun r4=>?_
 refine At.b 0 (fun _ e=>aM [] (aAC e)) fun r5=>?_
 refine At.b 6 (fun _ e=>aM [] (aAi e)) fun r6=>?_
 refine At.c 2 ?_ ?_
 ·apply rt;exact At.r 1
 ·refine At.b 2 (fun _ e=>aM [] (aAi e)) fun r7=>?_
  refine At.c 2 ?_ ?_
  ·apply rt;exact At.r 1
  ·refine At.b 1 (fun _ e=>aM [] (yB e)) fun r8=>?_
   apply rt;exact At.r 7
def kB (N:Nat) (a0 a1:Int) (a2:aS):Option (Int):=
 cond (decide (a2.gB7 < 1)) (
  Option.bind (xA N a0 0) fun r1=>
  some r1) (
  Option.bind (jC N a1 a2.gC1 a2.gB7) fun r2=>
  Option.bind (xA N a0 r2) fun r3=>
  some r3)
theorem uY {N a0 a1 a2 r} (h:kB N a0 a1 a2=some r):FnM Tryz.prog 315 [] [(j64 a0),(j64 a1),(.im (aS.enc a2))] (j64 r) []:=by
 unfold kB at h
 refine At.f cQ hT hmo Tryz.func315 rfl h ?_
 refine At.c 4 ?_ ?_
 ·refine At.b 1 (fun _ e=>aM [] (aFR e)) fun r1=>?_
  apply rt;exact At.r 1
 ·refine At.b 6 (fun _ e=>aM [] (sW e)) fun r2=>?_
  refine At.b 0 (fun _ e=>aM [] (aFR e)) fun r3=>?_
  apply rt;exact At.r 1
def aK9 : Nat→Bool:=imL [3,4,5]
def sU (N:Nat) (a0 a1:aC) (a2:aS):Option (aC):=
 Option.bind (kB N a0.gX a1.gX a2) fun r1=>
 Option.bind (kB N a0.gY a1.gY a2) fun r2=>
 Option.bind (kB N a0.gZ a1.gZ a2) fun r3=>
 some (aC.mk r1 r2 r3)
theorem zC {N a0 a1 a2 r} (h:sU N a0 a1 a2=some r):FnM Tryz.prog 258 [] [(aC.enc a0),(aC.enc a1),(aS.enc a2)] (aC.enc r) []:=by
 unfold sU at h
 refine At.f aK9 hT hmo Tryz.func258 rfl h ?_
 refine At.o 4 (qT (x:=(.fn (.func 315) [] [(.im (aS.enc a2))])) (by kernel_rfl) (by kernel_rfl)) ?_
 refine bi fun r1 hr1=>?_
 refine bi fun r2 hr2=>?_
 refine bi fun r3 hr3=>?_
 refine At.d 1 (dE2 5 (j64 r1) (fun _=>aO (uY hr1)) (dE2 11 (j64 r2) (fun _=>aO (uY hr2)) (dE2 17 (j64 r3) (fun _=>aO (uY hr3)) dE0))) dF0 ?_
 apply rt;exact At.r 0
def aOC : Nat→Bool:=imL [2,3]
def rL (N:Nat) (a0 a1:aA):Option (Int):=
 Option.bind (iX N ([a0,a1])) fun r1=>
 Option.bind (jS N ([r1.gX,r1.gY,r1.gZ])) fun r2=>
 some r2
theorem wW {N a0 a1 r} (h:rL N a0 a1=some r):FnM Tryz.prog 265 [] [(aA.enc a0),(aA.enc a1)] (j64 r) []:=by
 unfold rL at h
 refine At.f aOC hT hmo Tryz.func265 rfl h ?_
 refine At.o 5 (bQ hT (x:=(.sl 3 2 [(aA.enc a0),(aA.enc a1)]))) ?_
 refine At.b 0 (fun _ e=>aM [] (qS e)) fun r1=>?_
 refine At.o 8 (bQ hT (x:=(.sl 1 3 [(j64 r1.gX),(j64 r1.gY),(j64 r1.gZ)]))) ?_
 refine At.b 0 (fun _ e=>aM [] (pN e)) fun r2=>?_
 apply rt;exact At.r 1
def aE0 : Nat→Bool:=imL [2,3]
def lR (N:Nat) (a0:aA) (a1:aC):Option (aA):=
 Option.bind (hP N a1) fun r1=>
 Option.bind (rL N a0 r1) fun r2=>
 cond (decide (r2≤0)) (
  some a0) (
  Option.bind (fE N a0 (-4294967296)) fun r3=>
  some r3)
theorem rV {N a0 a1 r} (h:lR N a0 a1=some r):FnM Tryz.prog 259 [] [(aA.enc a0),(aC.enc a1)] (aA.enc r) []:=by
 unfold lR at h
 refine At.f aE0 hT hmo Tryz.func259 rfl h ?_
 refine bi fun r1 hr1=>?_
 refine bi fun r2 hr2=>?_
 refine At.d 3 (dE2 2 (aA.enc r1) (fun _=>aO (lU hr1)) (dE2 3 (j64 r2) (fun _=>aO (wW hr2)) dE0)) dF0 ?_
 refine At.c 0 ?_ ?_
 ·apply rt;exact At.r 2
 ·refine At.b 1 (fun _ e=>aM [] (jG e)) fun r3=>?_
  apply rt;exact At.r 1
def vW (N:Nat) (a0:(List aD)) (a1:Int):Option (aD×Bool):=
 aT (((a0.length:Int))==0) fun x1=>
 cond x1 (
  some ((aD.mk 0 [],false))) (
  aT (I64 (((a0.length:Int)) - 1)) fun x2=>
  Option.bind (idx a0 (fD (jH a1 0) x2)) fun e3=>
  some ((e3,true)))
theorem aHx {N a0 a1 r} (h:vW N a0 a1=some r):FnM Tryz.prog 317 [] [(eL 2 aD.enc a0),(j64 a1)] (.tup [(aD.enc r.1),(eB r.2)]) []:=by
 unfold vW at h
 refine At.f cQ hT hmo Tryz.func317 rfl h ?_
 refine lx ?_;intro x1
 refine At.c 5 ?_ ?_
 ·apply rt;exact At.r 3
 ·refine lx ?_;intro x2
  refine At.b 7 (fun _ e=>bF hT aD.enc e) fun e3=>?_
  apply rt;exact At.r 3
def lN (N:Nat) (a0:Int) (a1:aS) (a2:(Vector (Vector Int 2) 3)):Option (Int):=
 aT (I64 ((I64 (a1.gB7 - a1.gU)) - a1.gV)) fun x1=>
 Option.bind (idx a2.toList 0) fun e2=>
 Option.bind (idx e2.toList a0) fun e3=>
 Option.bind (iI N x1 e3) fun r4=>
 Option.bind (idx a2.toList 1) fun e5=>
 Option.bind (idx e5.toList a0) fun e6=>
 Option.bind (iI N a1.gU e6) fun r7=>
 Option.bind (idx a2.toList 2) fun e8=>
 Option.bind (idx e8.toList a0) fun e9=>
 Option.bind (iI N a1.gV e9) fun r10=>
 Option.bind (uV N ([r4,r7,r10])) fun r11=>
 cond (!r11.2) (
  some 0) (
  Option.bind (pK N r11.1 a1.gB7) fun r12=>
  Option.bind (pI N r12.1) fun r13=>
  aT (cond (!r13.2) (decide (r12.1.gHi < 0)) false) fun x14=>
  cond x14 (
   some (-2147483648)) (
   cond (!r13.2) (
    some 2147483647) (
    aT (jH r13.1 (-2147483648)) fun x15=>
    some (fD x15 2147483647))))
theorem yV {N a0 a1 a2 r} (h:lN N a0 a1 a2=some r):FnM Tryz.prog 333 [] [(j64 a0),(.im (aS.enc a1)),(.im (eA 6 2 (eA 2 1 j64) a2))] (j64 r) []:=by
 unfold lN at h
 refine At.f cQ hT hmo Tryz.func333 rfl h ?_
 refine lx ?_;intro x1
 refine bi fun e2 he2=>?_
 refine bi fun e3 he3=>?_
 refine bi fun r4 hr4=>?_
 refine bi fun e5 he5=>?_
 refine bi fun e6 he6=>?_
 refine bi fun r7 hr7=>?_
 refine bi fun e8 he8=>?_
 refine bi fun e9 he9=>?_
 refine bi fun r10 hr10=>?_
 refine bi fun r11 hr11=>?_
 refine At.d 10 (dE1 2 (fun _=>dS hT (N:=6) (k:=2) (eA 2 1 j64) a2 he2) (dE1 3 (fun _=>dS hT (N:=2) (k:=1) j64 e2 he3) (dE2 5 (aQ.enc r4) (fun _=>aO (kU hr4)) (dE1 9 (fun _=>dS hT (N:=6) (k:=2) (eA 2 1 j64) a2 he5) (dE1 10 (fun _=>dS hT (N:=2) (k:=1) j64 e5 he6) (dE2 12 (aQ.enc r7) (fun _=>aO (kU hr7)) (dE1 16 (fun _=>dS hT (N:=6) (k:=2) (eA 2 1 j64) a2 he8) (dE1 17 (fun _=>dS hT (N:=2) (k:=1) j64 e8 he9) (dE2 19 (aQ.enc r10) (fun _=>aO (kU hr10)) (dE1 20 (fun _=>bQ hT (x:=(.sl 2 3 [(aQ.enc r4),(aQ.enc r7),(aQ.enc r10)]))) (dE2 21 (.tup [(aQ.enc r11.1),(eB r11.2)]) (fun _=>aO (aCi hr11)) dE0))))))))))) dF0 ?_
 refine At.c 2 ?_ ?_
 ·apply rt;exact At.r 1
 ·refine At.b 3 (fun _ e=>aM [] (aAa e)) fun r12=>?_
  refine At.b 9 (fun _ e=>aM [] (yB e)) fun r13=>?_
  refine lx ?_;intro x14
  refine At.c 13 ?_ ?_
  ·apply rt;exact At.r 1
  ·refine At.c 3 ?_ ?_
   ·apply rt;exact At.r 1
   ·refine lx ?_;intro x15
    apply rt;exact At.r 4
def aI6 : Nat→Bool:=imL [2,3]
def wB (N:Nat) (a0:aS) (a1:(Vector (Vector Int 2) 3)):Option (Int×Int):=
 Option.bind (cond (decide (a0.gB7 < 1)) (
  some true) (
  aT (decide ((jH (jH (jH a0.gC1 a0.gB7) a0.gU) a0.gV) > 1152921504606846976)) fun x2=>
  cond x2 (
   some true) (
   aT (decide ((fD (fD a0.gC1 a0.gU) a0.gV) < (-1152921504606846976))) fun x3=>
   some x3))) fun p1=>
 cond p1 (
  some ((0,0))) (
  Option.bind (lN N 0 a0 a1) fun r4=>
  Option.bind (lN N 1 a0 a1) fun r5=>
  some ((r4,r5)))
theorem aHz {N a0 a1 r} (h:wB N a0 a1=some r):FnM Tryz.prog 318 [] [(aS.enc a0),(eA 6 2 (eA 2 1 j64) a1)] (.tup [(j64 r.1),(j64 r.2)]) []:=by
 unfold wB at h
 refine At.f aI6 hT hmo Tryz.func318 rfl h ?_
 refine At.J 4 0 [2,3] 0 (fun p1=>([(31,(eB p1))],[],[])) (fun p1=>?_) fun p1=>?_
 ·refine At.s 10 4 ?_ ?_
  ·refine At.g [10,22] 21 ?_
   apply rt;exact At.jn 0
  ·refine At.g [10] 8 ?_
   refine At.o 0 (aPt (k := .i64) (i:=a0.gC1) (j:=a0.gB7) (l:=a0.gU) (m:=a0.gV) (by kernel_rfl) (by kernel_rfl)) ?_
   refine lx ?_;intro x2
   refine At.g [10] 3 ?_
   refine At.s 22 0 ?_ ?_
   ·refine At.g [22] 9 ?_
    apply rt;exact At.jn 0
   ·refine At.g [22] 6 ?_
    refine At.o 0 (aAH (k := .i64) (i:=a0.gC1) (j:=a0.gU) (l:=a0.gV) (by kernel_rfl) (by kernel_rfl)) ?_
    refine lx ?_;intro x3
    refine At.g [22] 2 ?_
    apply rt;exact At.jn 0
 ·refine At.c 0 ?_ ?_
  ·apply rt;exact At.r 2
  ·refine At.o 0 (qT (x:=(.fn (.func 333) [] [(.im (aS.enc a0)),(.im (eA 6 2 (eA 2 1 j64) a1))])) (by kernel_rfl) (by kernel_rfl)) ?_
   refine At.b 2 (fun _ e=>aM [] (yV e)) fun r4=>?_
   refine At.b 1 (fun _ e=>aM [] (yV e)) fun r5=>?_
   apply rt;exact At.r 2
def aI8 : Nat→Bool:=imL [3]
def wD (N:Nat) (a0:aD) (a1 a2:Int):Option ((Vector Int 3)×Int):=
 Option.bind (jF N a0) fun r1=>
 cond (r1 != 0) (
  some ((#v[0,0,0],r1))) (
  Option.bind (nD N a0 a1 a2) fun r2=>
  some ((r2,0)))
theorem aHl {N a0 a1 a2 r} (h:wD N a0 a1 a2=some r):FnM Tryz.prog 335 [] [(aD.enc a0),(j64 a1),(j64 a2)] (.tup [(eA 3 1 j64 r.1),(j64 r.2)]) []:=by
 unfold wD at h
 refine At.f aI8 hT hmo Tryz.func335 rfl h ?_
 refine At.b 4 (fun _ e=>aM [] (tJ e)) fun r1=>?_
 refine At.c 3 ?_ ?_
 ·apply rt;exact At.r 4
 ·refine At.b 3 (fun _ e=>aM [] (uQ e)) fun r2=>?_
  apply rt;exact At.r 2
def eG (N:Nat) (a0 a1:Int) (a2:aD) (a3 a4:Int):Option ((Vector Int 3)):=
 aT (I64 ((shr .i64 a3 16)+a0)) fun x1=>
 aT (I64 ((shr .i64 a4 16)+a1)) fun x2=>
 Option.bind (wD N a2 x1 x2) fun r3=>
 some r3.1
theorem mG {N a0 a1 a2 a3 a4 r} (h:eG N a0 a1 a2 a3 a4=some r):FnM Tryz.prog 334 [] [(j64 a0),(j64 a1),(.im (aD.enc a2)),(.im (j64 a3)),(.im (j64 a4))] (eA 3 1 j64 r) []:=by
 unfold eG at h
 refine At.f cQ hT hmo Tryz.func334 rfl h ?_
 refine lx ?_;intro x1
 refine lx ?_;intro x2
 refine At.b 10 (fun _ e=>aM [] (aHl e)) fun r3=>?_
 apply rt;exact At.r 8
def aHE : Nat→Bool:=imL [3]
def mE (N:Nat) (e20:(Vector Int 3)) (s19 x4 x5:Int):Nat→(Vector Int 3)→Int→Option ((Vector Int 3))
 | 0,_,_=>none
 | k+1,s22,s23=>
  cond (decide (s23 < 3)) (
   Option.bind (eY s23 3) fun _=>
   Option.bind (s22.toList[s23.toNat]?) fun e25=>
   Option.bind (eY s23 3) fun _=>
   Option.bind (e20.toList[s23.toNat]?) fun e27=>
   Option.bind (eY s19 4) fun _=>
   Option.bind ((#v[I64 ((I64 (65536 - (iK .i64 x4 65535)))*(I64 (65536 - (iK .i64 x5 65535)))),(I64 ((iK .i64 x4 65535)*(I64 (65536 - (iK .i64 x5 65535))))),(I64 ((I64 (65536 - (iK .i64 x4 65535)))*(iK .i64 x5 65535))),(I64 ((iK .i64 x4 65535)*(iK .i64 x5 65535)))]).toList[s19.toNat]?) fun e29=>
   aT (I64 (e25+(I64 (e27*e29)))) fun x30=>
   Option.bind (eY s23 3) fun _=>
   Option.bind (s22.toList[s23.toNat]?) fun e32=>
   mE N e20 s19 x4 x5 k (s22.setIfInBounds s23.toNat x30) (I64 (s23+1))) (
   some s22)
def mN (N:Nat) (r13 r14 r15 r16:(Vector Int 3)) (x4 x5:Int):Nat→(Vector Int 3)→Int→Option ((Vector Int 3))
 | 0,_,_=>none
 | k+1,s18,s19=>
  cond (decide (s19 < 4)) (
   Option.bind (idx (#v[r13,r14,r15,r16]).toList s19) fun e20=>
   Option.bind (mE N e20 s19 x4 x5 N s18 0) fun p21=>
   mN N r13 r14 r15 r16 x4 x5 k p21 (I64 (s19+1))) (
   some s18)
def sO (N:Nat) (a0:aD) (a1 a2:Int):Option (aA×Int):=
 Option.bind (jF N a0) fun r1=>
 cond (r1 != 0) (
  some ((aA.mk 0 0 0,r1))) (
  aT (decide ((fD a1 a2) < 0)) fun x2=>
  aT (decide ((jH a1 a2) > 65535)) fun x3=>
  cond (cond x2 true x3) (
   some ((aA.mk 0 0 0,2))) (
   aT (I64 ((I64 (a1*a0.gE)) - 32768)) fun x4=>
   aT (I64 ((I64 (a2*a0.gE)) - 32768)) fun x5=>
   aT (I64 (65536 - (iK .i64 x4 65535))) fun x6=>
   aT (I64 (65536 - (iK .i64 x5 65535))) fun x7=>
   aT (I64 (65536 - (iK .i64 x5 65535))) fun x8=>
   aT (I64 ((iK .i64 x4 65535)*x8)) fun x9=>
   aT (I64 (65536 - (iK .i64 x4 65535))) fun x10=>
   aT (I64 (x10*(iK .i64 x5 65535))) fun x11=>
   aT (I64 ((iK .i64 x4 65535)*(iK .i64 x5 65535))) fun x12=>
   Option.bind (eG N 0 0 a0 x4 x5) fun r13=>
   Option.bind (eG N 1 0 a0 x4 x5) fun r14=>
   Option.bind (eG N 0 1 a0 x4 x5) fun r15=>
   Option.bind (eG N 1 1 a0 x4 x5) fun r16=>
   Option.bind (mN N r13 r14 r15 r16 x4 x5 N (#v[0,0,0]) 0) fun p17=>
   Option.bind (eY 0 3) fun _=>
   Option.bind (p17.toList[(Int.toNat 0)]?) fun e34=>
   Option.bind (eY 1 3) fun _=>
   Option.bind (p17.toList[(Int.toNat 1)]?) fun e36=>
   Option.bind (eY 2 3) fun _=>
   Option.bind (p17.toList[(Int.toNat 2)]?) fun e38=>
   some ((aA.mk (I64 (Int.tdiv e34 255)) (I64 (Int.tdiv e36 255)) (I64 (Int.tdiv e38 255)),0))))
theorem aFl {N a0 a1 a2 r} (h:sO N a0 a1 a2=some r):FnM Tryz.prog 319 [] [(aD.enc a0),(j64 a1),(j64 a2)] (.tup [(aA.enc r.1),(j64 r.2)]) []:=by
 unfold sO at h
 refine At.f aHE hT hmo Tryz.func319 rfl h ?_
 refine At.b 4 (fun _ e=>aM [] (tJ e)) fun r1=>?_
 refine At.c 3 ?_ ?_
 ·apply rt;exact At.r 4
 ·refine lx ?_;intro x2
  refine lx ?_;intro x3
  refine At.c 10 ?_ ?_
  ·apply rt;exact At.r 3
  ·refine lx ?_;intro x4
   refine lx ?_;intro x5
   refine At.d2 0 [false,false] dC0 (dS1 10 ⟨(.ref 1 [] 0),1,.var (j64 0),.dead⟩ [[.var (.st 3 [(j64 0),(j64 0),(j64 0)]),.dead,.dead],[.var (.st 3 [(j64 0),(j64 0),(j64 0)]),.dead,.var (j64 0)]] ⟨aW hT 1 (by kernel_rfl) (by kernel_rfl) (by kernel_rfl),aW hT 1 (by kernel_rfl) (by kernel_rfl) (by kernel_rfl),trivial⟩ (dS1 11 ⟨(.ref 2 [] 0),2,.var (j64 0),.dead⟩ [[.var (.st 3 [(j64 0),(j64 0),(j64 0)]),.dead,.dead],[.var (.st 3 [(j64 0),(j64 0),(j64 0)]),.var (j64 0),.dead]] ⟨aW hT 2 (by kernel_rfl) (by kernel_rfl) (by kernel_rfl),aW hT 2 (by kernel_rfl) (by kernel_rfl) (by kernel_rfl),trivial⟩ dS0)) ?_
   refine At.d 0 dE0 dF0 ?_
   refine At.gz 0 1 ((j64 x4)) ?_
   refine At.gz 0 2 ((j64 x5)) ?_
   refine At.o 0 (qT (x:=(.fn (.func 334) [] [(.im (aD.enc a0)),(.im (j64 x4)),(.im (j64 x5))])) (by kernel_rfl) (by kernel_rfl)) ?_
   refine lx ?_;intro x6
   refine lx ?_;intro x7
   refine lx ?_;intro x8
   refine lx ?_;intro x9
   refine lx ?_;intro x10
   refine lx ?_;intro x11
   refine lx ?_;intro x12
   refine At.b 21 (fun _ e=>aM [] (mG e)) fun r13=>?_
   refine At.b 1 (fun _ e=>aM [] (mG e)) fun r14=>?_
   refine At.b 1 (fun _ e=>aM [] (mG e)) fun r15=>?_
   refine At.b 1 (fun _ e=>aM [] (mG e)) fun r16=>?_
   refine At.L 6 [6,16] 6 (fun p17=>([],[(5,.var (eA 3 1 j64 p17))],[])) (fun p17 J k=>∃ s18 s19,mN N r13 r14 r15 r16 x4 x5 k s18 s19=some p17∧J [6,14,16,78] 6 [(79,(j64 s19))] [(5,.var (eA 3 1 j64 s18))] []) N (fun _ h=>⟨_,_,h,jr⟩) (fun p17 k s hI=>?_) fun p17=>?_
   ·obtain ⟨s18,s19,h,hj⟩:=hI
    cases k with
    | zero=>cases h
    | succ k=>
     refine At.jr hj ?_ h
     refine At.c 1 ?_ ?_
     ·refine At.b 1 (fun _ e=>aAc hT (eA 3 1 j64) (#v[r13,r14,r15,r16]) e (by kernel_rfl) (by kernel_rfl)) fun e20=>?_
      refine At.L 4 [6,14,16,78,79] 7 (fun p21=>([],[(5,.var (eA 3 1 j64 p21))],[])) (fun p21 J k=>∃ s22 s23,mE N e20 s19 x4 x5 k s22 s23=some p21∧J [6,14,16,17,18,78,79] 7 [(83,(j64 s23))] [(5,.var (eA 3 1 j64 s22))] []) N (fun _ h=>⟨_,_,h,jr⟩) (fun p21 k s hI=>?_) fun p21=>?_
      ·obtain ⟨s22,s23,h,hj⟩:=hI
       cases k with
       | zero=>cases h
       | succ k=>
        refine At.jr hj ?_ h
        refine At.c 1 ?_ ?_
        ·refine bi fun u24 hu24=>?_
         refine bi fun e25 he25=>?_
         refine bi fun u26 hu26=>?_
         refine bi fun e27 he27=>?_
         refine bi fun u28 hu28=>?_
         refine bi fun e29 he29=>?_
         refine lx ?_;intro x30
         refine bi fun u31 hu31=>?_
         refine bi fun e32 he32=>?_
         refine At.d 2 (dE1 1 (fun _=>bH hT (k:=1) 5 [] 0 hu24) (dEL hT 2 (j64 e25) j64 0 he25 (dE1 4 (fun _=>bH hT (k:=1) 6 [] 0 hu26) (dEL hT 5 (j64 e27) j64 0 he27 (dE1 7 (fun _=>bH hT (k:=1) 3 [] 0 hu28) (dEL hT 8 (j64 e29) j64 0 he29 (dE1 11 (fun _=>bH hT (k:=1) 5 [] 0 hu31) dE0))))))) (dF 12 (.v (.bool false)) [(5,.var (eA 3 1 j64 (s22.setIfInBounds s23.toNat x30)))] [] (bG (oA hT j64 0 s22 he32 x30 (by kernel_rfl) (by kernel_rfl) (H':=[.var (.st 3 [(j64 0),(j64 0),(j64 0)]),.dead,.dead,.var (.arr 4 1 [(j64 (I64 ((I64 (65536 - (iK .i64 x4 65535)))*(I64 (65536 - (iK .i64 x5 65535)))))),(j64 ((I64 ((iK .i64 x4 65535)*(I64 (65536 - (iK .i64 x5 65535))))))),(j64 ((I64 ((I64 (65536 - (iK .i64 x4 65535)))*(iK .i64 x5 65535))))),(j64 ((I64 ((iK .i64 x4 65535)*(iK .i64 x5 65535)))))]),.var (.arr 12 3 [(eA 3 1 j64 r13),(eA 3 1 j64 r14),(eA 3 1 j64 r15),(eA 3 1 j64 r16)]),.var (eA 3 1 j64 (s22.setIfInBounds s23.toNat x30)),.var (eA 3 1 j64 e20)]))) dF0) ?_
         exact fun h=>At.k 2 ⟨_,_,h,jr⟩
        ·apply rt;exact At.x 0
      ·exact fun h=>At.k 2 ⟨_,_,h,jr⟩
     ·apply rt;exact At.x 0
   ·refine At.b 0 (fun _ e=>bH hT (k:=1) 5 [] 0 e) fun u33=>?_
    refine At.b 0 (fun _ e=>pQ hT j64 0 e) fun e34=>?_
    refine At.b 1 (fun _ e=>bH hT (k:=1) 5 [] 0 e) fun u35=>?_
    refine At.b 0 (fun _ e=>pQ hT j64 0 e) fun e36=>?_
    refine At.b 1 (fun _ e=>bH hT (k:=1) 5 [] 0 e) fun u37=>?_
    refine At.b 0 (fun _ e=>pQ hT j64 0 e) fun e38=>?_
    apply rt;exact At.r 4
end Go.UK
