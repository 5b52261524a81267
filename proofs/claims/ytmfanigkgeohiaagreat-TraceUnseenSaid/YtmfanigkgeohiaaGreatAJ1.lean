/- A part of the proof: what the functions of the program compute. -/
import Derived.Test.YtmfanigkgeohiaaGreatVT
namespace Go.UK
open Go Go.Proofs
set_option maxRecDepth 20000
set_option maxHeartbeats 40000000
set_option linter.all false
attribute [local irreducible] adv aJN aI3 aAd brPt aL1 aGO pL aAc aMN eR oI fY aJG aIq lPt owp awl aw FnM aFr opS Stab TOK Big
def aD6 : Nat→Bool:=imL [1]
def mQ (N:Nat) (a0:aF):Nat→(List aD)→Int→Option ((List aD))
 | 0,_,_=>none
 | k+1,s2,s3=>
  aV ((a0.gR.length:Int)) fun x4=>
  aV (cond (decide (s3 < x4)) (decide (s3 < 4)) false) fun x5=>
  cond x5 (
   Option.bind (idx a0.gR s3) fun e6=>
   aV ((e6.gA7.length:Int)) fun x7=>
   Option.bind (wG e6.gA7 0 (kL x7 260)) fun s8=>
   Option.bind (wF 32 s2 (([aD.mk e6.gG s8]:List aD))) fun z9=>
   mQ N a0 k z9 (I64 (s3+1))) (
   some s2)
def qB (N:Nat) (a0:aF):Option (aF):=
 Option.bind (mQ N a0 N [] 0) fun p1=>
 aV ((a0.gE.length:Int)) fun x10=>
 Option.bind (wG a0.gE 0 (kL x10 20)) fun s11=>
 aV ((a0.gA5.length:Int)) fun x12=>
 Option.bind (wG a0.gA5 0 (kL x12 8)) fun s13=>
 aV ((a0.gF.length:Int)) fun x14=>
 Option.bind (wG a0.gF 0 (kL x14 5)) fun s15=>
 aV (kL ((a0.gA1.length:Int)) 20) fun x16=>
 Option.bind (wG a0.gA1 0 x16) fun s17=>
 aV ((a0.gA2.length:Int)) fun x18=>
 Option.bind (wG a0.gA2 0 (kL x18 20)) fun s19=>
 some (aF.mk s11 s13 p1 s15 s17 s19 a0.gA8 a0.gA9 a0.gTo)
theorem aDI {N a0 r} (h:qB N a0=some r):FnM Tryz.prog 10 [] [(aF.enc a0)] (aF.enc r) []:=by
 unfold qB at h
 refine At.f aD6 hT hmo Tryz.func10 rfl h ?_
 refine At.ownn 4 3 2 ?_
 refine At.L 0 [1,2] 2 (fun p1=>([(3,(eO 1 2 aD.enc p1))],[(1,.tail (p1.length*2))],[])) (fun p1 J k=>∃ s2 s3,mQ N a0 k s2 s3=some p1∧J [1,2] 2 [(3,(eO 1 2 aD.enc s2)),(4,(j64 s3))] [(1,.tail (s2.length*2))] []) N (fun _ h=>⟨_,_,h,jr⟩) (fun p1 k s hI=>?_) fun p1=>?_
 ·obtain ⟨s2,s3,h,hj⟩:=hI
  cases k with
  | zero=>cases h
  | succ k=>
   refine At.jr hj ?_ h
   refine lx ?_;intro x4
   refine lx ?_;intro x5
   refine At.c 9 ?_ ?_
   ·refine At.b 3 (fun _ e=>cF hT aD.enc e) fun e6=>?_
    refine lx ?_;intro x7
    refine bi fun s8 hs8=>?_
    refine bi fun z9 hz9=>?_
    refine At.d 3 (dE1 9 (fun _=>zN hT (k:=3) (eA 3 1 j64) hs8) (dE1 11 (fun _=>cI hT (x:=(.sl 2 1 [(.st 2 [(j64 e6.gG),(eL 3 (eA 3 1 j64) s8)])]))) dE0)) (dF 12 (eO 1 2 aD.enc z9) [(1,.tail (z9.length*2))] [] (bS (nR hT aD.enc (id:=1) (k:=2) hz9)) dF0) ?_
    exact fun h=>At.k 3 ⟨_,_,h,jr⟩
   ·apply rt;exact At.x 0
 ·refine lx ?_;intro x10
  refine bi fun s11 hs11=>?_
  refine lx ?_;intro x12
  refine bi fun s13 hs13=>?_
  refine lx ?_;intro x14
  refine bi fun s15 hs15=>?_
  refine lx ?_;intro x16
  refine bi fun s17 hs17=>?_
  refine lx ?_;intro x18
  refine bi fun s19 hs19=>?_
  refine At.d 0 (dE1 6 (fun _=>zN hT (k:=19) aE.enc hs11) (dE1 13 (fun _=>zN hT (k:=5) aQ.enc hs13) (dE1 21 (fun _=>zN hT (k:=13) aT.enc hs15) (dE1 28 (fun _=>zN hT (k:=1) k64 hs17) (dE1 35 (fun _=>zN hT (k:=1) k32 hs19) dE0))))) dF0 ?_
  apply rt;exact At.r 0
def aIN : Nat→Bool:=imL [2]
def qN (N:Nat) (a0:aC) (a1:Int):Option (Bool):=
 Option.bind (aV (decide ((jL (jL a0.gX a0.gY) a0.gZ)≤a1)) fun x2=>
 cond x2 (
  aV (decide ((kL (kL a0.gX a0.gY) a0.gZ)≥(I64 (0 - a1)))) fun x3=>
  some x3) (
  some false)) fun p1=>
 some p1
theorem aAP {N a0 a1 r} (h:qN N a0 a1=some r):FnM Tryz.prog 176 [] [(aC.enc a0),(j64 a1)] (eB r) []:=by
 unfold qN at h
 refine At.f aIN hT hmo Tryz.func176 rfl h ?_
 refine At.J 2 0 [] 0 (fun p1=>([(4,(eB p1))],[],[])) (fun p1=>?_) fun p1=>?_
 ·refine At.o 6 (yQ (k := .i64) (i:=a0.gX) (j:=a0.gY) (l:=a0.gZ) (by kernel_rfl) (by kernel_rfl)) ?_
  refine lx ?_;intro x2
  refine At.s 14 3 ?_ ?_
  ·refine At.g [14] 6 ?_
   refine At.o 0 (yN (k := .i64) (i:=a0.gX) (j:=a0.gY) (l:=a0.gZ) (by kernel_rfl) (by kernel_rfl)) ?_
   refine lx ?_;intro x3
   refine At.g [14] 5 ?_
   apply rt;exact At.jn 0
  ·refine At.g [14] 12 ?_
   apply rt;exact At.jn 0
 ·apply rt;exact At.r 0
def aMl : Nat→Bool:=imL [2,3]
def pU (N:Nat) (a0 a1:aC):Option (Bool):=
 Option.bind (Option.bind (qN N a0 65536) fun r2=>
 cond r2 (
  Option.bind (qN N a1 131072) fun r3=>
  cond r3 (
   aV (!(aC.eq a1 (aC.mk 0 0 0))) fun x4=>
   some x4) (
   some false)) (
  some false)) fun p1=>
 some p1
theorem yR {N a0 a1 r} (h:pU N a0 a1=some r):FnM Tryz.prog 92 [] [(aC.enc a0),(aC.enc a1)] (eB r) []:=by
 unfold pU at h
 refine At.f aMl hT hmo Tryz.func92 rfl h ?_
 refine At.J 3 0 [] 0 (fun p1=>([(4,(eB p1))],[],[])) (fun p1=>?_) fun p1=>?_
 ·refine At.b 1 (fun _ e=>aN [] (aAP e)) fun r2=>?_
  refine At.s 7 1 ?_ ?_
  ·refine At.g [7] 1 ?_
   refine At.b 0 (fun _ e=>aN [] (aAP e)) fun r3=>?_
   refine At.g [7] 2 ?_
   refine At.s 11 0 ?_ ?_
   ·refine At.g [11] 2 ?_
    refine At.o 0 (zZ aAr (a1:aC) (aC.mk 0 0 0:aC) (by kernel_rfl) (by kernel_rfl) (fun _=>rfl) (fun _=>rfl) (by kernel_rfl) (by kernel_rfl)) ?_
    refine lx ?_;intro x4
    refine At.g [11] 2 ?_
    apply rt;exact At.jn 0
   ·refine At.g [11] 5 ?_
    apply rt;exact At.jn 0
  ·refine At.g [7,11] 9 ?_
   apply rt;exact At.jn 0
 ·apply rt;exact At.r 0
def aEI : Nat→Bool:=imL [2,3]
def kD (N:Nat) (a1:aE):Nat→Int→Option (Sum (Unit) (Int))
 | 0,_=>none
 | k+1,s9=>
  cond (decide (s9 < 3)) (
   Option.bind (idx a1.gUv.toList s9) fun e10=>
   Option.bind (Option.bind (fH 0 2) fun _=>
   Option.bind (e10.toList[(Int.toNat 0)]?) fun e13=>
   Option.bind (fH 1 2) fun _=>
   Option.bind (e10.toList[(Int.toNat 1)]?) fun e15=>
   aV (decide ((kL e13 e15) < 0)) fun x16=>
   cond x16 (
    some true) (
    Option.bind (fH 0 2) fun _=>
    Option.bind (e10.toList[(Int.toNat 0)]?) fun e18=>
    Option.bind (fH 1 2) fun _=>
    Option.bind (e10.toList[(Int.toNat 1)]?) fun e20=>
    aV (decide ((jL e18 e20) > 65535)) fun x21=>
    some x21)) fun p11=>
   cond p11 (some (Sum.inr 5)) (kD N a1 k (I64 (s9+1)))) (
   some (Sum.inl (())))
def kE (N:Nat) (a1:aE):Nat→Int→Option (Sum (Unit) (Int))
 | 0,_=>none
 | k+1,s23=>
  cond (decide (s23 < 3)) (
   Option.bind (idx a1.gP.toList s23) fun e24=>
   Option.bind (pU N e24 (aC.mk 1 0 0)) fun r25=>
   cond (!r25) (some (Sum.inr 8)) (kE N a1 k (I64 (s23+1)))) (
   some (Sum.inl (())))
def pV (N:Nat) (a0:aF) (a1:aE):Option (Int):=
 aV ((a0.gA5.length:Int)) fun x1=>
 aV (cond (decide (a1.gC1 < 0)) true (decide (a1.gC1≥x1))) fun x2=>
 aV (decide (a1.gA6 < (-1))) fun x3=>
 aV ((a0.gR.length:Int)) fun x4=>
 aV (cond (cond x2 true x3) true (decide (a1.gA6≥x4))) fun x5=>
 aV (cond x5 true (decide (a1.gB9 < 0))) fun x6=>
 aV (decide (a1.gB9≥((a0.gA1.length:Int)))) fun x7=>
 cond (cond x6 true x7) (
  some 5) (
  Option.bind (kD N a1 N 0) fun o=>kK o (fun p8=>
   Option.bind (kE N a1 N 0) fun o=>kK o (fun p22=>
    some 0) (fun r=>some r)) (fun r=>some r))
theorem aDO {N a0 a1 r} (h:pV N a0 a1=some r):FnM Tryz.prog 37 [] [(aF.enc a0),(aE.enc a1)] (j64 r) []:=by
 unfold pV at h
 refine At.f aEI hT hmo Tryz.func37 rfl h ?_
 refine lx ?_;intro x1
 refine lx ?_;intro x2
 refine lx ?_;intro x3
 refine lx ?_;intro x4
 refine lx ?_;intro x5
 refine lx ?_;intro x6
 refine lx ?_;intro x7
 refine At.c 40 ?_ ?_
 ·apply rt;exact At.r 1
 ·refine At.LS 3 [3] 0 (fun p8=>([],[],[])) (fun op8 J k=>∃ s9,kD N a1 k s9=some op8∧J [3,47] 0 [(48,(j64 s9))] [] []) N (fun _ h=>⟨_,h,jr⟩) (fun op8 g8 k s hI=>?_) fun p8=>?_
  ·obtain ⟨s9,h,hj⟩:=hI
   cases k with
   | zero=>cases h
   | succ k=>
    refine At.jr hj ?_ h
    refine At.c 1 ?_ ?_
    ·refine At.b 0 (fun _ e=>zX hT (eA 2 1 j64) a1.gUv e (by kernel_rfl) (by kernel_rfl)) fun e10=>?_
     refine At.J 2 0 [3,47,48] 1 (fun p11=>([(64,(eB p11))],[],[])) (fun p11=>?_) fun p11=>?_
     ·refine At.b 0 (fun _ e=>bG hT (k:=1) 0 [] 0 e) fun u12=>?_
      refine At.b 0 (fun _ e=>pE hT j64 0 e) fun e13=>?_
      refine At.b 0 (fun _ e=>bG hT (k:=1) 0 [] 0 e) fun u14=>?_
      refine At.b 0 (fun _ e=>pE hT j64 0 e) fun e15=>?_
      refine lx ?_;intro x16
      refine At.s 57 3 ?_ ?_
      ·refine At.g [57] 7 ?_
       apply rt;exact At.jn 0
      ·refine At.b 0 (fun _ e=>bG hT (k:=1) 0 [] 0 e) fun u17=>?_
       refine At.b 0 (fun _ e=>pE hT j64 0 e) fun e18=>?_
       refine At.b 0 (fun _ e=>bG hT (k:=1) 0 [] 0 e) fun u19=>?_
       refine At.b 0 (fun _ e=>pE hT j64 0 e) fun e20=>?_
       refine lx ?_;intro x21
       refine At.g [57] 3 ?_
       apply rt;exact At.jn 0
     ·refine At.c 0 ?_ ?_
      ·intro e;apply aCM g8 e;exact At.r 1
      ·exact fun h=>At.k 2 ⟨_,h,jr⟩
    ·apply rt;exact At.xs 0
  ·refine At.LS 3 [] 0 (fun p22=>([],[],[])) (fun op22 J k=>∃ s23,kE N a1 k s23=some op22∧J [67] 0 [(68,(j64 s23))] [] []) N (fun _ h=>⟨_,h,jr⟩) (fun op22 g22 k s hI=>?_) fun p22=>?_
   ·obtain ⟨s23,h,hj⟩:=hI
    cases k with
    | zero=>cases h
    | succ k=>
     refine At.jr hj ?_ h
     refine At.c 1 ?_ ?_
     ·refine At.b 0 (fun _ e=>zX hT aC.enc a1.gP e (by kernel_rfl) (by kernel_rfl)) fun e24=>?_
      refine At.b 4 (fun _ e=>aN [] (yR e)) fun r25=>?_
      refine At.c 1 ?_ ?_
      ·intro e;apply aCM g22 e;exact At.r 1
      ·exact fun h=>At.k 2 ⟨_,h,jr⟩
     ·apply rt;exact At.xs 0
   ·apply rt;exact At.r 1
def aCj : Nat→Bool:=imL [2]
def nP (N:Nat) (a0:aE) (a1:aF):Option (Int):=
 Option.bind (pV N a1 a0) fun r1=>
 some r1
theorem aCL {N a0 a1 r} (h:nP N a0 a1=some r):FnM Tryz.prog 36 [] [(aE.enc a0),(.im (aF.enc a1))] (j64 r) []:=by
 unfold nP at h
 refine At.f aCj hT hmo Tryz.func36 rfl h ?_
 refine At.b 4 (fun _ e=>aN [] (aDO e)) fun r1=>?_
 apply rt;exact At.r 1
def iC (N:Nat) (a0:(List aE)) (a1:aF):Nat→Int→Option (Sum (Unit) (Int))
 | 0,_=>none
 | k+1,s2=>
  aV (decide (s2 < ((a0.length:Int)))) fun x3=>
  cond x3 (
   Option.bind (idx a0 s2) fun e4=>
   Option.bind (nP N e4 a1) fun r5=>
   cond (r5 != 0) (
    some (Sum.inr r5)) (
    iC N a0 a1 k (I64 (s2+1)))) (
   some (Sum.inl (())))
def fK (N:Nat) (a0:(List aE)) (a1:aF):Option (Int):=
 Option.bind (iC N a0 a1 N 0) fun o=>kK o (fun p1=>
  some 0) (fun r=>some r)
theorem vX {N a0 a1 r} (h:fK N a0 a1=some r):FnM Tryz.prog 35 [] [(eL 19 aE.enc a0),(.fn (.func 36) [] [(.im (aF.enc a1))])] (j64 r) []:=by
 unfold fK at h
 refine At.f dM hT hmo Tryz.func35 rfl h ?_
 refine At.LS 4 [] 0 (fun p1=>([],[],[])) (fun op1 J k=>∃ s2,iC N a0 a1 k s2=some op1∧J [1,8,9] 0 [(10,(j64 s2))] [] []) N (fun _ h=>⟨_,h,jr⟩) (fun op1 g1 k s hI=>?_) fun p1=>?_
 ·obtain ⟨s2,h,hj⟩:=hI
  cases k with
  | zero=>cases h
  | succ k=>
   refine At.jr hj ?_ h
   refine lx ?_;intro x3
   refine At.c 1 ?_ ?_
   ·refine At.b 0 (fun _ e=>cF hT aE.enc e) fun e4=>?_
    refine At.b 5 (fun _ e=>aN [] (aCL e)) fun r5=>?_
    refine At.c 3 ?_ ?_
    ·intro e;apply aCM g1 e;exact At.r 2
    ·exact fun h=>At.k 2 ⟨_,h,jr⟩
   ·apply rt;exact At.xs 0
 ·apply rt;exact At.r 1
def lT (N:Nat) (a0 a1:Int):Option (Bool):=
 aV (cond (decide (a0 < 0)) true (decide (a0 > a1))) fun x1=>
 some x1
theorem aBU {N a0 a1 r} (h:lT N a0 a1=some r):FnM Tryz.prog 178 [] [(j64 a0),(.im (j64 a1))] (eB r) []:=by
 unfold lT at h
 refine At.f dM hT hmo Tryz.func178 rfl h ?_
 refine lx ?_;intro x1
 apply rt;exact At.r 9
def eJ (N:Nat) (a0:(List Int)) (a1:Int):Nat→Int→Option (Sum (Unit) (Int))
 | 0,_=>none
 | k+1,s2=>
  aV (decide (s2 < ((a0.length:Int)))) fun x3=>
  cond x3 (
   Option.bind (idx a0 s2) fun e4=>
   Option.bind (lT N e4 a1) fun r5=>
   cond r5 (
    some (Sum.inr s2)) (
    eJ N a0 a1 k (I64 (s2+1)))) (
   some (Sum.inl (())))
def fB (N:Nat) (a0:(List Int)) (a1:Int):Option (Int):=
 Option.bind (eJ N a0 a1 N 0) fun o=>kK o (fun p1=>
  some (-1)) (fun r=>some r)
theorem sV {N a0 a1 r} (h:fB N a0 a1=some r):FnM Tryz.prog 212 [] [(eL 1 j64 a0),(.fn (.func 178) [] [(.im (j64 a1))])] (j64 r) []:=by
 unfold fB at h
 refine At.f dM hT hmo Tryz.func212 rfl h ?_
 refine At.LS 4 [] 0 (fun p1=>([],[],[])) (fun op1 J k=>∃ s2,eJ N a0 a1 k s2=some op1∧J [0,1,7] 0 [(8,(j64 s2))] [] []) N (fun _ h=>⟨_,h,jr⟩) (fun op1 g1 k s hI=>?_) fun p1=>?_
 ·obtain ⟨s2,h,hj⟩:=hI
  cases k with
  | zero=>cases h
  | succ k=>
   refine At.jr hj ?_ h
   refine lx ?_;intro x3
   refine At.c 1 ?_ ?_
   ·refine At.b 5 (fun _ e=>cF hT j64 e) fun e4=>?_
    refine At.b 1 (fun _ e=>aN [] (aBU e)) fun r5=>?_
    refine At.c 0 ?_ ?_
    ·intro e;apply aCM g1 e;exact At.r 2
    ·exact fun h=>At.k 2 ⟨_,h,jr⟩
   ·apply rt;exact At.xs 0
 ·apply rt;exact At.r 1
def eH (N:Nat) (a0:(List Int)) (a1:Int):Option (Bool):=
 Option.bind (fB N a0 a1) fun r1=>
 some (decide (r1≥0))
theorem rF {N a0 a1 r} (h:eH N a0 a1=some r):FnM Tryz.prog 177 [] [(eL 1 j64 a0),(.fn (.func 178) [] [(.im (j64 a1))])] (eB r) []:=by
 unfold eH at h
 refine At.f dM hT hmo Tryz.func177 rfl h ?_
 refine At.b 3 (fun _ e=>aN [] (sV e)) fun r1=>?_
 apply rt;exact At.r 2
def aE0 : Nat→Bool:=imL [2]
def kF (N:Nat) (a0:Int) (a1:(List Int)):Option (Bool):=
 Option.bind (eH N a1 a0) fun r1=>
 some r1
theorem tF {N a0 a1 r} (h:kF N a0 a1=some r):FnM Tryz.prog 93 [] [(j64 a0),(eL 1 j64 a1)] (eB r) []:=by
 unfold kF at h
 refine At.f aE0 hT hmo Tryz.func93 rfl h ?_
 refine At.o 3 (qL (x:=(.fn (.func 178) [] [(.im (j64 a0))])) (by kernel_rfl) (by kernel_rfl)) ?_
 refine At.b 0 (fun _ e=>aN [] (rF e)) fun r1=>?_
 apply rt;exact At.r 1
def aEH : Nat→Bool:=imL [1]
def nD (N:Nat) (a0:aQ):Option (Int):=
 Option.bind (Option.bind (kF N 4 ([a0.gJ])) fun r2=>
 cond r2 (
  some true) (
  Option.bind (idx a0.gB6.toList 0) fun e3=>
  Option.bind (idx a0.gB6.toList 1) fun e4=>
  Option.bind (idx a0.gB6.toList 2) fun e5=>
  Option.bind (kF N 65535 ([e3,e4,e5,a0.gD6])) fun r6=>
  some r6)) fun p1=>
 cond p1 (some 5) (some 0)
theorem aDl {N a0 r} (h:nD N a0=some r):FnM Tryz.prog 39 [] [(aQ.enc a0)] (j64 r) []:=by
 unfold nD at h
 refine At.f aEH hT hmo Tryz.func39 rfl h ?_
 refine At.J 2 0 [] 0 (fun p1=>([(21,(eB p1))],[],[])) (fun p1=>?_) fun p1=>?_
 ·refine At.o 2 (cI hT (x:=(.sl 1 1 [(j64 a0.gJ)]))) ?_
  refine At.b 0 (fun _ e=>aN [] (tF e)) fun r2=>?_
  refine At.s 7 1 ?_ ?_
  ·refine At.g [7] 14 ?_
   apply rt;exact At.jn 0
  ·refine At.g [7] 1 ?_
   refine At.b 0 (fun _ e=>cL hT (N:=3) (k:=1) j64 a0.gB6 e) fun e3=>?_
   refine At.g [7] 2 ?_
   refine At.b 0 (fun _ e=>cL hT (N:=3) (k:=1) j64 a0.gB6 e) fun e4=>?_
   refine At.g [7] 2 ?_
   refine At.b 0 (fun _ e=>cL hT (N:=3) (k:=1) j64 a0.gB6 e) fun e5=>?_
   refine At.g [7] 3 ?_
   refine At.o 0 (cI hT (x:=(.sl 1 4 [(j64 e3),(j64 e4),(j64 e5),(j64 a0.gD6)]))) ?_
   refine At.b 0 (fun _ e=>aN [] (tF e)) fun r6=>?_
   refine At.g [7] 1 ?_
   apply rt;exact At.jn 0
 ·refine At.c 0 ?_ ?_
  ·apply rt;exact At.r 1
  ·apply rt;exact At.r 1
def eQ (N:Nat) (a0:(List aQ)):Nat→Int→Option (Sum (Unit) (Int))
 | 0,_=>none
 | k+1,s2=>
  aV (decide (s2 < ((a0.length:Int)))) fun x3=>
  cond x3 (
   Option.bind (idx a0 s2) fun e4=>
   Option.bind (nD N e4) fun r5=>
   cond (r5 != 0) (
    some (Sum.inr r5)) (
    eQ N a0 k (I64 (s2+1)))) (
   some (Sum.inl (())))
def dY (N:Nat) (a0:(List aQ)):Option (Int):=
 Option.bind (eQ N a0 N 0) fun o=>kK o (fun p1=>
  some 0) (fun r=>some r)
theorem tK {N a0 r} (h:dY N a0=some r):FnM Tryz.prog 38 [] [(eL 5 aQ.enc a0),(.fn (.func 39) [] [])] (j64 r) []:=by
 unfold dY at h
 refine At.f dM hT hmo Tryz.func38 rfl h ?_
 refine At.LS 4 [] 0 (fun p1=>([],[],[])) (fun op1 J k=>∃ s2,eQ N a0 k s2=some op1∧J [1,8,9] 0 [(10,(j64 s2))] [] []) N (fun _ h=>⟨_,h,jr⟩) (fun op1 g1 k s hI=>?_) fun p1=>?_
 ·obtain ⟨s2,h,hj⟩:=hI
  cases k with
  | zero=>cases h
  | succ k=>
   refine At.jr hj ?_ h
   refine lx ?_;intro x3
   refine At.c 1 ?_ ?_
   ·refine At.b 0 (fun _ e=>cF hT aQ.enc e) fun e4=>?_
    refine At.b 5 (fun _ e=>aN [] (aDl e)) fun r5=>?_
    refine At.c 3 ?_ ?_
    ·intro e;apply aCM g1 e;exact At.r 2
    ·exact fun h=>At.k 2 ⟨_,h,jr⟩
   ·apply rt;exact At.xs 0
 ·apply rt;exact At.r 1
def fL (N:Nat) (a0:(List Int)) (a1:Int):Nat→Int→Option (Sum (Unit) (Int))
 | 0,_=>none
 | k+1,s2=>
  aV (decide (s2 < ((a0.length:Int)))) fun x3=>
  cond x3 (
   Option.bind (idx a0 s2) fun e4=>
   cond (a1==e4) (
    some (Sum.inr s2)) (
    fL N a0 a1 k (I64 (s2+1)))) (
   some (Sum.inl (())))
def mU (N:Nat) (a0:(List Int)) (a1:Int):Option (Int):=
 Option.bind (fL N a0 a1 N 0) fun o=>kK o (fun p1=>
  some (-1)) (fun r=>some r)
theorem aAh {N a0 a1 r} (h:mU N a0 a1=some r):FnM Tryz.prog 179 [] [(eL 1 j64 a0),(j64 a1)] (j64 r) []:=by
 unfold mU at h
 refine At.f dM hT hmo Tryz.func179 rfl h ?_
 refine At.LS 4 [] 0 (fun p1=>([],[],[])) (fun op1 J k=>∃ s2,fL N a0 a1 k s2=some op1∧J [0,1,7] 0 [(8,(j64 s2))] [] []) N (fun _ h=>⟨_,h,jr⟩) (fun op1 g1 k s hI=>?_) fun p1=>?_
 ·obtain ⟨s2,h,hj⟩:=hI
  cases k with
  | zero=>cases h
  | succ k=>
   refine At.jr hj ?_ h
   refine lx ?_;intro x3
   refine At.c 1 ?_ ?_
   ·refine At.b 5 (fun _ e=>cF hT j64 e) fun e4=>?_
    refine At.c 2 ?_ ?_
    ·intro e;apply aCM g1 e;exact At.r 2
    ·exact fun h=>At.k 2 ⟨_,h,jr⟩
   ·apply rt;exact At.xs 0
 ·apply rt;exact At.r 1
def iO (N:Nat) (a0:(List Int)) (a1:Int):Option (Bool):=
 Option.bind (mU N a0 a1) fun r1=>
 some (decide (r1≥0))
theorem yT {N a0 a1 r} (h:iO N a0 a1=some r):FnM Tryz.prog 94 [] [(eL 1 j64 a0),(j64 a1)] (eB r) []:=by
 unfold iO at h
 refine At.f dM hT hmo Tryz.func94 rfl h ?_
 refine At.b 3 (fun _ e=>aN [] (aAh e)) fun r1=>?_
 apply rt;exact At.r 2
def aE1 : Nat→Bool:=imL [1]
def lF (N:Nat) (x5:Int) (a0:aD):Nat→Int→Option (Sum (Unit) (Int))
 | 0,_=>none
 | k+1,s7=>
  cond (decide (s7 < x5)) (
   Option.bind (idx a0.gA7 s7) fun e8=>
   Option.bind (Option.bind (fH 0 3) fun _=>
   Option.bind (e8.toList[(Int.toNat 0)]?) fun e11=>
   Option.bind (fH 1 3) fun _=>
   Option.bind (e8.toList[(Int.toNat 1)]?) fun e13=>
   Option.bind (fH 2 3) fun _=>
   Option.bind (e8.toList[(Int.toNat 2)]?) fun e15=>
   aV (decide ((kL (kL e11 e13) e15) < 0)) fun x16=>
   cond x16 (
    some true) (
    Option.bind (fH 0 3) fun _=>
    Option.bind (e8.toList[(Int.toNat 0)]?) fun e18=>
    Option.bind (fH 1 3) fun _=>
    Option.bind (e8.toList[(Int.toNat 1)]?) fun e20=>
    Option.bind (fH 2 3) fun _=>
    Option.bind (e8.toList[(Int.toNat 2)]?) fun e22=>
    aV (decide ((jL (jL e18 e20) e22) > 255)) fun x23=>
    some x23)) fun p9=>
   cond p9 (some (Sum.inr 5)) (lF N x5 a0 k (I64 (s7+1)))) (
   some (Sum.inl (())))
def jC (N:Nat) (a0:aD):Option (Int):=
 Option.bind (iO N ([1,2,4,8,16]) a0.gG) fun r1=>
 aV ((a0.gA7.length:Int)) fun x2=>
 aV (I64 (a0.gG*a0.gG)) fun x3=>
 aV (cond (!r1) true (x2 != x3)) fun x4=>
 cond x4 (
  some 5) (
  aV ((a0.gA7.length:Int)) fun x5=>
  Option.bind (lF N x5 a0 N 0) fun o=>kK o (fun p6=>
   some 0) (fun r=>some r))
theorem tD {N a0 r} (h:jC N a0=some r):FnM Tryz.prog 41 [] [(aD.enc a0)] (j64 r) []:=by
 unfold jC at h
 refine At.f aE1 hT hmo Tryz.func41 rfl h ?_
 refine At.o 2 (cI hT (x:=(.sl 1 5 [(j64 1),(j64 2),(j64 4),(j64 8),(j64 16)]))) ?_
 refine At.b 2 (fun _ e=>aN [] (yT e)) fun r1=>?_
 refine lx ?_;intro x2
 refine lx ?_;intro x3
 refine lx ?_;intro x4
 refine At.c 12 ?_ ?_
 ·apply rt;exact At.r 1
 ·refine lx ?_;intro x5
  refine At.LS 4 [] 0 (fun p6=>([],[],[])) (fun op6 J k=>∃ s7,lF N x5 a0 k s7=some op6∧J [22,23] 0 [(24,(j64 s7))] [] []) N (fun _ h=>⟨_,h,jr⟩) (fun op6 g6 k s hI=>?_) fun p6=>?_
  ·obtain ⟨s7,h,hj⟩:=hI
   cases k with
   | zero=>cases h
   | succ k=>
    refine At.jr hj ?_ h
    refine At.c 1 ?_ ?_
    ·refine At.b 0 (fun _ e=>cF hT (eA 3 1 j64) e) fun e8=>?_
     refine At.J 3 0 [22,23,24] 1 (fun p9=>([(45,(eB p9))],[],[])) (fun p9=>?_) fun p9=>?_
     ·refine At.b 0 (fun _ e=>bG hT (k:=1) 0 [] 0 e) fun u10=>?_
      refine At.b 0 (fun _ e=>pE hT j64 0 e) fun e11=>?_
      refine At.b 0 (fun _ e=>bG hT (k:=1) 0 [] 0 e) fun u12=>?_
      refine At.b 0 (fun _ e=>pE hT j64 0 e) fun e13=>?_
      refine At.b 0 (fun _ e=>bG hT (k:=1) 0 [] 0 e) fun u14=>?_
      refine At.b 0 (fun _ e=>pE hT j64 0 e) fun e15=>?_
      refine At.o 0 (yN (k := .i64) (i:=e11) (j:=e13) (l:=e15) (by kernel_rfl) (by kernel_rfl)) ?_
      refine lx ?_;intro x16
      refine At.s 36 2 ?_ ?_
      ·refine At.g [36] 9 ?_
       apply rt;exact At.jn 0
      ·refine At.b 0 (fun _ e=>bG hT (k:=1) 0 [] 0 e) fun u17=>?_
       refine At.b 0 (fun _ e=>pE hT j64 0 e) fun e18=>?_
       refine At.b 0 (fun _ e=>bG hT (k:=1) 0 [] 0 e) fun u19=>?_
       refine At.b 0 (fun _ e=>pE hT j64 0 e) fun e20=>?_
       refine At.b 0 (fun _ e=>bG hT (k:=1) 0 [] 0 e) fun u21=>?_
       refine At.b 0 (fun _ e=>pE hT j64 0 e) fun e22=>?_
       refine At.o 0 (yQ (k := .i64) (i:=e18) (j:=e20) (l:=e22) (by kernel_rfl) (by kernel_rfl)) ?_
       refine lx ?_;intro x23
       refine At.g [36] 2 ?_
       apply rt;exact At.jn 0
     ·refine At.c 0 ?_ ?_
      ·intro e;apply aCM g6 e;exact At.r 1
      ·exact fun h=>At.k 2 ⟨_,h,jr⟩
    ·apply rt;exact At.xs 0
  ·apply rt;exact At.r 1
def fP (N:Nat) (a0:(List aD)):Nat→Int→Option (Sum (Unit) (Int))
 | 0,_=>none
 | k+1,s2=>
  aV (decide (s2 < ((a0.length:Int)))) fun x3=>
  cond x3 (
   Option.bind (idx a0 s2) fun e4=>
   Option.bind (jC N e4) fun r5=>
   cond (r5 != 0) (
    some (Sum.inr r5)) (
    fP N a0 k (I64 (s2+1)))) (
   some (Sum.inl (())))
def eX (N:Nat) (a0:(List aD)):Option (Int):=
 Option.bind (fP N a0 N 0) fun o=>kK o (fun p1=>
  some 0) (fun r=>some r)
theorem vQ {N a0 r} (h:eX N a0=some r):FnM Tryz.prog 40 [] [(eL 2 aD.enc a0),(.fn (.func 41) [] [])] (j64 r) []:=by
 unfold eX at h
 refine At.f dM hT hmo Tryz.func40 rfl h ?_
 refine At.LS 4 [] 0 (fun p1=>([],[],[])) (fun op1 J k=>∃ s2,fP N a0 k s2=some op1∧J [1,8,9] 0 [(10,(j64 s2))] [] []) N (fun _ h=>⟨_,h,jr⟩) (fun op1 g1 k s hI=>?_) fun p1=>?_
 ·obtain ⟨s2,h,hj⟩:=hI
  cases k with
  | zero=>cases h
  | succ k=>
   refine At.jr hj ?_ h
   refine lx ?_;intro x3
   refine At.c 1 ?_ ?_
   ·refine At.b 0 (fun _ e=>cF hT aD.enc e) fun e4=>?_
    refine At.b 5 (fun _ e=>aN [] (tD e)) fun r5=>?_
    refine At.c 3 ?_ ?_
    ·intro e;apply aCM g1 e;exact At.r 2
    ·exact fun h=>At.k 2 ⟨_,h,jr⟩
   ·apply rt;exact At.xs 0
 ·apply rt;exact At.r 1
def aE7 : Nat→Bool:=imL [1]
def mJ (N:Nat) (a0:aC):Option (Bool):=
 Option.bind (aV (decide ((jL (jL a0.gX a0.gY) a0.gZ) > 4096)) fun x2=>
 cond x2 (
  some true) (
  aV (decide ((kL (kL a0.gX a0.gY) a0.gZ) < (-4096))) fun x3=>
  some x3)) fun p1=>
 some p1
theorem vW {N a0 r} (h:mJ N a0=some r):FnM Tryz.prog 95 [] [(aC.enc a0)] (eB r) []:=by
 unfold mJ at h
 refine At.f aE7 hT hmo Tryz.func95 rfl h ?_
 refine At.J 2 0 [] 0 (fun p1=>([(2,(eB p1))],[],[])) (fun p1=>?_) fun p1=>?_
 ·refine At.o 6 (yQ (k := .i64) (i:=a0.gX) (j:=a0.gY) (l:=a0.gZ) (by kernel_rfl) (by kernel_rfl)) ?_
  refine lx ?_;intro x2
  refine At.s 11 2 ?_ ?_
  ·refine At.g [11] 10 ?_
   apply rt;exact At.jn 0
  ·refine At.g [11] 6 ?_
   refine At.o 0 (yN (k := .i64) (i:=a0.gX) (j:=a0.gY) (l:=a0.gZ) (by kernel_rfl) (by kernel_rfl)) ?_
   refine lx ?_;intro x3
   refine At.g [11] 3 ?_
   apply rt;exact At.jn 0
 ·apply rt;exact At.r 0
def aGm : Nat→Bool:=imL [1]
def oY (N:Nat) (a0:aT):Option (Int):=
 Option.bind (Option.bind (kF N 2 ([a0.gJ])) fun r2=>
 cond r2 (
  some true) (
  Option.bind (wG a0.gB6.toList 0 3) fun s3=>
  Option.bind (kF N 1048576 s3) fun r4=>
  some r4)) fun p1=>
 cond p1 (
  some 5) (
  Option.bind (Option.bind (mJ N a0.gAt) fun r6=>
  cond r6 (
   some true) (
   Option.bind (mJ N a0.gU) fun r7=>
   cond r7 (
    some true) (
    Option.bind (mJ N a0.gV) fun r8=>
    some r8))) fun p5=>
  cond p5 (
   some 8) (
   Option.bind (cond (a0.gJ==2) (
    cond (!(aC.eq a0.gAt (aC.mk 0 0 0))) (
     some (Sum.inr 5)) (
     Option.bind (aV (!(aC.eq a0.gU (aC.mk 0 0 0))) fun x11=>
     cond x11 (
      some true) (
      some (!(aC.eq a0.gV (aC.mk 0 0 0))))) fun p10=>
     cond p10 (some (Sum.inr 5)) (some (Sum.inl (()))))) (
    cond (a0.gJ==0) (
     Option.bind (aV (!(aC.eq a0.gU (aC.mk 0 0 0))) fun x13=>
     cond x13 (
      some true) (
      some (!(aC.eq a0.gV (aC.mk 0 0 0))))) fun p12=>
     cond p12 (some (Sum.inr 5)) (some (Sum.inl (())))) (
     some (Sum.inl (()))))) fun o=>kK o (fun p9=>
    some 0) (fun r=>some r)))
theorem aBu {N a0 r} (h:oY N a0=some r):FnM Tryz.prog 43 [] [(aT.enc a0)] (j64 r) []:=by
 unfold oY at h
 refine At.f aGm hT hmo Tryz.func43 rfl h ?_
 refine At.J 6 0 [1,3,4] 1 (fun p1=>([(6,(eB p1))],[],[])) (fun p1=>?_) fun p1=>?_
 ·refine At.o 2 (cI hT (x:=(.sl 1 1 [(j64 a0.gJ)]))) ?_
  refine At.b 0 (fun _ e=>aN [] (tF e)) fun r2=>?_
  refine At.s 11 1 ?_ ?_
  ·refine At.g [11] 5 ?_
   apply rt;exact At.jn 0
  ·refine At.g [11] 1 ?_
   refine At.b 0 (fun _ e=>aAz hT (N:=3) (k:=1) j64 a0.gB6 e) fun s3=>?_
   refine At.b 0 (fun _ e=>aN [] (tF e)) fun r4=>?_
   refine At.g [11] 2 ?_
   apply rt;exact At.jn 0
 ·refine At.c 0 ?_ ?_
  ·apply rt;exact At.r 1
  ·refine At.J 0 0 [1,4] 1 (fun p5=>([(16,(eB p5))],[],[])) (fun p5=>?_) fun p5=>?_
   ·refine At.b 3 (fun _ e=>aN [] (vW e)) fun r6=>?_
    refine At.s 21 1 ?_ ?_
    ·refine At.g [21,27] 12 ?_
     apply rt;exact At.jn 0
    ·refine At.g [21] 3 ?_
     refine At.b 0 (fun _ e=>aN [] (vW e)) fun r7=>?_
     refine At.g [21] 2 ?_
     refine At.s 27 0 ?_ ?_
     ·refine At.g [27] 6 ?_
      apply rt;exact At.jn 0
     ·refine At.g [27] 3 ?_
      refine At.b 0 (fun _ e=>aN [] (vW e)) fun r8=>?_
      refine At.g [27] 2 ?_
      apply rt;exact At.jn 0
   ·refine At.c 0 ?_ ?_
    ·apply rt;exact At.r 1
    ·refine At.JS 0 1 [] 1 (fun p9=>([],[],[])) (fun op9 g9=>?_) fun p9=>?_
     ·refine At.c 4 ?_ ?_
      ·refine At.o 3 (zZ aAr (a0.gAt:aC) (aC.mk 0 0 0:aC) (by kernel_rfl) (by kernel_rfl) (fun _=>rfl) (fun _=>rfl) (by kernel_rfl) (by kernel_rfl)) ?_
       refine At.c 0 ?_ ?_
       ·intro e;apply aCM g9 e;exact At.r 1
       ·refine At.J 0 0 [] 1 (fun p10=>([(52,(eB p10))],[],[])) (fun p10=>?_) fun p10=>?_
        ·refine At.o 3 (zZ aAr (a0.gU:aC) (aC.mk 0 0 0:aC) (by kernel_rfl) (by kernel_rfl) (fun _=>rfl) (fun _=>rfl) (by kernel_rfl) (by kernel_rfl)) ?_
         refine lx ?_;intro x11
         refine At.s 47 1 ?_ ?_
         ·refine At.g [47] 5 ?_
          apply rt;exact At.jn 0
         ·refine At.g [47] 3 ?_
          refine At.o 0 (zZ aAr (a0.gV:aC) (aC.mk 0 0 0:aC) (by kernel_rfl) (by kernel_rfl) (fun _=>rfl) (fun _=>rfl) (by kernel_rfl) (by kernel_rfl)) ?_
          refine At.g [47] 1 ?_
          apply rt;exact At.jn 0
        ·refine At.c 0 ?_ ?_
         ·intro e;apply aCM g9 e;exact At.r 1
         ·apply rt;exact At.jsn 0
      ·refine At.c 2 ?_ ?_
       ·refine At.J 0 0 [] 1 (fun p12=>([(52,(eB p12))],[],[])) (fun p12=>?_) fun p12=>?_
        ·refine At.o 3 (zZ aAr (a0.gU:aC) (aC.mk 0 0 0:aC) (by kernel_rfl) (by kernel_rfl) (fun _=>rfl) (fun _=>rfl) (by kernel_rfl) (by kernel_rfl)) ?_
         refine lx ?_;intro x13
         refine At.s 47 1 ?_ ?_
         ·refine At.g [47] 5 ?_
          apply rt;exact At.jn 0
         ·refine At.g [47] 3 ?_
          refine At.o 0 (zZ aAr (a0.gV:aC) (aC.mk 0 0 0:aC) (by kernel_rfl) (by kernel_rfl) (fun _=>rfl) (fun _=>rfl) (by kernel_rfl) (by kernel_rfl)) ?_
          refine At.g [47] 1 ?_
          apply rt;exact At.jn 0
        ·refine At.c 0 ?_ ?_
         ·intro e;apply aCM g9 e;exact At.r 1
         ·apply rt;exact At.jsn 0
       ·apply rt;exact At.jsn 0
     ·apply rt;exact At.r 1
def iA (N:Nat) (a0:(List aT)):Nat→Int→Option (Sum (Unit) (Int))
 | 0,_=>none
 | k+1,s2=>
  aV (decide (s2 < ((a0.length:Int)))) fun x3=>
  cond x3 (
   Option.bind (idx a0 s2) fun e4=>
   Option.bind (oY N e4) fun r5=>
   cond (r5 != 0) (
    some (Sum.inr r5)) (
    iA N a0 k (I64 (s2+1)))) (
   some (Sum.inl (())))
def fG (N:Nat) (a0:(List aT)):Option (Int):=
 Option.bind (iA N a0 N 0) fun o=>kK o (fun p1=>
  some 0) (fun r=>some r)
theorem wE {N a0 r} (h:fG N a0=some r):FnM Tryz.prog 42 [] [(eL 13 aT.enc a0),(.fn (.func 43) [] [])] (j64 r) []:=by
 unfold fG at h
 refine At.f dM hT hmo Tryz.func42 rfl h ?_
 refine At.LS 4 [] 0 (fun p1=>([],[],[])) (fun op1 J k=>∃ s2,iA N a0 k s2=some op1∧J [1,8,9] 0 [(10,(j64 s2))] [] []) N (fun _ h=>⟨_,h,jr⟩) (fun op1 g1 k s hI=>?_) fun p1=>?_
 ·obtain ⟨s2,h,hj⟩:=hI
  cases k with
  | zero=>cases h
  | succ k=>
   refine At.jr hj ?_ h
   refine lx ?_;intro x3
   refine At.c 1 ?_ ?_
   ·refine At.b 0 (fun _ e=>cF hT aT.enc e) fun e4=>?_
    refine At.b 5 (fun _ e=>aN [] (aBu e)) fun r5=>?_
    refine At.c 3 ?_ ?_
    ·intro e;apply aCM g1 e;exact At.r 2
    ·exact fun h=>At.k 2 ⟨_,h,jr⟩
   ·apply rt;exact At.xs 0
 ·apply rt;exact At.r 1
def aGr : Nat→Bool:=imL [1]
def mX (N:Nat) (a0:aF):Option (Int):=
 aV ((a0.gA2.length:Int)) fun x1=>
 aV (x1 != ((a0.gA1.length:Int))) fun x2=>
 cond x2 (
  some 5) (
  Option.bind (fK N a0.gE a0) fun r3=>
  cond (r3 != 0) (
   some r3) (
   Option.bind (dY N a0.gA5) fun r4=>
   cond (r4 != 0) (
    some r4) (
    Option.bind (eX N a0.gR) fun r5=>
    cond (r5 != 0) (
     some r5) (
     Option.bind (fG N a0.gF) fun r6=>
     some r6))))
theorem aGD {N a0 r} (h:mX N a0=some r):FnM Tryz.prog 14 [] [(aF.enc a0)] (j64 r) []:=by
 unfold mX at h
 refine At.f aGr hT hmo Tryz.func14 rfl h ?_
 refine lx ?_;intro x1
 refine lx ?_;intro x2
 refine At.c 9 ?_ ?_
 ·apply rt;exact At.r 1
 ·refine At.o 2 (qL (x:=(.fn (.func 36) [] [(.im (aF.enc a0))])) (by kernel_rfl) (by kernel_rfl)) ?_
  refine At.b 0 (fun _ e=>aN [] (vX e)) fun r3=>?_
  refine At.c 3 ?_ ?_
  ·apply rt;exact At.r 2
  ·refine At.b 2 (fun _ e=>aN [] (tK e)) fun r4=>?_
   refine At.c 3 ?_ ?_
   ·apply rt;exact At.r 2
   ·refine At.b 2 (fun _ e=>aN [] (vQ e)) fun r5=>?_
    refine At.c 3 ?_ ?_
    ·apply rt;exact At.r 2
    ·refine At.b 2 (fun _ e=>aN [] (wE e)) fun r6=>?_
     apply rt;exact At.r 1
def aKf : Nat→Bool:=imL [1]
def uK (N:Nat) (a0:aC):Option (Bool):=
 Option.bind (aV (!(aC.eq a0 (aC.mk 0 0 0))) fun x2=>
 cond x2 (
  aV (decide ((jL (jL a0.gX a0.gY) a0.gZ)≤16384)) fun x3=>
  cond x3 (
   aV (decide ((kL (kL a0.gX a0.gY) a0.gZ)≥(-16384))) fun x4=>
   some x4) (
   some false)) (
  some false)) fun p1=>
 some p1
theorem aBx {N a0 r} (h:uK N a0=some r):FnM Tryz.prog 98 [] [(aC.enc a0)] (eB r) []:=by
 unfold uK at h
 refine At.f aKf hT hmo Tryz.func98 rfl h ?_
 refine At.J 2 0 [] 0 (fun p1=>([(2,(eB p1))],[],[])) (fun p1=>?_) fun p1=>?_
 ·refine At.o 2 (zZ aAr (a0:aC) (aC.mk 0 0 0:aC) (by kernel_rfl) (by kernel_rfl) (fun _=>rfl) (fun _=>rfl) (by kernel_rfl) (by kernel_rfl)) ?_
  refine lx ?_;intro x2
  refine At.s 6 1 ?_ ?_
  ·refine At.g [6] 6 ?_
   refine At.o 0 (yQ (k := .i64) (i:=a0.gX) (j:=a0.gY) (l:=a0.gZ) (by kernel_rfl) (by kernel_rfl)) ?_
   refine lx ?_;intro x3
   refine At.g [6] 3 ?_
   refine At.s 16 0 ?_ ?_
   ·refine At.g [16] 6 ?_
    refine At.o 0 (yN (k := .i64) (i:=a0.gX) (j:=a0.gY) (l:=a0.gZ) (by kernel_rfl) (by kernel_rfl)) ?_
    refine lx ?_;intro x4
    refine At.g [16] 3 ?_
    apply rt;exact At.jn 0
   ·refine At.g [16] 10 ?_
    apply rt;exact At.jn 0
  ·refine At.g [6,16] 20 ?_
   apply rt;exact At.jn 0
 ·apply rt;exact At.r 0
def lS (N:Nat) (a0 a1 a2:Int):Option (Bool):=
 aV (cond (decide (a0≥a1)) (decide (a0≤a2)) false) fun x1=>
 some x1
theorem uB {N a0 a1 a2 r} (h:lS N a0 a1 a2=some r):FnM Tryz.prog 97 [] [(j64 a0),(j64 a1),(j64 a2)] (eB r) []:=by
 unfold lS at h
 refine At.f dM hT hmo Tryz.func97 rfl h ?_
 refine lx ?_;intro x1
 apply rt;exact At.r 10
def aIG : Nat→Bool:=imL [3]
def sO (N:Nat) (a0:bP) (a1 a2:Int):Option (Int):=
 Option.bind (aV (decide ((jL (jL a0.gB0.gX a0.gB0.gY) a0.gB0.gZ) > 32768)) fun x2=>
 cond x2 (
  some true) (
  aV (decide ((kL (kL a0.gB0.gX a0.gB0.gY) a0.gB0.gZ) < (-32768))) fun x3=>
  some x3)) fun p1=>
 cond p1 (
  some 8) (
  Option.bind (Option.bind (uK N a0.gB4) fun r5=>
  cond (!r5) (
   some true) (
   Option.bind (uK N a0.gUp) fun r6=>
   cond (!r6) (
    some true) (
    Option.bind (uK N a0.gE2) fun r7=>
    some (!r7)))) fun p4=>
  cond p4 (
   some 2) (
   Option.bind (Option.bind (lS N a0.gC9 0 1024) fun r9=>
   cond (!r9) (
    some true) (
    Option.bind (lS N a0.gD5 1 32768) fun r10=>
    cond (!r10) (
     some true) (
     Option.bind (lS N a1 1 64) fun r11=>
     cond (!r11) (
      some true) (
      Option.bind (lS N a2 1 64) fun r12=>
      some (!r12))))) fun p8=>
   cond p8 (some 2) (some 0)))
theorem aCW {N a0 a1 a2 r} (h:sO N a0 a1 a2=some r):FnM Tryz.prog 48 [] [(bP.enc a0),(j64 a1),(j64 a2)] (j64 r) []:=by
 unfold sO at h
 refine At.f aIG hT hmo Tryz.func48 rfl h ?_
 refine At.J 7 0 [1,2,3,8] 1 (fun p1=>([(11,(eB p1))],[],[])) (fun p1=>?_) fun p1=>?_
 ·refine At.o 6 (yQ (k := .i64) (i:=a0.gB0.gX) (j:=a0.gB0.gY) (l:=a0.gB0.gZ) (by kernel_rfl) (by kernel_rfl)) ?_
  refine lx ?_;intro x2
  refine At.s 20 2 ?_ ?_
  ·refine At.g [20] 10 ?_
   apply rt;exact At.jn 0
  ·refine At.g [20] 6 ?_
   refine At.o 0 (yN (k := .i64) (i:=a0.gB0.gX) (j:=a0.gB0.gY) (l:=a0.gB0.gZ) (by kernel_rfl) (by kernel_rfl)) ?_
   refine lx ?_;intro x3
   refine At.g [20] 3 ?_
   apply rt;exact At.jn 0
 ·refine At.c 0 ?_ ?_
  ·apply rt;exact At.r 1
  ·refine At.J 0 0 [1,2,3,8] 1 (fun p4=>([(30,(eB p4))],[],[])) (fun p4=>?_) fun p4=>?_
   ·refine At.b 2 (fun _ e=>aN [] (aBx e)) fun r5=>?_
    refine At.s 35 2 ?_ ?_
    ·refine At.g [35,41] 12 ?_
     apply rt;exact At.jn 0
    ·refine At.g [35] 2 ?_
     refine At.b 0 (fun _ e=>aN [] (aBx e)) fun r6=>?_
     refine At.g [35] 3 ?_
     refine At.s 41 0 ?_ ?_
     ·refine At.g [41] 6 ?_
      apply rt;exact At.jn 0
     ·refine At.g [41] 2 ?_
      refine At.b 0 (fun _ e=>aN [] (aBx e)) fun r7=>?_
      refine At.g [41] 3 ?_
      apply rt;exact At.jn 0
   ·refine At.c 0 ?_ ?_
    ·apply rt;exact At.r 1
    ·refine At.J 0 0 [] 1 (fun p8=>([(47,(eB p8))],[],[])) (fun p8=>?_) fun p8=>?_
     ·refine At.b 3 (fun _ e=>aN [] (uB e)) fun r9=>?_
      refine At.s 53 2 ?_ ?_
      ·refine At.g [53,60,66] 19 ?_
       apply rt;exact At.jn 0
      ·refine At.g [53] 3 ?_
       refine At.b 0 (fun _ e=>aN [] (uB e)) fun r10=>?_
       refine At.g [53] 3 ?_
       refine At.s 60 0 ?_ ?_
       ·refine At.g [60,66] 12 ?_
        apply rt;exact At.jn 0
       ·refine At.g [60] 2 ?_
        refine At.b 0 (fun _ e=>aN [] (uB e)) fun r11=>?_
        refine At.g [60] 3 ?_
        refine At.s 66 0 ?_ ?_
        ·refine At.g [66] 6 ?_
         apply rt;exact At.jn 0
        ·refine At.g [66] 2 ?_
         refine At.b 0 (fun _ e=>aN [] (uB e)) fun r12=>?_
         refine At.g [66] 3 ?_
         apply rt;exact At.jn 0
     ·refine At.c 0 ?_ ?_
      ·apply rt;exact At.r 1
      ·apply rt;exact At.r 1
def aKB : Nat→Bool:=imL [1]
def sJ (N:Nat) (a0:aI):Option (Int):=
 Option.bind (sO N a0.gD8 a0.gW a0.gH) fun r1=>
 cond (r1 != 0) (
  some r1) (
  aV (decide (a0.gD0 < 1)) fun x2=>
  aV (decide (a0.gD0 > 16)) fun x3=>
  aV (cond (cond x2 true x3) true (decide (a0.gN < 0))) fun x4=>
  aV (cond x4 true (decide (a0.gN > 8))) fun x5=>
  aV (cond x5 true (decide (a0.gA3 < 0))) fun x6=>
  aV (cond x6 true (decide (a0.gA3 > 2))) fun x7=>
  cond x7 (some 2) (some 0))
theorem aI8 {N a0 r} (h:sJ N a0=some r):FnM Tryz.prog 16 [] [(aI.enc a0)] (j64 r) []:=by
 unfold sJ at h
 refine At.f aKB hT hmo Tryz.func16 rfl h ?_
 refine At.b 8 (fun _ e=>aN [] (aCW e)) fun r1=>?_
 refine At.c 3 ?_ ?_
 ·apply rt;exact At.r 2
 ·refine lx ?_;intro x2
  refine lx ?_;intro x3
  refine lx ?_;intro x4
  refine lx ?_;intro x5
  refine lx ?_;intro x6
  refine lx ?_;intro x7
  refine At.c 28 ?_ ?_
  ·apply rt;exact At.r 1
  ·apply rt;exact At.r 1
def jB (N:Nat) (a0:Int):Option (Int×Int):=
 cond (a0==0) (
  some ((16,4))) (
  cond (a0==1) (
   some ((64,4))) (
   cond (a0==2) (some ((256,8))) (some ((0,0)))))
theorem tC {N a0 r} (h:jB N a0=some r):FnM Tryz.prog 27 [] [(j64 a0)] (.tup [(j64 r.1),(j64 r.2)]) []:=by
 unfold jB at h
 refine At.f dM hT hmo Tryz.func27 rfl h ?_
 refine At.c 5 ?_ ?_
 ·apply rt;exact At.r 2
 ·refine At.c 2 ?_ ?_
  ·apply rt;exact At.r 2
  ·refine At.c 2 ?_ ?_
   ·apply rt;exact At.r 2
   ·apply rt;exact At.r 2
def aGW : Nat→Bool:=imL [2]
def pO (N:Nat) (a0:aF) (a1:Int):Option (Int):=
 Option.bind (jB N a1) fun r1=>
 aV ((a0.gE.length:Int)) fun x2=>
 aV ((a0.gF.length:Int)) fun x3=>
 aV (cond (decide (x2 > r1.1)) true (decide (x3 > r1.2))) fun x4=>
 cond x4 (some 15) (some 0)
theorem aE9 {N a0 a1 r} (h:pO N a0 a1=some r):FnM Tryz.prog 24 [] [(aF.enc a0),(j64 a1)] (j64 r) []:=by
 unfold pO at h
 refine At.f aGW hT hmo Tryz.func24 rfl h ?_
 refine At.b 3 (fun _ e=>aN [] (tC e)) fun r1=>?_
 refine lx ?_;intro x2
 refine lx ?_;intro x3
 refine lx ?_;intro x4
 refine At.c 17 ?_ ?_
 ·apply rt;exact At.r 1
 ·apply rt;exact At.r 1
def rR (N:Nat) (a0:Int):Option (Int×Bool):=
 cond (decide (a0 < 0)) (some ((U64 (0 - (U64 a0)),true))) (some ((U64 a0,false)))
theorem aBD {N a0 r} (h:rR N a0=some r):FnM Tryz.prog 216 [] [(j64 a0)] (.tup [(k64 r.1),(eB r.2)]) []:=by
 unfold rR at h
 refine At.f dM hT hmo Tryz.func216 rfl h ?_
 refine At.c 4 ?_ ?_
 ·apply rt;exact At.r 5
 ·apply rt;exact At.r 4
def jR (N:Nat) (a0 a1:Int):Option (Int×Int):=
 aV (eK .u64 a0 4294967295) fun x1=>
 aV (eK .u64 a1 4294967295) fun x2=>
 aV (U64 ((shr .u64 a0 32)*x2)) fun x3=>
 aV (shr .u64 (U64 (x1*x2)) 32) fun x4=>
 aV (eK .u64 (U64 (x3+x4)) 4294967295) fun x5=>
 aV (shr .u64 (U64 (x3+x4)) 32) fun x6=>
 aV (U64 (x1*(shr .u64 a1 32))) fun x7=>
 aV (U64 ((shr .u64 a0 32)*(shr .u64 a1 32))) fun x8=>
 aV (shr .u64 (U64 (x5+x7)) 32) fun x9=>
 aV (U64 ((U64 (x8+x6))+x9)) fun x10=>
 some ((x10,U64 (a0*a1)))
theorem zH {N a0 a1 r} (h:jR N a0 a1=some r):FnM Tryz.prog 183 [] [(k64 a0),(k64 a1)] (.tup [(k64 r.1),(k64 r.2)]) []:=by
 unfold jR at h
 refine At.f dM hT hmo Tryz.func183 rfl h ?_
 refine lx ?_;intro x1
 refine lx ?_;intro x2
 refine lx ?_;intro x3
 refine lx ?_;intro x4
 refine lx ?_;intro x5
 refine lx ?_;intro x6
 refine lx ?_;intro x7
 refine lx ?_;intro x8
 refine lx ?_;intro x9
 refine lx ?_;intro x10
 apply rt;exact At.r 50
theorem aMO {x y c:Int} {r:Int×Int} (h:aB8 x y c=some r):aFr Tryz.prog 254 [.int .u64 x,.int .u64 y,.int .u64 c] (.tuple #[.int .u64 r.1,.int .u64 r.2]):=
 aMe Tryz.func254 (by kernel_rfl) (by kernel_rfl) (by kernel_rfl) (by kernel_rfl) h
def oZ (N:Nat) (a0 a1:Int):Option (Int×Int):=
 Option.bind (aB8 0 a1 0) fun r1=>
 Option.bind (aB8 0 a0 r1.2) fun r2=>
 some ((r2.1,r1.1))
theorem aBa {N a0 a1 r} (h:oZ N a0 a1=some r):FnM Tryz.prog 215 [] [(k64 a0),(k64 a1)] (.tup [(k64 r.1),(k64 r.2)]) []:=by
 unfold oZ at h
 refine At.f dM hT hmo Tryz.func215 rfl h ?_
 refine At.b 3 (fun _ e=>aC7 (aMO e) (fun _=>aDG)) fun r1=>?_
 refine At.b 7 (fun _ e=>aC7 (aMO e) (fun _=>aDG)) fun r2=>?_
 apply rt;exact At.r 8
def jM (N:Nat) (a0 a1:Int) (a2:Bool):Option (aP×Bool):=
 Option.bind (cond a2 (
  Option.bind (oZ N a0 a1) fun r2=>
  some ((r2.1,r2.2))) (
  some ((a0,a1)))) fun p1=>
 aV (decide ((I64 p1.1) < 0)) fun x3=>
 aV ((bor .u64 p1.1 p1.2)==0) fun x4=>
 aV (cond (x3==a2) true x4) fun x5=>
 some ((aP.mk (I64 p1.1) p1.2,x5))
theorem aBp {N a0 a1 a2 r} (h:jM N a0 a1 a2=some r):FnM Tryz.prog 217 [] [(k64 a0),(k64 a1),(eB a2)] (.tup [(aP.enc r.1),(eB r.2)]) []:=by
 unfold jM at h
 refine At.f dM hT hmo Tryz.func217 rfl h ?_
 refine At.J 2 1 [2,6] 1 (fun p1=>([(0,(k64 p1.1)),(1,(k64 p1.2))],[],[])) (fun p1=>?_) fun p1=>?_
 ·refine At.c 1 ?_ ?_
  ·refine At.b 2 (fun _ e=>aN [] (aBa e)) fun r2=>?_
   apply rt;exact At.jn 5
  ·apply rt;exact At.jn 0
 ·refine lx ?_;intro x3
  refine lx ?_;intro x4
  refine lx ?_;intro x5
  apply rt;exact At.r 20
def fN (N:Nat) (a0 a1:Int):Option (aP):=
 Option.bind (rR N a0) fun r1=>
 Option.bind (rR N a1) fun r2=>
 Option.bind (jR N r1.1 r2.1) fun r3=>
 Option.bind (jM N r3.1 r3.2 (!(r1.2==r2.2))) fun r4=>
 some r4.1
theorem kH {N a0 a1 r} (h:fN N a0 a1=some r):FnM Tryz.prog 154 [] [(j64 a0),(j64 a1)] (aP.enc r) []:=by
 unfold fN at h
 refine At.f dM hT hmo Tryz.func154 rfl h ?_
 refine At.b 2 (fun _ e=>aN [] (aBD e)) fun r1=>?_
 refine At.b 6 (fun _ e=>aN [] (aBD e)) fun r2=>?_
 refine At.b 7 (fun _ e=>aN [] (zH e)) fun r3=>?_
 refine At.b 10 (fun _ e=>aN [] (aBp e)) fun r4=>?_
 apply rt;exact At.r 8
def aKT : Nat→Bool:=imL [1]
def pA (N:Nat) (a0:aP):Option (Int×Bool):=
 aV (shr .i64 (I64 a0.gLo) 63) fun x1=>
 cond (a0.gHi != x1) (some ((0,false))) (some ((I64 a0.gLo,true)))
theorem xD {N a0 r} (h:pA N a0=some r):FnM Tryz.prog 218 [] [(aP.enc a0)] (.tup [(j64 r.1),(eB r.2)]) []:=by
 unfold pA at h
 refine At.f aKT hT hmo Tryz.func218 rfl h ?_
 refine lx ?_;intro x1
 refine At.c 12 ?_ ?_
 ·apply rt;exact At.r 2
 ·apply rt;exact At.r 3
def aLM : Nat→Bool:=imL [1]
def sC (N:Nat) (a0:aP):Option (Int):=
 Option.bind (pA N a0) fun r1=>
 cond r1.2 (
  some r1.1) (
  cond (decide (a0.gHi < 0)) (some (-9223372036854775808)) (some 9223372036854775807))
theorem aBi {N a0 r} (h:sC N a0=some r):FnM Tryz.prog 155 [] [(aP.enc a0)] (j64 r) []:=by
 unfold sC at h
 refine At.f aLM hT hmo Tryz.func155 rfl h ?_
 refine At.b 3 (fun _ e=>aN [] (xD e)) fun r1=>?_
 refine At.c 6 ?_ ?_
 ·apply rt;exact At.r 2
 ·refine At.c 3 ?_ ?_
  ·apply rt;exact At.r 1
  ·apply rt;exact At.r 1
def jO (N:Nat) (a0:Int):Option (Int):=
 Option.bind (fN N a0 4294967296) fun r1=>
 Option.bind (sC N r1) fun r2=>
 some r2
theorem kW {N a0 r} (h:jO N a0=some r):FnM Tryz.prog 82 [] [(j64 a0)] (j64 r) []:=by
 unfold jO at h
 refine At.f dM hT hmo Tryz.func82 rfl h ?_
 refine At.b 2 (fun _ e=>aN [] (kH e)) fun r1=>?_
 refine At.b 0 (fun _ e=>aN [] (aBi e)) fun r2=>?_
 apply rt;exact At.r 1
def oN (N:Nat) (a0:Int):Option (Int):=
 Option.bind (aV (decide (a0≥4294967296)) fun x2=>
 cond x2 (some ((shr .u64 a0 32,32))) (some ((a0,0)))) fun p1=>
 Option.bind (cond (decide (p1.1≥65536)) (
  some ((shr .u64 p1.1 16,I64 (p1.2+16)))) (
  some ((p1.1,p1.2)))) fun p3=>
 Option.bind (cond (decide (p3.1≥256)) (some ((shr .u64 p3.1 8,I64 (p3.2+8)))) (some ((p3.1,p3.2)))) fun p4=>
 Option.bind (idx aLz.data.toList (U8 p4.1)) fun c5=>
 aV (I64 ((UInt8.toNat c5:Int))) fun x6=>
 some (I64 (p4.2+x6))
theorem aCh {N a0 r} (h:oN N a0=some r):FnM Tryz.prog 236 [] [(k64 a0)] (j64 r) []:=by
 unfold oN at h
 refine At.f dM hT hmo Tryz.func236 rfl h ?_
 refine At.J 1 1 [] 0 (fun p1=>([(0,(k64 p1.1)),(2,(j64 p1.2))],[],[])) (fun p1=>?_) fun p1=>?_
 ·refine lx ?_;intro x2
  refine At.c 2 ?_ ?_
  ·apply rt;exact At.jn 4
  ·apply rt;exact At.jn 0
 ·refine At.J 0 1 [] 0 (fun p3=>([(0,(k64 p3.1)),(2,(j64 p3.2))],[],[])) (fun p3=>?_) fun p3=>?_
  ·refine At.c 2 ?_ ?_
   ·apply rt;exact At.jn 6
   ·apply rt;exact At.jn 0
  ·refine At.J 0 1 [] 0 (fun p4=>([(0,(k64 p4.1)),(2,(j64 p4.2))],[],[])) (fun p4=>?_) fun p4=>?_
   ·refine At.c 2 ?_ ?_
    ·apply rt;exact At.jn 6
    ·apply rt;exact At.jn 0
   ·refine At.b 3 (fun _ e=>aQw hT e (by kernel_rfl) (by kernel_rfl)) fun c5=>?_
    refine lx ?_;intro x6
    apply rt;exact At.r 3
def jU (N:Nat) (a0:Int):Option (Int):=
 Option.bind (oN N a0) fun r1=>
 some (I64 (64 - r1))
theorem yA {N a0 r} (h:jU N a0=some r):FnM Tryz.prog 188 [] [(k64 a0)] (j64 r) []:=by
 unfold jU at h
 refine At.f dM hT hmo Tryz.func188 rfl h ?_
 refine At.b 2 (fun _ e=>aN [] (aCh e)) fun r1=>?_
 apply rt;exact At.r 2
def lP (N:Nat) (x5:Int):Nat→Int→Int→Int→Int→Int→Option (Int×Int×Int×Int)
 | 0,_,_,_,_,_=>none
 | k+1,s14,s15,s16,s17,s18=>
  aV (decide (s17≥4294967296)) fun x19=>
  aV (U64 ((U64 (4294967296*s18))+s16)) fun x20=>
  aV (decide ((U64 (s17*x5)) > x20)) fun x21=>
  cond (cond x19 true x21) (
   aV (decide ((U64 (s18+s14))≥4294967296)) fun x22=>
   cond x22 (
    some ((s14,s15,s16,U64 (s17 - 1)))) (
    lP N x5 k s14 s15 s16 (U64 (s17 - 1)) (U64 (s18+s14)))) (
   some ((s14,s15,s16,s17)))
def lM (N:Nat) (x9 x5:Int) (p13:Int×Int×Int×Int):Nat→Int→Int→Option (Int)
 | 0,_,_=>none
 | k+1,s28,s29=>
  aV (decide (s29≥4294967296)) fun x30=>
  aV (U64 ((U64 (4294967296*s28))+x9)) fun x31=>
  aV (decide ((U64 (s29*x5)) > x31)) fun x32=>
  cond (cond x30 true x32) (
   aV (decide ((U64 (s28+p13.1))≥4294967296)) fun x33=>
   cond x33 (
    some (U64 (s29 - 1))) (
    lM N x9 x5 p13 k (U64 (s28+p13.1)) (U64 (s29 - 1)))) (
   some s29)
def iS (N:Nat) (a0 a1 a2:Int):Option (Int×Int):=
 cond (a2==0) (
  none) (
  cond (decide (a2≤a0)) (
   none) (
   cond (a0==0) (
    Option.bind (aIX .u64 a1 a2) fun x1=>
    Option.bind (aNk .u64 a1 a2) fun x2=>
    some ((x1,x2))) (
    Option.bind (jU N a2) fun r3=>
    Option.bind (aI4 .u64 a2 (U64 r3)) fun x4=>
    aV (eK .u64 x4 4294967295) fun x5=>
    Option.bind (aI4 .u64 a0 (U64 r3)) fun x6=>
    Option.bind (aE8 .u64 a1 (U64 (64 - (U64 r3)))) fun x7=>
    Option.bind (aI4 .u64 a1 (U64 r3)) fun x8=>
    aV (eK .u64 x8 4294967295) fun x9=>
    Option.bind (aIX .u64 (bor .u64 x6 x7) (shr .u64 x4 32)) fun x10=>
    aV (U64 (x10*(shr .u64 x4 32))) fun x11=>
    aV (U64 ((bor .u64 x6 x7) - x11)) fun x12=>
    Option.bind (lP N x5 N (shr .u64 x4 32) (bor .u64 x6 x7) (shr .u64 x8 32) x10 x12) fun p13=>
    aV (U64 (p13.2.1*4294967296)) fun x23=>
    aV (U64 ((U64 (x23+p13.2.2.1)) - (U64 (p13.2.2.2*x4)))) fun x24=>
    Option.bind (aIX .u64 x24 p13.1) fun x25=>
    aV (U64 (x24 - (U64 (x25*p13.1)))) fun x26=>
    Option.bind (lM N x9 x5 p13 N x26 x25) fun p27=>
    aV (U64 (p13.2.2.2*4294967296)) fun x34=>
    aV (U64 ((U64 (x24*4294967296))+x9)) fun x35=>
    aV (U64 (x35 - (U64 (p27*x4)))) fun x36=>
    Option.bind (aE8 .u64 x36 (U64 r3)) fun x37=>
    some ((U64 (x34+p27),x37)))))
theorem yO {N a0 a1 a2 r} (h:iS N a0 a1 a2=some r):FnM Tryz.prog 119 [] [(k64 a0),(k64 a1),(k64 a2)] (.tup [(k64 r.1),(k64 r.2)]) []:=by
 unfold iS at h
 refine At.f dM hT hmo Tryz.func119 rfl h ?_
 refine At.c 4 ?_ ?_
 ·exact nn
 ·refine At.c 3 ?_ ?_
  ·exact nn
  ·refine At.c 2 ?_ ?_
   ·refine bi fun x1 hx1=>?_
    refine bi fun x2 hx2=>?_
    refine At.d 0 (dE1 2 (fun _=>aDQ hT hx1 (by kernel_rfl) (by kernel_rfl)) (dE1 5 (fun _=>aLw hT hx2 (by kernel_rfl) (by kernel_rfl)) dE0)) dF0 ?_
    apply rt;exact At.r 0
   ·refine At.b 1 (fun _ e=>aN [] (yA e)) fun r3=>?_
    refine At.b 4 (fun _ e=>aCG hT (k' := .u64) e (by kernel_rfl) (by kernel_rfl)) fun x4=>?_
    refine lx ?_;intro x5
    refine At.b 9 (fun _ e=>aCG hT (k' := .u64) e (by kernel_rfl) (by kernel_rfl)) fun x6=>?_
    refine At.b 3 (fun _ e=>xS hT (k' := .u64) e (by kernel_rfl) (by kernel_rfl)) fun x7=>?_
    refine At.b 4 (fun _ e=>aCG hT (k' := .u64) e (by kernel_rfl) (by kernel_rfl)) fun x8=>?_
    refine lx ?_;intro x9
    refine At.b 9 (fun _ e=>aDQ hT e (by kernel_rfl) (by kernel_rfl)) fun x10=>?_
    refine lx ?_;intro x11
    refine lx ?_;intro x12
    refine At.L 7 [2,8,10,14] 0 (fun p13=>([(9,(k64 p13.1)),(11,(k64 p13.2.1)),(13,(k64 p13.2.2.1)),(15,(k64 p13.2.2.2))],[],[])) (fun p13 J k=>∃ s14 s15 s16 s17 s18,lP N x5 k s14 s15 s16 s17 s18=some p13∧J [2,8,10,14] 0 [(9,(k64 s14)),(11,(k64 s15)),(13,(k64 s16)),(15,(k64 s17)),(16,(k64 s18))] [] []) N (fun _ h=>⟨_,_,_,_,_,h,jr⟩) (fun p13 k s hI=>?_) fun p13=>?_
    ·obtain ⟨s14,s15,s16,s17,s18,h,hj⟩:=hI
     cases k with
     | zero=>cases h
     | succ k=>
      refine At.jr hj ?_ h
      refine lx ?_;intro x19
      refine lx ?_;intro x20
      refine lx ?_;intro x21
      refine At.c 12 ?_ ?_
      ·refine lx ?_;intro x22
       refine At.c 9 ?_ ?_
       ·apply rt;exact At.x 0
       ·exact fun h=>At.k 0 ⟨_,_,_,_,_,h,jr⟩
      ·apply rt;exact At.x 0
    ·refine lx ?_;intro x23
     refine lx ?_;intro x24
     refine At.b 11 (fun _ e=>aDQ hT e (by kernel_rfl) (by kernel_rfl)) fun x25=>?_
     refine lx ?_;intro x26
     refine At.L 7 [2,8,14,15,17] 0 (fun p27=>([(18,(k64 p27))],[],[])) (fun p27 J k=>∃ s28 s29,lM N x9 x5 p13 k s28 s29=some p27∧J [2,8,9,10,14,15,17] 0 [(16,(k64 s28)),(18,(k64 s29))] [] []) N (fun _ h=>⟨_,_,h,jr⟩) (fun p27 k s hI=>?_) fun p27=>?_
     ·obtain ⟨s28,s29,h,hj⟩:=hI
      cases k with
      | zero=>cases h
      | succ k=>
       refine At.jr hj ?_ h
       refine lx ?_;intro x30
       refine lx ?_;intro x31
       refine lx ?_;intro x32
       refine At.c 12 ?_ ?_
       ·refine lx ?_;intro x33
        refine At.c 9 ?_ ?_
        ·apply rt;exact At.x 0
        ·exact fun h=>At.k 0 ⟨_,_,h,jr⟩
       ·apply rt;exact At.x 0
     ·refine lx ?_;intro x34
      refine lx ?_;intro x35
      refine lx ?_;intro x36
      refine At.b 13 (fun _ e=>xS hT (k' := .u64) e (by kernel_rfl) (by kernel_rfl)) fun x37=>?_
      apply rt;exact At.r 2
theorem aH1 {x y c:Int} {r:Int×Int} (h:yE x y c=some r):aFr Tryz.prog 189 [.int .u64 x,.int .u64 y,.int .u64 c] (.tuple #[.int .u64 r.1,.int .u64 r.2]):=
 aMW Tryz.func189 (by kernel_rfl) (by kernel_rfl) (by kernel_rfl) (by kernel_rfl) h
def aK6 : Nat→Bool:=imL [2]
def oX (N:Nat) (a0:aP) (a1:Int):Option (aP×Int×Bool):=
 cond (a1==0) (
  some ((aP.mk 0 0,0,false))) (
  Option.bind (cond (decide (a0.gHi < 0)) (
   Option.bind (oZ N (U64 a0.gHi) a0.gLo) fun r2=>
   some ((r2.1,r2.2))) (
   some ((U64 a0.gHi,a0.gLo)))) fun p1=>
  Option.bind (rR N a1) fun r3=>
  Option.bind (iS N 0 p1.1 r3.1) fun r4=>
  Option.bind (iS N r4.2 p1.2 r3.1) fun r5=>
  Option.bind (aV (!((decide (a0.gHi < 0))==r3.2)) fun x7=>
  aV (cond x7 (decide (r5.2 > 0)) false) fun x8=>
  cond x8 (
   Option.bind (yE r5.1 1 0) fun r9=>
   some ((U64 (r4.1+r9.2),r9.1,U64 (r3.1 - r5.2)))) (
   some ((r4.1,r5.1,r5.2)))) fun p6=>
  aV (!((decide (a0.gHi < 0))==r3.2)) fun x10=>
  Option.bind (jM N p6.1 p6.2.1 x10) fun r11=>
  cond (!r11.2) (
   some ((aP.mk 0 0,0,false))) (
   Option.bind (cond r3.2 (some (U64 (0 - p6.2.2))) (some p6.2.2)) fun p12=>
   some ((r11.1,I64 p12,true))))
theorem zU {N a0 a1 r} (h:oX N a0 a1=some r):FnM Tryz.prog 153 [] [(aP.enc a0),(j64 a1)] (.tup [(aP.enc r.1),(j64 r.2.1),(eB r.2.2)]) []:=by
 unfold oX at h
 refine At.f aK6 hT hmo Tryz.func153 rfl h ?_
 refine At.c 6 ?_ ?_
 ·apply rt;exact At.r 4
 ·refine At.d 0 dE0 dF0 ?_
  refine At.J 0 1 [1,2,4] 1 (fun p1=>([(7,(k64 p1.1)),(8,(k64 p1.2))],[],[])) (fun p1=>?_) fun p1=>?_
  ·refine At.c 3 ?_ ?_
   ·refine At.b 2 (fun _ e=>aN [] (aBa e)) fun r2=>?_
    apply rt;exact At.jn 5
   ·apply rt;exact At.jn 0
  ·refine At.b 1 (fun _ e=>aN [] (aBD e)) fun r3=>?_
   refine At.b 7 (fun _ e=>aN [] (yO e)) fun r4=>?_
   refine At.b 8 (fun _ e=>aN [] (yO e)) fun r5=>?_
   refine At.J 5 1 [2,4,10] 1 (fun p6=>([(11,(k64 p6.1)),(13,(k64 p6.2.1)),(14,(k64 p6.2.2))],[],[])) (fun p6=>?_) fun p6=>?_
   ·refine lx ?_;intro x7
    refine lx ?_;intro x8
    refine At.c 9 ?_ ?_
    ·refine At.b 1 (fun _ e=>aC7 (aH1 e) (fun _=>aDG)) fun r9=>?_
     apply rt;exact At.jn 15
    ·apply rt;exact At.jn 0
   ·refine lx ?_;intro x10
    refine At.b 7 (fun _ e=>aN [] (aBp e)) fun r11=>?_
    refine At.c 7 ?_ ?_
    ·apply rt;exact At.r 4
    ·refine At.J 0 1 [4] 1 (fun p12=>([(14,(k64 p12))],[],[])) (fun p12=>?_) fun p12=>?_
     ·refine At.c 1 ?_ ?_
      ·apply rt;exact At.jn 3
      ·apply rt;exact At.jn 0
     ·apply rt;exact At.r 6
def pH (N:Nat) (a0 a1:Int):Option (Int):=
 cond (a1==0) (
  cond (decide (a0 > 0)) (
   some 9223372036854775807) (
   cond (decide (a0 < 0)) (some (-9223372036854775808)) (some 0))) (
  Option.bind (fN N a0 4294967296) fun r1=>
  Option.bind (oX N r1 a1) fun r2=>
  Option.bind (sC N r2.1) fun r3=>
  some r3)
theorem uI {N a0 a1 r} (h:pH N a0 a1=some r):FnM Tryz.prog 81 [] [(j64 a0),(j64 a1)] (j64 r) []:=by
 unfold pH at h
 refine At.f dM hT hmo Tryz.func81 rfl h ?_
 refine At.c 3 ?_ ?_
 ·refine At.c 3 ?_ ?_
  ·apply rt;exact At.r 1
  ·refine At.c 3 ?_ ?_
   ·apply rt;exact At.r 1
   ·apply rt;exact At.r 1
 ·refine At.b 1 (fun _ e=>aN [] (kH e)) fun r1=>?_
  refine At.b 1 (fun _ e=>aN [] (zU e)) fun r2=>?_
  refine At.b 9 (fun _ e=>aN [] (aBi e)) fun r3=>?_
  apply rt;exact At.r 1
def jE (N:Nat) (a0 a1:Int):Option (Int):=
 Option.bind (jO N a0) fun r1=>
 Option.bind (jO N a1) fun r2=>
 Option.bind (pH N r1 r2) fun r3=>
 some r3
theorem tN {N a0 a1 r} (h:jE N a0 a1=some r):FnM Tryz.prog 202 [] [(j64 a0),(.im (j64 a1))] (j64 r) []:=by
 unfold jE at h
 refine At.f dM hT hmo Tryz.func202 rfl h ?_
 refine bi fun r1 hr1=>?_
 refine bi fun r2 hr2=>?_
 refine bi fun r3 hr3=>?_
 refine At.d 1 (dE2 1 (j64 r1) (fun _=>aO (kW hr1)) (dE2 3 (j64 r2) (fun _=>aO (kW hr2)) (dE2 4 (j64 r3) (fun _=>aO (uI hr3)) dE0))) dF0 ?_
 apply rt;exact At.r 0
def aHA : Nat→Bool:=imL [2,3]
def rB (N:Nat) (a0:(Vector Int 3)) (a1:Int):Option (aB):=
 Option.bind (idx a0.toList 0) fun e1=>
 Option.bind (jE N e1 a1) fun r2=>
 Option.bind (idx a0.toList 1) fun e3=>
 Option.bind (jE N e3 a1) fun r4=>
 Option.bind (idx a0.toList 2) fun e5=>
 Option.bind (jE N e5 a1) fun r6=>
 some (aB.mk r2 r4 r6)
theorem aBw {N a0 a1 r} (h:rB N a0 a1=some r):FnM Tryz.prog 136 [] [(eA 3 1 j64 a0),(j64 a1)] (aB.enc r) []:=by
 unfold rB at h
 refine At.f aHA hT hmo Tryz.func136 rfl h ?_
 refine At.o 3 (qL (x:=(.fn (.func 202) [] [(.im (j64 a1))])) (by kernel_rfl) (by kernel_rfl)) ?_
 refine bi fun e1 he1=>?_
 refine bi fun r2 hr2=>?_
 refine bi fun e3 he3=>?_
 refine bi fun r4 hr4=>?_
 refine bi fun e5 he5=>?_
 refine bi fun r6 hr6=>?_
 refine At.d 1 (dE1 1 (fun _=>cL hT (N:=3) (k:=1) j64 a0 he1) (dE2 3 (j64 r2) (fun _=>aO (tN hr2)) (dE1 5 (fun _=>cL hT (N:=3) (k:=1) j64 a0 he3) (dE2 7 (j64 r4) (fun _=>aO (tN hr4)) (dE1 9 (fun _=>cL hT (N:=3) (k:=1) j64 a0 he5) (dE2 11 (j64 r6) (fun _=>aO (tN hr6)) dE0)))))) dF0 ?_
 apply rt;exact At.r 0
def aGn : Nat→Bool:=imL [1]
def oT (N:Nat) (a0:aT):Option (aB):=
 Option.bind (rB N a0.gB6 65536) fun r1=>
 some r1
theorem zC {N a0 r} (h:oT N a0=some r):FnM Tryz.prog 70 [] [(aT.enc a0)] (aB.enc r) []:=by
 unfold oT at h
 refine At.f aGn hT hmo Tryz.func70 rfl h ?_
 refine At.b 4 (fun _ e=>aN [] (aBw e)) fun r1=>?_
 apply rt;exact At.r 1
def mS (N:Nat) (a0:(List Int)):Nat→Int→Int→Option (Int)
 | 0,_,_=>none
 | k+1,s2,s3=>
  aV (decide (s3 < ((a0.length:Int)))) fun x4=>
  cond x4 (
   Option.bind (idx a0 s3) fun e5=>
   Option.bind (aV (cond (decide (s2 > 0)) (decide (e5 > 0)) false) fun x7=>
   aV (decide ((I64 (s2+e5)) < 0)) fun x8=>
   cond (cond x7 x8 false) (
    some 9223372036854775807) (
    aV (cond (decide (s2 < 0)) (decide (e5 < 0)) false) fun x9=>
    aV (decide ((I64 (s2+e5))≥0)) fun x10=>
    cond (cond x9 x10 false) (some (-9223372036854775808)) (some (I64 (s2+e5))))) fun p6=>
   mS N a0 k p6 (I64 (s3+1))) (
   some s2)
def mF (N:Nat) (a0:(List Int)):Option (Int):=
 Option.bind (mS N a0 N 0 0) fun p1=>
 some p1
theorem uC {N a0 r} (h:mF N a0=some r):FnM Tryz.prog 139 [] [(eL 1 j64 a0)] (j64 r) []:=by
 unfold mF at h
 refine At.f dM hT hmo Tryz.func139 rfl h ?_
 refine At.L 5 [] 0 (fun p1=>([(3,(j64 p1))],[],[])) (fun p1 J k=>∃ s2 s3,mS N a0 k s2 s3=some p1∧J [7,8] 0 [(3,(j64 s2)),(9,(j64 s3))] [] []) N (fun _ h=>⟨_,_,h,jr⟩) (fun p1 k s hI=>?_) fun p1=>?_
 ·obtain ⟨s2,s3,h,hj⟩:=hI
  cases k with
  | zero=>cases h
  | succ k=>
   refine At.jr hj ?_ h
   refine lx ?_;intro x4
   refine At.c 1 ?_ ?_
   ·refine At.b 0 (fun _ e=>cF hT j64 e) fun e5=>?_
    refine At.J 6 2 [7,8,9] 0 (fun p6=>([(6,(j64 p6))],[],[])) (fun p6=>?_) fun p6=>?_
    ·refine lx ?_;intro x7
     refine lx ?_;intro x8
     refine At.c 11 ?_ ?_
     ·apply rt;exact At.jn 1
     ·refine lx ?_;intro x9
      refine lx ?_;intro x10
      refine At.c 11 ?_ ?_
      ·apply rt;exact At.jn 1
      ·apply rt;exact At.jn 0
    ·exact fun h=>At.k 4 ⟨_,_,h,jr⟩
   ·apply rt;exact At.x 0
 ·apply rt;exact At.r 2
def uR (N:Nat) (a0 a1:Int):Option (Int):=
 Option.bind (mF N ([a0,a1])) fun r1=>
 some r1
theorem aA0 {N a0 a1 r} (h:uR N a0 a1=some r):FnM Tryz.prog 138 [] [(j64 a0),(j64 a1)] (j64 r) []:=by
 unfold uR at h
 refine At.f dM hT hmo Tryz.func138 rfl h ?_
 refine At.o 3 (cI hT (x:=(.sl 1 2 [(j64 a0),(j64 a1)]))) ?_
 refine At.b 0 (fun _ e=>aN [] (uC e)) fun r1=>?_
 apply rt;exact At.r 1
def aD8 : Nat→Bool:=imL [3,4]
def pX (N:Nat) (a0 a1:aB):Option (aB):=
 Option.bind (uR N a0.gX a1.gX) fun r1=>
 Option.bind (uR N a0.gY a1.gY) fun r2=>
 Option.bind (uR N a0.gZ a1.gZ) fun r3=>
 some (aB.mk r1 r2 r3)
theorem aC5 {N a0 a1 r} (h:pX N a0 a1=some r):FnM Tryz.prog 137 [] [(aB.enc a0),(aB.enc a1),(.fn (.func 138) [] [])] (aB.enc r) []:=by
 unfold pX at h
 refine At.f aD8 hT hmo Tryz.func137 rfl h ?_
 refine bi fun r1 hr1=>?_
 refine bi fun r2 hr2=>?_
 refine bi fun r3 hr3=>?_
 refine At.d 3 (dE2 5 (j64 r1) (fun _=>aO (aA0 hr1)) (dE2 11 (j64 r2) (fun _=>aO (aA0 hr2)) (dE2 17 (j64 r3) (fun _=>aO (aA0 hr3)) dE0))) dF0 ?_
 apply rt;exact At.r 0
def oM (N:Nat) (a0:(List aB)):Nat→aB→Int→Option (aB)
 | 0,_,_=>none
 | k+1,s2,s3=>
  aV (decide (s3 < ((a0.length:Int)))) fun x4=>
  cond x4 (
   Option.bind (idx a0 s3) fun e5=>
   Option.bind (pX N s2 e5) fun r6=>
   oM N a0 k r6 (I64 (s3+1))) (
   some s2)
def kZ (N:Nat) (a0:(List aB)):Option (aB):=
 Option.bind (oM N a0 N (aB.mk 0 0 0) 0) fun p1=>
 some p1
theorem wJ {N a0 r} (h:kZ N a0=some r):FnM Tryz.prog 71 [] [(eL 3 aB.enc a0)] (aB.enc r) []:=by
 unfold kZ at h
 refine At.f dM hT hmo Tryz.func71 rfl h ?_
 refine At.L 5 [2,3] 2 (fun p1=>([],[(1,.var (aB.enc p1))],[])) (fun p1 J k=>∃ s2 s3,oM N a0 k s2 s3=some p1∧J [2,3,6,7] 2 [(8,(j64 s3))] [(1,.var (aB.enc s2))] []) N (fun _ h=>⟨_,_,h,jr⟩) (fun p1 k s hI=>?_) fun p1=>?_
 ·obtain ⟨s2,s3,h,hj⟩:=hI
  cases k with
  | zero=>cases h
  | succ k=>
   refine At.jr hj ?_ h
   refine lx ?_;intro x4
   refine At.c 1 ?_ ?_
   ·refine At.b 0 (fun _ e=>cF hT aB.enc e) fun e5=>?_
    refine At.b 5 (fun _ e=>aN [] (aC5 e)) fun r6=>?_
    exact fun h=>At.k 3 ⟨_,_,h,jr⟩
   ·apply rt;exact At.x 0
 ·apply rt;exact At.r 2
def qZ (N:Nat) (a0:(List aT)):Nat→(List aB)→Int→Option ((List aB))
 | 0,_,_=>none
 | k+1,s2,s3=>
  aV (decide (s3 < ((a0.length:Int)))) fun x4=>
  cond x4 (
   Option.bind (Option.bind (idx a0 s3) fun e6=>
   cond (e6.gJ==2) (
    Option.bind (oT N e6) fun r7=>
    Option.bind (wF 24 s2 (([r7]:List aB))) fun z8=>
    some ((z8,e6))) (
    some ((s2,e6)))) fun p5=>
   qZ N a0 k p5.1 (I64 (s3+1))) (
   some s2)
def wI (N:Nat) (a0:(List aT)):Option (aB):=
 Option.bind (qZ N a0 N [] 0) fun p1=>
 Option.bind (kZ N p1) fun r9=>
 some r9
theorem aJc {N a0 r} (h:wI N a0=some r):FnM Tryz.prog 25 [] [(eL 13 aT.enc a0)] (aB.enc r) []:=by
 unfold wI at h
 refine At.f dM hT hmo Tryz.func25 rfl h ?_
 refine At.ownn 5 3 3 ?_
 refine At.L 0 [2] 2 (fun p1=>([(3,(eO 1 3 aB.enc p1))],[(1,.tail (p1.length*3))],[])) (fun p1 J k=>∃ s2 s3,qZ N a0 k s2 s3=some p1∧J [2,6,7] 2 [(3,(eO 1 3 aB.enc s2)),(8,(j64 s3))] [(1,.tail (s2.length*3))] []) N (fun _ h=>⟨_,_,h,jr⟩) (fun p1 k s hI=>?_) fun p1=>?_
 ·obtain ⟨s2,s3,h,hj⟩:=hI
  cases k with
  | zero=>cases h
  | succ k=>
   refine At.jr hj ?_ h
   refine lx ?_;intro x4
   refine At.c 1 ?_ ?_
   ·refine At.J 0 2 [2,6,7,8] 2 (fun p5=>([(3,(eO 1 3 aB.enc p5.1))],[(1,.tail (p5.1.length*3))],[.var (aT.enc p5.2)])) (fun p5=>?_) fun p5=>?_
    ·refine At.b 0 (fun _ e=>cF hT aT.enc e) fun e6=>?_
     refine At.c 6 ?_ ?_
     ·refine At.b 2 (fun _ e=>aN [] (zC e)) fun r7=>?_
      refine At.o 0 (cI hT (x:=(.sl 3 1 [(aB.enc r7)]))) ?_
      refine At.b 0 (fun _ e=>nR hT aB.enc (id:=1) (k:=3) e) fun z8=>?_
      apply rt;exact At.jn 1
     ·apply rt;exact At.jn 0
    ·exact fun h=>At.k 2 ⟨_,_,h,jr⟩
   ·apply rt;exact At.x 0
 ·refine At.b 1 (fun _ e=>aN [] (wJ e)) fun r9=>?_
  apply rt;exact At.r 1
def iG (N:Nat) (a0:(List (Vector Int 3))):Option ((List (Vector Int 3))):=
 Option.bind (wF 24 (([]:List (Vector Int 3))) a0) fun z1=>
 some z1
theorem yF {N a0 r} (h:iG N a0=some r):FnM Tryz.prog 73 [] [(eL 3 (eA 3 1 j64) a0)] (eL 3 (eA 3 1 j64) r) []:=by
 unfold iG at h
 refine At.f dM hT hmo Tryz.func73 rfl h ?_
 refine At.q hT 2 (d:=4) (t:=62) (e:=38) (z:=3) (x:=(eL 3 (eA 3 1 j64) a0)) (es:=List.map (eA 3 1 j64) a0) rfl ?_ (fun he=>?_)
 ·refine At.o 1 (vI hT (eA 3 1 j64) (k:=3) ([]:List (Vector Int 3)) (by kernel_rfl) (by kernel_rfl)) ?_
  refine At.b 1 (fun _ e=>nR hT (eA 3 1 j64) (id:=0) (k:=3) e) fun z1=>?_
  apply rt;exact At.r 1
 ·have h0:a0=[]:=List.map_eq_nil_iff.1 he
  subst h0
  change some []=_→_
  apply rt;exact At.r 2
def tG (N:Nat) (a0:aD):Option (Unit):=
 some (())
theorem aDC {N a0 r} (h:tG N a0=some r):FnM Tryz.prog 72 [] [(aD.enc a0)] (.fn (.func 140) [] [(.ref 0 [] 0)]) [.var (aD.enc a0)]:=by
 unfold tG at h
 refine At.f dM hT hmo Tryz.func72 rfl h ?_
 refine At.o 2 (qL (x:=(.fn (.func 140) [] [(.ref 0 [] 0)])) (by kernel_rfl) (by kernel_rfl)) ?_
 apply rt;exact At.r 1
def aCN : Nat→Bool:=imL [1]
def mL (N:Nat) (b2:(List aD)) (a1 a2:aD):Option ((List aD)):=
 Option.bind (wF 32 b2 (([a2]:List aD))) fun z1=>
 some z1
theorem aBc {N:Nat} {b2:(List aD)} {a1:aD} {a2:aD} {r:(List aD)} (h:mL N b2 a1 a2=some r):YldM Tryz.prog (aOO 25 Tryz.f26.body [1,1,1,0,1,0]) [en 5 (.ref 0 [] 0)] [.var (eO 2 2 aD.enc b2),.var (aD.enc a1),.tail (b2.length*2)] [(aD.enc a2)] [.var (eO 2 2 aD.enc r),.var (aD.enc a1),.tail (r.length*2)] none:=by
 unfold mL at h
 refine aK2 (lo:=4) (by kernel_rfl) (fun bk rl=>At.of aCN hT hmo h ?_)
 refine At.to 0 ⟨[en 5 (.ref 0 [] 0),en 19 (aD.enc a2)],[.var (eO 2 2 aD.enc b2),.var (aD.enc a1),.tail (b2.length*2),.loop rl]⟩ ?_
 refine At.mid 2 (fun rl2=>?_)
 refine At.o 2 (cI hT (x:=(.sl 2 1 [(aD.enc a2)]))) ?_
 refine At.b 0 (fun _ e=>nR hT aD.enc (id:=2) (k:=2) e) fun z1=>?_
 apply rt;exact At.rnd 1
def aIP : Nat→Bool:=imL [3]
def mT (N:Nat) (a0:aD) (a1 a2:Int):Option ((Vector Int 3)):=
 aV (eK .i64 a2 (I64 (a0.gG - 1))) fun x1=>
 aV (eK .i64 a1 (I64 (a0.gG - 1))) fun x2=>
 aV (I64 ((I64 (x1*a0.gG))+x2)) fun x3=>
 Option.bind (idx a0.gA7 x3) fun e4=>
 some e4
theorem tO {N a0 a1 a2 r} (h:mT N a0 a1 a2=some r):FnM Tryz.prog 203 [] [(aD.enc a0),(j64 a1),(j64 a2)] (eA 3 1 j64 r) []:=by
 unfold mT at h
 refine At.f aIP hT hmo Tryz.func203 rfl h ?_
 refine lx ?_;intro x1
 refine lx ?_;intro x2
 refine lx ?_;intro x3
 refine At.b 18 (fun _ e=>cF hT (eA 3 1 j64) e) fun e4=>?_
 apply rt;exact At.r 2
def aGT : Nat→Bool:=imL [1]
def jY (N:Nat) (r12 r14 r16 r19:(Vector Int 3)):Nat→(Vector Int 3)→Int→Option ((Vector Int 3))
 | 0,_,_=>none
 | k+1,s21,s22=>
  cond (decide (s22 < 3)) (
   Option.bind (fH s22 3) fun _=>
   Option.bind (r12.toList[s22.toNat]?) fun e24=>
   Option.bind (fH s22 3) fun _=>
   Option.bind (r14.toList[s22.toNat]?) fun e26=>
   Option.bind (fH s22 3) fun _=>
   Option.bind (r16.toList[s22.toNat]?) fun e28=>
   aV (I64 ((I64 (e24+e26))+e28)) fun x29=>
   Option.bind (fH s22 3) fun _=>
   Option.bind (r19.toList[s22.toNat]?) fun e31=>
   aV (I64 ((I64 (x29+e31))+2)) fun x32=>
   Option.bind (fH s22 3) fun _=>
   Option.bind (s21.toList[s22.toNat]?) fun e34=>
   jY N r12 r14 r16 r19 k (s21.setIfInBounds s22.toNat (I64 (Int.tdiv x32 4))) (I64 (s22+1))) (
   some s21)
def lZ (N:Nat) (x2 x3:Int) (a0:aD):Nat→(List (Vector Int 3))→Int→Option ((List (Vector Int 3)))
 | 0,_,_=>none
 | k+1,s5,s6=>
  aV (decide (s6 < (I64 (x2*x3)))) fun x7=>
  cond x7 (
   aV ((I64 (Int.tdiv a0.gG 2))) fun x8=>
   Option.bind (aNk .i64 s6 x8) fun x9=>
   aV ((I64 (Int.tdiv a0.gG 2))) fun x10=>
   Option.bind (aIX .i64 s6 x10) fun x11=>
   Option.bind (mT N a0 (I64 (2*x9)) (I64 (2*x11))) fun r12=>
   aV (I64 ((I64 (2*x9))+1)) fun x13=>
   Option.bind (mT N a0 x13 (I64 (2*x11))) fun r14=>
   aV (I64 ((I64 (2*x11))+1)) fun x15=>
   Option.bind (mT N a0 (I64 (2*x9)) x15) fun r16=>
   aV (I64 ((I64 (2*x9))+1)) fun x17=>
   aV (I64 ((I64 (2*x11))+1)) fun x18=>
   Option.bind (mT N a0 x17 x18) fun r19=>
   Option.bind (jY N r12 r14 r16 r19 N (#v[0,0,0]) 0) fun p20=>
   Option.bind (wF 24 s5 (([p20]:List (Vector Int 3)))) fun z35=>
   lZ N x2 x3 a0 k z35 (I64 (s6+1))) (
   some s5)
def sD (N:Nat) (a0:aD):Option (aD):=
 aV (I64 (Int.tdiv a0.gG 2)) fun x1=>
 aV ((I64 (Int.tdiv a0.gG 2))) fun x2=>
 aV ((I64 (Int.tdiv a0.gG 2))) fun x3=>
 Option.bind (lZ N x2 x3 a0 N [] 0) fun p4=>
 some (aD.mk ((I64 (Int.tdiv a0.gG 2))) p4)
theorem aEy {N a0 r} (h:sD N a0=some r):FnM Tryz.prog 141 [] [(aD.enc a0)] (aD.enc r) []:=by
 unfold sD at h
 refine At.f aGT hT hmo Tryz.func141 rfl h ?_
 refine lx ?_;intro x1
 refine lx ?_;intro x2
 refine lx ?_;intro x3
 refine At.ownb 14 1 3 [1] ?_
 refine At.L 0 [2,3] 3 (fun p4=>([],[(1,.var (.st 2 [(j64 ((I64 (Int.tdiv a0.gG 2)))),(eO 2 3 (eA 3 1 j64) p4)])),(2,.tail (p4.length*3))],[])) (fun p4 J k=>∃ s5 s6,lZ N x2 x3 a0 k s5 s6=some p4∧J [1,2,3,21] 3 [(22,(j64 s6))] [(1,.var (.st 2 [(j64 ((I64 (Int.tdiv a0.gG 2)))),(eO 2 3 (eA 3 1 j64) s5)])),(2,.tail (s5.length*3))] []) N (fun _ h=>⟨_,_,h,jr⟩) (fun p4 k s hI=>?_) fun p4=>?_
 ·obtain ⟨s5,s6,h,hj⟩:=hI
  cases k with
  | zero=>cases h
  | succ k=>
   refine At.jr hj ?_ h
   refine lx ?_;intro x7
   refine At.c 1 ?_ ?_
   ·refine lx ?_;intro x8
    refine bi fun x9 hx9=>?_
    refine lx ?_;intro x10
    refine bi fun x11 hx11=>?_
    refine At.d 2 (dE1 3 (fun _=>aLw hT hx9 (by kernel_rfl) (by kernel_rfl)) (dE1 8 (fun _=>aDQ hT hx11 (by kernel_rfl) (by kernel_rfl)) dE0)) dF0 ?_
    refine bi fun r12 hr12=>?_
    refine lx ?_;intro x13
    refine bi fun r14 hr14=>?_
    refine lx ?_;intro x15
    refine bi fun r16 hr16=>?_
    refine lx ?_;intro x17
    refine lx ?_;intro x18
    refine bi fun r19 hr19=>?_
    refine At.d2 0 [false,false,false,false] (dC2 3 (eA 3 1 j64 r12) (fun _=>aO (tO hr12)) (dC2 8 (eA 3 1 j64 r14) (fun _=>aO (tO hr14)) (dC2 13 (eA 3 1 j64 r16) (fun _=>aO (tO hr16)) (dC2 19 (eA 3 1 j64 r19) (fun _=>aO (tO hr19)) dC0)))) (dS1 20 ⟨(.ref 3 [] 0),3,.var (.arr 3 1 [(j64 0),(j64 0),(j64 0)]),.dead⟩ [[.var (.st 2 [(j64 0),(.v (.slice none 0 0))]),.var (.st 2 [(j64 ((I64 (Int.tdiv a0.gG 2)))),(eO 2 3 (eA 3 1 j64) s5)]),.tail (s5.length*3),.dead,.dead,.dead,.dead],[.var (.st 2 [(j64 0),(.v (.slice none 0 0))]),.var (.st 2 [(j64 ((I64 (Int.tdiv a0.gG 2)))),(eO 2 3 (eA 3 1 j64) s5)]),.tail (s5.length*3),.dead,.dead,.dead,.var (.arr 3 1 [(j64 0),(j64 0),(j64 0)])],[.var (.st 2 [(j64 0),(.v (.slice none 0 0))]),.var (.st 2 [(j64 ((I64 (Int.tdiv a0.gG 2)))),(eO 2 3 (eA 3 1 j64) s5)]),.tail (s5.length*3),.dead,.dead,.var (.arr 3 1 [(j64 0),(j64 0),(j64 0)]),.dead],[.var (.st 2 [(j64 0),(.v (.slice none 0 0))]),.var (.st 2 [(j64 ((I64 (Int.tdiv a0.gG 2)))),(eO 2 3 (eA 3 1 j64) s5)]),.tail (s5.length*3),.dead,.dead,.var (.arr 3 1 [(j64 0),(j64 0),(j64 0)]),.var (.arr 3 1 [(j64 0),(j64 0),(j64 0)])],[.var (.st 2 [(j64 0),(.v (.slice none 0 0))]),.var (.st 2 [(j64 ((I64 (Int.tdiv a0.gG 2)))),(eO 2 3 (eA 3 1 j64) s5)]),.tail (s5.length*3),.dead,.var (.arr 3 1 [(j64 0),(j64 0),(j64 0)]),.dead,.dead],[.var (.st 2 [(j64 0),(.v (.slice none 0 0))]),.var (.st 2 [(j64 ((I64 (Int.tdiv a0.gG 2)))),(eO 2 3 (eA 3 1 j64) s5)]),.tail (s5.length*3),.dead,.var (.arr 3 1 [(j64 0),(j64 0),(j64 0)]),.dead,.var (.arr 3 1 [(j64 0),(j64 0),(j64 0)])],[.var (.st 2 [(j64 0),(.v (.slice none 0 0))]),.var (.st 2 [(j64 ((I64 (Int.tdiv a0.gG 2)))),(eO 2 3 (eA 3 1 j64) s5)]),.tail (s5.length*3),.dead,.var (.arr 3 1 [(j64 0),(j64 0),(j64 0)]),.var (.arr 3 1 [(j64 0),(j64 0),(j64 0)]),.dead],[.var (.st 2 [(j64 0),(.v (.slice none 0 0))]),.var (.st 2 [(j64 ((I64 (Int.tdiv a0.gG 2)))),(eO 2 3 (eA 3 1 j64) s5)]),.tail (s5.length*3),.dead,.var (.arr 3 1 [(j64 0),(j64 0),(j64 0)]),.var (.arr 3 1 [(j64 0),(j64 0),(j64 0)]),.var (.arr 3 1 [(j64 0),(j64 0),(j64 0)])]] ⟨aX hT 3 (by kernel_rfl) (by kernel_rfl) (by kernel_rfl),aX hT 3 (by kernel_rfl) (by kernel_rfl) (by kernel_rfl),aX hT 3 (by kernel_rfl) (by kernel_rfl) (by kernel_rfl),aX hT 3 (by kernel_rfl) (by kernel_rfl) (by kernel_rfl),aX hT 3 (by kernel_rfl) (by kernel_rfl) (by kernel_rfl),aX hT 3 (by kernel_rfl) (by kernel_rfl) (by kernel_rfl),aX hT 3 (by kernel_rfl) (by kernel_rfl) (by kernel_rfl),aX hT 3 (by kernel_rfl) (by kernel_rfl) (by kernel_rfl),trivial⟩ (dS1 21 ⟨(.ref 4 [] 0),4,.var (.arr 3 1 [(j64 0),(j64 0),(j64 0)]),.dead⟩ [[.var (.st 2 [(j64 0),(.v (.slice none 0 0))]),.var (.st 2 [(j64 ((I64 (Int.tdiv a0.gG 2)))),(eO 2 3 (eA 3 1 j64) s5)]),.tail (s5.length*3),.dead,.dead,.dead,.dead],[.var (.st 2 [(j64 0),(.v (.slice none 0 0))]),.var (.st 2 [(j64 ((I64 (Int.tdiv a0.gG 2)))),(eO 2 3 (eA 3 1 j64) s5)]),.tail (s5.length*3),.dead,.dead,.dead,.var (.arr 3 1 [(j64 0),(j64 0),(j64 0)])],[.var (.st 2 [(j64 0),(.v (.slice none 0 0))]),.var (.st 2 [(j64 ((I64 (Int.tdiv a0.gG 2)))),(eO 2 3 (eA 3 1 j64) s5)]),.tail (s5.length*3),.dead,.dead,.var (.arr 3 1 [(j64 0),(j64 0),(j64 0)]),.dead],[.var (.st 2 [(j64 0),(.v (.slice none 0 0))]),.var (.st 2 [(j64 ((I64 (Int.tdiv a0.gG 2)))),(eO 2 3 (eA 3 1 j64) s5)]),.tail (s5.length*3),.dead,.dead,.var (.arr 3 1 [(j64 0),(j64 0),(j64 0)]),.var (.arr 3 1 [(j64 0),(j64 0),(j64 0)])],[.var (.st 2 [(j64 0),(.v (.slice none 0 0))]),.var (.st 2 [(j64 ((I64 (Int.tdiv a0.gG 2)))),(eO 2 3 (eA 3 1 j64) s5)]),.tail (s5.length*3),.var (.arr 3 1 [(j64 0),(j64 0),(j64 0)]),.dead,.dead,.dead],[.var (.st 2 [(j64 0),(.v (.slice none 0 0))]),.var (.st 2 [(j64 ((I64 (Int.tdiv a0.gG 2)))),(eO 2 3 (eA 3 1 j64) s5)]),.tail (s5.length*3),.var (.arr 3 1 [(j64 0),(j64 0),(j64 0)]),.dead,.dead,.var (.arr 3 1 [(j64 0),(j64 0),(j64 0)])],[.var (.st 2 [(j64 0),(.v (.slice none 0 0))]),.var (.st 2 [(j64 ((I64 (Int.tdiv a0.gG 2)))),(eO 2 3 (eA 3 1 j64) s5)]),.tail (s5.length*3),.var (.arr 3 1 [(j64 0),(j64 0),(j64 0)]),.dead,.var (.arr 3 1 [(j64 0),(j64 0),(j64 0)]),.dead],[.var (.st 2 [(j64 0),(.v (.slice none 0 0))]),.var (.st 2 [(j64 ((I64 (Int.tdiv a0.gG 2)))),(eO 2 3 (eA 3 1 j64) s5)]),.tail (s5.length*3),.var (.arr 3 1 [(j64 0),(j64 0),(j64 0)]),.dead,.var (.arr 3 1 [(j64 0),(j64 0),(j64 0)]),.var (.arr 3 1 [(j64 0),(j64 0),(j64 0)])]] ⟨aX hT 4 (by kernel_rfl) (by kernel_rfl) (by kernel_rfl),aX hT 4 (by kernel_rfl) (by kernel_rfl) (by kernel_rfl),aX hT 4 (by kernel_rfl) (by kernel_rfl) (by kernel_rfl),aX hT 4 (by kernel_rfl) (by kernel_rfl) (by kernel_rfl),aX hT 4 (by kernel_rfl) (by kernel_rfl) (by kernel_rfl),aX hT 4 (by kernel_rfl) (by kernel_rfl) (by kernel_rfl),aX hT 4 (by kernel_rfl) (by kernel_rfl) (by kernel_rfl),aX hT 4 (by kernel_rfl) (by kernel_rfl) (by kernel_rfl),trivial⟩ (dS1 22 ⟨(.ref 5 [] 0),5,.var (.arr 3 1 [(j64 0),(j64 0),(j64 0)]),.dead⟩ [[.var (.st 2 [(j64 0),(.v (.slice none 0 0))]),.var (.st 2 [(j64 ((I64 (Int.tdiv a0.gG 2)))),(eO 2 3 (eA 3 1 j64) s5)]),.tail (s5.length*3),.dead,.dead,.dead,.dead],[.var (.st 2 [(j64 0),(.v (.slice none 0 0))]),.var (.st 2 [(j64 ((I64 (Int.tdiv a0.gG 2)))),(eO 2 3 (eA 3 1 j64) s5)]),.tail (s5.length*3),.dead,.dead,.dead,.var (.arr 3 1 [(j64 0),(j64 0),(j64 0)])],[.var (.st 2 [(j64 0),(.v (.slice none 0 0))]),.var (.st 2 [(j64 ((I64 (Int.tdiv a0.gG 2)))),(eO 2 3 (eA 3 1 j64) s5)]),.tail (s5.length*3),.dead,.var (.arr 3 1 [(j64 0),(j64 0),(j64 0)]),.dead,.dead],[.var (.st 2 [(j64 0),(.v (.slice none 0 0))]),.var (.st 2 [(j64 ((I64 (Int.tdiv a0.gG 2)))),(eO 2 3 (eA 3 1 j64) s5)]),.tail (s5.length*3),.dead,.var (.arr 3 1 [(j64 0),(j64 0),(j64 0)]),.dead,.var (.arr 3 1 [(j64 0),(j64 0),(j64 0)])],[.var (.st 2 [(j64 0),(.v (.slice none 0 0))]),.var (.st 2 [(j64 ((I64 (Int.tdiv a0.gG 2)))),(eO 2 3 (eA 3 1 j64) s5)]),.tail (s5.length*3),.var (.arr 3 1 [(j64 0),(j64 0),(j64 0)]),.dead,.dead,.dead],[.var (.st 2 [(j64 0),(.v (.slice none 0 0))]),.var (.st 2 [(j64 ((I64 (Int.tdiv a0.gG 2)))),(eO 2 3 (eA 3 1 j64) s5)]),.tail (s5.length*3),.var (.arr 3 1 [(j64 0),(j64 0),(j64 0)]),.dead,.dead,.var (.arr 3 1 [(j64 0),(j64 0),(j64 0)])],[.var (.st 2 [(j64 0),(.v (.slice none 0 0))]),.var (.st 2 [(j64 ((I64 (Int.tdiv a0.gG 2)))),(eO 2 3 (eA 3 1 j64) s5)]),.tail (s5.length*3),.var (.arr 3 1 [(j64 0),(j64 0),(j64 0)]),.var (.arr 3 1 [(j64 0),(j64 0),(j64 0)]),.dead,.dead],[.var (.st 2 [(j64 0),(.v (.slice none 0 0))]),.var (.st 2 [(j64 ((I64 (Int.tdiv a0.gG 2)))),(eO 2 3 (eA 3 1 j64) s5)]),.tail (s5.length*3),.var (.arr 3 1 [(j64 0),(j64 0),(j64 0)]),.var (.arr 3 1 [(j64 0),(j64 0),(j64 0)]),.dead,.var (.arr 3 1 [(j64 0),(j64 0),(j64 0)])]] ⟨aX hT 5 (by kernel_rfl) (by kernel_rfl) (by kernel_rfl),aX hT 5 (by kernel_rfl) (by kernel_rfl) (by kernel_rfl),aX hT 5 (by kernel_rfl) (by kernel_rfl) (by kernel_rfl),aX hT 5 (by kernel_rfl) (by kernel_rfl) (by kernel_rfl),aX hT 5 (by kernel_rfl) (by kernel_rfl) (by kernel_rfl),aX hT 5 (by kernel_rfl) (by kernel_rfl) (by kernel_rfl),aX hT 5 (by kernel_rfl) (by kernel_rfl) (by kernel_rfl),aX hT 5 (by kernel_rfl) (by kernel_rfl) (by kernel_rfl),trivial⟩ (dS1 23 ⟨(.ref 6 [] 0),6,.var (.arr 3 1 [(j64 0),(j64 0),(j64 0)]),.dead⟩ [[.var (.st 2 [(j64 0),(.v (.slice none 0 0))]),.var (.st 2 [(j64 ((I64 (Int.tdiv a0.gG 2)))),(eO 2 3 (eA 3 1 j64) s5)]),.tail (s5.length*3),.dead,.dead,.dead,.dead],[.var (.st 2 [(j64 0),(.v (.slice none 0 0))]),.var (.st 2 [(j64 ((I64 (Int.tdiv a0.gG 2)))),(eO 2 3 (eA 3 1 j64) s5)]),.tail (s5.length*3),.dead,.dead,.var (.arr 3 1 [(j64 0),(j64 0),(j64 0)]),.dead],[.var (.st 2 [(j64 0),(.v (.slice none 0 0))]),.var (.st 2 [(j64 ((I64 (Int.tdiv a0.gG 2)))),(eO 2 3 (eA 3 1 j64) s5)]),.tail (s5.length*3),.dead,.var (.arr 3 1 [(j64 0),(j64 0),(j64 0)]),.dead,.dead],[.var (.st 2 [(j64 0),(.v (.slice none 0 0))]),.var (.st 2 [(j64 ((I64 (Int.tdiv a0.gG 2)))),(eO 2 3 (eA 3 1 j64) s5)]),.tail (s5.length*3),.dead,.var (.arr 3 1 [(j64 0),(j64 0),(j64 0)]),.var (.arr 3 1 [(j64 0),(j64 0),(j64 0)]),.dead],[.var (.st 2 [(j64 0),(.v (.slice none 0 0))]),.var (.st 2 [(j64 ((I64 (Int.tdiv a0.gG 2)))),(eO 2 3 (eA 3 1 j64) s5)]),.tail (s5.length*3),.var (.arr 3 1 [(j64 0),(j64 0),(j64 0)]),.dead,.dead,.dead],[.var (.st 2 [(j64 0),(.v (.slice none 0 0))]),.var (.st 2 [(j64 ((I64 (Int.tdiv a0.gG 2)))),(eO 2 3 (eA 3 1 j64) s5)]),.tail (s5.length*3),.var (.arr 3 1 [(j64 0),(j64 0),(j64 0)]),.dead,.var (.arr 3 1 [(j64 0),(j64 0),(j64 0)]),.dead],[.var (.st 2 [(j64 0),(.v (.slice none 0 0))]),.var (.st 2 [(j64 ((I64 (Int.tdiv a0.gG 2)))),(eO 2 3 (eA 3 1 j64) s5)]),.tail (s5.length*3),.var (.arr 3 1 [(j64 0),(j64 0),(j64 0)]),.var (.arr 3 1 [(j64 0),(j64 0),(j64 0)]),.dead,.dead],[.var (.st 2 [(j64 0),(.v (.slice none 0 0))]),.var (.st 2 [(j64 ((I64 (Int.tdiv a0.gG 2)))),(eO 2 3 (eA 3 1 j64) s5)]),.tail (s5.length*3),.var (.arr 3 1 [(j64 0),(j64 0),(j64 0)]),.var (.arr 3 1 [(j64 0),(j64 0),(j64 0)]),.var (.arr 3 1 [(j64 0),(j64 0),(j64 0)]),.dead]] ⟨aX hT 6 (by kernel_rfl) (by kernel_rfl) (by kernel_rfl),aX hT 6 (by kernel_rfl) (by kernel_rfl) (by kernel_rfl),aX hT 6 (by kernel_rfl) (by kernel_rfl) (by kernel_rfl),aX hT 6 (by kernel_rfl) (by kernel_rfl) (by kernel_rfl),aX hT 6 (by kernel_rfl) (by kernel_rfl) (by kernel_rfl),aX hT 6 (by kernel_rfl) (by kernel_rfl) (by kernel_rfl),aX hT 6 (by kernel_rfl) (by kernel_rfl) (by kernel_rfl),aX hT 6 (by kernel_rfl) (by kernel_rfl) (by kernel_rfl),trivial⟩ dS0)))) ?_
    refine At.L 2 [1,2,3,11,21,22] 8 (fun p20=>([],[(7,.var (eA 3 1 j64 p20))],[])) (fun p20 J k=>∃ s21 s22,jY N r12 r14 r16 r19 k s21 s22=some p20∧J [1,2,3,7,8,9,10,11,21,22] 8 [(55,(j64 s22))] [(7,.var (eA 3 1 j64 s21))] []) N (fun _ h=>⟨_,_,h,jr⟩) (fun p20 k s hI=>?_) fun p20=>?_
    ·obtain ⟨s21,s22,h,hj⟩:=hI
     cases k with
     | zero=>cases h
     | succ k=>
      refine At.jr hj ?_ h
      refine At.c 1 ?_ ?_
      ·refine bi fun u23 hu23=>?_
       refine bi fun e24 he24=>?_
       refine bi fun u25 hu25=>?_
       refine bi fun e26 he26=>?_
       refine bi fun u27 hu27=>?_
       refine bi fun e28 he28=>?_
       refine lx ?_;intro x29
       refine bi fun u30 hu30=>?_
       refine bi fun e31 he31=>?_
       refine lx ?_;intro x32
       refine bi fun u33 hu33=>?_
       refine bi fun e34 he34=>?_
       refine At.d 2 (dE1 2 (fun _=>bG hT (k:=1) 3 [] 0 hu23) (dEL hT 3 (j64 e24) j64 0 he24 (dE1 5 (fun _=>bG hT (k:=1) 4 [] 0 hu25) (dEL hT 6 (j64 e26) j64 0 he26 (dE1 9 (fun _=>bG hT (k:=1) 5 [] 0 hu27) (dEL hT 10 (j64 e28) j64 0 he28 (dE1 13 (fun _=>bG hT (k:=1) 6 [] 0 hu30) (dEL hT 14 (j64 e31) j64 0 he31 (dE1 18 (fun _=>bG hT (k:=1) 7 [] 0 hu33) dE0))))))))) (dF 19 (.v (.bool false)) [(7,.var (eA 3 1 j64 (s21.setIfInBounds s22.toNat (I64 (Int.tdiv x32 4)))))] [] (bS (nS hT j64 0 s21 he34 (I64 (Int.tdiv x32 4)) (by kernel_rfl) (by kernel_rfl) (H':=[.var (.st 2 [(j64 0),(.v (.slice none 0 0))]),.var (.st 2 [(j64 ((I64 (Int.tdiv a0.gG 2)))),(eO 2 3 (eA 3 1 j64) s5)]),.tail (s5.length*3),.var (eA 3 1 j64 r12),.var (eA 3 1 j64 r14),.var (eA 3 1 j64 r16),.var (eA 3 1 j64 r19),.var (eA 3 1 j64 (s21.setIfInBounds s22.toNat (I64 (Int.tdiv x32 4))))]))) dF0) ?_
       exact fun h=>At.k 2 ⟨_,_,h,jr⟩
      ·apply rt;exact At.x 0
    ·refine At.o 3 (cI hT (x:=(.sl 3 1 [(eA 3 1 j64 p20)]))) ?_
     refine At.b 0 (fun _ e=>nR hT (eA 3 1 j64) (id:=2) (k:=3) e) fun z35=>?_
     exact fun h=>At.k 4 ⟨_,_,h,jr⟩
   ·apply rt;exact At.x 0
 ·apply rt;exact At.r 2
def bT (N:Nat)  : Nat→(List aD)→aD→Option ((List aD)×aD)
 | 0,_,_=>none
 | k+1,s2,s3=>
  Option.bind (mL N s2 s3 s3) fun r4=>
  cond (decide (s3.gG > 1)) (
   Option.bind (sD N s3) fun r5=>
   bT N k r4 r5) (
   some ((r4,s3)))
def eD (N:Nat) (b2:(List aD)) (a1:aD):Option ((List aD)×aD):=
 Option.bind (bT N N b2 a1) fun p1=>
 some ((p1.1,p1.2))
theorem qR {N:Nat} {b2:(List aD)} {a1:aD} {r:(List aD)×aD} (h:eD N b2 a1=some r):ItM Tryz.prog 140 (aOO 25 Tryz.f26.body [1,1,1,0,1,0]) [en 5 (.ref 0 [] 0)] [.var (eO 2 2 aD.enc b2),.var (aD.enc a1),.tail (b2.length*2)] [(.yld 3),(.ref 1 [] 0)] (.tup []) [.var (eO 2 2 aD.enc r.1),.var (aD.enc r.2),.tail (r.1.length*2)] none:=by
 unfold eD at h
 refine aM8 (m:=13) (lo:=4) (rs:=[]) hT Tryz.func140 rfl (by kernel_rfl) rfl (fun fn tmps D hsz=>At.of dM hT hmo h ?_)
 refine At.L 0 [] 4 (fun p1=>([],[(0,.var (eO 2 2 aD.enc p1.1)),(1,.var (aD.enc p1.2)),(2,.tail (p1.1.length*2))],[])) (fun p1 J k=>∃ s2 s3,bT N k s2 s3=some p1∧J [0,1] 4 [] [(0,.var (eO 2 2 aD.enc s2)),(1,.var (aD.enc s3)),(2,.tail (s2.length*2))] []) N (fun _ h=>⟨_,_,h,jr⟩) (fun p1 k s hI=>?_) fun p1=>?_
 ·obtain ⟨s2,s3,h,hj⟩:=hI
  cases k with
  | zero=>cases h
  | succ k=>
   refine At.jr hj ?_ h
   refine At.b 2 (fun _ e=>aP3 (aBc e) (fn:=fn) (D:=D) hsz rfl (List.mem_singleton.2 rfl) (by kernel_rfl) (by kernel_rfl)) fun r4=>?_
   refine At.g [6] 5 ?_
   refine At.c 0 ?_ ?_
   ·refine At.b 1 (fun _ e=>aN [] (aEy e)) fun r5=>?_
    exact fun h=>At.k 1 ⟨_,_,h,jr⟩
   ·apply rt;exact At.x 0
 ·apply rt;exact At.z 0
theorem qD : vK Tryz.prog 140:=zI (show aAk Tryz.prog 140=true by kernel_rfl)
def aD1 : Nat→Bool:=imL [1]
def nG (N:Nat) (a0:aD):Option ((List aD)×Int):=
 Option.bind (jC N a0) fun r1=>
 cond (r1 != 0) (
  some (([],r1))) (
  Option.bind (iG N a0.gA7) fun r2=>
  Option.bind (tG N (aD.mk a0.gG r2)) fun r3=>
  Option.bind (eD N [] ((aD.mk a0.gG r2))) fun r4=>
  some ((r4.1,0)))
theorem aDa {N a0 r} (h:nG N a0=some r):FnM Tryz.prog 26 [] [(aD.enc a0)] (.tup [(eL 2 aD.enc r.1),(j64 r.2)]) []:=by
 unfold nG at h
 refine At.fR aD1 hT hmo Tryz.func26 rfl h ?_
 refine At.b 4 (fun _ e=>aN [] (tD e)) fun r1=>?_
 refine At.c 3 ?_ ?_
 ·apply rt;exact At.r 3
 ·refine bi fun r2 hr2=>?_
  refine bi fun r3 hr3=>?_
  refine At.d 1 (dE2 4 (eL 3 (eA 3 1 j64) r2) (fun _=>aO (yF hr2)) dE0) (dF 6 (.fn (.func 140) [] [(.ref 1 [] 0)]) [] [.var (aD.enc ((aD.mk a0.gG r2)))] (bS (aN [] (aDC hr3))) dF0) ?_
  refine At.ownb 0 0 2 [] ?_
  refine bi fun r4 hr4=>?_
  refine At.rg 0 (qR hr4) qD (.tmp 18) [0,1,2] ⟨[en 5 (.ref 0 [] 0)],[.var (eO 2 2 aD.enc r4.1),.var (aD.enc r4.2),.tail (r4.1.length*2)]⟩ [(.ref 1 [] 0)] ?_
  apply rt;exact At.r 3
def sG (N:Nat) (a0:(List aE)) (a1:Int):Option (Sum (Int) ((List aE)×Int)):=
 aV (cond (decide (a1 < 0)) true (decide (a1 > 4096))) fun x1=>
 cond x1 (
  some (Sum.inl 2)) (
  aV (decide (((a0.length:Int)) > a1)) fun x2=>
  cond x2 (
   some (Sum.inl 15)) (
   Option.bind (mkO 152 a1) fun _=>
   Option.bind (cpD (List.replicate a1.toNat (aE.mk (#v[aC.mk 0 0 0,aC.mk 0 0 0,aC.mk 0 0 0]) (#v[#v[0,0],#v[0,0],#v[0,0]]) 0 0 0 0:aE)) a0 a1.toNat) fun v4=>
   Option.bind (aAW v4 a1.toNat) fun _=>
   some (Sum.inr ((v4,0)))))
theorem aDE {N a0 a1 r} (h:sG N a0 a1=some r):FnM Tryz.prog 28 [] [(eL 19 aE.enc a0),(j64 a1)] (aFC r (fun r=>(.tup [(.v (.pointer none)),(j64 r)])) (fun r=>(.tup [(.ref 1 [] 0),(j64 r.2)]))) (aFC r (fun r=>[]) (fun r=>[.dead,.var (.st 3 [(.st 1 [(j64 0)]),(eB true),(eL 19 aE.enc r.1)])])):=by
 unfold sG at h
 refine At.f dM hT hmo Tryz.func28 rfl h ?_
 refine lx ?_;intro x1
 refine At.c 9 ?_ ?_
 ·apply rt;exact At.r 2
 ·refine lx ?_;intro x2
  refine At.c 5 ?_ ?_
  ·apply rt;exact At.r 2
  ·refine At.b 1 (fun _ e=>aSX hT aE.enc ((aE.mk (#v[aC.mk 0 0 0,aC.mk 0 0 0,aC.mk 0 0 0]) (#v[#v[0,0],#v[0,0],#v[0,0]]) 0 0 0 0:aE)) (k:=19) (kd := .st [(0,57),(9,59),(15,3),(16,3),(17,3),(18,5)]) e (by kernel_rfl) (by kernel_rfl) rfl) fun u3=>?_
   refine At.b 8 (fun v4 e=>aN3 hT aE.enc (id:=0) (k:=19) (N:=a1.toNat*19) (H':=[.var (.arr (a1.toNat*19) 19 (List.map aE.enc v4)),.var (.st 3 [(.st 1 [(j64 0)]),(eB true),(.bsl 0 [] 0 19 0 a1.toNat)])]) e (by kernel_rfl) (by kernel_rfl) (by kernel_rfl)) fun v4=>?_
   refine bi fun u5 hu5=>?_
   refine At.fz 3 0 19 a1.toNat _ (List.map aE.enc v4) (List.length_map _) (lenM aE.enc hu5) ?_
   apply rt;exact At.r 0
theorem aGN {N a0 a1 r} (h:sG N a0 a1=some (Sum.inl r)):FnM Tryz.prog 28 [] [(eL 19 aE.enc a0),(j64 a1)] (.tup [(.v (.pointer none)),(j64 r)]) []:=aDE h
theorem aFv {N a0 a1 r} (h:sG N a0 a1=some (Sum.inr r)):FnM Tryz.prog 28 [] [(eL 19 aE.enc a0),(j64 a1)] (.tup [(.ref 1 [] 0),(j64 r.2)]) [.dead,.var (.st 3 [(.st 1 [(j64 0)]),(eB true),(eL 19 aE.enc r.1)])]:=aDE h
def pK (N:Nat) (a0:aE):Nat→aC→aC→Int→Option (aC×aC)
 | 0,_,_,_=>none
 | k+1,s2,s3,s4=>
  aV (decide (s4 < ((3:Int)))) fun x5=>
  cond x5 (
   Option.bind (fH s4 3) fun _=>
   Option.bind (a0.gP.toList[s4.toNat]?) fun e7=>
   Option.bind (cond (s4==0) (some ((e7,e7))) (some ((s2,s3)))) fun p8=>
   pK N a0 k (aC.mk (kL p8.1.gX e7.gX) (kL p8.1.gY e7.gY) (kL p8.1.gZ e7.gZ)) (aC.mk (jL p8.2.gX e7.gX) (jL p8.2.gY e7.gY) (jL p8.2.gZ e7.gZ)) (I64 (s4+1))) (
   some ((s2,s3)))
def wV (N:Nat) (a0:aE):Option (aC×aC):=
 Option.bind (pK N a0 N (aC.mk 0 0 0) (aC.mk 0 0 0) 0) fun p1=>
 some ((p1.1,p1.2))
theorem aHo {N a0 r} (h:wV N a0=some r):FnM Tryz.prog 142 [.var (aE.enc a0)] [(.bsl 0 [0] 0 3 0 3)] (.tup [(aC.enc r.1),(aC.enc r.2)]) [.var (aE.enc a0)]:=by
 unfold wV at h
 refine At.f dM hT hmo Tryz.func142 rfl h ?_
 refine At.L 5 [2,3] 3 (fun p1=>([],[(1,.var (aC.enc p1.1)),(2,.var (aC.enc p1.2))],[])) (fun p1 J k=>∃ s2 s3 s4,pK N a0 k s2 s3 s4=some p1∧J [2,3,6,7] 3 [(8,(j64 s4))] [(1,.var (aC.enc s2)),(2,.var (aC.enc s3))] []) N (fun _ h=>⟨_,_,_,h,jr⟩) (fun p1 k s hI=>?_) fun p1=>?_
 ·obtain ⟨s2,s3,s4,h,hj⟩:=hI
  cases k with
  | zero=>cases h
  | succ k=>
   refine At.jr hj ?_ h
   refine lx ?_;intro x5
   refine At.c 1 ?_ ?_
   ·refine At.b 1 (fun _ e=>aQm hT 0 [0] 0 0 3 (k:=3) e (by kernel_rfl) (by kernel_rfl)) fun u6=>?_
    refine At.b 0 (fun _ e=>pE hT aC.enc 1 e) fun e7=>?_
    refine At.J 3 1 [2,3,5,6,7,8] 4 (fun p8=>([],[(1,.var (aC.enc p8.1)),(2,.var (aC.enc p8.2))],[])) (fun p8=>?_) fun p8=>?_
    ·refine At.c 2 ?_ ?_
     ·refine At.d 0 dE0 dF0 ?_
      apply rt;exact At.jn 0
     ·apply rt;exact At.jn 0
    ·exact fun h=>At.k 36 ⟨_,_,_,h,jr⟩
   ·apply rt;exact At.x 0
 ·refine At.d 0 dE0 dF0 ?_
  apply rt;exact At.r 0
def sP (N:Nat) (a0:(List aC)):Nat→aC→aC→Int→Option (aC×aC)
 | 0,_,_,_=>none
 | k+1,s2,s3,s4=>
  aV (decide (s4 < ((a0.length:Int)))) fun x5=>
  cond x5 (
   Option.bind (idx a0 s4) fun e6=>
   Option.bind (cond (s4==0) (some ((e6,e6))) (some ((s2,s3)))) fun p7=>
   sP N a0 k (aC.mk (kL p7.1.gX e6.gX) (kL p7.1.gY e6.gY) (kL p7.1.gZ e6.gZ)) (aC.mk (jL p7.2.gX e6.gX) (jL p7.2.gY e6.gY) (jL p7.2.gZ e6.gZ)) (I64 (s4+1))) (
   some ((s2,s3)))
def nF (N:Nat) (a0:(List aC)):Option (aC×aC):=
 Option.bind (sP N a0 N (aC.mk 0 0 0) (aC.mk 0 0 0) 0) fun p1=>
 some ((p1.1,p1.2))
theorem rW {N a0 r} (h:nF N a0=some r):FnM Tryz.prog 142 [] [(eL 3 aC.enc a0)] (.tup [(aC.enc r.1),(aC.enc r.2)]) []:=by
 unfold nF at h
 refine At.f dM hT hmo Tryz.func142 rfl h ?_
 refine At.L 5 [2,3] 2 (fun p1=>([],[(0,.var (aC.enc p1.1)),(1,.var (aC.enc p1.2))],[])) (fun p1 J k=>∃ s2 s3 s4,sP N a0 k s2 s3 s4=some p1∧J [2,3,6,7] 2 [(8,(j64 s4))] [(0,.var (aC.enc s2)),(1,.var (aC.enc s3))] []) N (fun _ h=>⟨_,_,_,h,jr⟩) (fun p1 k s hI=>?_) fun p1=>?_
 ·obtain ⟨s2,s3,s4,h,hj⟩:=hI
  cases k with
  | zero=>cases h
  | succ k=>
   refine At.jr hj ?_ h
   refine lx ?_;intro x5
   refine At.c 1 ?_ ?_
   ·refine At.b 1 (fun _ e=>cF hT aC.enc e) fun e6=>?_
    refine At.J 4 1 [2,3,5,6,7,8] 3 (fun p7=>([],[(0,.var (aC.enc p7.1)),(1,.var (aC.enc p7.2))],[])) (fun p7=>?_) fun p7=>?_
    ·refine At.c 2 ?_ ?_
     ·refine At.d 0 dE0 dF0 ?_
      apply rt;exact At.jn 0
     ·apply rt;exact At.jn 0
    ·exact fun h=>At.k 36 ⟨_,_,_,h,jr⟩
   ·apply rt;exact At.x 0
 ·refine At.d 0 dE0 dF0 ?_
  apply rt;exact At.r 0
def nY (N a3:Nat) (b0:(List Int)) (a2:Nat) (a1:(List aE)):Nat→aC→aC→Int→Option (aC×aC)
 | 0,_,_,_=>none
 | k+1,s2,s3,s4=>
  aV (decide (s4 < ((a3:Int)))) fun x5=>
  cond x5 (
   Option.bind (Option.bind (xN b0.length a2 a3 s4) fun _=>
   Option.bind (b0[(yC a2 s4.toNat)]?) fun e8=>
   Option.bind (idx a1 e8) fun e9=>
   Option.bind (wG e9.gP.toList 0 3) fun s10=>
   Option.bind (nF N s10) fun r11=>
   cond (s4==0) (
    some ((r11.1,r11.2,r11.1,r11.2))) (
    Option.bind (nF N ([s2,r11.1])) fun r12=>
    Option.bind (nF N ([s3,r11.2])) fun r13=>
    some ((r12.1,r13.2,r11.1,r11.2)))) fun p6=>
   nY N a3 b0 a2 a1 k p6.1 p6.2.1 (I64 (s4+1))) (
   some ((s2,s3)))
def vG (N:Nat) (b0:(List Int)) (a1:(List aE)) (a2 a3:Nat):Option (aC×aC):=
 Option.bind (nY N a3 b0 a2 a1 N (aC.mk 0 0 0) (aC.mk 0 0 0) 0) fun p1=>
 some ((p1.1,p1.2))
theorem aGy {N b0 a1 a2 a3 r} (h:vG N b0 a1 a2 a3=some r):FnM Tryz.prog 143 [.gro 1 (List.map j64 b0)] [(eL 19 aE.enc a1),(.gro 0 1 b0.length (.sub a2 a3))] (.tup [(aC.enc r.1),(aC.enc r.2)]) [.gro 1 (List.map j64 b0)]:=by
 unfold vG at h
 refine At.f dM hT hmo Tryz.func143 rfl h ?_
 refine At.L 5 [4,5] 3 (fun p1=>([],[(1,.var (aC.enc p1.1)),(2,.var (aC.enc p1.2))],[])) (fun p1 J k=>∃ s2 s3 s4,nY N a3 b0 a2 a1 k s2 s3 s4=some p1∧J [0,4,5,10,11] 3 [(12,(j64 s4))] [(1,.var (aC.enc s2)),(2,.var (aC.enc s3))] []) N (fun _ h=>⟨_,_,_,h,jr⟩) (fun p1 k s hI=>?_) fun p1=>?_
 ·obtain ⟨s2,s3,s4,h,hj⟩:=hI
  cases k with
  | zero=>cases h
  | succ k=>
   refine At.jr hj ?_ h
   refine lx ?_;intro x5
   refine At.c 1 ?_ ?_
   ·refine At.J 0 2 [0,4,5,10,11,12] 3 (fun p6=>([],[(1,.var (aC.enc p6.1)),(2,.var (aC.enc p6.2.1))],[.var (aC.enc p6.2.2.1),.var (aC.enc p6.2.2.2)])) (fun p6=>?_) fun p6=>?_
    ·refine At.b 1 (fun _ e=>jS hT (id:=0) (k:=1) e (by kernel_rfl) (by kernel_rfl)) fun u7=>?_
     refine At.b 0 (fun _ e=>oL hT j64 [] e rfl (by kernel_rfl) (by kernel_rfl)) fun e8=>?_
     refine At.b 4 (fun _ e=>cF hT aE.enc e) fun e9=>?_
     refine At.b 1 (fun _ e=>aAz hT (N:=9) (k:=3) aC.enc e9.gP e) fun s10=>?_
     refine At.b 0 (fun _ e=>aN [] (rW e)) fun r11=>?_
     refine At.c 9 ?_ ?_
     ·refine At.d 0 dE0 dF0 ?_
      apply rt;exact At.jn 0
     ·refine At.o 2 (cI hT (x:=(.sl 3 2 [(aC.enc s2),(aC.enc r11.1)]))) ?_
      refine At.b 0 (fun _ e=>aN [] (rW e)) fun r12=>?_
      refine At.o 6 (cI hT (x:=(.sl 3 2 [(aC.enc s3),(aC.enc r11.2)]))) ?_
      refine At.b 0 (fun _ e=>aN [] (rW e)) fun r13=>?_
      apply rt;exact At.jn 4
    ·exact fun h=>At.k 2 ⟨_,_,_,h,jr⟩
   ·apply rt;exact At.x 0
 ·refine At.d 0 dE0 dF0 ?_
  apply rt;exact At.r 0
def aIL : Nat→Bool:=imL [1]
def jA (N:Nat) (a0:aE):Option (aC):=
 Option.bind (wG a0.gP.toList 0 3) fun s1=>
 Option.bind (nF N s1) fun r2=>
 aV (I64 (r2.1.gX+r2.2.gX)) fun x3=>
 aV (I64 (r2.1.gY+r2.2.gY)) fun x4=>
 aV (I64 (r2.1.gZ+r2.2.gZ)) fun x5=>
 some (aC.mk ((I64 (r2.1.gX+r2.2.gX))) ((I64 (r2.1.gY+r2.2.gY))) ((I64 (r2.1.gZ+r2.2.gZ))))
theorem tU {N a0 r} (h:jA N a0=some r):FnM Tryz.prog 204 [] [(aE.enc a0)] (aC.enc r) []:=by
 unfold jA at h
 refine At.f aIL hT hmo Tryz.func204 rfl h ?_
 refine At.b 3 (fun _ e=>aAz hT (N:=9) (k:=3) aC.enc a0.gP e) fun s1=>?_
 refine At.b 0 (fun _ e=>aN [] (rW e)) fun r2=>?_
 refine lx ?_;intro x3
 refine lx ?_;intro x4
 refine lx ?_;intro x5
 apply rt;exact At.r 24
def aKv : Nat→Bool:=imL [2]
def lB (N:Nat) (a0:aC) (a1:Int):Option (Int):=
 Option.bind (idx (#v[a0.gX,a0.gY,a0.gZ]).toList a1) fun e1=>
 some e1
theorem mZ {N a0 a1 r} (h:lB N a0 a1=some r):FnM Tryz.prog 205 [] [(aC.enc a0),(j64 a1)] (j64 r) []:=by
 unfold lB at h
 refine At.f aKv hT hmo Tryz.func205 rfl h ?_
 refine At.b 10 (fun _ e=>zX hT j64 (#v[a0.gX,a0.gY,a0.gZ]) e (by kernel_rfl) (by kernel_rfl)) fun e1=>?_
 apply rt;exact At.r 1
def oP (N:Nat) (a0 a1:Int) (a2:(List aE)) (a3:Int):Option (Int):=
 Option.bind (idx a2 a0) fun e1=>
 Option.bind (jA N e1) fun r2=>
 Option.bind (lB N r2 a3) fun r3=>
 Option.bind (idx a2 a1) fun e4=>
 Option.bind (jA N e4) fun r5=>
 Option.bind (lB N r5 a3) fun r6=>
 some (I64 (r3 - r6))
theorem aCn {N a0 a1 a2 a3 r} (h:oP N a0 a1 a2 a3=some r):FnM Tryz.prog 207 [.var (j64 a3)] [(j64 a0),(j64 a1),(.im (eL 19 aE.enc a2)),(.ref 0 [] 0)] (j64 r) [.var (j64 a3)]:=by
 unfold oP at h
 refine At.f dM hT hmo Tryz.func207 rfl h ?_
 refine bi fun e1 he1=>?_
 refine bi fun r2 hr2=>?_
 refine bi fun r3 hr3=>?_
 refine bi fun e4 he4=>?_
 refine bi fun r5 hr5=>?_
 refine bi fun r6 hr6=>?_
 refine At.d 1 (dE1 2 (fun _=>cF hT aE.enc he1) (dE2 4 (aC.enc r2) (fun _=>aO (tU hr2)) (dE2 6 (j64 r3) (fun _=>aO (mZ hr3)) (dE1 9 (fun _=>cF hT aE.enc he4) (dE2 11 (aC.enc r5) (fun _=>aO (tU hr5)) (dE2 13 (j64 r6) (fun _=>aO (mZ hr6)) dE0)))))) dF0 ?_
 apply rt;exact At.r 0
def bL (N:Nat) (a3:Int) (a1:Nat) (a5:(List aE)) (a6:Int):Nat→(List Int)→Nat→Int→Option ((List Int)×Nat)
 | 0,_,_,_=>none
 | k+1,s6,s7,s8=>
  Option.bind (cond (decide (s8 > a3)) (
   Option.bind (xN s6.length a1 s7 s8) fun _=>
   Option.bind (s6[(yC a1 s8.toNat)]?) fun e11=>
   Option.bind (xN s6.length a1 s7 (I64 (s8 - 1))) fun _=>
   Option.bind (s6[(yC a1 ((I64 (s8 - 1)).toNat))]?) fun e13=>
   Option.bind (oP N e11 e13 a5 a6) fun r14=>
   some (decide (r14 < 0))) (
   some false)) fun p9=>
  cond p9 (
   Option.bind (xN s6.length a1 s7 (I64 (s8 - 1))) fun _=>
   Option.bind (s6[(yC a1 ((I64 (s8 - 1)).toNat))]?) fun e16=>
   Option.bind (xN s6.length a1 s7 s8) fun _=>
   Option.bind (s6[(yC a1 s8.toNat)]?) fun e18=>
   Option.bind (xN s6.length a1 s7 s8) fun _=>
   Option.bind (aF0 s6 ((yC a1 s8.toNat)) e16) fun z20=>
   Option.bind (xN s6.length a1 s7 (I64 (s8 - 1))) fun _=>
   Option.bind (aF0 z20 ((yC a1 ((I64 (s8 - 1)).toNat))) e18) fun z22=>
   bL N a3 a1 a5 a6 k z22 s7 (I64 (s8 - 1))) (
   some ((s6,s7)))
def bW (N:Nat) (a4 a3:Int) (a1:Nat) (a5:(List aE)) (a6:Int):Nat→(List Int)→Nat→Int→Option ((List Int))
 | 0,_,_,_=>none
 | k+1,s2,s3,s4=>
  cond (decide (s4 < a4)) (
   Option.bind (bL N a3 a1 a5 a6 N s2 s3 s4) fun p5=>
   bW N a4 a3 a1 a5 a6 k p5.1 p5.2 (I64 (s4+1))) (
   some s2)
def bH (N:Nat) (b0:(List Int)) (a1 a2:Nat) (a3 a4:Int) (a5:(List aE)) (a6:Int):Option ((List Int)):=
 Option.bind (bW N a4 a3 a1 a5 a6 N b0 a2 (I64 (a3+1))) fun p1=>
 some p1
theorem iZ {N b0 a1 a2 a3 a4 a5 a6 r} (h:bH N b0 a1 a2 a3 a4 a5 a6=some r):FnM Tryz.prog 265 [.gro 1 (List.map j64 b0),.var (j64 a6)] [(.gro 0 1 b0.length (.sub a1 a2)),(j64 a3),(j64 a4),(.fn (.func 207) [] [(.im (eL 19 aE.enc a5)),(.ref 1 [] 0)])] (.tup []) [.gro 1 (List.map j64 r),.var (j64 a6)]:=by
 unfold bH at h
 refine At.f dM hT hmo Tryz.func265 rfl h ?_
 refine At.L 3 [] 2 (fun p1=>([],[(0,.gro 1 (List.map j64 p1))],[])) (fun p1 J k=>∃ s2 s3 s4,bW N a4 a3 a1 a5 a6 k s2 s3 s4=some p1∧J [1,2,3] 2 [(0,(.gro 0 1 s2.length (.sub a1 s3))),(8,(j64 s4))] [(0,.gro 1 (List.map j64 s2))] []) N (fun _ h=>⟨_,_,_,h,jr⟩) (fun p1 k s hI=>?_) fun p1=>?_
 ·obtain ⟨s2,s3,s4,h,hj⟩:=hI
  cases k with
  | zero=>cases h
  | succ k=>
   refine At.jr hj ?_ h
   refine At.c 3 ?_ ?_
   ·refine At.L 2 [1,2,3,8] 2 (fun p5=>([(0,(.gro 0 1 p5.1.length (.sub a1 p5.2)))],[(0,.gro 1 (List.map j64 p5.1))],[])) (fun p5 J k=>∃ s6 s7 s8,bL N a3 a1 a5 a6 k s6 s7 s8=some p5∧J [1,2,3,8] 2 [(0,(.gro 0 1 s6.length (.sub a1 s7))),(9,(j64 s8))] [(0,.gro 1 (List.map j64 s6))] []) N (fun _ h=>⟨_,_,_,h,jr⟩) (fun p5 k s hI=>?_) fun p5=>?_
    ·obtain ⟨s6,s7,s8,h,hj⟩:=hI
     cases k with
     | zero=>cases h
     | succ k=>
      refine At.jr hj ?_ h
      refine At.J 0 0 [0,1,2,3,8,9] 2 (fun p9=>([(34,(eB p9))],[],[])) (fun p9=>?_) fun p9=>?_
      ·refine boI (fun hc3=>?_) (fun hc3=>?_)
       ·refine bi fun u10 hu10=>?_
        refine bi fun e11 he11=>?_
        refine bi fun u12 hu12=>?_
        refine bi fun e13 he13=>?_
        refine bi fun r14 hr14=>?_
        refine At.d 0 (dE1 3 (fun _=>dO hc3 rfl (dC hT (im:=false) (by kernel_rfl))) (dE1 7 (fun _=>jS hT (id:=0) (k:=1) hu10 (by kernel_rfl) (by kernel_rfl)) (dET 8 (j64 e11) [[.gro 1 (List.map j64 s6),.var (j64 a6)]] ⟨bS (oL hT j64 [] he11 rfl (by kernel_rfl) (by kernel_rfl)),trivial⟩ (dE1 12 (fun _=>jS hT (id:=0) (k:=1) hu12 (by kernel_rfl) (by kernel_rfl)) (dET 13 (j64 e13) [[.gro 1 (List.map j64 s6),.var (j64 a6)]] ⟨bS (oL hT j64 [] he13 rfl (by kernel_rfl) (by kernel_rfl)),trivial⟩ dE0))))) (dF 14 (j64 r14) [] [] (bS (aN [1] (aCn hr14))) dF0) ?_
        apply rt;exact At.jn 0
       ·refine At.d 0 (dE1 3 (fun _=>dO hc3 rfl (dC hT (im:=false) (by kernel_rfl))) dE0) dF0 ?_
        apply rt;exact At.jn 0
      ·refine At.c 0 ?_ ?_
       ·refine bi fun u15 hu15=>?_
        refine bi fun e16 he16=>?_
        refine bi fun u17 hu17=>?_
        refine bi fun e18 he18=>?_
        refine bi fun u19 hu19=>?_
        refine bi fun z20 hz20=>?_
        refine bi fun u21 hu21=>?_
        refine bi fun z22 hz22=>?_
        refine At.d 0 (dE1 8 (fun _=>jS hT (id:=0) (k:=1) hu15 (by kernel_rfl) (by kernel_rfl)) (dET 9 (j64 e16) [[.gro 1 (List.map j64 s6),.var (j64 a6)]] ⟨bS (oL hT j64 [] he16 rfl (by kernel_rfl) (by kernel_rfl)),trivial⟩ (dE1 12 (fun _=>jS hT (id:=0) (k:=1) hu17 (by kernel_rfl) (by kernel_rfl)) (dET 13 (j64 e18) [[.gro 1 (List.map j64 s6),.var (j64 a6)]] ⟨bS (oL hT j64 [] he18 rfl (by kernel_rfl) (by kernel_rfl)),trivial⟩ (dE1 14 (fun _=>jS hT (id:=0) (k:=1) hu19 (by kernel_rfl) (by kernel_rfl)) (dE1 16 (fun _=>jS hT (id:=0) (k:=1) hu21 (by kernel_rfl) (by kernel_rfl)) dE0)))))) (dF 15 (.v (.bool false)) [(0,.gro 1 (List.map j64 z20))] [] (bS (aBy hT j64 (k:=1) e16 hz20 rfl (by kernel_rfl) (fun _=>by kernel_rfl) (by kernel_rfl) (H':=[.gro 1 (List.map j64 z20),.var (j64 a6)]) (by kernel_rfl))) (dF 17 (.v (.bool false)) [(0,.gro 1 (List.map j64 z22))] [] (bS (aBy hT j64 (k:=1) e18 hz22 ((aB3 hz20).2.2).symm (by kernel_rfl) (fun _=>by kernel_rfl) (by kernel_rfl) (H':=[.gro 1 (List.map j64 z22),.var (j64 a6)]) (by kernel_rfl))) dF0)) ?_
        refine At.gl 0 [0] [] 0 s6.length z22.length (((aB3 hz22).2.2).trans ((aB3 hz20).2.2)) ?_
        exact fun h=>At.k 3 ⟨_,_,_,h,jr⟩
       ·apply rt;exact At.x 0
    ·exact fun h=>At.k 3 ⟨_,_,_,h,jr⟩
   ·apply rt;exact At.x 0
 ·apply rt;exact At.z 0
def bZ (N:Nat) (a3:Int) (a1:Nat) (a4:(List aE)) (a5:Int):Nat→(List Int)→Nat→Int→Int→Option ((List Int)×Nat×Int)
 | 0,_,_,_,_=>none
 | k+1,s2,s3,s4,s5=>
  cond (decide (s5≤a3)) (
   Option.bind (bH N s2 a1 s3 s4 s5 a4 a5) fun r6=>
   Option.bind (aAW r6 s2.length) fun _=>
   bZ N a3 a1 a4 a5 k r6 s3 s5 (I64 (s5+20))) (
   some ((s2,s3,s4)))
def fT (N:Nat) (s11 a3:Int):Nat→Option (Unit)
 | 0=>none
 | k+1=>
  aV (decide ((I64 (2*s11))≤a3)) fun x13=>
  cond x13 (none) (some (()))
def cW (N:Nat) (a3:Int):Nat→Int→Option (Unit)
 | 0,_=>none
 | k+1,s11=>
  cond (decide (s11 < a3)) (
   Option.bind (fT N s11 a3 N ) fun p12=>
   Option.bind (aV (decide ((I64 (0+s11)) < a3)) fun x15=>
   cond x15 (none) (some (()))) fun p14=>
   cW N a3 k (I64 (s11*2))) (
   some (()))
def eP (N:Nat) (b0:(List Int)) (a1 a2:Nat) (a3:Int) (a4:(List aE)) (a5:Int):Option ((List Int)):=
 Option.bind (bZ N a3 a1 a4 a5 N b0 a2 0 20) fun p1=>
 Option.bind (bH N p1.1 a1 p1.2.1 p1.2.2 a3 a4 a5) fun r8=>
 Option.bind (aAW r8 p1.1.length) fun _=>
 Option.bind (cW N a3 N 20) fun p10=>
 some r8
theorem rJ {N b0 a1 a2 a3 a4 a5 r} (h:eP N b0 a1 a2 a3 a4 a5=some r):FnM Tryz.prog 249 [.gro 1 (List.map j64 b0),.var (j64 a5)] [(.gro 0 1 b0.length (.sub a1 a2)),(j64 a3),(.fn (.func 207) [] [(.im (eL 19 aE.enc a4)),(.ref 1 [] 0)])] (.tup []) [.gro 1 (List.map j64 r),.var (j64 a5)]:=by
 unfold eP at h
 refine At.f dM hT hmo Tryz.func249 rfl h ?_
 refine At.L 4 [1,2,6] 2 (fun p1=>([(0,(.gro 0 1 p1.1.length (.sub a1 p1.2.1))),(7,(j64 p1.2.2))],[(0,.gro 1 (List.map j64 p1.1))],[])) (fun p1 J k=>∃ s2 s3 s4 s5,bZ N a3 a1 a4 a5 k s2 s3 s4 s5=some p1∧J [1,2,6] 2 [(0,(.gro 0 1 s2.length (.sub a1 s3))),(7,(j64 s4)),(8,(j64 s5))] [(0,.gro 1 (List.map j64 s2))] []) N (fun _ h=>⟨_,_,_,_,h,jr⟩) (fun p1 k s hI=>?_) fun p1=>?_
 ·obtain ⟨s2,s3,s4,s5,h,hj⟩:=hI
  cases k with
  | zero=>cases h
  | succ k=>
   refine At.jr hj ?_ h
   refine At.c 3 ?_ ?_
   ·refine bi fun r6 hr6=>?_
    refine bi fun u7 hu7=>?_
    refine At.o 4 (aN [0,1] (iZ hr6)) ?_
    refine At.gl 0 [0] [] 0 s2.length r6.length (aBX hu7) ?_
    exact fun h=>At.k 6 ⟨_,_,_,_,h,jr⟩
   ·apply rt;exact At.x 0
 ·refine bi fun r8 hr8=>?_
  refine bi fun u9 hu9=>?_
  refine At.o 4 (aN [0,1] (iZ hr8)) ?_
  refine At.gl 0 [0] [] 0 p1.1.length r8.length (aBX hu9) ?_
  refine At.L 0 [] 2 (fun p10=>([],[],[])) (fun p10 J k=>∃ s11,cW N a3 k s11=some p10∧J [0,1,2] 2 [(6,(j64 s11))] [] []) N (fun _ h=>⟨_,h,jr⟩) (fun p10 k s hI=>?_) fun p10=>?_
  ·obtain ⟨s11,h,hj⟩:=hI
   cases k with
   | zero=>cases h
   | succ k=>
    refine At.jr hj ?_ h
    refine At.c 3 ?_ ?_
    ·refine At.L 4 [0,1,2,6,7] 2 (fun p12=>([],[],[])) (fun p12 J k=>fT N s11 a3 k  = some p12∧J [0,1,2,6,7,8] 2 [] [] []) N (fun _ h=>⟨h,jr⟩) (fun p12 k s hI=>?_) fun p12=>?_
     ·obtain ⟨h,hj⟩:=hI
      cases k with
      | zero=>cases h
      | succ k=>
       unfold fT at h
       dsimp only at h
       refine At.jr hj ?_ h
       refine lx ?_;intro x13
       refine At.c 3 ?_ ?_
       ·exact nn
       ·apply rt;exact At.x 0
     ·refine At.J 0 1 [0,1,2,6] 2 (fun p14=>([],[],[])) (fun p14=>?_) fun p14=>?_
      ·refine lx ?_;intro x15
       refine At.c 7 ?_ ?_
       ·exact nn
       ·apply rt;exact At.jn 0
      ·exact fun h=>At.k 3 ⟨_,h,jr⟩
    ·apply rt;exact At.x 0
  ·apply rt;exact At.z 0
def cO (N:Nat) (b0:(List Int)) (a1 a2:Nat) (a3:(List aE)) (a4:Int):Option ((List Int)):=
 Option.bind (eP N b0 a1 a2 ((a2:Int)) a3 a4) fun r1=>
 some r1
theorem pI {N b0 a1 a2 a3 a4 r} (h:cO N b0 a1 a2 a3 a4=some r):FnM Tryz.prog 206 [.gro 1 (List.map j64 b0),.var (j64 a4)] [(.gro 0 1 b0.length (.sub a1 a2)),(.fn (.func 207) [] [(.im (eL 19 aE.enc a3)),(.ref 1 [] 0)])] (.tup []) [.gro 1 (List.map j64 r),.var (j64 a4)]:=by
 unfold cO at h
 refine At.f dM hT hmo Tryz.func206 rfl h ?_
 refine At.b 4 (fun _ e=>aN [0,1] (rJ e)) fun r1=>?_
 apply rt;exact At.z 0
def uU (N:Nat) (a0 a1 a2:Int):Option (Int):=
 aV (I64 ((I64 (a0 - a1))*8)) fun x1=>
 Option.bind (aIX .i64 x1 (I64 (a2 - a1))) fun x2=>
 some (kL x2 7)
theorem aGZ {N a0 a1 a2 r} (h:uU N a0 a1 a2=some r):FnM Tryz.prog 210 [] [(j64 a0),(j64 a1),(j64 a2)] (j64 r) []:=by
 unfold uU at h
 refine At.f dM hT hmo Tryz.func210 rfl h ?_
 refine lx ?_;intro x1
 refine At.b 8 (fun _ e=>aDQ hT e (by kernel_rfl) (by kernel_rfl)) fun x2=>?_
 apply rt;exact At.r 2
def aFx : Nat→Bool:=imL [4]
def nO (N:Nat) (a0:bE) (a1:Int) (a2 a3:aC):Option (bE):=
 cond (a1==0) (
  some a0) (
  Option.bind (cond (decide (a0.gn > 0)) (
   Option.bind (nF N ([a0.glo,a2])) fun r2=>
   Option.bind (nF N ([a0.ghi,a3])) fun r3=>
   some ((r2.1,r3.2))) (
   some ((a2,a3)))) fun p1=>
  some (bE.mk (I64 (a0.gn+a1)) p1.1 p1.2))
theorem xM {N a0 a1 a2 a3 r} (h:nO N a0 a1 a2 a3=some r):FnM Tryz.prog 250 [] [(bE.enc a0),(j64 a1),(aC.enc a2),(aC.enc a3)] (bE.enc r) []:=by
 unfold nO at h
 refine At.f aFx hT hmo Tryz.func250 rfl h ?_
 refine At.c 6 ?_ ?_
 ·apply rt;exact At.r 2
 ·refine At.J 0 1 [1,4,6,7,8] 3 (fun p1=>([],[(0,.var (aC.enc p1.1)),(1,.var (aC.enc p1.2))],[])) (fun p1=>?_) fun p1=>?_
  ·refine At.c 3 ?_ ?_
   ·refine At.o 3 (cI hT (x:=(.sl 3 2 [(aC.enc a0.glo),(aC.enc a2)]))) ?_
    refine At.b 0 (fun _ e=>aN [] (rW e)) fun r2=>?_
    refine At.o 7 (cI hT (x:=(.sl 3 2 [(aC.enc a0.ghi),(aC.enc a3)]))) ?_
    refine At.b 0 (fun _ e=>aN [] (rW e)) fun r3=>?_
    apply rt;exact At.jn 4
   ·apply rt;exact At.jn 0
  ·apply rt;exact At.r 8
def aKa : Nat→Bool:=imL [2,3]
def aA1 (N:Nat) (a0 a1:aC):Option (Int):=
 aV (shr .i64 (I64 (a1.gX - a0.gX)) 10) fun x1=>
 aV (shr .i64 (I64 (a1.gY - a0.gY)) 10) fun x2=>
 aV (shr .i64 (I64 (a1.gZ - a0.gZ)) 10) fun x3=>
 aV (I64 ((I64 (x1+1))*(I64 (x2+1)))) fun x4=>
 aV (I64 ((I64 (x2+1))*(I64 (x3+1)))) fun x5=>
 aV (I64 ((I64 (x3+1))*(I64 (x1+1)))) fun x6=>
 aV (I64 ((I64 (x4+x5))+x6)) fun x7=>
 some x7
theorem aKA {N a0 a1 r} (h:aA1 N a0 a1=some r):FnM Tryz.prog 267 [] [(aC.enc a0),(aC.enc a1)] (j64 r) []:=by
 unfold aA1 at h
 refine At.f aKa hT hmo Tryz.func267 rfl h ?_
 refine lx ?_;intro x1
 refine lx ?_;intro x2
 refine lx ?_;intro x3
 refine At.d 3 dE0 dF0 ?_
 refine lx ?_;intro x4
 refine lx ?_;intro x5
 refine lx ?_;intro x6
 refine lx ?_;intro x7
 apply rt;exact At.r 12
def aEu : Nat→Bool:=imL [1]
def oD (N:Nat) (a0:bE):Option (Int):=
 cond (a0.gn==0) (
  some 1152921504606846976) (
  Option.bind (aA1 N a0.glo a0.ghi) fun r1=>
  some (I64 (a0.gn*r1)))
theorem aAo {N a0 r} (h:oD N a0=some r):FnM Tryz.prog 251 [] [(bE.enc a0)] (j64 r) []:=by
 unfold oD at h
 refine At.f aEu hT hmo Tryz.func251 rfl h ?_
 refine At.c 5 ?_ ?_
 ·apply rt;exact At.r 1
 ·refine bi fun r1 hr1=>?_
  refine At.d 0 (dE2 6 (j64 r1) (fun _=>aO (aKA hr1)) dE0) dF0 ?_
  apply rt;exact At.r 0
def lA (N a3:Nat) (b0:(List Int)) (a2:Nat) (a1:(List aE)) (a4 a5 a6:Int):Nat→(Vector bE 8)→Int→Option ((Vector bE 8))
 | 0,_,_=>none
 | k+1,s2,s3=>
  aV (decide (s3 < ((a3:Int)))) fun x4=>
  cond x4 (
   Option.bind (xN b0.length a2 a3 s3) fun _=>
   Option.bind (b0[(yC a2 s3.toNat)]?) fun e6=>
   Option.bind (idx a1 e6) fun e7=>
   Option.bind (wG e7.gP.toList 0 3) fun s8=>
   Option.bind (nF N s8) fun r9=>
   Option.bind (idx a1 e6) fun e10=>
   Option.bind (jA N e10) fun r11=>
   Option.bind (lB N r11 a4) fun r12=>
   Option.bind (uU N r12 a5 a6) fun r13=>
   Option.bind (fH r13 8) fun _=>
   Option.bind (s2.toList[r13.toNat]?) fun e15=>
   Option.bind (nO N e15 1 r9.1 r9.2) fun r16=>
   Option.bind (fH r13 8) fun _=>
   Option.bind (s2.toList[r13.toNat]?) fun e18=>
   lA N a3 b0 a2 a1 a4 a5 a6 k (s2.setIfInBounds r13.toNat r16) (I64 (s3+1))) (
   some s2)
def lC (N:Nat) (p1:(Vector bE 8)) (s22:Int):Nat→bE→bE→Int→Option (bE×bE)
 | 0,_,_,_=>none
 | k+1,s25,s26,s27=>
  cond (decide (s27 < 8)) (
   Option.bind (Option.bind (idx p1.toList s27) fun e29=>
   cond (decide (s27 < s22)) (
    Option.bind (nO N s25 e29.gn e29.glo e29.ghi) fun r30=>
    some ((r30,s26,e29))) (
    Option.bind (nO N s26 e29.gn e29.glo e29.ghi) fun r31=>
    some ((s25,r31,e29)))) fun p28=>
   lC N p1 s22 k p28.1 p28.2.1 (I64 (s27+1))) (
   some ((s25,s26)))
def nI (N:Nat) (p1:(Vector bE 8)):Nat→Int→Int→Int→Option (Int)
 | 0,_,_,_=>none
 | k+1,s20,s21,s22=>
  cond (decide (s22 < 8)) (
   Option.bind (Option.bind (lC N p1 s22 N (bE.mk 0 (aC.mk 0 0 0) (aC.mk 0 0 0)) (bE.mk 0 (aC.mk 0 0 0) (aC.mk 0 0 0)) 0) fun p24=>
   Option.bind (oD N p24.1) fun r32=>
   aV (kL r32 576460752303423488) fun x33=>
   Option.bind (oD N p24.2) fun r34=>
   aV (kL r34 576460752303423488) fun x35=>
   aV (cond (decide (p24.1.gn > 0)) (decide (p24.2.gn > 0)) false) fun x36=>
   aV (decide ((I64 (x33+x35)) < s20)) fun x37=>
   cond (cond x36 x37 false) (
    some ((p24.1,p24.2,I64 (x33+x35),s22))) (
    some ((p24.1,p24.2,s20,s21)))) fun p23=>
   nI N p1 k p23.2.2.1 p23.2.2.2 (I64 (s22+1))) (
   some s21)
def qP (N:Nat) (b0:(List Int)) (a1:(List aE)) (a2 a3:Nat) (a4 a5 a6:Int):Option (Int):=
 Option.bind (lA N a3 b0 a2 a1 a4 a5 a6 N (Vector.replicate 8 (bE.mk 0 (aC.mk 0 0 0) (aC.mk 0 0 0))) 0) fun p1=>
 Option.bind (nI N p1 N 2305843009213693952 1 1) fun p19=>
 some p19
theorem aD2 {N b0 a1 a2 a3 a4 a5 a6 r} (h:qP N b0 a1 a2 a3 a4 a5 a6=some r):FnM Tryz.prog 208 [.gro 1 (List.map j64 b0)] [(eL 19 aE.enc a1),(.gro 0 1 b0.length (.sub a2 a3)),(j64 a4),(j64 a5),(j64 a6)] (j64 r) [.gro 1 (List.map j64 b0)]:=by
 unfold qP at h
 refine At.f dM hT hmo Tryz.func208 rfl h ?_
 refine At.L 5 [11] 2 (fun p1=>([],[(1,.var (eA 56 7 bE.enc p1))],[])) (fun p1 J k=>∃ s2 s3,lA N a3 b0 a2 a1 a4 a5 a6 k s2 s3=some p1∧J [0,2,3,4,11,25,26] 2 [(27,(j64 s3))] [(1,.var (eA 56 7 bE.enc s2))] []) N (fun _ h=>⟨_,_,h,jr⟩) (fun p1 k s hI=>?_) fun p1=>?_
 ·obtain ⟨s2,s3,h,hj⟩:=hI
  cases k with
  | zero=>cases h
  | succ k=>
   refine At.jr hj ?_ h
   refine lx ?_;intro x4
   refine At.c 1 ?_ ?_
   ·refine At.b 0 (fun _ e=>jS hT (id:=0) (k:=1) e (by kernel_rfl) (by kernel_rfl)) fun u5=>?_
    refine At.b 0 (fun _ e=>oL hT j64 [] e rfl (by kernel_rfl) (by kernel_rfl)) fun e6=>?_
    refine At.b 3 (fun _ e=>cF hT aE.enc e) fun e7=>?_
    refine At.b 1 (fun _ e=>aAz hT (N:=9) (k:=3) aC.enc e7.gP e) fun s8=>?_
    refine At.b 0 (fun _ e=>aN [] (rW e)) fun r9=>?_
    refine At.b 9 (fun _ e=>cF hT aE.enc e) fun e10=>?_
    refine At.b 1 (fun _ e=>aN [] (tU e)) fun r11=>?_
    refine At.b 1 (fun _ e=>aN [] (mZ e)) fun r12=>?_
    refine At.b 2 (fun _ e=>aN [] (aGZ e)) fun r13=>?_
    refine bi fun u14 hu14=>?_
    refine bi fun e15 he15=>?_
    refine bi fun r16 hr16=>?_
    refine bi fun u17 hu17=>?_
    refine bi fun e18 he18=>?_
    refine At.d 1 (dE1 2 (fun _=>bG hT (k:=7) 1 [] 0 hu14) (dEL hT 3 (bE.enc e15) bE.enc 0 he15 (dE2 6 (bE.enc r16) (fun _=>aO (xM hr16)) (dE1 7 (fun _=>bG hT (k:=7) 1 [] 0 hu17) dE0)))) (dF 8 (.v (.bool false)) [(1,.var (eA 56 7 bE.enc (s2.setIfInBounds r13.toNat r16)))] [] (bS (nS hT bE.enc 0 s2 he18 r16 (by kernel_rfl) (by kernel_rfl) (H':=[.gro 1 (List.map j64 b0),.var (eA 56 7 bE.enc (s2.setIfInBounds r13.toNat r16)),.var (aC.enc r9.1),.var (aC.enc r9.2)]))) dF0) ?_
    exact fun h=>At.k 2 ⟨_,_,h,jr⟩
   ·apply rt;exact At.x 0
 ·refine At.L 3 [] 2 (fun p19=>([(18,(j64 p19))],[],[])) (fun p19 J k=>∃ s20 s21 s22,nI N p1 k s20 s21 s22=some p19∧J [11] 2 [(17,(j64 s20)),(18,(j64 s21)),(19,(j64 s22))] [] []) N (fun _ h=>⟨_,_,_,h,jr⟩) (fun p19 k s hI=>?_) fun p19=>?_
  ·obtain ⟨s20,s21,s22,h,hj⟩:=hI
   cases k with
   | zero=>cases h
   | succ k=>
    refine At.jr hj ?_ h
    refine At.c 2 ?_ ?_
    ·refine At.J 0 2 [11,19] 2 (fun p23=>([(17,(j64 p23.2.2.1)),(18,(j64 p23.2.2.2))],[],[.var (bE.enc p23.1),.var (bE.enc p23.2.1)])) (fun p23=>?_) fun p23=>?_
     ·refine At.L 4 [11,17,18,19,20,21] 4 (fun p24=>([],[(2,.var (bE.enc p24.1)),(3,.var (bE.enc p24.2))],[])) (fun p24 J k=>∃ s25 s26 s27,lC N p1 s22 k s25 s26 s27=some p24∧J [11,17,18,19,20,21,63] 4 [(64,(j64 s27))] [(2,.var (bE.enc s25)),(3,.var (bE.enc s26))] []) N (fun _ h=>⟨_,_,_,h,jr⟩) (fun p24 k s hI=>?_) fun p24=>?_
      ·obtain ⟨s25,s26,s27,h,hj⟩:=hI
       cases k with
       | zero=>cases h
       | succ k=>
        refine At.jr hj ?_ h
        refine At.c 1 ?_ ?_
        ·refine At.J 0 2 [11,17,18,19,20,21,63,64] 4 (fun p28=>([],[(2,.var (bE.enc p28.1)),(3,.var (bE.enc p28.2.1))],[.var (bE.enc p28.2.2)])) (fun p28=>?_) fun p28=>?_
         ·refine At.b 1 (fun _ e=>zX hT bE.enc p1 e (by kernel_rfl) (by kernel_rfl)) fun e29=>?_
          refine At.c 6 ?_ ?_
          ·refine At.b 7 (fun _ e=>aN [] (xM e)) fun r30=>?_
           apply rt;exact At.jn 1
          ·refine At.b 7 (fun _ e=>aN [] (xM e)) fun r31=>?_
           apply rt;exact At.jn 1
         ·exact fun h=>At.k 2 ⟨_,_,_,h,jr⟩
        ·apply rt;exact At.x 0
      ·refine bi fun r32 hr32=>?_
       refine lx ?_;intro x33
       refine bi fun r34 hr34=>?_
       refine lx ?_;intro x35
       refine At.d 0 (dE2 1 (j64 r32) (fun _=>aO (aAo hr32)) (dE2 4 (j64 r34) (fun _=>aO (aAo hr34)) dE0)) dF0 ?_
       refine lx ?_;intro x36
       refine lx ?_;intro x37
       refine At.c 13 ?_ ?_
       ·apply rt;exact At.jn 4
       ·apply rt;exact At.jn 0
     ·exact fun h=>At.k 3 ⟨_,_,_,h,jr⟩
    ·apply rt;exact At.x 0
  ·apply rt;exact At.r 2
def hJ (N:Nat) (a0:Int) (a1:(List aE)) (a2 a3 a4 a5:Int):Option (Bool):=
 Option.bind (idx a1 a0) fun e1=>
 Option.bind (jA N e1) fun r2=>
 Option.bind (lB N r2 a5) fun r3=>
 Option.bind (uU N r3 a2 a3) fun r4=>
 some (decide (r4≥a4))
theorem oO {N a0 a1 a2 a3 a4 a5 r} (h:hJ N a0 a1 a2 a3 a4 a5=some r):FnM Tryz.prog 209 [.var (j64 a5)] [(j64 a0),(.im (eL 19 aE.enc a1)),(.ref 0 [] 0),(.im (j64 a2)),(.im (j64 a3)),(.im (j64 a4))] (eB r) [.var (j64 a5)]:=by
 unfold hJ at h
 refine At.f dM hT hmo Tryz.func209 rfl h ?_
 refine bi fun e1 he1=>?_
 refine bi fun r2 hr2=>?_
 refine bi fun r3 hr3=>?_
 refine bi fun r4 hr4=>?_
 refine At.d 1 (dE1 2 (fun _=>cF hT aE.enc he1) (dE2 4 (aC.enc r2) (fun _=>aO (tU hr2)) (dE2 6 (j64 r3) (fun _=>aO (mZ hr3)) (dE2 9 (j64 r4) (fun _=>aO (aGZ hr4)) dE0)))) dF0 ?_
 apply rt;exact At.r 0
def qC (N:Nat) (a0 a1:Int) (a2:(List aE)) (a3 a4 a5 a6:Int):Option (Int):=
 Option.bind (hJ N a0 a2 a3 a4 a5 a6) fun r1=>
 Option.bind (hJ N a1 a2 a3 a4 a5 a6) fun r2=>
 cond (r1==r2) (
  some 0) (
  Option.bind (hJ N a1 a2 a3 a4 a5 a6) fun r3=>
  cond r3 (some (-1)) (some 1))
theorem aDL {N a0 a1 a2 a3 a4 a5 a6 r} (h:qC N a0 a1 a2 a3 a4 a5 a6=some r):FnM Tryz.prog 211 [.var (.fn (.func 209) [] [(.im (eL 19 aE.enc a2)),(.ref 1 [] 0),(.im (j64 a3)),(.im (j64 a4)),(.im (j64 a5))]),.var (j64 a6)] [(j64 a0),(j64 a1),(.ref 0 [] 0)] (j64 r) [.var (.fn (.func 209) [] [(.im (eL 19 aE.enc a2)),(.ref 1 [] 0),(.im (j64 a3)),(.im (j64 a4)),(.im (j64 a5))]),.var (j64 a6)]:=by
 unfold qC at h
 refine At.f dM hT hmo Tryz.func211 rfl h ?_
 refine bi fun r1 hr1=>?_
 refine bi fun r2 hr2=>?_
 refine At.d 1 dE0 (dF 2 (eB r1) [] [] (bS (aN [1] (oO hr1))) (dF 5 (eB r2) [] [] (bS (aN [1] (oO hr2))) dF0)) ?_
 refine At.c 0 ?_ ?_
 ·apply rt;exact At.r 1
 ·refine At.b 2 (fun _ e=>aN [1] (oO e)) fun r3=>?_
  refine At.c 1 ?_ ?_
  ·apply rt;exact At.r 1
  ·apply rt;exact At.r 1
def bM (N:Nat) (a3:Int) (a1:Nat) (a5:(List aE)) (a6 a7 a8 a9:Int):Nat→(List Int)→Nat→Int→Option ((List Int)×Nat)
 | 0,_,_,_=>none
 | k+1,s6,s7,s8=>
  Option.bind (cond (decide (s8 > a3)) (
   Option.bind (xN s6.length a1 s7 s8) fun _=>
   Option.bind (s6[(yC a1 s8.toNat)]?) fun e11=>
   Option.bind (xN s6.length a1 s7 (I64 (s8 - 1))) fun _=>
   Option.bind (s6[(yC a1 ((I64 (s8 - 1)).toNat))]?) fun e13=>
   Option.bind (qC N e11 e13 a5 a6 a7 a8 a9) fun r14=>
   some (decide (r14 < 0))) (
   some false)) fun p9=>
  cond p9 (
   Option.bind (xN s6.length a1 s7 (I64 (s8 - 1))) fun _=>
   Option.bind (s6[(yC a1 ((I64 (s8 - 1)).toNat))]?) fun e16=>
   Option.bind (xN s6.length a1 s7 s8) fun _=>
   Option.bind (s6[(yC a1 s8.toNat)]?) fun e18=>
   Option.bind (xN s6.length a1 s7 s8) fun _=>
   Option.bind (aF0 s6 ((yC a1 s8.toNat)) e16) fun z20=>
   Option.bind (xN s6.length a1 s7 (I64 (s8 - 1))) fun _=>
   Option.bind (aF0 z20 ((yC a1 ((I64 (s8 - 1)).toNat))) e18) fun z22=>
   bM N a3 a1 a5 a6 a7 a8 a9 k z22 s7 (I64 (s8 - 1))) (
   some ((s6,s7)))
def cB (N:Nat) (a4 a3:Int) (a1:Nat) (a5:(List aE)) (a6 a7 a8 a9:Int):Nat→(List Int)→Nat→Int→Option ((List Int))
 | 0,_,_,_=>none
 | k+1,s2,s3,s4=>
  cond (decide (s4 < a4)) (
   Option.bind (bM N a3 a1 a5 a6 a7 a8 a9 N s2 s3 s4) fun p5=>
   cB N a4 a3 a1 a5 a6 a7 a8 a9 k p5.1 p5.2 (I64 (s4+1))) (
   some s2)
def bI (N:Nat) (b0:(List Int)) (a1 a2:Nat) (a3 a4:Int) (a5:(List aE)) (a6 a7 a8 a9:Int):Option ((List Int)):=
 Option.bind (cB N a4 a3 a1 a5 a6 a7 a8 a9 N b0 a2 (I64 (a3+1))) fun p1=>
 some p1
theorem jD {N b0 a1 a2 a3 a4 a5 a6 a7 a8 a9 r} (h:bI N b0 a1 a2 a3 a4 a5 a6 a7 a8 a9=some r):FnM Tryz.prog 265 [.gro 1 (List.map j64 b0),.var (.fn (.func 209) [] [(.im (eL 19 aE.enc a5)),(.ref 2 [] 0),(.im (j64 a6)),(.im (j64 a7)),(.im (j64 a8))]),.var (j64 a9)] [(.gro 0 1 b0.length (.sub a1 a2)),(j64 a3),(j64 a4),(.fn (.func 211) [] [(.ref 1 [] 0)])] (.tup []) [.gro 1 (List.map j64 r),.var (.fn (.func 209) [] [(.im (eL 19 aE.enc a5)),(.ref 2 [] 0),(.im (j64 a6)),(.im (j64 a7)),(.im (j64 a8))]),.var (j64 a9)]:=by
 unfold bI at h
 refine At.f dM hT hmo Tryz.func265 rfl h ?_
 refine At.L 3 [] 3 (fun p1=>([],[(0,.gro 1 (List.map j64 p1))],[])) (fun p1 J k=>∃ s2 s3 s4,cB N a4 a3 a1 a5 a6 a7 a8 a9 k s2 s3 s4=some p1∧J [1,2,3] 3 [(0,(.gro 0 1 s2.length (.sub a1 s3))),(8,(j64 s4))] [(0,.gro 1 (List.map j64 s2))] []) N (fun _ h=>⟨_,_,_,h,jr⟩) (fun p1 k s hI=>?_) fun p1=>?_
 ·obtain ⟨s2,s3,s4,h,hj⟩:=hI
  cases k with
  | zero=>cases h
  | succ k=>
   refine At.jr hj ?_ h
   refine At.c 3 ?_ ?_
   ·refine At.L 2 [1,2,3,8] 3 (fun p5=>([(0,(.gro 0 1 p5.1.length (.sub a1 p5.2)))],[(0,.gro 1 (List.map j64 p5.1))],[])) (fun p5 J k=>∃ s6 s7 s8,bM N a3 a1 a5 a6 a7 a8 a9 k s6 s7 s8=some p5∧J [1,2,3,8] 3 [(0,(.gro 0 1 s6.length (.sub a1 s7))),(9,(j64 s8))] [(0,.gro 1 (List.map j64 s6))] []) N (fun _ h=>⟨_,_,_,h,jr⟩) (fun p5 k s hI=>?_) fun p5=>?_
    ·obtain ⟨s6,s7,s8,h,hj⟩:=hI
     cases k with
     | zero=>cases h
     | succ k=>
      refine At.jr hj ?_ h
      refine At.J 0 0 [0,1,2,3,8,9] 3 (fun p9=>([(34,(eB p9))],[],[])) (fun p9=>?_) fun p9=>?_
      ·refine boI (fun hc3=>?_) (fun hc3=>?_)
       ·refine bi fun u10 hu10=>?_
        refine bi fun e11 he11=>?_
        refine bi fun u12 hu12=>?_
        refine bi fun e13 he13=>?_
        refine bi fun r14 hr14=>?_
        refine At.d 0 (dE1 3 (fun _=>dO hc3 rfl (dC hT (im:=false) (by kernel_rfl))) (dE1 7 (fun _=>jS hT (id:=0) (k:=1) hu10 (by kernel_rfl) (by kernel_rfl)) (dET 8 (j64 e11) [[.gro 1 (List.map j64 s6),.var (.fn (.func 209) [] [(.im (eL 19 aE.enc a5)),(.ref 2 [] 0),(.im (j64 a6)),(.im (j64 a7)),(.im (j64 a8))]),.var (j64 a9)]] ⟨bS (oL hT j64 [] he11 rfl (by kernel_rfl) (by kernel_rfl)),trivial⟩ (dE1 12 (fun _=>jS hT (id:=0) (k:=1) hu12 (by kernel_rfl) (by kernel_rfl)) (dET 13 (j64 e13) [[.gro 1 (List.map j64 s6),.var (.fn (.func 209) [] [(.im (eL 19 aE.enc a5)),(.ref 2 [] 0),(.im (j64 a6)),(.im (j64 a7)),(.im (j64 a8))]),.var (j64 a9)]] ⟨bS (oL hT j64 [] he13 rfl (by kernel_rfl) (by kernel_rfl)),trivial⟩ dE0))))) (dF 14 (j64 r14) [] [] (bS (aN [1,2] (aDL hr14))) dF0) ?_
        apply rt;exact At.jn 0
       ·refine At.d 0 (dE1 3 (fun _=>dO hc3 rfl (dC hT (im:=false) (by kernel_rfl))) dE0) dF0 ?_
        apply rt;exact At.jn 0
      ·refine At.c 0 ?_ ?_
       ·refine bi fun u15 hu15=>?_
        refine bi fun e16 he16=>?_
        refine bi fun u17 hu17=>?_
        refine bi fun e18 he18=>?_
        refine bi fun u19 hu19=>?_
        refine bi fun z20 hz20=>?_
        refine bi fun u21 hu21=>?_
        refine bi fun z22 hz22=>?_
        refine At.d 0 (dE1 8 (fun _=>jS hT (id:=0) (k:=1) hu15 (by kernel_rfl) (by kernel_rfl)) (dET 9 (j64 e16) [[.gro 1 (List.map j64 s6),.var (.fn (.func 209) [] [(.im (eL 19 aE.enc a5)),(.ref 2 [] 0),(.im (j64 a6)),(.im (j64 a7)),(.im (j64 a8))]),.var (j64 a9)]] ⟨bS (oL hT j64 [] he16 rfl (by kernel_rfl) (by kernel_rfl)),trivial⟩ (dE1 12 (fun _=>jS hT (id:=0) (k:=1) hu17 (by kernel_rfl) (by kernel_rfl)) (dET 13 (j64 e18) [[.gro 1 (List.map j64 s6),.var (.fn (.func 209) [] [(.im (eL 19 aE.enc a5)),(.ref 2 [] 0),(.im (j64 a6)),(.im (j64 a7)),(.im (j64 a8))]),.var (j64 a9)]] ⟨bS (oL hT j64 [] he18 rfl (by kernel_rfl) (by kernel_rfl)),trivial⟩ (dE1 14 (fun _=>jS hT (id:=0) (k:=1) hu19 (by kernel_rfl) (by kernel_rfl)) (dE1 16 (fun _=>jS hT (id:=0) (k:=1) hu21 (by kernel_rfl) (by kernel_rfl)) dE0)))))) (dF 15 (.v (.bool false)) [(0,.gro 1 (List.map j64 z20))] [] (bS (aBy hT j64 (k:=1) e16 hz20 rfl (by kernel_rfl) (fun _=>by kernel_rfl) (by kernel_rfl) (H':=[.gro 1 (List.map j64 z20),.var (.fn (.func 209) [] [(.im (eL 19 aE.enc a5)),(.ref 2 [] 0),(.im (j64 a6)),(.im (j64 a7)),(.im (j64 a8))]),.var (j64 a9)]) (by kernel_rfl))) (dF 17 (.v (.bool false)) [(0,.gro 1 (List.map j64 z22))] [] (bS (aBy hT j64 (k:=1) e18 hz22 ((aB3 hz20).2.2).symm (by kernel_rfl) (fun _=>by kernel_rfl) (by kernel_rfl) (H':=[.gro 1 (List.map j64 z22),.var (.fn (.func 209) [] [(.im (eL 19 aE.enc a5)),(.ref 2 [] 0),(.im (j64 a6)),(.im (j64 a7)),(.im (j64 a8))]),.var (j64 a9)]) (by kernel_rfl))) dF0)) ?_
        refine At.gl 0 [0] [] 0 s6.length z22.length (((aB3 hz22).2.2).trans ((aB3 hz20).2.2)) ?_
        exact fun h=>At.k 3 ⟨_,_,_,h,jr⟩
       ·apply rt;exact At.x 0
    ·exact fun h=>At.k 3 ⟨_,_,_,h,jr⟩
   ·apply rt;exact At.x 0
 ·apply rt;exact At.z 0
def cC (N:Nat) (a3:Int) (a1:Nat) (a4:(List aE)) (a5 a6 a7 a8:Int):Nat→(List Int)→Nat→Int→Int→Option ((List Int)×Nat×Int)
 | 0,_,_,_,_=>none
 | k+1,s2,s3,s4,s5=>
  cond (decide (s5≤a3)) (
   Option.bind (bI N s2 a1 s3 s4 s5 a4 a5 a6 a7 a8) fun r6=>
   Option.bind (aAW r6 s2.length) fun _=>
   cC N a3 a1 a4 a5 a6 a7 a8 k r6 s3 s5 (I64 (s5+20))) (
   some ((s2,s3,s4)))
def hK (N:Nat) (s11 a3:Int):Nat→Option (Unit)
 | 0=>none
 | k+1=>
  aV (decide ((I64 (2*s11))≤a3)) fun x13=>
  cond x13 (none) (some (()))
def cZ (N:Nat) (a3:Int):Nat→Int→Option (Unit)
 | 0,_=>none
 | k+1,s11=>
  cond (decide (s11 < a3)) (
   Option.bind (hK N s11 a3 N ) fun p12=>
   Option.bind (aV (decide ((I64 (0+s11)) < a3)) fun x15=>
   cond x15 (none) (some (()))) fun p14=>
   cZ N a3 k (I64 (s11*2))) (
   some (()))
def eU (N:Nat) (b0:(List Int)) (a1 a2:Nat) (a3:Int) (a4:(List aE)) (a5 a6 a7 a8:Int):Option ((List Int)):=
 Option.bind (cC N a3 a1 a4 a5 a6 a7 a8 N b0 a2 0 20) fun p1=>
 Option.bind (bI N p1.1 a1 p1.2.1 p1.2.2 a3 a4 a5 a6 a7 a8) fun r8=>
 Option.bind (aAW r8 p1.1.length) fun _=>
 Option.bind (cZ N a3 N 20) fun p10=>
 some r8
theorem rL {N b0 a1 a2 a3 a4 a5 a6 a7 a8 r} (h:eU N b0 a1 a2 a3 a4 a5 a6 a7 a8=some r):FnM Tryz.prog 249 [.gro 1 (List.map j64 b0),.var (.fn (.func 209) [] [(.im (eL 19 aE.enc a4)),(.ref 2 [] 0),(.im (j64 a5)),(.im (j64 a6)),(.im (j64 a7))]),.var (j64 a8)] [(.gro 0 1 b0.length (.sub a1 a2)),(j64 a3),(.fn (.func 211) [] [(.ref 1 [] 0)])] (.tup []) [.gro 1 (List.map j64 r),.var (.fn (.func 209) [] [(.im (eL 19 aE.enc a4)),(.ref 2 [] 0),(.im (j64 a5)),(.im (j64 a6)),(.im (j64 a7))]),.var (j64 a8)]:=by
 unfold eU at h
 refine At.f dM hT hmo Tryz.func249 rfl h ?_
 refine At.L 4 [1,2,6] 3 (fun p1=>([(0,(.gro 0 1 p1.1.length (.sub a1 p1.2.1))),(7,(j64 p1.2.2))],[(0,.gro 1 (List.map j64 p1.1))],[])) (fun p1 J k=>∃ s2 s3 s4 s5,cC N a3 a1 a4 a5 a6 a7 a8 k s2 s3 s4 s5=some p1∧J [1,2,6] 3 [(0,(.gro 0 1 s2.length (.sub a1 s3))),(7,(j64 s4)),(8,(j64 s5))] [(0,.gro 1 (List.map j64 s2))] []) N (fun _ h=>⟨_,_,_,_,h,jr⟩) (fun p1 k s hI=>?_) fun p1=>?_
 ·obtain ⟨s2,s3,s4,s5,h,hj⟩:=hI
  cases k with
  | zero=>cases h
  | succ k=>
   refine At.jr hj ?_ h
   refine At.c 3 ?_ ?_
   ·refine bi fun r6 hr6=>?_
    refine bi fun u7 hu7=>?_
    refine At.o 4 (aN [0,1,2] (jD hr6)) ?_
    refine At.gl 0 [0] [] 0 s2.length r6.length (aBX hu7) ?_
    exact fun h=>At.k 6 ⟨_,_,_,_,h,jr⟩
   ·apply rt;exact At.x 0
 ·refine bi fun r8 hr8=>?_
  refine bi fun u9 hu9=>?_
  refine At.o 4 (aN [0,1,2] (jD hr8)) ?_
  refine At.gl 0 [0] [] 0 p1.1.length r8.length (aBX hu9) ?_
  refine At.L 0 [] 3 (fun p10=>([],[],[])) (fun p10 J k=>∃ s11,cZ N a3 k s11=some p10∧J [0,1,2] 3 [(6,(j64 s11))] [] []) N (fun _ h=>⟨_,h,jr⟩) (fun p10 k s hI=>?_) fun p10=>?_
  ·obtain ⟨s11,h,hj⟩:=hI
   cases k with
   | zero=>cases h
   | succ k=>
    refine At.jr hj ?_ h
    refine At.c 3 ?_ ?_
    ·refine At.L 4 [0,1,2,6,7] 3 (fun p12=>([],[],[])) (fun p12 J k=>hK N s11 a3 k  = some p12∧J [0,1,2,6,7,8] 3 [] [] []) N (fun _ h=>⟨h,jr⟩) (fun p12 k s hI=>?_) fun p12=>?_
     ·obtain ⟨h,hj⟩:=hI
      cases k with
      | zero=>cases h
      | succ k=>
       unfold hK at h
       dsimp only at h
       refine At.jr hj ?_ h
       refine lx ?_;intro x13
       refine At.c 3 ?_ ?_
       ·exact nn
       ·apply rt;exact At.x 0
     ·refine At.J 0 1 [0,1,2,6] 3 (fun p14=>([],[],[])) (fun p14=>?_) fun p14=>?_
      ·refine lx ?_;intro x15
       refine At.c 7 ?_ ?_
       ·exact nn
       ·apply rt;exact At.jn 0
      ·exact fun h=>At.k 3 ⟨_,h,jr⟩
    ·apply rt;exact At.x 0
  ·apply rt;exact At.z 0
def cQ (N:Nat) (b0:(List Int)) (a1 a2:Nat) (a3:(List aE)) (a4 a5 a6 a7:Int):Option ((List Int)):=
 Option.bind (eU N b0 a1 a2 ((a2:Int)) a3 a4 a5 a6 a7) fun r1=>
 some r1
theorem qF {N b0 a1 a2 a3 a4 a5 a6 a7 r} (h:cQ N b0 a1 a2 a3 a4 a5 a6 a7=some r):FnM Tryz.prog 206 [.gro 1 (List.map j64 b0),.var (.fn (.func 209) [] [(.im (eL 19 aE.enc a3)),(.ref 2 [] 0),(.im (j64 a4)),(.im (j64 a5)),(.im (j64 a6))]),.var (j64 a7)] [(.gro 0 1 b0.length (.sub a1 a2)),(.fn (.func 211) [] [(.ref 1 [] 0)])] (.tup []) [.gro 1 (List.map j64 r),.var (.fn (.func 209) [] [(.im (eL 19 aE.enc a3)),(.ref 2 [] 0),(.im (j64 a4)),(.im (j64 a5)),(.im (j64 a6))]),.var (j64 a7)]:=by
 unfold cQ at h
 refine At.f dM hT hmo Tryz.func206 rfl h ?_
 refine At.b 4 (fun _ e=>aN [0,1,2] (rL e)) fun r1=>?_
 apply rt;exact At.z 0
def bJ (N a2:Nat) (b0:(List Int)) (a1:Nat) (a3:(List aE)) (a4 a5 a6 a7:Int):Nat→Int→Option (Sum (Unit) (Int))
 | 0,_=>none
 | k+1,s2=>
  aV (decide (s2 < ((a2:Int)))) fun x3=>
  cond x3 (
   Option.bind (xN b0.length a1 a2 s2) fun _=>
   Option.bind (b0[(yC a1 s2.toNat)]?) fun e5=>
   Option.bind (hJ N e5 a3 a4 a5 a6 a7) fun r6=>
   cond r6 (
    some (Sum.inr s2)) (
    bJ N a2 b0 a1 a3 a4 a5 a6 a7 k (I64 (s2+1)))) (
   some (Sum.inl (())))
def cV (N:Nat) (b0:(List Int)) (a1 a2:Nat) (a3:(List aE)) (a4 a5 a6 a7:Int):Option (Int):=
 Option.bind (bJ N a2 b0 a1 a3 a4 a5 a6 a7 N 0) fun o=>kK o (fun p1=>
  some (-1)) (fun r=>some r)
theorem qJ {N b0 a1 a2 a3 a4 a5 a6 a7 r} (h:cV N b0 a1 a2 a3 a4 a5 a6 a7=some r):FnM Tryz.prog 212 [.gro 1 (List.map j64 b0),.var (j64 a7)] [(.gro 0 1 b0.length (.sub a1 a2)),(.fn (.func 209) [] [(.im (eL 19 aE.enc a3)),(.ref 1 [] 0),(.im (j64 a4)),(.im (j64 a5)),(.im (j64 a6))])] (j64 r) [.gro 1 (List.map j64 b0),.var (j64 a7)]:=by
 unfold cV at h
 refine At.f dM hT hmo Tryz.func212 rfl h ?_
 refine At.LS 4 [] 2 (fun p1=>([],[],[])) (fun op1 J k=>∃ s2,bJ N a2 b0 a1 a3 a4 a5 a6 a7 k s2=some op1∧J [0,1,7] 2 [(8,(j64 s2))] [] []) N (fun _ h=>⟨_,h,jr⟩) (fun op1 g1 k s hI=>?_) fun p1=>?_
 ·obtain ⟨s2,h,hj⟩:=hI
  cases k with
  | zero=>cases h
  | succ k=>
   refine At.jr hj ?_ h
   refine lx ?_;intro x3
   refine At.c 1 ?_ ?_
   ·refine At.b 5 (fun _ e=>jS hT (id:=0) (k:=1) e (by kernel_rfl) (by kernel_rfl)) fun u4=>?_
    refine At.b 0 (fun _ e=>oL hT j64 [] e rfl (by kernel_rfl) (by kernel_rfl)) fun e5=>?_
    refine At.b 0 (fun _ e=>aN [1] (oO e)) fun r6=>?_
    refine At.c 0 ?_ ?_
    ·intro e;apply aCM g1 e;exact At.r 2
    ·exact fun h=>At.k 2 ⟨_,h,jr⟩
   ·apply rt;exact At.xs 0
 ·apply rt;exact At.r 1
def aFc : Nat→Bool:=imL [3]
def mD (N a3:Nat) (b0:(List Int)) (a2:Nat) (a1:(List aE)):Nat→(List aC)→Int→Option ((List aC))
 | 0,_,_=>none
 | k+1,s3,s4=>
  aV (decide (s4 < ((a3:Int)))) fun x5=>
  cond x5 (
   Option.bind (xN b0.length a2 a3 s4) fun _=>
   Option.bind (b0[(yC a2 s4.toNat)]?) fun e7=>
   Option.bind (idx a1 e7) fun e8=>
   Option.bind (jA N e8) fun r9=>
   Option.bind (wF 24 s3 (([r9]:List aC))) fun z10=>
   mD N a3 b0 a2 a1 k z10 (I64 (s4+1))) (
   some s3)
def oR (N:Nat) (r11:aC×aC):Nat→Int→Int→Option (Int)
 | 0,_,_=>none
 | k+1,s13,s14=>
  cond (decide (s14 < 3)) (
   Option.bind (Option.bind (lB N r11.2 s14) fun r16=>
   Option.bind (lB N r11.1 s14) fun r17=>
   Option.bind (lB N r11.2 s13) fun r18=>
   Option.bind (lB N r11.1 s13) fun r19=>
   aV (decide ((I64 (r16 - r17)) > (I64 (r18 - r19)))) fun x20=>
   cond x20 (some s14) (some s13)) fun p15=>
   oR N r11 k p15 (I64 (s14+1))) (
   some s13)
def rM (N:Nat) (b0:(List Int)) (a1:(List aE)) (a2 a3:Nat) (a4:Int):Option ((List Int)×Int):=
 aV (decide (((a3:Int))≤4)) fun x1=>
 cond x1 (
  some ((b0,0))) (
  Option.bind (mD N a3 b0 a2 a1 N [] 0) fun p2=>
  Option.bind (nF N p2) fun r11=>
  Option.bind (oR N r11 N 0 1) fun p12=>
  Option.bind (lB N r11.1 p12) fun r21=>
  Option.bind (lB N r11.2 p12) fun r22=>
  cond (r21==r22) (
   some ((b0,0))) (
   cond (decide (a4 > 31)) (
    Option.bind (cO N b0 a2 a3 a1 p12) fun r23=>
    Option.bind (aAW r23 b0.length) fun _=>
    aV (I64 (Int.tdiv ((a3:Int)) 2)) fun x25=>
    some ((r23,x25))) (
    Option.bind (qP N b0 a1 a2 a3 p12 r21 r22) fun r26=>
    Option.bind (cQ N b0 a2 a3 a1 r21 r22 r26 p12) fun r27=>
    Option.bind (aAW r27 b0.length) fun _=>
    Option.bind (cV N r27 a2 a3 a1 r21 r22 r26 p12) fun r29=>
    some ((r27,r29)))))
theorem aFA {N b0 a1 a2 a3 a4 r} (h:rM N b0 a1 a2 a3 a4=some r):FnM Tryz.prog 144 [.gro 1 (List.map j64 b0)] [(eL 19 aE.enc a1),(.gro 0 1 b0.length (.sub a2 a3)),(j64 a4)] (j64 r.2) [.gro 1 (List.map j64 r.1)]:=by
 unfold rM at h
 refine At.f aFc hT hmo Tryz.func144 rfl h ?_
 refine lx ?_;intro x1
 refine At.c 5 ?_ ?_
 ·apply rt;exact At.r 1
 ·refine At.ownn 4 7 3 ?_
  refine At.L 0 [1,2,3] 2 (fun p2=>([(7,(eO 1 3 aC.enc p2))],[(1,.tail (p2.length*3))],[])) (fun p2 J k=>∃ s3 s4,mD N a3 b0 a2 a1 k s3 s4=some p2∧J [1,2,3,21,22] 2 [(7,(eO 1 3 aC.enc s3)),(23,(j64 s4))] [(1,.tail (s3.length*3))] []) N (fun _ h=>⟨_,_,h,jr⟩) (fun p2 k s hI=>?_) fun p2=>?_
  ·obtain ⟨s3,s4,h,hj⟩:=hI
   cases k with
   | zero=>cases h
   | succ k=>
    refine At.jr hj ?_ h
    refine lx ?_;intro x5
    refine At.c 1 ?_ ?_
    ·refine At.b 0 (fun _ e=>jS hT (id:=0) (k:=1) e (by kernel_rfl) (by kernel_rfl)) fun u6=>?_
     refine At.b 0 (fun _ e=>oL hT j64 [] e rfl (by kernel_rfl) (by kernel_rfl)) fun e7=>?_
     refine At.b 4 (fun _ e=>cF hT aE.enc e) fun e8=>?_
     refine At.b 1 (fun _ e=>aN [] (tU e)) fun r9=>?_
     refine At.o 0 (cI hT (x:=(.sl 3 1 [(aC.enc r9)]))) ?_
     refine At.b 0 (fun _ e=>nR hT aC.enc (id:=1) (k:=3) e) fun z10=>?_
     exact fun h=>At.k 3 ⟨_,_,h,jr⟩
    ·apply rt;exact At.x 0
  ·refine At.b 1 (fun _ e=>aN [] (rW e)) fun r11=>?_
   refine At.L 10 [1,2,3,10,11,12] 5 (fun p12=>([],[(4,.var (j64 p12))],[])) (fun p12 J k=>∃ s13 s14,oR N r11 k s13 s14=some p12∧J [1,2,3,10,11,12] 5 [(13,(j64 s14))] [(4,.var (j64 s13))] []) N (fun _ h=>⟨_,_,h,jr⟩) (fun p12 k s hI=>?_) fun p12=>?_
   ·obtain ⟨s13,s14,h,hj⟩:=hI
    cases k with
    | zero=>cases h
    | succ k=>
     refine At.jr hj ?_ h
     refine At.c 2 ?_ ?_
     ·refine At.J 0 2 [1,2,3,10,11,12,13] 5 (fun p15=>([],[(4,.var (j64 p15))],[])) (fun p15=>?_) fun p15=>?_
      ·refine bi fun r16 hr16=>?_
       refine bi fun r17 hr17=>?_
       refine bi fun r18 hr18=>?_
       refine bi fun r19 hr19=>?_
       refine lx ?_;intro x20
       refine At.d 0 (dE2 2 (j64 r16) (fun _=>aO (mZ hr16)) (dE2 5 (j64 r17) (fun _=>aO (mZ hr17)) (dE2 9 (j64 r18) (fun _=>aO (mZ hr18)) (dE2 12 (j64 r19) (fun _=>aO (mZ hr19)) dE0)))) dF0 ?_
       refine At.c 0 ?_ ?_
       ·apply rt;exact At.jn 2
       ·apply rt;exact At.jn 0
      ·exact fun h=>At.k 3 ⟨_,_,h,jr⟩
     ·apply rt;exact At.x 0
   ·refine bi fun r21 hr21=>?_
    refine bi fun r22 hr22=>?_
    refine At.d2 0 [false,false] (dC2 2 (j64 r21) (fun _=>aO (mZ hr21)) (dC2 5 (j64 r22) (fun _=>aO (mZ hr22)) dC0)) (dS1 6 ⟨(.ref 5 [] 0),5,.var (j64 0),.dead⟩ [[.gro 1 (List.map j64 b0),.tail (p2.length*3),.var (aC.enc r11.1),.var (aC.enc r11.2),.var (j64 p12),.dead,.dead],[.gro 1 (List.map j64 b0),.tail (p2.length*3),.var (aC.enc r11.1),.var (aC.enc r11.2),.var (j64 p12),.dead,.var (j64 0)]] ⟨aX hT 5 (by kernel_rfl) (by kernel_rfl) (by kernel_rfl),aX hT 5 (by kernel_rfl) (by kernel_rfl) (by kernel_rfl),trivial⟩ (dS1 7 ⟨(.ref 6 [] 0),6,.var (j64 0),.dead⟩ [[.gro 1 (List.map j64 b0),.tail (p2.length*3),.var (aC.enc r11.1),.var (aC.enc r11.2),.var (j64 p12),.dead,.dead],[.gro 1 (List.map j64 b0),.tail (p2.length*3),.var (aC.enc r11.1),.var (aC.enc r11.2),.var (j64 p12),.var (j64 0),.dead]] ⟨aX hT 6 (by kernel_rfl) (by kernel_rfl) (by kernel_rfl),aX hT 6 (by kernel_rfl) (by kernel_rfl) (by kernel_rfl),trivial⟩ dS0)) ?_
    refine At.c 3 ?_ ?_
    ·apply rt;exact At.r 1
    ·refine At.c 2 ?_ ?_
     ·refine At.o 1 (qL (x:=(.fn (.func 207) [] [(.im (eL 19 aE.enc a1)),(.ref 4 [] 0)])) (by kernel_rfl) (by kernel_rfl)) ?_
      refine bi fun r23 hr23=>?_
      refine bi fun u24 hu24=>?_
      refine At.o 0 (aN [0,4] (pI hr23)) ?_
      refine At.gl 0 [1] [] 0 b0.length r23.length (aBX hu24) ?_
      refine lx ?_;intro x25
      apply rt;exact At.r 4
     ·refine At.b 5 (fun _ e=>aN [0] (aD2 e)) fun r26=>?_
      refine At.gz 2 5 ((j64 r21)) ?_
      refine At.gz 0 6 ((j64 r22)) ?_
      refine At.gz 0 7 ((j64 r26)) ?_
      refine At.o 0 (qL (x:=(.fn (.func 209) [] [(.im (eL 19 aE.enc a1)),(.ref 4 [] 0),(.im (j64 r21)),(.im (j64 r22)),(.im (j64 r26))])) (by kernel_rfl) (by kernel_rfl)) ?_
      refine At.o 3 (qL (x:=(.fn (.func 211) [] [(.ref 8 [] 0)])) (by kernel_rfl) (by kernel_rfl)) ?_
      refine bi fun r27 hr27=>?_
      refine bi fun u28 hu28=>?_
      refine At.o 0 (aN [0,8,4] (qF hr27)) ?_
      refine At.gl 0 [1] [] 0 b0.length r27.length (aBX hu28) ?_
      refine At.b 2 (fun _ e=>aN [0,4] (qJ e)) fun r29=>?_
      apply rt;exact At.r 1
def pJ (N:Nat) (a0:(List aE)):Nat→Int→Option (Sum (Unit) (aY×Int))
 | 0,_=>none
 | k+1,s3=>
  aV (decide (s3 < ((a0.length:Int)))) fun x4=>
  cond x4 (
   Option.bind (idx a0 s3) fun e5=>
   Option.bind (aNZ 3 0 3) fun _=>
   Option.bind (wV N e5) fun r7=>
   Option.bind (aV (decide ((kL (kL r7.1.gX r7.1.gY) r7.1.gZ) < (-1048576))) fun x9=>
   cond x9 (
    some true) (
    aV (decide ((jL (jL r7.2.gX r7.2.gY) r7.2.gZ) > 1048576)) fun x10=>
    some x10)) fun p8=>
   cond p8 (
    some (Sum.inr ((aY.mk [] [],8)))) (
    pJ N a0 k (I64 (s3+1)))) (
   some (Sum.inl (())))
def pW (N:Nat) (a0:(List aE)):Nat→(List Int)→Int→Option ((List Int))
 | 0,_,_=>none
 | k+1,s13,s14=>
  aV (decide (s14 < ((a0.length:Int)))) fun x15=>
  cond x15 (
   Option.bind (wF 8 s13 (([s14]:List Int))) fun z16=>
   pW N a0 k z16 (I64 (s14+1))) (
   some s13)
def pP (N:Nat) (a0:(List aE)):Nat→(List Int)→(List bC)→(List bA)→Nat→Option ((List Int)×(List bC)×(List bA))
 | 0,_,_,_,_=>none
 | k+1,s18,s19,s20,s21=>
  aV (decide (((s21:Int)) > 0)) fun x22=>
  cond x22 (
   aV (I64 (((s21:Int)) - 1)) fun x23=>
   Option.bind (xN s20.length 0 s21 x23) fun _=>
   Option.bind (s20[x23.toNat]?) fun e25=>
   aV (I64 (((s21:Int)) - 1)) fun x26=>
   Option.bind (aI2 s20.length 0 s21 0 x26) fun _=>
   aV (I64 (e25.gB+e25.gA0)) fun x28=>
   Option.bind (aI2 s18.length 0 s18.length e25.gB x28) fun _=>
   Option.bind (vG N s18 a0 e25.gB.toNat (x28.toNat - e25.gB.toNat)) fun r30=>
   Option.bind (Option.bind (rM N s18 a0 e25.gB.toNat (x28.toNat - e25.gB.toNat) e25.gD9) fun r32=>
   Option.bind (aAW r32.1 s18.length) fun _=>
   cond (decide (r32.2 > 0)) (
    aV (I64 (((s19.length:Int))+1)) fun x34=>
    Option.bind (wF 80 s19 (([bC.mk (aC.mk 0 0 0) (aC.mk 0 0 0) 0 0 0 0,bC.mk (aC.mk 0 0 0) (aC.mk 0 0 0) 0 0 0 0]:List bC))) fun z35=>
    aV (I64 (((s19.length:Int))+1)) fun x36=>
    aV (I64 (e25.gB+r32.2)) fun x37=>
    aV (I64 (e25.gA0 - r32.2)) fun x38=>
    Option.bind (aJq 32 s20 x26.toNat (([bA.mk x36 x37 x38 (I64 (e25.gD9+1)),bA.mk ((s19.length:Int)) e25.gB r32.2 (I64 (e25.gD9+1))]:List bA))) fun z39=>
    some ((r32.1,z35,z39,bC.mk r30.1 r30.2 ((s19.length:Int)) ((I64 (((s19.length:Int))+1))) 0 0,x26.toNat+2))) (
    some ((r32.1,s19,s20,bC.mk r30.1 r30.2 (-1) (-1) e25.gB e25.gA0,x26.toNat)))) fun p31=>
   Option.bind (fH e25.gA4 p31.2.1.length) fun _=>
   Option.bind (aF0 p31.2.1 e25.gA4.toNat p31.2.2.2.1) fun z41=>
   pP N a0 k p31.1 z41 p31.2.2.1 p31.2.2.2.2) (
   some ((s18,s19,s20)))
def wZ (N:Nat) (a0:(List aE)):Option (aY×Int):=
 aV (decide (((a0.length:Int)) > 4096)) fun x1=>
 cond x1 (
  some ((aY.mk [] [],3))) (
  Option.bind (pJ N a0 N 0) fun o=>kK o (fun p2=>
   aV (((a0.length:Int))==0) fun x11=>
   cond x11 (
    some ((aY.mk [] [],0))) (
    Option.bind (pW N a0 N [] 0) fun p12=>
    Option.bind (pP N a0 N p12 (([bC.mk (aC.mk 0 0 0) (aC.mk 0 0 0) 0 0 0 0]:List bC)) (([bA.mk 0 0 ((a0.length:Int)) 1]:List bA)) ((([bA.mk 0 0 ((a0.length:Int)) 1]:List bA)).length)) fun p17=>
    some ((aY.mk p17.2.1 p17.1,0)))) (fun r=>some r))
theorem aIJ {N a0 r} (h:wZ N a0=some r):FnM Tryz.prog 74 [] [(eL 19 aE.enc a0)] (.tup [(aY.enc r.1),(j64 r.2)]) []:=by
 unfold wZ at h
 refine At.f dM hT hmo Tryz.func74 rfl h ?_
 refine lx ?_;intro x1
 refine At.c 5 ?_ ?_
 ·apply rt;exact At.r 3
 ·refine At.LS 3 [0,2] 1 (fun p2=>([],[],[])) (fun op2 J k=>∃ s3,pJ N a0 k s3=some op2∧J [0,2,22,23] 1 [(24,(j64 s3))] [] []) N (fun _ h=>⟨_,h,jr⟩) (fun op2 g2 k s hI=>?_) fun p2=>?_
  ·obtain ⟨s3,h,hj⟩:=hI
   cases k with
   | zero=>cases h
   | succ k=>
    refine At.jr hj ?_ h
    refine lx ?_;intro x4
    refine At.c 1 ?_ ?_
    ·refine At.b 0 (fun _ e=>cF hT aE.enc e) fun e5=>?_
     refine At.b 4 (fun _ e=>aLu hT (k:=3) 1 [0] 0 e (by kernel_rfl) (by kernel_rfl) (by decide)) fun s6=>?_
     refine At.b 0 (fun _ e=>aN [1] (aHo e)) fun r7=>?_
     refine At.J 7 0 [0,2,22,23,24] 4 (fun p8=>([(51,(eB p8))],[],[])) (fun p8=>?_) fun p8=>?_
     ·refine At.o 6 (yN (k := .i64) (i:=r7.1.gX) (j:=r7.1.gY) (l:=r7.1.gZ) (by kernel_rfl) (by kernel_rfl)) ?_
      refine lx ?_;intro x9
      refine At.s 42 2 ?_ ?_
      ·refine At.g [42] 9 ?_
       apply rt;exact At.jn 0
      ·refine At.g [42] 6 ?_
       refine At.o 0 (yQ (k := .i64) (i:=r7.2.gX) (j:=r7.2.gY) (l:=r7.2.gZ) (by kernel_rfl) (by kernel_rfl)) ?_
       refine lx ?_;intro x10
       refine At.g [42] 2 ?_
       apply rt;exact At.jn 0
     ·refine At.c 0 ?_ ?_
      ·intro e;apply aCM g2 e;exact At.r 3
      ·exact fun h=>At.k 2 ⟨_,h,jr⟩
    ·apply rt;exact At.xs 0
  ·refine lx ?_;intro x11
   refine At.c 4 ?_ ?_
   ·apply rt;exact At.r 3
   ·refine At.grob 3 1 1 [1] ?_
    refine At.L 0 [0,2,8] 3 (fun p12=>([],[(1,.var (.st 2 [(.v (.slice none 0 0)),(.gro 2 1 p12.length .all)])),(2,.gro 1 (List.map j64 p12))],[])) (fun p12 J k=>∃ s13 s14,pW N a0 k s13 s14=some p12∧J [0,2,8,59] 3 [(60,(j64 s14))] [(1,.var (.st 2 [(.v (.slice none 0 0)),(.gro 2 1 s13.length .all)])),(2,.gro 1 (List.map j64 s13))] []) N (fun _ h=>⟨_,_,h,jr⟩) (fun p12 k s hI=>?_) fun p12=>?_
    ·obtain ⟨s13,s14,h,hj⟩:=hI
     cases k with
     | zero=>cases h
     | succ k=>
      refine At.jr hj ?_ h
      refine lx ?_;intro x15
      refine At.c 1 ?_ ?_
      ·refine At.o 5 (cI hT (x:=(.sl 1 1 [(j64 s14)]))) ?_
       refine At.b 0 (fun z16 e=>aHb hT j64 (id:=2) (k:=1) e (by kernel_rfl) (by kernel_rfl) (H':=[.var (.st 2 [(.v (.slice none 0 0)),(.v (.slice none 0 0))]),.var (.st 2 [(.v (.slice none 0 0)),(.gro 2 1 s13.length .all)]),.gro 1 (List.map j64 z16)]) (by kernel_rfl)) fun z16=>?_
       exact fun h=>At.k 4 ⟨_,_,h,jr⟩
      ·apply rt;exact At.x 0
    ·refine At.o 1 (aDg hT bC.enc (k:=10) ([bC.mk (aC.mk 0 0 0) (aC.mk 0 0 0) 0 0 0 0]:List bC) (by kernel_rfl) (by kernel_rfl)) ?_
     refine At.o 5 (aDg hT bA.enc (k:=4) ([bA.mk 0 0 ((a0.length:Int)) 1]:List bA) (by kernel_rfl) (by kernel_rfl)) ?_
     refine At.gsub 1 10 ?_
     refine At.L 0 [2,8] 5 (fun p17=>([],[(1,.var (.st 2 [(.gro 3 10 p17.2.1.length .all),(.gro 2 1 p17.1.length .all)])),(2,.gro 1 (List.map j64 p17.1)),(3,.gro 10 (List.map bC.enc p17.2.1)),(4,.gro 4 (List.map bA.enc p17.2.2))],[])) (fun p17 J k=>∃ s18 s19 s20 s21,pP N a0 k s18 s19 s20 s21=some p17∧J [0,2,8] 5 [(10,(.gro 4 4 s20.length (.sub 0 s21)))] [(1,.var (.st 2 [(.gro 3 10 s19.length .all),(.gro 2 1 s18.length .all)])),(2,.gro 1 (List.map j64 s18)),(3,.gro 10 (List.map bC.enc s19)),(4,.gro 4 (List.map bA.enc s20))] []) N (fun _ h=>⟨_,_,_,_,h,jr⟩) (fun p17 k s hI=>?_) fun p17=>?_
     ·obtain ⟨s18,s19,s20,s21,h,hj⟩:=hI
      cases k with
      | zero=>cases h
      | succ k=>
       refine At.jr hj ?_ h
       refine lx ?_;intro x22
       refine At.c 3 ?_ ?_
       ·refine lx ?_;intro x23
        refine At.b 4 (fun _ e=>jS hT (id:=4) (k:=4) e (by kernel_rfl) (by kernel_rfl)) fun u24=>?_
        refine At.b 0 (fun _ e=>oL hT bA.enc [] e rfl (by kernel_rfl) (by kernel_rfl)) fun e25=>?_
        refine lx ?_;intro x26
        refine At.b 6 (fun _ e=>aFD hT (id:=4) (k:=4) (L:=s20.length) (lo0:=0) (m:=s21) e (by kernel_rfl) (by kernel_rfl)) fun s27=>?_
        refine lx ?_;intro x28
        refine At.b 10 (fun _ e=>aFD hT (id:=2) (k:=1) (L:=s18.length) (lo0:=0) (m:=s18.length) e (by kernel_rfl) (by kernel_rfl)) fun s29=>?_
        refine At.b 3 (fun _ e=>aN [2] (aGy e)) fun r30=>?_
        refine At.J 16 1 [0,2,8,11,15] 9 (fun p31=>([(10,(.gro 4 4 p31.2.2.1.length (.sub 0 p31.2.2.2.2)))],[(1,.var (.st 2 [(.gro 3 10 p31.2.1.length .all),(.gro 2 1 p31.1.length .all)])),(2,.gro 1 (List.map j64 p31.1)),(3,.gro 10 (List.map bC.enc p31.2.1)),(4,.gro 4 (List.map bA.enc p31.2.2.1)),(8,.var (bC.enc p31.2.2.2.1))],[])) (fun p31=>?_) fun p31=>?_
        ·refine bi fun r32 hr32=>?_
         refine bi fun u33 hu33=>?_
         refine At.o 4 (aN [2] (aFA hr32)) ?_
         refine At.gl 0 [] [1] 2 s18.length r32.1.length (aBX hu33) ?_
         refine At.c 3 ?_ ?_
         ·refine lx ?_;intro x34
          refine At.o 15 (cI hT (x:=(.sl 10 2 [(.st 10 [(.st 3 [(j64 0),(j64 0),(j64 0)]),(.st 3 [(j64 0),(j64 0),(j64 0)]),(j64 0),(j64 0),(j64 0),(j64 0)]),(.st 10 [(.st 3 [(j64 0),(j64 0),(j64 0)]),(.st 3 [(j64 0),(j64 0),(j64 0)]),(j64 0),(j64 0),(j64 0),(j64 0)])]))) ?_
          refine At.b 0 (fun z35 e=>aHb hT bC.enc (id:=3) (k:=10) e (by kernel_rfl) (by kernel_rfl) (H':=[.var (.st 2 [(.v (.slice none 0 0)),(.v (.slice none 0 0))]),.var (.st 2 [(.gro 3 10 s19.length .all),(.gro 2 1 r32.1.length .all)]),.gro 1 (List.map j64 r32.1),.gro 10 (List.map bC.enc z35),.gro 4 (List.map bA.enc s20),.var (bA.enc e25),.var (aC.enc r30.1),.var (aC.enc r30.2),.var (.st 10 [(aC.enc r30.1),(aC.enc r30.2),(j64 ((s19.length:Int))),(j64 ((I64 (((s19.length:Int))+1)))),(j64 0),(j64 0)])]) (by kernel_rfl)) fun z35=>?_
          refine lx ?_;intro x36
          refine lx ?_;intro x37
          refine lx ?_;intro x38
          refine At.o 25 (cI hT (x:=(.sl 4 2 [(.st 4 [(j64 x36),(j64 x37),(j64 x38),(j64 (I64 (e25.gD9+1)))]),(.st 4 [(j64 ((s19.length:Int))),(j64 e25.gB),(j64 r32.2),(j64 (I64 (e25.gD9+1)))])]))) ?_
          refine At.b 0 (fun z39 e=>aEK hT bA.enc (id:=4) (k:=4) e (by kernel_rfl) (by kernel_rfl) (H':=[.var (.st 2 [(.v (.slice none 0 0)),(.v (.slice none 0 0))]),.var (.st 2 [(.gro 3 10 z35.length .all),(.gro 2 1 r32.1.length .all)]),.gro 1 (List.map j64 r32.1),.gro 10 (List.map bC.enc z35),.gro 4 (List.map bA.enc z39),.var (bA.enc e25),.var (aC.enc r30.1),.var (aC.enc r30.2),.var (.st 10 [(aC.enc r30.1),(aC.enc r30.2),(j64 ((s19.length:Int))),(j64 ((I64 (((s19.length:Int))+1)))),(j64 0),(j64 0)])]) (by kernel_rfl)) fun z39=>?_
          apply rt;exact At.jn 1
         ·apply rt;exact At.jn 0
        ·refine At.b 5 (fun _ e=>aQh hT (id:=3) (k:=10) e (by kernel_rfl) (by kernel_rfl)) fun u40=>?_
         refine bi fun z41 hz41=>?_
         refine At.o 0 (aBy hT bC.enc (k:=10) p31.2.2.2.1 hz41 rfl (by kernel_rfl) (fun _=>by kernel_rfl) (by kernel_rfl) (H':=[.var (.st 2 [(.v (.slice none 0 0)),(.v (.slice none 0 0))]),.var (.st 2 [(.gro 3 10 p31.2.1.length .all),(.gro 2 1 p31.1.length .all)]),.gro 1 (List.map j64 p31.1),.gro 10 (List.map bC.enc z41),.gro 4 (List.map bA.enc p31.2.2.1),.var (bA.enc e25),.var (aC.enc r30.1),.var (aC.enc r30.2),.var (bC.enc p31.2.2.2.1)]) (by kernel_rfl)) ?_
         refine At.gl 0 [167] [1] 3 p31.2.1.length z41.length ((aB3 hz41).2.2) ?_
         exact fun h=>At.k 0 ⟨_,_,_,_,h,jr⟩
       ·apply rt;exact At.x 0
     ·refine At.fz 3 2 1 p17.1.length _ (List.map j64 p17.1) (List.length_map _) (List.length_map _) ?_
      refine At.fz 0 3 10 p17.2.1.length _ (List.map bC.enc p17.2.1) (List.length_map _) (List.length_map _) ?_
      apply rt;exact At.r 0
def iM (N:Nat) (a0:(List aE)):Option ((List aE)):=
 Option.bind (wF 152 (([]:List aE)) a0) fun z1=>
 some z1
theorem vR {N a0 r} (h:iM N a0=some r):FnM Tryz.prog 75 [] [(eL 19 aE.enc a0)] (eL 19 aE.enc r) []:=by
 unfold iM at h
 refine At.f dM hT hmo Tryz.func75 rfl h ?_
 refine At.q hT 2 (d:=4) (t:=22) (e:=61) (z:=19) (x:=(eL 19 aE.enc a0)) (es:=List.map aE.enc a0) rfl ?_ (fun he=>?_)
 ·refine At.o 1 (vI hT aE.enc (k:=19) ([]:List aE) (by kernel_rfl) (by kernel_rfl)) ?_
  refine At.b 1 (fun _ e=>nR hT aE.enc (id:=0) (k:=19) e) fun z1=>?_
  apply rt;exact At.r 1
 ·have h0:a0=[]:=List.map_eq_nil_iff.1 he
  subst h0
  change some []=_→_
  apply rt;exact At.r 2
def uD (N:Nat) (a0:(List aE)):Option (Sum (Int) (aY×aM×Int)):=
 Option.bind (wZ N a0) fun r1=>
 cond (r1.2 != 0) (
  some (Sum.inl r1.2)) (
  Option.bind (iM N a0) fun r2=>
  some (Sum.inr ((r1.1,aM.mk r1.1 true r2 0,0))))
theorem aET {N a0 r} (h:uD N a0=some r):FnM Tryz.prog 29 [] [(eL 19 aE.enc a0)] (aFC r (fun r=>(.tup [(.v (.pointer none)),(j64 r)])) (fun r=>(.tup [(.ref 1 [] 0),(j64 r.2.2)]))) (aFC r (fun r=>[]) (fun r=>[.var (aY.enc r.1),.var (aM.enc r.2.1)])):=by
 unfold uD at h
 refine At.f dM hT hmo Tryz.func29 rfl h ?_
 refine At.b 3 (fun _ e=>aN [] (aIJ e)) fun r1=>?_
 refine At.c 8 ?_ ?_
 ·apply rt;exact At.r 3
 ·refine bi fun r2 hr2=>?_
  refine At.d 0 (dE2 2 (eL 19 aE.enc r2) (fun _=>aO (vR hr2)) dE0) dF0 ?_
  apply rt;exact At.r 0
theorem aHD {N a0 r} (h:uD N a0=some (Sum.inl r)):FnM Tryz.prog 29 [] [(eL 19 aE.enc a0)] (.tup [(.v (.pointer none)),(j64 r)]) []:=aET h
theorem aGq {N a0 r} (h:uD N a0=some (Sum.inr r)):FnM Tryz.prog 29 [] [(eL 19 aE.enc a0)] (.tup [(.ref 1 [] 0),(j64 r.2.2)]) [.var (aY.enc r.1),.var (aM.enc r.2.1)]:=aET h
def aJP : Nat→Bool:=imL [2,3]
def iW (N:Nat) (x8:Int) (a0:aF):Nat→(List (List aD))→Int→Option ((List (List aD)))
 | 0,_,_=>none
 | k+1,s10,s11=>
  cond (decide (s11 < x8)) (
   Option.bind (idx a0.gR s11) fun e12=>
   Option.bind (nG N e12) fun r13=>
   Option.bind (wF 24 s10 (([r13.1]:List (List aD)))) fun z14=>
   iW N x8 a0 k z14 (I64 (s11+1))) (
   some s10)
def kI (N:Nat) (a0:aF) (a1:aI):Option (Sum (Int) (Sum ((List aE)×(List aQ)×(List aT)×(List (List aD))×aB×Int) (Sum ((List aE)×(List aQ)×(List aT)×(List (List aD))×aB×(List aE)×Int) (Sum ((List aE)×(List aQ)×(List aT)×(List (List aD))×aB×Int) ((List aE)×(List aQ)×(List aT)×(List (List aD))×aB×aY×aM×Int))))):=
 Option.bind (mX N a0) fun r1=>
 cond (r1 != 0) (
  some (Sum.inl r1)) (
  Option.bind (sJ N a1) fun r2=>
  cond (r2 != 0) (
   some (Sum.inl r2)) (
   Option.bind (pO N a0 a1.gA3) fun r3=>
   cond (r3 != 0) (
    some (Sum.inl r3)) (
    Option.bind (wI N a0.gF) fun r4=>
    Option.bind (wF 152 (([]:List aE)) a0.gE) fun z5=>
    Option.bind (wF 40 (([]:List aQ)) a0.gA5) fun z6=>
    Option.bind (wF 104 (([]:List aT)) a0.gF) fun z7=>
    aV ((a0.gR.length:Int)) fun x8=>
    Option.bind (iW N x8 a0 N [] 0) fun p9=>
    cond a1.gB2 (
     Option.bind (jB N a1.gA3) fun r15=>
     Option.bind (sG N a0.gE r15.1) fun q=>
     kK q (fun r17=>
      some (Sum.inr (Sum.inl ((z5,z6,z7,p9,r4,r17))))) (fun r18=>
      some (Sum.inr (Sum.inr (Sum.inl ((z5,z6,z7,p9,r4,r18.1,r18.2))))))) (
     Option.bind (uD N a0.gE) fun q=>
     kK q (fun r20=>
      some (Sum.inr (Sum.inr (Sum.inr (Sum.inl ((z5,z6,z7,p9,r4,r20))))))) (fun r21=>
      some (Sum.inr (Sum.inr (Sum.inr (Sum.inr ((z5,z6,z7,p9,r4,r21.1,r21.2.1,r21.2.2)))))))))))
theorem aAu {N a0 a1 r} (h:kI N a0 a1=some r):FnM Tryz.prog 11 [] [(aF.enc a0),(aI.enc a1)] (aFC r (fun r=>(.tup [(.v (.pointer none)),(j64 r)])) (fun r=>aFC r (fun r=>(.tup [(.ref 0 [] 0),(j64 r.2.2.2.2.2)])) (fun r=>aFC r (fun r=>(.tup [(.ref 0 [] 0),(j64 r.2.2.2.2.2.2)])) (fun r=>aFC r (fun r=>(.tup [(.ref 0 [] 0),(j64 r.2.2.2.2.2)])) (fun r=>(.tup [(.ref 0 [] 0),(j64 r.2.2.2.2.2.2.2)])))))) (aFC r (fun r=>[]) (fun r=>aFC r (fun r=>[.var (.st 38 [(.st 9 [(eL 19 aE.enc r.1),(eL 5 aQ.enc r.2.1),(eL 2 aD.enc a0.gR),(eL 13 aT.enc r.2.2.1),(eL 1 k64 a0.gA1),(eL 1 k32 a0.gA2),(k32 a0.gA8),(k32 a0.gA9),(k32 a0.gTo)]),(aI.enc a1),(.ifc 88 (.v (.pointer none))),(eL 1 (eL 2 aD.enc) r.2.2.2.1),(aB.enc r.2.2.2.2.1),(.st 3 [(j64 0),(j64 0),(j64 0)])])]) (fun r=>aFC r (fun r=>[.var (.st 38 [(.st 9 [(eO 1 19 aE.enc r.1),(eO 2 5 aQ.enc r.2.1),(eL 2 aD.enc a0.gR),(eO 3 13 aT.enc r.2.2.1),(eL 1 k64 a0.gA1),(eL 1 k32 a0.gA2),(k32 a0.gA8),(k32 a0.gA9),(k32 a0.gTo)]),(aI.enc a1),(.ifc 88 (.ref 6 [] 0)),(eO 4 1 (eL 2 aD.enc) r.2.2.2.1),(aB.enc r.2.2.2.2.1),(.st 3 [(j64 0),(j64 0),(j64 0)])]),.tail (r.1.length*19),.tail (r.2.1.length*5),.tail (r.2.2.1.length*13),.tail (r.2.2.2.1.length*1),.dead,.var (.st 3 [(.st 1 [(j64 0)]),(eB true),(eL 19 aE.enc r.2.2.2.2.2.1)])]) (fun r=>aFC r (fun r=>[.var (.st 38 [(.st 9 [(eL 19 aE.enc r.1),(eL 5 aQ.enc r.2.1),(eL 2 aD.enc a0.gR),(eL 13 aT.enc r.2.2.1),(eL 1 k64 a0.gA1),(eL 1 k32 a0.gA2),(k32 a0.gA8),(k32 a0.gA9),(k32 a0.gTo)]),(aI.enc a1),(.ifc 91 (.v (.pointer none))),(eL 1 (eL 2 aD.enc) r.2.2.2.1),(aB.enc r.2.2.2.2.1),(.st 3 [(j64 0),(j64 0),(j64 0)])])]) (fun r=>[.var (.st 38 [(.st 9 [(eO 1 19 aE.enc r.1),(eO 2 5 aQ.enc r.2.1),(eL 2 aD.enc a0.gR),(eO 3 13 aT.enc r.2.2.1),(eL 1 k64 a0.gA1),(eL 1 k32 a0.gA2),(k32 a0.gA8),(k32 a0.gA9),(k32 a0.gTo)]),(aI.enc a1),(.ifc 91 (.ref 6 [] 0)),(eO 4 1 (eL 2 aD.enc) r.2.2.2.1),(aB.enc r.2.2.2.2.1),(.st 3 [(j64 0),(j64 0),(j64 0)])]),.tail (r.1.length*19),.tail (r.2.1.length*5),.tail (r.2.2.1.length*13),.tail (r.2.2.2.1.length*1),.var (aY.enc r.2.2.2.2.2.1),.var (aM.enc r.2.2.2.2.2.2.1)]))))):=by
 unfold kI at h
 refine At.f aJP hT hmo Tryz.func11 rfl h ?_
 refine At.b 5 (fun _ e=>aN [] (aGD e)) fun r1=>?_
 refine At.c 3 ?_ ?_
 ·apply rt;exact At.r 3
 ·refine At.b 1 (fun _ e=>aN [] (aI8 e)) fun r2=>?_
  refine At.c 3 ?_ ?_
  ·apply rt;exact At.r 3
  ·refine At.b 3 (fun _ e=>aN [] (aE9 e)) fun r3=>?_
   refine At.c 3 ?_ ?_
   ·apply rt;exact At.r 3
   ·refine bi fun r4 hr4=>?_
    refine At.d 0 (dE2 4 (aB.enc r4) (fun _=>aO (aJc hr4)) dE0) dF0 ?_
    refine At.o 1 (vI hT aE.enc (k:=19) ([]:List aE) (by kernel_rfl) (by kernel_rfl)) ?_
    refine At.b 2 (fun _ e=>nR hT aE.enc (id:=1) (k:=19) e) fun z5=>?_
    refine At.o 5 (vI hT aQ.enc (k:=5) ([]:List aQ) (by kernel_rfl) (by kernel_rfl)) ?_
    refine At.b 2 (fun _ e=>nR hT aQ.enc (id:=2) (k:=5) e) fun z6=>?_
    refine At.o 5 (vI hT aT.enc (k:=13) ([]:List aT) (by kernel_rfl) (by kernel_rfl)) ?_
    refine At.b 2 (fun _ e=>nR hT aT.enc (id:=3) (k:=13) e) fun z7=>?_
    refine lx ?_;intro x8
    refine At.ownb 8 0 1 [3] ?_
    refine At.L 0 [2,3,9] 5 (fun p9=>([],[(0,.var (.st 38 [(.st 9 [(eO 1 19 aE.enc z5),(eO 2 5 aQ.enc z6),(eL 2 aD.enc a0.gR),(eO 3 13 aT.enc z7),(eL 1 k64 a0.gA1),(eL 1 k32 a0.gA2),(k32 a0.gA8),(k32 a0.gA9),(k32 a0.gTo)]),(aI.enc a1),(.v .nilIface),(eO 4 1 (eL 2 aD.enc) p9),(aB.enc r4),(.st 3 [(j64 0),(j64 0),(j64 0)])])),(4,.tail (p9.length*1))],[])) (fun p9 J k=>∃ s10 s11,iW N x8 a0 k s10 s11=some p9∧J [2,3,9,69,70] 5 [(71,(j64 s11))] [(0,.var (.st 38 [(.st 9 [(eO 1 19 aE.enc z5),(eO 2 5 aQ.enc z6),(eL 2 aD.enc a0.gR),(eO 3 13 aT.enc z7),(eL 1 k64 a0.gA1),(eL 1 k32 a0.gA2),(k32 a0.gA8),(k32 a0.gA9),(k32 a0.gTo)]),(aI.enc a1),(.v .nilIface),(eO 4 1 (eL 2 aD.enc) s10),(aB.enc r4),(.st 3 [(j64 0),(j64 0),(j64 0)])])),(4,.tail (s10.length*1))] []) N (fun _ h=>⟨_,_,h,jr⟩) (fun p9 k s hI=>?_) fun p9=>?_
    ·obtain ⟨s10,s11,h,hj⟩:=hI
     cases k with
     | zero=>cases h
     | succ k=>
      refine At.jr hj ?_ h
      refine At.c 1 ?_ ?_
      ·refine At.b 0 (fun _ e=>cF hT aD.enc e) fun e12=>?_
       refine At.b 4 (fun _ e=>aN [] (aDa e)) fun r13=>?_
       refine At.o 11 (cI hT (x:=(.sl 1 1 [(eL 2 aD.enc r13.1)]))) ?_
       refine At.b 0 (fun _ e=>nR hT (eL 2 aD.enc) (id:=4) (k:=1) e) fun z14=>?_
       exact fun h=>At.k 5 ⟨_,_,h,jr⟩
      ·apply rt;exact At.x 0
    ·refine At.c 2 ?_ ?_
     ·refine At.b 2 (fun _ e=>aN [] (tC e)) fun r15=>?_
      refine aKm (fun r17 hr17=>?_) (fun r18 hr18=>?_)
      ·refine At.o 8 (aN [] (aGN hr17)) ?_
       refine At.o 7 (aCC hT (t:=88) (x:=(.v (.pointer none))) (by kernel_rfl) (by kernel_rfl)) ?_
       apply rt;exact At.r 7
      ·refine At.o 8 (aN [] (aFv hr18)) ?_
       refine At.o 7 (aCC hT (t:=88) (x:=(.ref 6 [] 0)) (by kernel_rfl) (by kernel_rfl)) ?_
       apply rt;exact At.r 7
     ·refine aKm (fun r20 hr20=>?_) (fun r21 hr21=>?_)
      ·refine At.o 2 (aN [] (aHD hr20)) ?_
       refine At.o 7 (aCC hT (t:=91) (x:=(.v (.pointer none))) (by kernel_rfl) (by kernel_rfl)) ?_
       apply rt;exact At.r 7
      ·refine At.o 2 (aN [] (aGq hr21)) ?_
       refine At.o 7 (aCC hT (t:=91) (x:=(.ref 6 [] 0)) (by kernel_rfl) (by kernel_rfl)) ?_
       apply rt;exact At.r 7
theorem vA {N a0 a1 r} (h:kI N a0 a1=some (Sum.inl r)):FnM Tryz.prog 11 [] [(aF.enc a0),(aI.enc a1)] (.tup [(.v (.pointer none)),(j64 r)]) []:=aAu h
theorem zD {N a0 a1 r} (h:kI N a0 a1=some (Sum.inr (Sum.inr (Sum.inl r)))):FnM Tryz.prog 11 [] [(aF.enc a0),(aI.enc a1)] (.tup [(.ref 0 [] 0),(j64 r.2.2.2.2.2.2)]) [.var (.st 38 [(.st 9 [(eO 1 19 aE.enc r.1),(eO 2 5 aQ.enc r.2.1),(eL 2 aD.enc a0.gR),(eO 3 13 aT.enc r.2.2.1),(eL 1 k64 a0.gA1),(eL 1 k32 a0.gA2),(k32 a0.gA8),(k32 a0.gA9),(k32 a0.gTo)]),(aI.enc a1),(.ifc 88 (.ref 6 [] 0)),(eO 4 1 (eL 2 aD.enc) r.2.2.2.1),(aB.enc r.2.2.2.2.1),(.st 3 [(j64 0),(j64 0),(j64 0)])]),.tail (r.1.length*19),.tail (r.2.1.length*5),.tail (r.2.2.1.length*13),.tail (r.2.2.2.1.length*1),.dead,.var (.st 3 [(.st 1 [(j64 0)]),(eB true),(eL 19 aE.enc r.2.2.2.2.2.1)])]:=aAu h
theorem vF {N a0 a1 r} (h:kI N a0 a1=some (Sum.inr (Sum.inr (Sum.inr (Sum.inr r))))):FnM Tryz.prog 11 [] [(aF.enc a0),(aI.enc a1)] (.tup [(.ref 0 [] 0),(j64 r.2.2.2.2.2.2.2)]) [.var (.st 38 [(.st 9 [(eO 1 19 aE.enc r.1),(eO 2 5 aQ.enc r.2.1),(eL 2 aD.enc a0.gR),(eO 3 13 aT.enc r.2.2.1),(eL 1 k64 a0.gA1),(eL 1 k32 a0.gA2),(k32 a0.gA8),(k32 a0.gA9),(k32 a0.gTo)]),(aI.enc a1),(.ifc 91 (.ref 6 [] 0)),(eO 4 1 (eL 2 aD.enc) r.2.2.2.1),(aB.enc r.2.2.2.2.1),(.st 3 [(j64 0),(j64 0),(j64 0)])]),.tail (r.1.length*19),.tail (r.2.1.length*5),.tail (r.2.2.1.length*13),.tail (r.2.2.2.1.length*1),.var (aY.enc r.2.2.2.2.2.1),.var (aM.enc r.2.2.2.2.2.2.1)]:=aAu h
def uP (N:Nat):Option (aI):=
 some (aI.mk 1 1 1 0 0 0 (bP.mk (aC.mk 0 0 0) (aC.mk 16384 0 0) (aC.mk 0 16384 0) (aC.mk 0 0 16384) 0 1) false)
theorem aCJ {N r} (h:uP N=some r):FnM Tryz.prog 30 [] [] (aI.enc r) []:=by
 unfold uP at h
 refine At.f dM hT hmo Tryz.func30 rfl h ?_
 apply rt;exact At.r 7
def sW (N:Nat) (a0 a1 a2:Int):Option (Unit):=
 some (())
theorem aCb {N a0 a1 a2 r} (h:sW N a0 a1 a2=some r):FnM Tryz.prog 31 [] [(k64 a0),(j64 a1),(j64 a2)] (.ref 0 [] 0) [.var (.st 72 [cv_5,(eB true),(k64 a0),(j64 a1),(j64 a2)])]:=by
 unfold sW at h
 refine At.f dM hT hmo Tryz.func31 rfl h ?_
 apply rt;exact At.r 7
def pY (N:Nat) (a0 a1 a2 a3:Int):Option (bK):=
 aV (U32 (eK .i64 a2 65535)) fun x1=>
 aV (U32 (Int.tdiv (U32 (eK .i64 a3 63)) 16)) fun x2=>
 aV (U32 ((U32 (x1*4))+x2)) fun x3=>
 some (bK.mk (U32 a0) (U32 a1) ((U32 ((U32 ((U32 (eK .i64 a2 65535))*4))+(U32 (Int.tdiv (U32 (eK .i64 a3 63)) 16))))))
theorem aE3 {N a0 a1 a2 a3 r} (h:pY N a0 a1 a2 a3=some r):FnM Tryz.prog 145 [] [(j64 a0),(j64 a1),(j64 a2),(j64 a3)] (bK.enc r) []:=by
 unfold pY at h
 refine At.f dM hT hmo Tryz.func145 rfl h ?_
 refine lx ?_;intro x1
 refine lx ?_;intro x2
 refine lx ?_;intro x3
 apply rt;exact At.r 16
def oC (N:Nat) (a0:Int):Nat→(Vector Int 32)→Int→Option ((Vector Int 32))
 | 0,_,_=>none
 | k+1,s4,s5=>
  cond (decide (s5 < 8)) (
   Option.bind (aE8 .u64 a0 (I64 (8*s5))) fun x6=>
   Option.bind (fH (I64 (24+s5)) 32) fun _=>
   Option.bind (s4.toList[(I64 (24+s5)).toNat]?) fun e8=>
   oC N a0 k (s4.setIfInBounds ((I64 (24+s5)).toNat) (U8 x6)) (I64 (s5+1))) (
   some s4)
def vO (N:Nat) (a0:Int):Option ((Vector Int 32)):=
 Option.bind (aNZ 32 0 32) fun _=>
 Option.bind (cpV (Vector.replicate 32 0) (aKS str_1) 0 32) fun v2=>
 Option.bind (oC N a0 N v2 0) fun p3=>
 some p3
theorem aG6 {N a0 r} (h:vO N a0=some r):FnM Tryz.prog 214 [] [(k64 a0)] (eA 32 1 k8 r) []:=by
 unfold vO at h
 refine At.f dM hT hmo Tryz.func214 rfl h ?_
 refine At.b 2 (fun _ e=>aLu hT (k:=1) 1 [] 0 e (by kernel_rfl) (by kernel_rfl) (by decide)) fun s1=>?_
 refine At.b 0 (fun v2 e=>aOU hT k8 (id:=1) (path:=[]) (off:=0) (H':=[.var (eA 32 1 k8 (Vector.replicate 32 0)),.var (eA 32 1 k8 v2)]) e (by kernel_rfl) (by kernel_rfl) (by kernel_rfl)) fun v2=>?_
 refine At.L 1 [2,3] 2 (fun p3=>([],[(1,.var (eA 32 1 k8 p3))],[])) (fun p3 J k=>∃ s4 s5,oC N a0 k s4 s5=some p3∧J [0,2,3] 2 [(7,(j64 s5))] [(1,.var (eA 32 1 k8 s4))] []) N (fun _ h=>⟨_,_,h,jr⟩) (fun p3 k s hI=>?_) fun p3=>?_
 ·obtain ⟨s4,s5,h,hj⟩:=hI
  cases k with
  | zero=>cases h
  | succ k=>
   refine At.jr hj ?_ h
   refine At.c 1 ?_ ?_
   ·refine At.b 7 (fun _ e=>xS hT (k' := .i64) e (by kernel_rfl) (by kernel_rfl)) fun x6=>?_
    refine At.b 1 (fun _ e=>bG hT (k:=1) 1 [] 0 e) fun u7=>?_
    refine At.b 0 (fun _ e=>nS hT k8 0 s4 e (U8 x6) (by kernel_rfl) (by kernel_rfl) (H':=[.var (eA 32 1 k8 (Vector.replicate 32 0)),.var (eA 32 1 k8 (s4.setIfInBounds ((I64 (24+s5)).toNat) (U8 x6)))])) fun e8=>?_
    exact fun h=>At.k 2 ⟨_,_,h,jr⟩
   ·apply rt;exact At.x 0
 ·apply rt;exact At.r 2
def oB (N:Nat) (a0:(List Int)):Option (Int):=
 Option.bind (idx a0 0) fun e1=>
 Option.bind (idx a0 1) fun e2=>
 aV (bor .u32 (U32 e1) (shl .u32 (U32 e2) 8)) fun x3=>
 Option.bind (idx a0 2) fun e4=>
 aV (bor .u32 x3 (shl .u32 (U32 e4) 16)) fun x5=>
 Option.bind (idx a0 3) fun e6=>
 aV (bor .u32 x5 (shl .u32 (U32 e6) 24)) fun x7=>
 some x7
theorem aAp {N a0 r} (h:oB N a0=some r):FnM Tryz.prog 268 [] [(eL 1 k8 a0)] (k32 r) []:=by
 unfold oB at h
 refine At.f dM hT hmo Tryz.func268 rfl h ?_
 refine bi fun e1 he1=>?_
 refine bi fun e2 he2=>?_
 refine lx ?_;intro x3
 refine bi fun e4 he4=>?_
 refine lx ?_;intro x5
 refine bi fun e6 he6=>?_
 refine lx ?_;intro x7
 refine At.d 1 (dE1 1 (fun _=>cF hT k8 he1) (dE1 5 (fun _=>cF hT k8 he2) (dE1 11 (fun _=>cF hT k8 he4) (dE1 17 (fun _=>cF hT k8 he6) dE0)))) dF0 ?_
 apply rt;exact At.r 0
def aFZ : Nat→Bool:=imL [3,5]
def mB (N:Nat) (a0:(Vector Int 32)):Nat→(Vector Int 16)→Int→Option ((Vector Int 16))
 | 0,_,_=>none
 | k+1,s2,s3=>
  cond (decide (s3 < 8)) (
   Option.bind (wG a0.toList (I64 (4*s3)) 32) fun s4=>
   Option.bind (oB N s4) fun r5=>
   Option.bind (fH (I64 (4+s3)) 16) fun _=>
   Option.bind (s2.toList[(I64 (4+s3)).toNat]?) fun e7=>
   mB N a0 k (s2.setIfInBounds ((I64 (4+s3)).toNat) r5) (I64 (s3+1))) (
   some s2)
def mA (N:Nat) (a2:(Vector Int 12)):Nat→(Vector Int 16)→Int→Option ((Vector Int 16))
 | 0,_,_=>none
 | k+1,s9,s10=>
  cond (decide (s10 < 3)) (
   Option.bind (wG a2.toList (I64 (4*s10)) 12) fun s11=>
   Option.bind (oB N s11) fun r12=>
   Option.bind (fH (I64 (13+s10)) 16) fun _=>
   Option.bind (s9.toList[(I64 (13+s10)).toNat]?) fun e14=>
   mA N a2 k (s9.setIfInBounds ((I64 (13+s10)).toNat) r12) (I64 (s10+1))) (
   some s9)
def sH (N:Nat) (a0:(Vector Int 32)) (a1:Int) (a2:(Vector Int 12)):Option ((Vector Int 16)):=
 Option.bind (mB N a0 N (#v[1634760805,857760878,2036477234,1797285236,0,0,0,0,0,0,0,0,a1,0,0,0]) 0) fun p1=>
 Option.bind (mA N a2 N p1 0) fun p8=>
 some p8
theorem aE5 {N a0 a1 a2 r} (h:sH N a0 a1 a2=some r):FnM Tryz.prog 252 [] [(eA 32 1 k8 a0),(k32 a1),(eA 12 1 k8 a2)] (eA 16 1 k32 r) []:=by
 unfold sH at h
 refine At.f aFZ hT hmo Tryz.func252 rfl h ?_
 refine At.L 8 [5,6,7] 2 (fun p1=>([],[(1,.var (eA 16 1 k32 p1))],[])) (fun p1 J k=>∃ s2 s3,mB N a0 k s2 s3=some p1∧J [3,5,6,7] 2 [(12,(j64 s3))] [(1,.var (eA 16 1 k32 s2))] []) N (fun _ h=>⟨_,_,h,jr⟩) (fun p1 k s hI=>?_) fun p1=>?_
 ·obtain ⟨s2,s3,h,hj⟩:=hI
  cases k with
  | zero=>cases h
  | succ k=>
   refine At.jr hj ?_ h
   refine At.c 1 ?_ ?_
   ·refine At.b 6 (fun _ e=>aAz hT (N:=32) (k:=1) k8 a0 e) fun s4=>?_
    refine At.b 0 (fun _ e=>aN [] (aAp e)) fun r5=>?_
    refine At.b 0 (fun _ e=>bG hT (k:=1) 1 [] 0 e) fun u6=>?_
    refine At.b 0 (fun _ e=>nS hT k32 0 s2 e r5 (by kernel_rfl) (by kernel_rfl) (H':=[.var (eA 16 1 k32 (Vector.replicate 16 0)),.var (eA 16 1 k32 (s2.setIfInBounds ((I64 (4+s3)).toNat) r5))])) fun e7=>?_
    exact fun h=>At.k 2 ⟨_,_,h,jr⟩
   ·apply rt;exact At.x 0
 ·refine At.L 1 [6,7] 2 (fun p8=>([],[(1,.var (eA 16 1 k32 p8))],[])) (fun p8 J k=>∃ s9 s10,mA N a2 k s9 s10=some p8∧J [5,6,7] 2 [(23,(j64 s10))] [(1,.var (eA 16 1 k32 s9))] []) N (fun _ h=>⟨_,_,h,jr⟩) (fun p8 k s hI=>?_) fun p8=>?_
  ·obtain ⟨s9,s10,h,hj⟩:=hI
   cases k with
   | zero=>cases h
   | succ k=>
    refine At.jr hj ?_ h
    refine At.c 1 ?_ ?_
    ·refine At.b 6 (fun _ e=>aAz hT (N:=12) (k:=1) k8 a2 e) fun s11=>?_
     refine At.b 0 (fun _ e=>aN [] (aAp e)) fun r12=>?_
     refine At.b 0 (fun _ e=>bG hT (k:=1) 1 [] 0 e) fun u13=>?_
     refine At.b 0 (fun _ e=>nS hT k32 0 s9 e r12 (by kernel_rfl) (by kernel_rfl) (H':=[.var (eA 16 1 k32 (Vector.replicate 16 0)),.var (eA 16 1 k32 (s9.setIfInBounds ((I64 (13+s10)).toNat) r12))])) fun e14=>?_
     exact fun h=>At.k 2 ⟨_,_,h,jr⟩
    ·apply rt;exact At.x 0
  ·apply rt;exact At.r 2
def dX (N:Nat) (a0 a1:Int):Option (Int):=
 Option.bind (aI4 .u32 a0 (eK .u64 (U64 a1) 31)) fun x1=>
 aV (U64 (32 - (eK .u64 (U64 a1) 31))) fun x2=>
 Option.bind (aE8 .u32 a0 x2) fun x3=>
 some (bor .u32 x1 x3)
theorem kM {N a0 a1 r} (h:dX N a0 a1=some r):FnM Tryz.prog 269 [] [(k32 a0),(j64 a1)] (k32 r) []:=by
 unfold dX at h
 refine At.f dM hT hmo Tryz.func269 rfl h ?_
 refine At.b 7 (fun _ e=>aCG hT (k' := .u64) e (by kernel_rfl) (by kernel_rfl)) fun x1=>?_
 refine lx ?_;intro x2
 refine At.b 3 (fun _ e=>xS hT (k' := .u64) e (by kernel_rfl) (by kernel_rfl)) fun x3=>?_
 apply rt;exact At.r 2
def aDw : Nat→Bool:=imL [1]
def pZ (N:Nat) (a0:(Vector Int 4)):Option ((Vector Int 4)):=
 Option.bind (idx a0.toList 0) fun e1=>
 Option.bind (idx a0.toList 1) fun e2=>
 Option.bind (idx a0.toList 2) fun e3=>
 Option.bind (idx a0.toList 3) fun e4=>
 aV (bxor .u32 e4 (U32 (e1+e2))) fun x5=>
 Option.bind (dX N x5 16) fun r6=>
 aV (bxor .u32 e2 (U32 (e3+r6))) fun x7=>
 Option.bind (dX N x7 12) fun r8=>
 aV (U32 ((U32 (e1+e2))+r8)) fun x9=>
 Option.bind (dX N (bxor .u32 r6 x9) 8) fun r10=>
 aV (U32 ((U32 (e3+r6))+r10)) fun x11=>
 Option.bind (dX N (bxor .u32 r8 x11) 7) fun r12=>
 some (#v[x9,r12,x11,r10])
theorem aDX {N a0 r} (h:pZ N a0=some r):FnM Tryz.prog 253 [] [(eA 4 1 k32 a0)] (eA 4 1 k32 r) []:=by
 unfold pZ at h
 refine At.f aDw hT hmo Tryz.func253 rfl h ?_
 refine bi fun e1 he1=>?_
 refine bi fun e2 he2=>?_
 refine bi fun e3 he3=>?_
 refine bi fun e4 he4=>?_
 refine At.d 2 (dE1 0 (fun _=>cL hT (N:=4) (k:=1) k32 a0 he1) (dE1 2 (fun _=>cL hT (N:=4) (k:=1) k32 a0 he2) (dE1 4 (fun _=>cL hT (N:=4) (k:=1) k32 a0 he3) (dE1 6 (fun _=>cL hT (N:=4) (k:=1) k32 a0 he4) dE0)))) dF0 ?_
 refine lx ?_;intro x5
 refine At.b 7 (fun _ e=>aN [] (kM e)) fun r6=>?_
 refine lx ?_;intro x7
 refine At.b 8 (fun _ e=>aN [] (kM e)) fun r8=>?_
 refine lx ?_;intro x9
 refine At.b 8 (fun _ e=>aN [] (kM e)) fun r10=>?_
 refine lx ?_;intro x11
 refine At.b 8 (fun _ e=>aN [] (kM e)) fun r12=>?_
 apply rt;exact At.r 7
def aGY : Nat→Bool:=imL [3,5]
def kB (N:Nat)  : Nat→(Vector Int 16)→Int→Option ((Vector Int 16))
 | 0,_,_=>none
 | k+1,s6,s7=>
  cond (decide (s7 < 8)) (
   Option.bind (idx (#v[#v[0,4,8,12],#v[1,5,9,13],#v[2,6,10,14],#v[3,7,11,15],#v[0,5,10,15],#v[1,6,11,12],#v[2,7,8,13],#v[3,4,9,14]]).toList s7) fun e8=>
   Option.bind (fH 0 4) fun _=>
   Option.bind (e8.toList[(Int.toNat 0)]?) fun e10=>
   Option.bind (fH e10 16) fun _=>
   Option.bind (s6.toList[e10.toNat]?) fun e12=>
   Option.bind (fH 1 4) fun _=>
   Option.bind (e8.toList[(Int.toNat 1)]?) fun e14=>
   Option.bind (fH e14 16) fun _=>
   Option.bind (s6.toList[e14.toNat]?) fun e16=>
   Option.bind (fH 2 4) fun _=>
   Option.bind (e8.toList[(Int.toNat 2)]?) fun e18=>
   Option.bind (fH e18 16) fun _=>
   Option.bind (s6.toList[e18.toNat]?) fun e20=>
   Option.bind (fH 3 4) fun _=>
   Option.bind (e8.toList[(Int.toNat 3)]?) fun e22=>
   Option.bind (fH e22 16) fun _=>
   Option.bind (s6.toList[e22.toNat]?) fun e24=>
   Option.bind (pZ N (#v[e12,e16,e20,e24])) fun r25=>
   Option.bind (fH 0 4) fun _=>
   Option.bind (e8.toList[(Int.toNat 0)]?) fun e27=>
   Option.bind (fH 1 4) fun _=>
   Option.bind (e8.toList[(Int.toNat 1)]?) fun e29=>
   Option.bind (fH 2 4) fun _=>
   Option.bind (e8.toList[(Int.toNat 2)]?) fun e31=>
   Option.bind (fH 3 4) fun _=>
   Option.bind (e8.toList[(Int.toNat 3)]?) fun e33=>
   Option.bind (fH 0 4) fun _=>
   Option.bind (r25.toList[(Int.toNat 0)]?) fun e35=>
   Option.bind (fH 1 4) fun _=>
   Option.bind (r25.toList[(Int.toNat 1)]?) fun e37=>
   Option.bind (fH 2 4) fun _=>
   Option.bind (r25.toList[(Int.toNat 2)]?) fun e39=>
   Option.bind (fH 3 4) fun _=>
   Option.bind (r25.toList[(Int.toNat 3)]?) fun e41=>
   Option.bind (fH e27 16) fun _=>
   Option.bind (s6.toList[e27.toNat]?) fun e43=>
   Option.bind (fH e29 16) fun _=>
   Option.bind ((s6.setIfInBounds e27.toNat e35).toList[e29.toNat]?) fun e45=>
   Option.bind (fH e31 16) fun _=>
   Option.bind (((s6.setIfInBounds e27.toNat e35).setIfInBounds e29.toNat e37).toList[e31.toNat]?) fun e47=>
   Option.bind (fH e33 16) fun _=>
   Option.bind ((((s6.setIfInBounds e27.toNat e35).setIfInBounds e29.toNat e37).setIfInBounds e31.toNat e39).toList[e33.toNat]?) fun e49=>
   kB N k ((((s6.setIfInBounds e27.toNat e35).setIfInBounds e29.toNat e37).setIfInBounds e31.toNat e39).setIfInBounds e33.toNat e41) (I64 (s7+1))) (
   some s6)
def mE (N:Nat)  : Nat→(Vector Int 16)→Int→Option ((Vector Int 16))
 | 0,_,_=>none
 | k+1,s3,s4=>
  cond (decide (s4 < 10)) (
   Option.bind (kB N N s3 0) fun p5=>
   mE N k p5 (I64 (s4+1))) (
   some s3)
def mC (N:Nat) (p2 r1:(Vector Int 16)):Nat→(Vector Int 64)→Int→Option ((Vector Int 64))
 | 0,_,_=>none
 | k+1,s51,s52=>
  cond (decide (s52 < 16)) (
   Option.bind (idx p2.toList s52) fun e53=>
   Option.bind (fH s52 16) fun _=>
   Option.bind (r1.toList[s52.toNat]?) fun e55=>
   aV (I64 ((I64 (4*s52))+1)) fun x56=>
   aV (I64 ((I64 (4*s52))+2)) fun x57=>
   aV (I64 ((I64 (4*s52))+3)) fun x58=>
   aV (shr .u32 (U32 (e53+e55)) 8) fun x59=>
   aV (shr .u32 (U32 (e53+e55)) 16) fun x60=>
   aV (shr .u32 (U32 (e53+e55)) 24) fun x61=>
   Option.bind (fH (I64 (4*s52)) 64) fun _=>
   Option.bind (s51.toList[(I64 (4*s52)).toNat]?) fun e63=>
   Option.bind (fH x56 64) fun _=>
   Option.bind ((s51.setIfInBounds ((I64 (4*s52)).toNat) (U8 (U32 (e53+e55)))).toList[x56.toNat]?) fun e65=>
   Option.bind (fH x57 64) fun _=>
   Option.bind (((s51.setIfInBounds ((I64 (4*s52)).toNat) (U8 (U32 (e53+e55)))).setIfInBounds x56.toNat (U8 x59)).toList[x57.toNat]?) fun e67=>
   Option.bind (fH x58 64) fun _=>
   Option.bind ((((s51.setIfInBounds ((I64 (4*s52)).toNat) (U8 (U32 (e53+e55)))).setIfInBounds x56.toNat (U8 x59)).setIfInBounds x57.toNat (U8 x60)).toList[x58.toNat]?) fun e69=>
   mC N p2 r1 k ((((s51.setIfInBounds ((I64 (4*s52)).toNat) (U8 (U32 (e53+e55)))).setIfInBounds x56.toNat (U8 x59)).setIfInBounds x57.toNat (U8 x60)).setIfInBounds x58.toNat (U8 x61)) (I64 (s52+1))) (
   some s51)
def sA (N:Nat) (a0:(Vector Int 32)) (a1:Int) (a2:(Vector Int 12)):Option ((Vector Int 64)):=
 Option.bind (sH N a0 a1 a2) fun r1=>
 Option.bind (mE N N r1 0) fun p2=>
 Option.bind (mC N p2 r1 N (Vector.replicate 64 0) 0) fun p50=>
 some p50
theorem aE4 {N a0 a1 a2 r} (h:sA N a0 a1 a2=some r):FnM Tryz.prog 213 [] [(eA 32 1 k8 a0),(k32 a1),(eA 12 1 k8 a2)] (eA 64 1 k8 r) []:=by
 unfold sA at h
 refine At.f aGY hT hmo Tryz.func213 rfl h ?_
 refine At.b 6 (fun _ e=>aN [] (aE5 e)) fun r1=>?_
 refine At.L 17 [6,7,8] 4 (fun p2=>([],[(2,.var (eA 16 1 k32 p2))],[])) (fun p2 J k=>∃ s3 s4,mE N k s3 s4=some p2∧J [6,7,8,9] 4 [(30,(j64 s4))] [(2,.var (eA 16 1 k32 s3))] []) N (fun _ h=>⟨_,_,h,jr⟩) (fun p2 k s hI=>?_) fun p2=>?_
 ·obtain ⟨s3,s4,h,hj⟩:=hI
  cases k with
  | zero=>cases h
  | succ k=>
   refine At.jr hj ?_ h
   refine At.c 1 ?_ ?_
   ·refine At.L 2 [6,7,8,9,30] 4 (fun p5=>([],[(2,.var (eA 16 1 k32 p5))],[])) (fun p5 J k=>∃ s6 s7,kB N k s6 s7=some p5∧J [6,7,8,9,30,32] 4 [(33,(j64 s7))] [(2,.var (eA 16 1 k32 s6))] []) N (fun _ h=>⟨_,_,h,jr⟩) (fun p5 k s hI=>?_) fun p5=>?_
    ·obtain ⟨s6,s7,h,hj⟩:=hI
     cases k with
     | zero=>cases h
     | succ k=>
      refine At.jr hj ?_ h
      refine At.c 1 ?_ ?_
      ·refine At.b 0 (fun _ e=>zX hT (eA 4 1 j64) (#v[#v[0,4,8,12],#v[1,5,9,13],#v[2,6,10,14],#v[3,7,11,15],#v[0,5,10,15],#v[1,6,11,12],#v[2,7,8,13],#v[3,4,9,14]]) e (by kernel_rfl) (by kernel_rfl)) fun e8=>?_
       refine bi fun u9 hu9=>?_
       refine bi fun e10 he10=>?_
       refine bi fun u11 hu11=>?_
       refine bi fun e12 he12=>?_
       refine bi fun u13 hu13=>?_
       refine bi fun e14 he14=>?_
       refine bi fun u15 hu15=>?_
       refine bi fun e16 he16=>?_
       refine bi fun u17 hu17=>?_
       refine bi fun e18 he18=>?_
       refine bi fun u19 hu19=>?_
       refine bi fun e20 he20=>?_
       refine bi fun u21 hu21=>?_
       refine bi fun e22 he22=>?_
       refine bi fun u23 hu23=>?_
       refine bi fun e24 he24=>?_
       refine bi fun r25 hr25=>?_
       refine At.d 2 (dE1 0 (fun _=>bG hT (k:=1) 4 [] 0 hu9) (dEL hT 1 (j64 e10) j64 0 he10 (dE1 2 (fun _=>bG hT (k:=1) 2 [] 0 hu11) (dEL hT 3 (k32 e12) k32 0 he12 (dE1 4 (fun _=>bG hT (k:=1) 4 [] 0 hu13) (dEL hT 5 (j64 e14) j64 0 he14 (dE1 6 (fun _=>bG hT (k:=1) 2 [] 0 hu15) (dEL hT 7 (k32 e16) k32 0 he16 (dE1 8 (fun _=>bG hT (k:=1) 4 [] 0 hu17) (dEL hT 9 (j64 e18) j64 0 he18 (dE1 10 (fun _=>bG hT (k:=1) 2 [] 0 hu19) (dEL hT 11 (k32 e20) k32 0 he20 (dE1 12 (fun _=>bG hT (k:=1) 4 [] 0 hu21) (dEL hT 13 (j64 e22) j64 0 he22 (dE1 14 (fun _=>bG hT (k:=1) 2 [] 0 hu23) (dEL hT 15 (k32 e24) k32 0 he24 (dE2 17 (eA 4 1 k32 r25) (fun _=>aO (aDX hr25)) dE0))))))))))))))))) dF0 ?_
       refine bi fun u26 hu26=>?_
       refine bi fun e27 he27=>?_
       refine bi fun u28 hu28=>?_
       refine bi fun e29 he29=>?_
       refine bi fun u30 hu30=>?_
       refine bi fun e31 he31=>?_
       refine bi fun u32 hu32=>?_
       refine bi fun e33 he33=>?_
       refine bi fun u34 hu34=>?_
       refine bi fun e35 he35=>?_
       refine bi fun u36 hu36=>?_
       refine bi fun e37 he37=>?_
       refine bi fun u38 hu38=>?_
       refine bi fun e39 he39=>?_
       refine bi fun u40 hu40=>?_
       refine bi fun e41 he41=>?_
       refine bi fun u42 hu42=>?_
       refine bi fun e43 he43=>?_
       refine bi fun u44 hu44=>?_
       refine bi fun e45 he45=>?_
       refine bi fun u46 hu46=>?_
       refine bi fun e47 he47=>?_
       refine bi fun u48 hu48=>?_
       refine bi fun e49 he49=>?_
       refine At.d 0 (dE1 0 (fun _=>bG hT (k:=1) 4 [] 0 hu26) (dEL hT 1 (j64 e27) j64 0 he27 (dE1 2 (fun _=>bG hT (k:=1) 4 [] 0 hu28) (dEL hT 3 (j64 e29) j64 0 he29 (dE1 4 (fun _=>bG hT (k:=1) 4 [] 0 hu30) (dEL hT 5 (j64 e31) j64 0 he31 (dE1 6 (fun _=>bG hT (k:=1) 4 [] 0 hu32) (dEL hT 7 (j64 e33) j64 0 he33 (dE1 8 (fun _=>bG hT (k:=1) 5 [] 0 hu34) (dEL hT 9 (k32 e35) k32 0 he35 (dE1 10 (fun _=>bG hT (k:=1) 5 [] 0 hu36) (dEL hT 11 (k32 e37) k32 0 he37 (dE1 12 (fun _=>bG hT (k:=1) 5 [] 0 hu38) (dEL hT 13 (k32 e39) k32 0 he39 (dE1 14 (fun _=>bG hT (k:=1) 5 [] 0 hu40) (dEL hT 15 (k32 e41) k32 0 he41 (dE1 16 (fun _=>bG hT (k:=1) 2 [] 0 hu42) (dE1 18 (fun _=>bG hT (k:=1) 2 [] 0 hu44) (dE1 20 (fun _=>bG hT (k:=1) 2 [] 0 hu46) (dE1 22 (fun _=>bG hT (k:=1) 2 [] 0 hu48) dE0)))))))))))))))))))) (dF 17 (.v (.bool false)) [(2,.var (eA 16 1 k32 (s6.setIfInBounds e27.toNat e35)))] [] (bS (nS hT k32 0 s6 he43 e35 (by kernel_rfl) (by kernel_rfl) (H':=[.var (eA 64 1 k8 (Vector.replicate 64 0)),.var (eA 16 1 k32 r1),.var (eA 16 1 k32 (s6.setIfInBounds e27.toNat e35)),.var aJt,.var (eA 4 1 j64 e8),.var (eA 4 1 k32 r25)]))) (dF 19 (.v (.bool false)) [(2,.var (eA 16 1 k32 ((s6.setIfInBounds e27.toNat e35).setIfInBounds e29.toNat e37)))] [] (bS (nS hT k32 0 (s6.setIfInBounds e27.toNat e35) he45 e37 (by kernel_rfl) (by kernel_rfl) (H':=[.var (eA 64 1 k8 (Vector.replicate 64 0)),.var (eA 16 1 k32 r1),.var (eA 16 1 k32 ((s6.setIfInBounds e27.toNat e35).setIfInBounds e29.toNat e37)),.var aJt,.var (eA 4 1 j64 e8),.var (eA 4 1 k32 r25)]))) (dF 21 (.v (.bool false)) [(2,.var (eA 16 1 k32 (((s6.setIfInBounds e27.toNat e35).setIfInBounds e29.toNat e37).setIfInBounds e31.toNat e39)))] [] (bS (nS hT k32 0 ((s6.setIfInBounds e27.toNat e35).setIfInBounds e29.toNat e37) he47 e39 (by kernel_rfl) (by kernel_rfl) (H':=[.var (eA 64 1 k8 (Vector.replicate 64 0)),.var (eA 16 1 k32 r1),.var (eA 16 1 k32 (((s6.setIfInBounds e27.toNat e35).setIfInBounds e29.toNat e37).setIfInBounds e31.toNat e39)),.var aJt,.var (eA 4 1 j64 e8),.var (eA 4 1 k32 r25)]))) (dF 23 (.v (.bool false)) [(2,.var (eA 16 1 k32 ((((s6.setIfInBounds e27.toNat e35).setIfInBounds e29.toNat e37).setIfInBounds e31.toNat e39).setIfInBounds e33.toNat e41)))] [] (bS (nS hT k32 0 (((s6.setIfInBounds e27.toNat e35).setIfInBounds e29.toNat e37).setIfInBounds e31.toNat e39) he49 e41 (by kernel_rfl) (by kernel_rfl) (H':=[.var (eA 64 1 k8 (Vector.replicate 64 0)),.var (eA 16 1 k32 r1),.var (eA 16 1 k32 ((((s6.setIfInBounds e27.toNat e35).setIfInBounds e29.toNat e37).setIfInBounds e31.toNat e39).setIfInBounds e33.toNat e41)),.var aJt,.var (eA 4 1 j64 e8),.var (eA 4 1 k32 r25)]))) dF0)))) ?_
       exact fun h=>At.k 2 ⟨_,_,h,jr⟩
      ·apply rt;exact At.x 0
    ·exact fun h=>At.k 2 ⟨_,_,h,jr⟩
   ·apply rt;exact At.x 0
 ·refine At.L 3 [6,13] 5 (fun p50=>([],[(4,.var (eA 64 1 k8 p50))],[])) (fun p50 J k=>∃ s51 s52,mC N p2 r1 k s51 s52=some p50∧J [6,7,13,76] 5 [(77,(j64 s52))] [(4,.var (eA 64 1 k8 s51))] []) N (fun _ h=>⟨_,_,h,jr⟩) (fun p50 k s hI=>?_) fun p50=>?_
  ·obtain ⟨s51,s52,h,hj⟩:=hI
   cases k with
   | zero=>cases h
   | succ k=>
    refine At.jr hj ?_ h
    refine At.c 1 ?_ ?_
    ·refine At.b 1 (fun _ e=>zX hT k32 p2 e (by kernel_rfl) (by kernel_rfl)) fun e53=>?_
     refine At.b 4 (fun _ e=>bG hT (k:=1) 1 [] 0 e) fun u54=>?_
     refine At.b 0 (fun _ e=>pE hT k32 0 e) fun e55=>?_
     refine lx ?_;intro x56
     refine lx ?_;intro x57
     refine lx ?_;intro x58
     refine lx ?_;intro x59
     refine lx ?_;intro x60
     refine lx ?_;intro x61
     refine At.b 24 (fun _ e=>bG hT (k:=1) 4 [] 0 e) fun u62=>?_
     refine At.b 0 (fun _ e=>nS hT k8 0 s51 e (U8 (U32 (e53+e55))) (by kernel_rfl) (by kernel_rfl) (H':=[.var (eA 64 1 k8 (Vector.replicate 64 0)),.var (eA 16 1 k32 r1),.var (eA 16 1 k32 p2),.var aJt,.var (eA 64 1 k8 (s51.setIfInBounds ((I64 (4*s52)).toNat) (U8 (U32 (e53+e55)))))])) fun e63=>?_
     refine At.b 0 (fun _ e=>bG hT (k:=1) 4 [] 0 e) fun u64=>?_
     refine At.b 0 (fun _ e=>nS hT k8 0 (s51.setIfInBounds ((I64 (4*s52)).toNat) (U8 (U32 (e53+e55)))) e (U8 x59) (by kernel_rfl) (by kernel_rfl) (H':=[.var (eA 64 1 k8 (Vector.replicate 64 0)),.var (eA 16 1 k32 r1),.var (eA 16 1 k32 p2),.var aJt,.var (eA 64 1 k8 ((s51.setIfInBounds ((I64 (4*s52)).toNat) (U8 (U32 (e53+e55)))).setIfInBounds x56.toNat (U8 x59)))])) fun e65=>?_
     refine At.b 0 (fun _ e=>bG hT (k:=1) 4 [] 0 e) fun u66=>?_
     refine At.b 0 (fun _ e=>nS hT k8 0 ((s51.setIfInBounds ((I64 (4*s52)).toNat) (U8 (U32 (e53+e55)))).setIfInBounds x56.toNat (U8 x59)) e (U8 x60) (by kernel_rfl) (by kernel_rfl) (H':=[.var (eA 64 1 k8 (Vector.replicate 64 0)),.var (eA 16 1 k32 r1),.var (eA 16 1 k32 p2),.var aJt,.var (eA 64 1 k8 (((s51.setIfInBounds ((I64 (4*s52)).toNat) (U8 (U32 (e53+e55)))).setIfInBounds x56.toNat (U8 x59)).setIfInBounds x57.toNat (U8 x60)))])) fun e67=>?_
     refine At.b 0 (fun _ e=>bG hT (k:=1) 4 [] 0 e) fun u68=>?_
     refine At.b 0 (fun _ e=>nS hT k8 0 (((s51.setIfInBounds ((I64 (4*s52)).toNat) (U8 (U32 (e53+e55)))).setIfInBounds x56.toNat (U8 x59)).setIfInBounds x57.toNat (U8 x60)) e (U8 x61) (by kernel_rfl) (by kernel_rfl) (H':=[.var (eA 64 1 k8 (Vector.replicate 64 0)),.var (eA 16 1 k32 r1),.var (eA 16 1 k32 p2),.var aJt,.var (eA 64 1 k8 ((((s51.setIfInBounds ((I64 (4*s52)).toNat) (U8 (U32 (e53+e55)))).setIfInBounds x56.toNat (U8 x59)).setIfInBounds x57.toNat (U8 x60)).setIfInBounds x58.toNat (U8 x61)))])) fun e69=>?_
     exact fun h=>At.k 2 ⟨_,_,h,jr⟩
    ·apply rt;exact At.x 0
  ·apply rt;exact At.r 2
def aBn : Nat→Bool:=imL [2]
def iE (N:Nat) (a0:bK):Nat→(Vector Int 12)→Int→Option ((Vector Int 12))
 | 0,_,_=>none
 | k+1,s2,s3=>
  cond (decide (s3 < 4)) (
   Option.bind (aE8 .u32 a0.gE3 (I64 (8*s3))) fun x4=>
   Option.bind (aE8 .u32 a0.gE4 (I64 (8*s3))) fun x5=>
   Option.bind (fH s3 12) fun _=>
   Option.bind (s2.toList[s3.toNat]?) fun e7=>
   Option.bind (fH (I64 (4+s3)) 12) fun _=>
   Option.bind ((s2.setIfInBounds s3.toNat (U8 x4)).toList[(I64 (4+s3)).toNat]?) fun e9=>
   iE N a0 k ((s2.setIfInBounds s3.toNat (U8 x4)).setIfInBounds ((I64 (4+s3)).toNat) (U8 x5)) (I64 (s3+1))) (
   some s2)
def iI (N:Nat) (a0:bK) (a1:Int):Option ((Vector Int 64)):=
 Option.bind (iE N a0 N (Vector.replicate 12 0) 0) fun p1=>
 Option.bind (vO N a1) fun r10=>
 Option.bind (sA N r10 a0.gE5 p1) fun r11=>
 some r11
theorem aBT {N a0 a1 r} (h:iI N a0 a1=some r):FnM Tryz.prog 146 [] [(bK.enc a0),(k64 a1)] (eA 64 1 k8 r) []:=by
 unfold iI at h
 refine At.f aBn hT hmo Tryz.func146 rfl h ?_
 refine At.L 4 [1,2,4,5] 2 (fun p1=>([],[(1,.var (eA 12 1 k8 p1))],[])) (fun p1 J k=>∃ s2 s3,iE N a0 k s2 s3=some p1∧J [1,2,4,5] 2 [(7,(j64 s3))] [(1,.var (eA 12 1 k8 s2))] []) N (fun _ h=>⟨_,_,h,jr⟩) (fun p1 k s hI=>?_) fun p1=>?_
 ·obtain ⟨s2,s3,h,hj⟩:=hI
  cases k with
  | zero=>cases h
  | succ k=>
   refine At.jr hj ?_ h
   refine At.c 1 ?_ ?_
   ·refine bi fun x4 hx4=>?_
    refine bi fun x5 hx5=>?_
    refine bi fun u6 hu6=>?_
    refine bi fun e7 he7=>?_
    refine bi fun u8 hu8=>?_
    refine bi fun e9 he9=>?_
    refine At.d 2 (dE1 7 (fun _=>xS hT (k' := .i64) hx4 (by kernel_rfl) (by kernel_rfl)) (dE1 13 (fun _=>xS hT (k' := .i64) hx5 (by kernel_rfl) (by kernel_rfl)) (dE1 15 (fun _=>bG hT (k:=1) 1 [] 0 hu6) (dE1 17 (fun _=>bG hT (k:=1) 1 [] 0 hu8) dE0)))) (dF 16 (.v (.bool false)) [(1,.var (eA 12 1 k8 (s2.setIfInBounds s3.toNat (U8 x4))))] [] (bS (nS hT k8 0 s2 he7 (U8 x4) (by kernel_rfl) (by kernel_rfl) (H':=[.var (eA 64 1 k8 (Vector.replicate 64 0)),.var (eA 12 1 k8 (s2.setIfInBounds s3.toNat (U8 x4)))]))) (dF 18 (.v (.bool false)) [(1,.var (eA 12 1 k8 ((s2.setIfInBounds s3.toNat (U8 x4)).setIfInBounds ((I64 (4+s3)).toNat) (U8 x5))))] [] (bS (nS hT k8 0 (s2.setIfInBounds s3.toNat (U8 x4)) he9 (U8 x5) (by kernel_rfl) (by kernel_rfl) (H':=[.var (eA 64 1 k8 (Vector.replicate 64 0)),.var (eA 12 1 k8 ((s2.setIfInBounds s3.toNat (U8 x4)).setIfInBounds ((I64 (4+s3)).toNat) (U8 x5)))]))) dF0)) ?_
    exact fun h=>At.k 2 ⟨_,_,h,jr⟩
   ·apply rt;exact At.x 0
 ·refine bi fun r10 hr10=>?_
  refine bi fun r11 hr11=>?_
  refine At.d 0 (dE2 1 (eA 32 1 k8 r10) (fun _=>aO (aG6 hr10)) (dE2 5 (eA 64 1 k8 r11) (fun _=>aO (aE4 hr11)) dE0)) dF0 ?_
  apply rt;exact At.r 0
def aEt : Nat→Bool:=imL [2]
def oA (N:Nat) (a0:(Vector Int 64)) (a1:Int):Option (Int):=
 aV (I64 (4*(eK .i64 a1 15))) fun x1=>
 Option.bind (idx a0.toList x1) fun e2=>
 Option.bind (idx a0.toList (I64 (x1+1))) fun e3=>
 aV (bor .u32 (U32 e2) (shl .u32 (U32 e3) 8)) fun x4=>
 Option.bind (idx a0.toList (I64 (x1+2))) fun e5=>
 aV (bor .u32 x4 (shl .u32 (U32 e5) 16)) fun x6=>
 Option.bind (idx a0.toList (I64 (x1+3))) fun e7=>
 aV (bor .u32 x6 (shl .u32 (U32 e7) 24)) fun x8=>
 some x8
theorem aEG {N a0 a1 r} (h:oA N a0 a1=some r):FnM Tryz.prog 147 [] [(eA 64 1 k8 a0),(j64 a1)] (k32 r) []:=by
 unfold oA at h
 refine At.f aEt hT hmo Tryz.func147 rfl h ?_
 refine lx ?_;intro x1
 refine bi fun e2 he2=>?_
 refine bi fun e3 he3=>?_
 refine lx ?_;intro x4
 refine bi fun e5 he5=>?_
 refine lx ?_;intro x6
 refine bi fun e7 he7=>?_
 refine lx ?_;intro x8
 refine At.d 6 (dE1 1 (fun _=>cL hT (N:=64) (k:=1) k8 a0 he2) (dE1 6 (fun _=>cL hT (N:=64) (k:=1) k8 a0 he3) (dE1 13 (fun _=>cL hT (N:=64) (k:=1) k8 a0 he5) (dE1 20 (fun _=>cL hT (N:=64) (k:=1) k8 a0 he7) dE0)))) dF0 ?_
 apply rt;exact At.r 0
def fW (N:Nat) (a0 a1:Int) (a2:aA):Option (aU×Int):=
 cond (!a2.gA) (
  some ((a2.gD1,0))) (
  Option.bind (Option.bind (pY N a2.gB a2.gD a0 a1) fun r2=>
  Option.bind (cond (!a2.gD1.gis) (
   some true) (
   some (!(bK.eq r2 a2.gD1.gE6)))) fun p3=>
  cond p3 (
   Option.bind (iI N r2 a2.gC) fun r4=>
   some ((aU.mk r2 true r4,r2))) (
   some ((a2.gD1,r2)))) fun p1=>
  Option.bind (oA N p1.1.gE7 a1) fun r5=>
  some ((p1.1,r5)))
theorem tI {N a0 a1 a2 r} (h:fW N a0 a1 a2=some r):FnM Tryz.prog 76 [.var (aA.enc a2)] [(.ref 0 [] 0),(j64 a0),(j64 a1)] (k32 r.2) [.var (.st 72 [(aU.enc r.1),(eB a2.gA),(k64 a2.gC),(j64 a2.gB),(j64 a2.gD)])]:=by
 unfold fW at h
 refine At.f dM hT hmo Tryz.func76 rfl h ?_
 refine At.o 2 (pG hT (t:=96) (x:=(.ref 0 [] 0)) (b:=true) (by kernel_rfl) rfl rfl (by kernel_rfl)) ?_
 refine At.g [10] 7 ?_
 refine At.c 0 ?_ ?_
 ·apply rt;exact At.r 1
 ·refine At.J 0 1 [0,2] 1 (fun p1=>([],[(0,.var (.st 72 [(aU.enc p1.1),(eB a2.gA),(k64 a2.gC),(j64 a2.gB),(j64 a2.gD)]))],[.var (bK.enc p1.2)])) (fun p1=>?_) fun p1=>?_
  ·refine bi fun r2 hr2=>?_
   refine At.d 0 (dE2 10 (bK.enc r2) (fun _=>aO (aE3 hr2)) dE0) dF0 ?_
   refine At.J 0 0 [0,2,7] 2 (fun p3=>([(42,(eB p3))],[],[])) (fun p3=>?_) fun p3=>?_
   ·refine boI (fun hc6=>?_) (fun hc6=>?_)
    ·refine At.d 0 (dE1 6 (fun _=>dO hc6 rfl (dC hT (im:=false) (by kernel_rfl))) dE0) dF0 ?_
     apply rt;exact At.jn 0
    ·refine At.d 0 (dE1 6 (fun _=>dO hc6 rfl (dC hT (im:=false) (by kernel_rfl))) (dE1 13 (fun _=>zZ aQa (r2:bK) (a2.gD1.gE6:bK) (by kernel_rfl) (by kernel_rfl) (fun _=>rfl) (fun _=>rfl) (by kernel_rfl) (by kernel_rfl)) dE0)) dF0 ?_
     apply rt;exact At.jn 0
   ·refine At.c 0 ?_ ?_
    ·refine bi fun r4 hr4=>?_
     refine At.d 0 (dE2 7 (eA 64 1 k8 r4) (fun _=>aO (aBT hr4)) dE0) dF0 ?_
     apply rt;exact At.jn 0
    ·apply rt;exact At.jn 0
  ·refine At.b 6 (fun _ e=>aN [] (aEG e)) fun r5=>?_
   apply rt;exact At.r 1
def dW (N:Nat) (b4:(List (List aD))) (a1:Int) (a2:aH) (a3 a4:aB) (a5:Int) (a6:Bool) (a7:aG) (a8:aF) (a9:aI) (a10:aB) (a11:aJ) (a12:aA) (a13:aM):Option (aU×Int):=
 Option.bind (fW N a5 a1 a12) fun r1=>
 some ((r1.1,r1.2))
theorem dA {N b4 a1 a2 a3 a4 a5 a6 a7 a8 a9 a10 a11 a12 a13 r} (h:dW N b4 a1 a2 a3 a4 a5 a6 a7 a8 a9 a10 a11 a12 a13=some r):FnM Tryz.prog 32 [.var (.st 26 [(aH.enc a2),(.ref 1 [] 0),(.ref 2 [] 0),(aB.enc a3),(aB.enc a4),(j64 a5),(eB a6),(aG.enc a7)]),.var (.st 38 [(aF.enc a8),(aI.enc a9),(.ifc 91 (.ref 3 [] 0)),(eO 4 1 (eL 2 aD.enc) b4),(aB.enc a10),(aJ.enc a11)]),.var (aA.enc a12),.var (aM.enc a13),.tail (b4.length*1)] [(.ref 0 [] 0),(j64 a1)] (k32 r.2) [.var (.st 26 [(aH.enc a2),(.ref 1 [] 0),(.ref 2 [] 0),(aB.enc a3),(aB.enc a4),(j64 a5),(eB a6),(aG.enc a7)]),.var (.st 38 [(aF.enc a8),(aI.enc a9),(.ifc 91 (.ref 3 [] 0)),(eO 4 1 (eL 2 aD.enc) b4),(aB.enc a10),(aJ.enc a11)]),.var (.st 72 [(aU.enc r.1),(eB a12.gA),(k64 a12.gC),(j64 a12.gB),(j64 a12.gD)]),.var (aM.enc a13),.tail (b4.length*1)]:=by
 unfold dW at h
 refine At.f dM hT hmo Tryz.func32 rfl h ?_
 refine bi fun r1 hr1=>?_
 refine At.d 1 dE0 (dF 9 (k32 r1.2) [(2,.var (.st 72 [(aU.enc r1.1),(eB a12.gA),(k64 a12.gC),(j64 a12.gB),(j64 a12.gD)]))] [] (bS (aN [2] (tI hr1))) dF0) ?_
 apply rt;exact At.r 0
def oW (N:Nat) (a0:Int):Option (Int):=
 some (I64 a0)
theorem yV {N a0 r} (h:oW N a0=some r):FnM Tryz.prog 148 [] [(k32 a0)] (j64 r) []:=by
 unfold oW at h
 refine At.f dM hT hmo Tryz.func148 rfl h ?_
 apply rt;exact At.r 4
def sR (N:Nat) (a0 a1:Int):Option (Int):=
 aV (cond (decide (a0≥0)) (decide (a1 < 0)) false) fun x1=>
 aV (decide ((I64 (a0 - a1)) < 0)) fun x2=>
 cond (cond x1 x2 false) (
  some 9223372036854775807) (
  aV (cond (decide (a0 < 0)) (decide (a1 > 0)) false) fun x3=>
  aV (decide ((I64 (a0 - a1))≥0)) fun x4=>
  cond (cond x3 x4 false) (some (-9223372036854775808)) (some (I64 (a0 - a1))))
theorem yW {N a0 a1 r} (h:sR N a0 a1=some r):FnM Tryz.prog 149 [] [(j64 a0),(j64 a1)] (j64 r) []:=by
 unfold sR at h
 refine At.f dM hT hmo Tryz.func149 rfl h ?_
 refine lx ?_;intro x1
 refine lx ?_;intro x2
 refine At.c 16 ?_ ?_
 ·apply rt;exact At.r 1
 ·refine lx ?_;intro x3
  refine lx ?_;intro x4
  refine At.c 11 ?_ ?_
  ·apply rt;exact At.r 1
  ·apply rt;exact At.r 2
def aO8 : Nat→Bool:=imL [1]
def mP (N:Nat) (a0:aC):Option (aB):=
 Option.bind (jO N a0.gX) fun r1=>
 Option.bind (jO N a0.gY) fun r2=>
 Option.bind (jO N a0.gZ) fun r3=>
 some (aB.mk r1 r2 r3)
theorem qW {N a0 r} (h:mP N a0=some r):FnM Tryz.prog 83 [] [(aC.enc a0)] (aB.enc r) []:=by
 unfold mP at h
 refine At.f aO8 hT hmo Tryz.func83 rfl h ?_
 refine bi fun r1 hr1=>?_
 refine bi fun r2 hr2=>?_
 refine bi fun r3 hr3=>?_
 refine At.d 2 (dE2 2 (j64 r1) (fun _=>aO (kW hr1)) (dE2 5 (j64 r2) (fun _=>aO (kW hr2)) (dE2 8 (j64 r3) (fun _=>aO (kW hr3)) dE0))) dF0 ?_
 apply rt;exact At.r 0
def sZ (N:Nat) (a0:Int):Option (aP):=
 some (aP.mk (shr .i64 a0 63) (U64 a0))
theorem yS {N a0 r} (h:sZ N a0=some r):FnM Tryz.prog 255 [] [(j64 a0)] (aP.enc r) []:=by
 unfold sZ at h
 refine At.f dM hT hmo Tryz.func255 rfl h ?_
 apply rt;exact At.r 7
def aKw : Nat→Bool:=imL [2]
def zG (N:Nat) (a0:aP) (a1:Int):Option (aP):=
 aV (decide ((jL a1 0)≥64)) fun x1=>
 cond x1 (
  aV (kL (I64 ((jL a1 0) - 64)) 63) fun x2=>
  Option.bind (aE8 .i64 a0.gHi x2) fun x3=>
  Option.bind (sZ N x3) fun r4=>
  some r4) (
  cond ((jL a1 0)==0) (
   some a0) (
   Option.bind (aE8 .i64 a0.gHi (jL a1 0)) fun x5=>
   Option.bind (aE8 .u64 a0.gLo (jL a1 0)) fun x6=>
   Option.bind (aI4 .u64 (U64 a0.gHi) (I64 (64 - (jL a1 0)))) fun x7=>
   some (aP.mk x5 (bor .u64 x6 x7))))
theorem aKH {N a0 a1 r} (h:zG N a0 a1=some r):FnM Tryz.prog 234 [] [(aP.enc a0),(j64 a1)] (aP.enc r) []:=by
 unfold zG at h
 refine At.f aKw hT hmo Tryz.func234 rfl h ?_
 refine lx ?_;intro x1
 refine At.c 7 ?_ ?_
 ·refine lx ?_;intro x2
  refine At.b 5 (fun _ e=>xS hT (k' := .i64) e (by kernel_rfl) (by kernel_rfl)) fun x3=>?_
  refine At.b 0 (fun _ e=>aN [] (yS e)) fun r4=>?_
  apply rt;exact At.r 1
 ·refine At.c 2 ?_ ?_
  ·apply rt;exact At.r 2
  ·refine bi fun x5 hx5=>?_
   refine bi fun x6 hx6=>?_
   refine bi fun x7 hx7=>?_
   refine At.d 0 (dE1 3 (fun _=>xS hT (k' := .i64) hx5 (by kernel_rfl) (by kernel_rfl)) (dE1 7 (fun _=>xS hT (k' := .i64) hx6 (by kernel_rfl) (by kernel_rfl)) (dE1 13 (fun _=>aCG hT (k' := .i64) hx7 (by kernel_rfl) (by kernel_rfl)) dE0))) dF0 ?_
   apply rt;exact At.r 0
def sU (N:Nat) (a0:(List Int)):Nat→Int→Int→Option (Int)
 | 0,_,_=>none
 | k+1,s2,s3=>
  aV (decide (s3 < ((a0.length:Int)))) fun x4=>
  cond x4 (
   Option.bind (Option.bind (idx a0 s3) fun e6=>
   cond (s3==0) (
    some e6) (
    Option.bind (fN N s2 e6) fun r7=>
    Option.bind (zG N r7 32) fun r8=>
    Option.bind (sC N r8) fun r9=>
    some r9)) fun p5=>
   sU N a0 k p5 (I64 (s3+1))) (
   some s2)
def aAZ (N:Nat) (a0:(List Int)):Option (Int):=
 Option.bind (sU N a0 N 4294967296 0) fun p1=>
 some p1
theorem aLH {N a0 r} (h:aAZ N a0=some r):FnM Tryz.prog 173 [] [(eL 1 j64 a0)] (j64 r) []:=by
 unfold aAZ at h
 refine At.f dM hT hmo Tryz.func173 rfl h ?_
 refine At.L 5 [] 0 (fun p1=>([(3,(j64 p1))],[],[])) (fun p1 J k=>∃ s2 s3,sU N a0 k s2 s3=some p1∧J [6,7] 0 [(3,(j64 s2)),(8,(j64 s3))] [] []) N (fun _ h=>⟨_,_,h,jr⟩) (fun p1 k s hI=>?_) fun p1=>?_
 ·obtain ⟨s2,s3,h,hj⟩:=hI
  cases k with
  | zero=>cases h
  | succ k=>
   refine At.jr hj ?_ h
   refine lx ?_;intro x4
   refine At.c 1 ?_ ?_
   ·refine At.J 0 2 [6,7,8] 0 (fun p5=>([(3,(j64 p5))],[],[])) (fun p5=>?_) fun p5=>?_
    ·refine At.b 1 (fun _ e=>cF hT j64 e) fun e6=>?_
     refine At.c 5 ?_ ?_
     ·apply rt;exact At.jn 2
     ·refine At.b 2 (fun _ e=>aN [] (kH e)) fun r7=>?_
      refine At.b 0 (fun _ e=>aN [] (aKH e)) fun r8=>?_
      refine At.b 0 (fun _ e=>aN [] (aBi e)) fun r9=>?_
      apply rt;exact At.jn 1
    ·exact fun h=>At.k 2 ⟨_,_,h,jr⟩
   ·apply rt;exact At.x 0
 ·apply rt;exact At.r 2
def qX (N:Nat) (a0 a1:Int):Option (Int):=
 Option.bind (aAZ N ([a0,a1])) fun r1=>
 some r1
theorem zA {N a0 a1 r} (h:qX N a0 a1=some r):FnM Tryz.prog 172 [] [(j64 a0),(j64 a1)] (j64 r) []:=by
 unfold qX at h
 refine At.f dM hT hmo Tryz.func172 rfl h ?_
 refine At.o 3 (cI hT (x:=(.sl 1 2 [(j64 a0),(j64 a1)]))) ?_
 refine At.b 0 (fun _ e=>aN [] (aLH e)) fun r1=>?_
 apply rt;exact At.r 1
def aCs : Nat→Bool:=imL [3,4]
def nN (N:Nat) (a0 a1:aB):Option (aB):=
 Option.bind (qX N a0.gX a1.gX) fun r1=>
 Option.bind (qX N a0.gY a1.gY) fun r2=>
 Option.bind (qX N a0.gZ a1.gZ) fun r3=>
 some (aB.mk r1 r2 r3)
theorem aCO {N a0 a1 r} (h:nN N a0 a1=some r):FnM Tryz.prog 137 [] [(aB.enc a0),(aB.enc a1),(.fn (.func 172) [] [])] (aB.enc r) []:=by
 unfold nN at h
 refine At.f aCs hT hmo Tryz.func137 rfl h ?_
 refine bi fun r1 hr1=>?_
 refine bi fun r2 hr2=>?_
 refine bi fun r3 hr3=>?_
 refine At.d 3 (dE2 5 (j64 r1) (fun _=>aO (zA hr1)) (dE2 11 (j64 r2) (fun _=>aO (zA hr2)) (dE2 17 (j64 r3) (fun _=>aO (zA hr3)) dE0))) dF0 ?_
 apply rt;exact At.r 0
def jP (N:Nat) (a0:(List aB)):Nat→aB→Int→Option (aB)
 | 0,_,_=>none
 | k+1,s2,s3=>
  aV (decide (s3 < ((a0.length:Int)))) fun x4=>
  cond x4 (
   Option.bind (idx a0 s3) fun e5=>
   Option.bind (nN N s2 e5) fun r6=>
   jP N a0 k r6 (I64 (s3+1))) (
   some s2)
def iL (N:Nat) (a0:(List aB)):Option (aB):=
 Option.bind (jP N a0 N (aB.mk 4294967296 4294967296 4294967296) 0) fun p1=>
 some p1
theorem qK {N a0 r} (h:iL N a0=some r):FnM Tryz.prog 90 [] [(eL 3 aB.enc a0)] (aB.enc r) []:=by
 unfold iL at h
 refine At.f dM hT hmo Tryz.func90 rfl h ?_
 refine At.L 7 [2,3] 2 (fun p1=>([],[(1,.var (aB.enc p1))],[])) (fun p1 J k=>∃ s2 s3,jP N a0 k s2 s3=some p1∧J [2,3,7,8] 2 [(9,(j64 s3))] [(1,.var (aB.enc s2))] []) N (fun _ h=>⟨_,_,h,jr⟩) (fun p1 k s hI=>?_) fun p1=>?_
 ·obtain ⟨s2,s3,h,hj⟩:=hI
  cases k with
  | zero=>cases h
  | succ k=>
   refine At.jr hj ?_ h
   refine lx ?_;intro x4
   refine At.c 1 ?_ ?_
   ·refine At.b 0 (fun _ e=>cF hT aB.enc e) fun e5=>?_
    refine At.b 5 (fun _ e=>aN [] (aCO e)) fun r6=>?_
    exact fun h=>At.k 3 ⟨_,_,h,jr⟩
   ·apply rt;exact At.x 0
 ·apply rt;exact At.r 2
def aJr : Nat→Bool:=imL [2]
def iJ (N:Nat) (a0:aB) (a1:Int):Option (aB):=
 Option.bind (iL N ([a0,aB.mk a1 a1 a1])) fun r1=>
 some r1
theorem jW {N a0 a1 r} (h:iJ N a0 a1=some r):FnM Tryz.prog 80 [] [(aB.enc a0),(j64 a1)] (aB.enc r) []:=by
 unfold iJ at h
 refine At.f aJr hT hmo Tryz.func80 rfl h ?_
 refine At.o 7 (cI hT (x:=(.sl 3 2 [(aB.enc a0),(.st 3 [(j64 a1),(j64 a1),(j64 a1)])]))) ?_
 refine At.b 0 (fun _ e=>aN [] (qK e)) fun r1=>?_
 apply rt;exact At.r 1
def aGz : Nat→Bool:=imL [6,11]
def tX (N:Nat) (a0:bP) (a1 a2 a3 a4:Int) (a5:(Vector Int 2)):Option (aB×Int):=
 Option.bind (sO N a0 a1 a2) fun r1=>
 cond (r1 != 0) (
  some ((aB.mk 0 0 0,r1))) (
  aV (cond (decide (a3 < 0)) true (decide (a3≥a1))) fun x2=>
  aV (cond x2 true (decide (a4 < 0))) fun x3=>
  aV (cond x3 true (decide (a4≥a2))) fun x4=>
  cond x4 (
   some ((aB.mk 0 0 0,2))) (
   aV (I64 ((I64 (2*a3)) - a1)) fun x5=>
   Option.bind (jO N x5) fun r6=>
   Option.bind (idx a5.toList 0) fun e7=>
   Option.bind (oW N e7) fun r8=>
   Option.bind (mF N ([r6,I64 (2*r8)])) fun r9=>
   Option.bind (jO N a1) fun r10=>
   Option.bind (pH N r9 r10) fun r11=>
   aV (I64 (a2 - (I64 (2*a4)))) fun x12=>
   Option.bind (jO N x12) fun r13=>
   Option.bind (idx a5.toList 1) fun e14=>
   Option.bind (oW N e14) fun r15=>
   Option.bind (sR N r13 (I64 (2*r15))) fun r16=>
   Option.bind (jO N a2) fun r17=>
   Option.bind (pH N r16 r17) fun r18=>
   Option.bind (mP N a0.gE2) fun r19=>
   Option.bind (mP N a0.gB4) fun r20=>
   Option.bind (iJ N r20 r11) fun r21=>
   Option.bind (mP N a0.gUp) fun r22=>
   Option.bind (iJ N r22 r18) fun r23=>
   Option.bind (kZ N ([r19,r21,r23])) fun r24=>
   some ((r24,0))))
theorem aGi {N a0 a1 a2 a3 a4 a5 r} (h:tX N a0 a1 a2 a3 a4 a5=some r):FnM Tryz.prog 77 [] [(bP.enc a0),(j64 a1),(j64 a2),(j64 a3),(j64 a4),(eA 2 1 k32 a5)] (.tup [(aB.enc r.1),(j64 r.2)]) []:=by
 unfold tX at h
 refine At.f aGz hT hmo Tryz.func77 rfl h ?_
 refine At.b 7 (fun _ e=>aN [] (aCW e)) fun r1=>?_
 refine At.c 3 ?_ ?_
 ·apply rt;exact At.r 4
 ·refine lx ?_;intro x2
  refine lx ?_;intro x3
  refine lx ?_;intro x4
  refine At.c 16 ?_ ?_
  ·apply rt;exact At.r 3
  ·refine lx ?_;intro x5
   refine bi fun r6 hr6=>?_
   refine bi fun e7 he7=>?_
   refine bi fun r8 hr8=>?_
   refine bi fun r9 hr9=>?_
   refine bi fun r10 hr10=>?_
   refine bi fun r11 hr11=>?_
   refine At.d 0 (dE2 4 (j64 r6) (fun _=>aO (kW hr6)) (dE1 5 (fun _=>cL hT (N:=2) (k:=1) k32 a5 he7) (dE2 7 (j64 r8) (fun _=>aO (yV hr8)) (dE1 9 (fun _=>cI hT (x:=(.sl 1 2 [(j64 r6),(j64 (I64 (2*r8)))]))) (dE2 10 (j64 r9) (fun _=>aO (uC hr9)) (dE2 12 (j64 r10) (fun _=>aO (kW hr10)) (dE2 13 (j64 r11) (fun _=>aO (uI hr11)) dE0))))))) dF0 ?_
   refine lx ?_;intro x12
   refine bi fun r13 hr13=>?_
   refine bi fun e14 he14=>?_
   refine bi fun r15 hr15=>?_
   refine bi fun r16 hr16=>?_
   refine bi fun r17 hr17=>?_
   refine bi fun r18 hr18=>?_
   refine At.d 0 (dE2 4 (j64 r13) (fun _=>aO (kW hr13)) (dE1 5 (fun _=>cL hT (N:=2) (k:=1) k32 a5 he14) (dE2 7 (j64 r15) (fun _=>aO (yV hr15)) (dE2 9 (j64 r16) (fun _=>aO (yW hr16)) (dE2 11 (j64 r17) (fun _=>aO (kW hr17)) (dE2 12 (j64 r18) (fun _=>aO (uI hr18)) dE0)))))) dF0 ?_
   refine bi fun r19 hr19=>?_
   refine bi fun r20 hr20=>?_
   refine bi fun r21 hr21=>?_
   refine bi fun r22 hr22=>?_
   refine bi fun r23 hr23=>?_
   refine bi fun r24 hr24=>?_
   refine At.d 0 (dE2 2 (aB.enc r19) (fun _=>aO (qW hr19)) (dE2 5 (aB.enc r20) (fun _=>aO (qW hr20)) (dE2 7 (aB.enc r21) (fun _=>aO (jW hr21)) (dE2 10 (aB.enc r22) (fun _=>aO (qW hr22)) (dE2 12 (aB.enc r23) (fun _=>aO (jW hr23)) (dE1 13 (fun _=>cI hT (x:=(.sl 3 3 [(aB.enc r19),(aB.enc r21),(aB.enc r23)]))) (dE2 14 (aB.enc r24) (fun _=>aO (wJ hr24)) dE0))))))) dF0 ?_
   apply rt;exact At.r 0
def pM (N:Nat) (a0 a1:Int):Option (Int):=
 aV (kL (jL a1 0) 2147483648) fun x1=>
 aV (U64 ((U64 a0)*(U64 x1))) fun x2=>
 some (I64 (shr .u64 x2 32))
theorem aBP {N a0 a1 r} (h:pM N a0 a1=some r):FnM Tryz.prog 151 [] [(k32 a0),(j64 a1)] (j64 r) []:=by
 unfold pM at h
 refine At.f dM hT hmo Tryz.func151 rfl h ?_
 refine lx ?_;intro x1
 refine lx ?_;intro x2
 apply rt;exact At.r 13
def mG (N:Nat) (a0:Int) (a1:bP):Option (Int):=
 aV (I64 ((I64 (2*a1.gC9))+1)) fun x1=>
 Option.bind (pM N a0 x1) fun r2=>
 Option.bind (jO N (I64 (r2 - a1.gC9))) fun r3=>
 Option.bind (jO N 16384) fun r4=>
 Option.bind (pH N r3 r4) fun r5=>
 some r5
theorem yP {N a0 a1 r} (h:mG N a0 a1=some r):FnM Tryz.prog 150 [] [(k32 a0),(.im (bP.enc a1))] (j64 r) []:=by
 unfold mG at h
 refine At.f dM hT hmo Tryz.func150 rfl h ?_
 refine lx ?_;intro x1
 refine bi fun r2 hr2=>?_
 refine bi fun r3 hr3=>?_
 refine bi fun r4 hr4=>?_
 refine bi fun r5 hr5=>?_
 refine At.d 1 (dE2 5 (j64 r2) (fun _=>aO (aBP hr2)) (dE2 9 (j64 r3) (fun _=>aO (kW hr3)) (dE2 10 (j64 r4) (fun _=>aO (kW hr4)) (dE2 11 (j64 r5) (fun _=>aO (uI hr5)) dE0)))) dF0 ?_
 apply rt;exact At.r 0
def rS (N:Nat) (a0:Int):Option (Int):=
 aV (eK .i64 (shr .i64 a0 31) 1) fun x1=>
 aV (I64 ((shr .i64 a0 32)+x1)) fun x2=>
 some x2
theorem aA2 {N a0 r} (h:rS N a0=some r):FnM Tryz.prog 152 [] [(j64 a0)] (j64 r) []:=by
 unfold rS at h
 refine At.f dM hT hmo Tryz.func152 rfl h ?_
 refine lx ?_;intro x1
 refine lx ?_;intro x2
 apply rt;exact At.r 8
def aIO : Nat→Bool:=imL [2,3]
def vJ (N:Nat) (a0:bP) (a1:(Vector Int 4)):Option (aC):=
 Option.bind (mP N a0.gB4) fun r1=>
 Option.bind (idx a1.toList 2) fun e2=>
 Option.bind (mG N e2 a0) fun r3=>
 Option.bind (iJ N r1 r3) fun r4=>
 Option.bind (mP N a0.gUp) fun r5=>
 Option.bind (idx a1.toList 3) fun e6=>
 Option.bind (mG N e6 a0) fun r7=>
 Option.bind (iJ N r5 r7) fun r8=>
 Option.bind (kZ N ([r4,r8])) fun r9=>
 Option.bind (rS N r9.gX) fun r10=>
 Option.bind (rS N r9.gY) fun r11=>
 Option.bind (rS N r9.gZ) fun r12=>
 some (aC.mk r10 r11 r12)
theorem aG9 {N a0 a1 r} (h:vJ N a0 a1=some r):FnM Tryz.prog 78 [] [(bP.enc a0),(eA 4 1 k32 a1)] (aC.enc r) []:=by
 unfold vJ at h
 refine At.f aIO hT hmo Tryz.func78 rfl h ?_
 refine At.o 3 (qL (x:=(.fn (.func 150) [] [(.im (bP.enc a0))])) (by kernel_rfl) (by kernel_rfl)) ?_
 refine bi fun r1 hr1=>?_
 refine bi fun e2 he2=>?_
 refine bi fun r3 hr3=>?_
 refine bi fun r4 hr4=>?_
 refine bi fun r5 hr5=>?_
 refine bi fun e6 he6=>?_
 refine bi fun r7 hr7=>?_
 refine bi fun r8 hr8=>?_
 refine bi fun r9 hr9=>?_
 refine At.d 1 (dE2 2 (aB.enc r1) (fun _=>aO (qW hr1)) (dE1 4 (fun _=>cL hT (N:=4) (k:=1) k32 a1 he2) (dE2 6 (j64 r3) (fun _=>aO (yP hr3)) (dE2 7 (aB.enc r4) (fun _=>aO (jW hr4)) (dE2 10 (aB.enc r5) (fun _=>aO (qW hr5)) (dE1 12 (fun _=>cL hT (N:=4) (k:=1) k32 a1 he6) (dE2 14 (j64 r7) (fun _=>aO (yP hr7)) (dE2 15 (aB.enc r8) (fun _=>aO (jW hr8)) (dE1 16 (fun _=>cI hT (x:=(.sl 3 2 [(aB.enc r4),(aB.enc r8)]))) (dE2 17 (aB.enc r9) (fun _=>aO (wJ hr9)) dE0)))))))))) dF0 ?_
 refine bi fun r10 hr10=>?_
 refine bi fun r11 hr11=>?_
 refine bi fun r12 hr12=>?_
 refine At.d 0 (dE2 2 (j64 r10) (fun _=>aO (aA2 hr10)) (dE2 5 (j64 r11) (fun _=>aO (aA2 hr11)) (dE2 8 (j64 r12) (fun _=>aO (aA2 hr12)) dE0))) dF0 ?_
 apply rt;exact At.r 0
def aGM : Nat→Bool:=imL [3,4]
def vM (N:Nat) (a0 a1:aB):Option (aB):=
 Option.bind (sR N a0.gX a1.gX) fun r1=>
 Option.bind (sR N a0.gY a1.gY) fun r2=>
 Option.bind (sR N a0.gZ a1.gZ) fun r3=>
 some (aB.mk r1 r2 r3)
theorem aEv {N a0 a1 r} (h:vM N a0 a1=some r):FnM Tryz.prog 137 [] [(aB.enc a0),(aB.enc a1),(.fn (.func 149) [] [])] (aB.enc r) []:=by
 unfold vM at h
 refine At.f aGM hT hmo Tryz.func137 rfl h ?_
 refine bi fun r1 hr1=>?_
 refine bi fun r2 hr2=>?_
 refine bi fun r3 hr3=>?_
 refine At.d 3 (dE2 5 (j64 r1) (fun _=>aO (yW hr1)) (dE2 11 (j64 r2) (fun _=>aO (yW hr2)) (dE2 17 (j64 r3) (fun _=>aO (yW hr3)) dE0))) dF0 ?_
 apply rt;exact At.r 0
def aMU : Nat→Bool:=imL [2,3]
def tA (N:Nat) (a0 a1:aB):Option (aB):=
 Option.bind (vM N a0 a1) fun r1=>
 some r1
theorem aBF {N a0 a1 r} (h:tA N a0 a1=some r):FnM Tryz.prog 79 [] [(aB.enc a0),(aB.enc a1)] (aB.enc r) []:=by
 unfold tA at h
 refine At.f aMU hT hmo Tryz.func79 rfl h ?_
 refine At.b 5 (fun _ e=>aN [] (aEv e)) fun r1=>?_
 apply rt;exact At.r 1
def tB (N:Nat) (a0:Int):Option (Int):=
 Option.bind (sR N 0 a0) fun r1=>
 some r1
theorem aBB {N a0 r} (h:tB N a0=some r):FnM Tryz.prog 231 [] [(j64 a0)] (j64 r) []:=by
 unfold tB at h
 refine At.f dM hT hmo Tryz.func231 rfl h ?_
 refine At.b 2 (fun _ e=>aN [] (yW e)) fun r1=>?_
 apply rt;exact At.r 1
def wL (N:Nat) (a0:Int):Option (Int):=
 Option.bind (tB N a0) fun r1=>
 some (jL a0 r1)
theorem aCy {N a0 r} (h:wL N a0=some r):FnM Tryz.prog 219 [] [(j64 a0)] (j64 r) []:=by
 unfold wL at h
 refine At.f dM hT hmo Tryz.func219 rfl h ?_
 refine At.b 3 (fun _ e=>aN [] (aBB e)) fun r1=>?_
 apply rt;exact At.r 2
def aKY : Nat→Bool:=imL [1]
def wB (N:Nat) (a0:aB):Option (Int):=
 Option.bind (wL N a0.gX) fun r1=>
 Option.bind (wL N a0.gY) fun r2=>
 Option.bind (wL N a0.gZ) fun r3=>
 some (jL (jL r1 r2) r3)
theorem aEa {N a0 r} (h:wB N a0=some r):FnM Tryz.prog 156 [] [(aB.enc a0)] (j64 r) []:=by
 unfold wB at h
 refine At.f aKY hT hmo Tryz.func156 rfl h ?_
 refine bi fun r1 hr1=>?_
 refine bi fun r2 hr2=>?_
 refine bi fun r3 hr3=>?_
 refine At.d 2 (dE2 2 (j64 r1) (fun _=>aO (aCy hr1)) (dE2 5 (j64 r2) (fun _=>aO (aCy hr2)) (dE2 8 (j64 r3) (fun _=>aO (aCy hr3)) (dE1 9 (fun _=>yQ (k := .i64) (i:=r1) (j:=r2) (l:=r3) (by kernel_rfl) (by kernel_rfl)) dE0)))) dF0 ?_
 apply rt;exact At.r 0
def iY (N:Nat) (a0 a1 a2:Int):Option (Int):=
 cond (a2==0) (
  some 0) (
  Option.bind (fN N a0 a1) fun r1=>
  Option.bind (oX N r1 a2) fun r2=>
  Option.bind (pA N r2.1) fun r3=>
  cond r3.2 (
   some r3.1) (
   cond (decide (r2.1.gHi < 0)) (some (-9223372036854775808)) (some 9223372036854775807)))
theorem sL {N a0 a1 a2 r} (h:iY N a0 a1 a2=some r):FnM Tryz.prog 158 [] [(j64 a0),(j64 a1),(j64 a2)] (j64 r) []:=by
 unfold iY at h
 refine At.f dM hT hmo Tryz.func158 rfl h ?_
 refine At.c 3 ?_ ?_
 ·apply rt;exact At.r 1
 ·refine At.b 2 (fun _ e=>aN [] (kH e)) fun r1=>?_
  refine At.b 4 (fun _ e=>aN [] (zU e)) fun r2=>?_
  refine At.b 9 (fun _ e=>aN [] (xD e)) fun r3=>?_
  refine At.c 6 ?_ ?_
  ·apply rt;exact At.r 2
  ·refine At.c 3 ?_ ?_
   ·apply rt;exact At.r 1
   ·apply rt;exact At.r 1
def kC (N:Nat) (a0 a1:Int):Option (Int):=
 Option.bind (iY N a0 16384 a1) fun r1=>
 some (jL r1 (-16384))
theorem uM {N a0 a1 r} (h:kC N a0 a1=some r):FnM Tryz.prog 157 [] [(j64 a0),(.im (j64 a1))] (j64 r) []:=by
 unfold kC at h
 refine At.f dM hT hmo Tryz.func157 rfl h ?_
 refine At.b 3 (fun _ e=>aN [] (sL e)) fun r1=>?_
 apply rt;exact At.r 2
def aHl : Nat→Bool:=imL [1]
def tE (N:Nat) (a0:aB):Option (aC×Int):=
 Option.bind (wB N a0) fun r1=>
 cond (r1==0) (
  some ((aC.mk 0 0 0,2))) (
  Option.bind (kC N a0.gX r1) fun r2=>
  Option.bind (kC N a0.gY r1) fun r3=>
  Option.bind (kC N a0.gZ r1) fun r4=>
  some ((aC.mk r2 r3 r4,0)))
theorem aCU {N a0 r} (h:tE N a0=some r):FnM Tryz.prog 84 [] [(aB.enc a0)] (.tup [(aC.enc r.1),(j64 r.2)]) []:=by
 unfold tE at h
 refine At.f aHl hT hmo Tryz.func84 rfl h ?_
 refine At.b 4 (fun _ e=>aN [] (aEa e)) fun r1=>?_
 refine At.c 4 ?_ ?_
 ·apply rt;exact At.r 3
 ·refine At.gz 0 1 ((j64 r1)) ?_
  refine At.o 0 (qL (x:=(.fn (.func 157) [] [(.im (j64 r1))])) (by kernel_rfl) (by kernel_rfl)) ?_
  refine bi fun r2 hr2=>?_
  refine bi fun r3 hr3=>?_
  refine bi fun r4 hr4=>?_
  refine At.d 1 (dE2 3 (j64 r2) (fun _=>aO (uM hr2)) (dE2 7 (j64 r3) (fun _=>aO (uM hr3)) (dE2 11 (j64 r4) (fun _=>aO (uM hr4)) dE0))) dF0 ?_
  apply rt;exact At.r 0
def aLR : Nat→Bool:=imL [6,11]
def sB (N:Nat) (a0:bP) (a1 a2 a3 a4:Int) (a5:(Vector Int 4)):Option (aC×aC×Int):=
 Option.bind (idx a5.toList 0) fun e1=>
 Option.bind (idx a5.toList 1) fun e2=>
 Option.bind (tX N a0 a1 a2 a3 a4 (#v[e1,e2])) fun r3=>
 cond (r3.2 != 0) (
  some ((aC.mk 0 0 0,aC.mk 0 0 0,r3.2))) (
  Option.bind (cond (decide (a0.gC9 > 0)) (
   Option.bind (vJ N a0 a5) fun r5=>
   aV (I64 (a0.gB0.gX+r5.gX)) fun x6=>
   aV (I64 (a0.gB0.gY+r5.gY)) fun x7=>
   aV (I64 (a0.gB0.gZ+r5.gZ)) fun x8=>
   Option.bind (jO N a0.gD5) fun r9=>
   Option.bind (jO N 16384) fun r10=>
   Option.bind (pH N r9 r10) fun r11=>
   Option.bind (iJ N r3.1 r11) fun r12=>
   Option.bind (mP N r5) fun r13=>
   Option.bind (tA N r12 r13) fun r14=>
   some ((aC.mk ((I64 (a0.gB0.gX+r5.gX))) ((I64 (a0.gB0.gY+r5.gY))) ((I64 (a0.gB0.gZ+r5.gZ))),r14))) (
   some ((a0.gB0,r3.1)))) fun p4=>
  Option.bind (tE N p4.2) fun r15=>
  cond (r15.2 != 0) (
   some ((aC.mk 0 0 0,aC.mk 0 0 0,r15.2))) (
   some ((p4.1,r15.1,0))))
theorem aEm {N a0 a1 a2 a3 a4 a5 r} (h:sB N a0 a1 a2 a3 a4 a5=some r):FnM Tryz.prog 33 [] [(bP.enc a0),(j64 a1),(j64 a2),(j64 a3),(j64 a4),(eA 4 1 k32 a5)] (.tup [(aC.enc r.1),(aC.enc r.2.1),(j64 r.2.2)]) []:=by
 unfold sB at h
 refine At.f aLR hT hmo Tryz.func33 rfl h ?_
 refine At.b 10 (fun _ e=>cL hT (N:=4) (k:=1) k32 a5 e) fun e1=>?_
 refine At.b 1 (fun _ e=>cL hT (N:=4) (k:=1) k32 a5 e) fun e2=>?_
 refine At.b 2 (fun _ e=>aN [] (aGi e)) fun r3=>?_
 refine At.c 8 ?_ ?_
 ·refine At.d 0 dE0 dF0 ?_
  apply rt;exact At.r 0
 ·refine At.J 3 1 [12,13,15] 3 (fun p4=>([],[(0,.var (aC.enc p4.1)),(2,.var (aB.enc p4.2))],[])) (fun p4=>?_) fun p4=>?_
  ·refine At.c 3 ?_ ?_
   ·refine At.b 2 (fun _ e=>aN [] (aG9 e)) fun r5=>?_
    refine lx ?_;intro x6
    refine lx ?_;intro x7
    refine lx ?_;intro x8
    refine bi fun r9 hr9=>?_
    refine bi fun r10 hr10=>?_
    refine bi fun r11 hr11=>?_
    refine bi fun r12 hr12=>?_
    refine bi fun r13 hr13=>?_
    refine bi fun r14 hr14=>?_
    refine At.d 19 (dE2 3 (j64 r9) (fun _=>aO (kW hr9)) (dE2 4 (j64 r10) (fun _=>aO (kW hr10)) (dE2 5 (j64 r11) (fun _=>aO (uI hr11)) (dE2 6 (aB.enc r12) (fun _=>aO (jW hr12)) (dE2 8 (aB.enc r13) (fun _=>aO (qW hr13)) (dE2 9 (aB.enc r14) (fun _=>aO (aBF hr14)) dE0)))))) dF0 ?_
    apply rt;exact At.jn 0
   ·apply rt;exact At.jn 0
  ·refine At.b 1 (fun _ e=>aN [] (aCU e)) fun r15=>?_
   refine At.c 7 ?_ ?_
   ·apply rt;exact At.r 6
   ·refine At.d 0 dE0 dF0 ?_
    apply rt;exact At.r 0
def iH (N:Nat) (a0:aM):Option (Bool):=
 some (!a0.gA)
theorem xP {N a0 r} (h:iH N a0=some r):FnM Tryz.prog 304 [.var (aM.enc a0)] [(.ref 0 [] 0)] (eB r) [.var (aM.enc a0)]:=by
 unfold iH at h
 refine At.f dM hT hmo Tryz.func304 rfl h ?_
 refine At.o 2 (pG hT (t:=91) (x:=(.ref 0 [] 0)) (b:=true) (by kernel_rfl) rfl rfl (by kernel_rfl)) ?_
 refine At.g [5] 8 ?_
 apply rt;exact At.r 0
def aLP : Nat→Bool:=imL [2,3]
def nK (N:Nat) (a0 a1:aP):Option (Int):=
 cond (aP.eq a0 a1) (
  some 0) (
  Option.bind (aV (decide (a0.gHi < a1.gHi)) fun x2=>
  cond x2 (
   some x2) (
   aV (decide (a0.gLo < a1.gLo)) fun x3=>
   aV (cond (a0.gHi==a1.gHi) x3 false) fun x4=>
   some x4)) fun p1=>
  cond p1 (some (-1)) (some 1))
theorem zW {N a0 a1 r} (h:nK N a0 a1=some r):FnM Tryz.prog 256 [] [(aP.enc a0),(aP.enc a1)] (j64 r) []:=by
 unfold nK at h
 refine At.f aLP hT hmo Tryz.func256 rfl h ?_
 refine At.o 5 (aCB aQr (a0:aP) (a1:aP) (by kernel_rfl) (by kernel_rfl) (fun _=>rfl) (fun _=>rfl) (by kernel_rfl) (by kernel_rfl)) ?_
 refine At.c 1 ?_ ?_
 ·apply rt;exact At.r 1
 ·refine At.J 0 1 [] 0 (fun p1=>([(9,(eB p1))],[],[])) (fun p1=>?_) fun p1=>?_
  ·refine lx ?_;intro x2
   refine At.c 6 ?_ ?_
   ·apply rt;exact At.jn 0
   ·refine lx ?_;intro x3
    refine lx ?_;intro x4
    apply rt;exact At.jn 13
  ·refine At.c 0 ?_ ?_
   ·apply rt;exact At.r 1
   ·apply rt;exact At.r 1
def aDm : Nat→Bool:=imL [2,3]
def dZ (N:Nat) (a0 a1:aW):Option (Bool):=
 Option.bind (fN N a0.gn a1.gd) fun r1=>
 Option.bind (fN N a1.gn a0.gd) fun r2=>
 Option.bind (nK N r1 r2) fun r3=>
 some (decide (r3 < 0))
theorem kV {N a0 a1 r} (h:dZ N a0 a1=some r):FnM Tryz.prog 307 [] [(aW.enc a0),(aW.enc a1)] (eB r) []:=by
 unfold dZ at h
 refine At.f aDm hT hmo Tryz.func307 rfl h ?_
 refine bi fun r1 hr1=>?_
 refine bi fun r2 hr2=>?_
 refine bi fun r3 hr3=>?_
 refine At.d 3 (dE2 4 (aP.enc r1) (fun _=>aO (kH hr1)) (dE2 9 (aP.enc r2) (fun _=>aO (kH hr2)) (dE2 10 (j64 r3) (fun _=>aO (zW hr3)) dE0))) dF0 ?_
 apply rt;exact At.r 0
def aJM : Nat→Bool:=imL [4,5,6,7]
def jX (N:Nat) (a0 a1 a2 a3:aC):Nat→aW→aW→Bool→Int→Option (Sum (aW×aW×Bool) (aW×Bool))
 | 0,_,_,_,_=>none
 | k+1,s2,s3,s4,s5=>
  cond (decide (s5 < 3)) (
   Option.bind (Option.bind (idx (#v[#v[a0.gX,a1.gX,a2.gX,a3.gX],#v[a0.gY,a1.gY,a2.gY,a3.gY],#v[a0.gZ,a1.gZ,a2.gZ,a3.gZ]]).toList s5) fun e7=>
   Option.bind (fH 0 4) fun _=>
   Option.bind (e7.toList[(Int.toNat 0)]?) fun e9=>
   Option.bind (fH 2 4) fun _=>
   Option.bind (e7.toList[(Int.toNat 2)]?) fun e11=>
   Option.bind (fH 1 4) fun _=>
   Option.bind (e7.toList[(Int.toNat 1)]?) fun e13=>
   Option.bind (fH 2 4) fun _=>
   Option.bind (e7.toList[(Int.toNat 2)]?) fun e15=>
   Option.bind (fH 3 4) fun _=>
   Option.bind (e7.toList[(Int.toNat 3)]?) fun e17=>
   aV (decide ((I64 (e9 - e11)) > (I64 (e13 - e15)))) fun x18=>
   cond x18 (
    some (Sum.inr ((s2,false)))) (
    Option.bind (cond (e17==0) (
     aV (decide ((I64 (e9 - e11)) > 0)) fun x20=>
     aV (decide ((I64 (e13 - e15)) < 0)) fun x21=>
     some (cond x20 true x21)) (
     some false)) fun p19=>
    cond p19 (
     some (Sum.inr ((s2,false)))) (
     cond (e17==0) (
      some (Sum.inl ((s2,s3,e7,s4)))) (
      cond (decide (e17 < 0)) (
       aV (I64 (0 - (I64 (e13 - e15)))) fun x22=>
       aV (I64 (0 - (I64 (e9 - e11)))) fun x23=>
       Option.bind (Option.bind (dZ N s2 (aW.mk x22 (I64 (0 - e17)))) fun r25=>
       cond r25 (some (aW.mk x22 (I64 (0 - e17)))) (some s2)) fun p24=>
       Option.bind (cond (!s4) (
        some true) (
        Option.bind (dZ N (aW.mk x23 (I64 (0 - e17))) s3) fun r27=>
        some r27)) fun p26=>
       cond p26 (
        some (Sum.inl ((p24,aW.mk x23 (I64 (0 - e17)),e7,true)))) (
        some (Sum.inl ((p24,s3,e7,s4))))) (
       Option.bind (Option.bind (dZ N s2 (aW.mk (I64 (e9 - e11)) e17)) fun r29=>
       cond r29 (some (aW.mk (I64 (e9 - e11)) e17)) (some s2)) fun p28=>
       Option.bind (cond (!s4) (
        some true) (
        Option.bind (dZ N (aW.mk (I64 (e13 - e15)) e17) s3) fun r31=>
        some r31)) fun p30=>
       cond p30 (
        some (Sum.inl ((p28,aW.mk (I64 (e13 - e15)) e17,e7,true)))) (
        some (Sum.inl ((p28,s3,e7,s4))))))))) fun o=>kK o (fun p6=>
    jX N a0 a1 a2 a3 k p6.1 p6.2.1 p6.2.2.2 (I64 (s5+1))) (fun r=>some (Sum.inr r))) (
   some (Sum.inl ((s2,s3,s4))))
def oF (N:Nat) (a0 a1 a2 a3:aC):Option (aW×Bool):=
 Option.bind (jX N a0 a1 a2 a3 N (aW.mk 0 1) (aW.mk 0 0) false 0) fun o=>kK o (fun p1=>
  Option.bind (cond (!p1.2.2) (
   some true) (
   Option.bind (dZ N p1.2.1 p1.1) fun r33=>
   some (!r33))) fun p32=>
  some ((p1.1,p32))) (fun r=>some r)
theorem aDn {N a0 a1 a2 a3 r} (h:oF N a0 a1 a2 a3=some r):FnM Tryz.prog 305 [] [(aC.enc a0),(aC.enc a1),(aC.enc a2),(aC.enc a3)] (.tup [(aW.enc r.1),(eB r.2)]) []:=by
 unfold oF at h
 refine At.f aJM hT hmo Tryz.func305 rfl h ?_
 refine At.LS 41 [8,10] 2 (fun p1=>([(11,(eB p1.2.2))],[(0,.var (aW.enc p1.1)),(1,.var (aW.enc p1.2.1))],[])) (fun op1 J k=>∃ s2 s3 s4 s5,jX N a0 a1 a2 a3 k s2 s3 s4 s5=some op1∧J [8,10,48] 2 [(11,(eB s4)),(49,(j64 s5))] [(0,.var (aW.enc s2)),(1,.var (aW.enc s3))] []) N (fun _ h=>⟨_,_,_,_,h,jr⟩) (fun op1 g1 k s hI=>?_) fun p1=>?_
 ·obtain ⟨s2,s3,s4,s5,h,hj⟩:=hI
  cases k with
  | zero=>cases h
  | succ k=>
   refine At.jr hj ?_ h
   refine At.c 1 ?_ ?_
   ·refine At.JS 0 2 [8,10,48,49] 2 (fun p6=>([(11,(eB p6.2.2.2))],[(0,.var (aW.enc p6.1)),(1,.var (aW.enc p6.2.1))],[.var (eA 4 1 j64 p6.2.2.1)])) (fun op6 g6=>?_) fun p6=>?_
    ·refine At.b 0 (fun _ e=>zX hT (eA 4 1 j64) (#v[#v[a0.gX,a1.gX,a2.gX,a3.gX],#v[a0.gY,a1.gY,a2.gY,a3.gY],#v[a0.gZ,a1.gZ,a2.gZ,a3.gZ]]) e (by kernel_rfl) (by kernel_rfl)) fun e7=>?_
     refine bi fun u8 hu8=>?_
     refine bi fun e9 he9=>?_
     refine bi fun u10 hu10=>?_
     refine bi fun e11 he11=>?_
     refine bi fun u12 hu12=>?_
     refine bi fun e13 he13=>?_
     refine bi fun u14 hu14=>?_
     refine bi fun e15 he15=>?_
     refine bi fun u16 hu16=>?_
     refine bi fun e17 he17=>?_
     refine At.d 2 (dE1 0 (fun _=>bG hT (k:=1) 2 [] 0 hu8) (dEL hT 1 (j64 e9) j64 0 he9 (dE1 2 (fun _=>bG hT (k:=1) 2 [] 0 hu10) (dEL hT 3 (j64 e11) j64 0 he11 (dE1 5 (fun _=>bG hT (k:=1) 2 [] 0 hu12) (dEL hT 6 (j64 e13) j64 0 he13 (dE1 7 (fun _=>bG hT (k:=1) 2 [] 0 hu14) (dEL hT 8 (j64 e15) j64 0 he15 (dE1 10 (fun _=>bG hT (k:=1) 2 [] 0 hu16) (dEL hT 11 (j64 e17) j64 0 he17 dE0)))))))))) dF0 ?_
     refine lx ?_;intro x18
     refine At.c 4 ?_ ?_
     ·intro e;apply rtS2 g6 g1 e;exact At.r 3
     ·refine At.J 0 0 [8,10,11,14,15,16,48,49] 3 (fun p19=>([(69,(eB p19))],[],[])) (fun p19=>?_) fun p19=>?_
      ·refine At.s 72 3 ?_ ?_
       ·refine lx ?_;intro x20
        refine lx ?_;intro x21
        refine At.g [72] 8 ?_
        apply rt;exact At.jn 0
       ·refine At.g [72,75] 8 ?_
        apply rt;exact At.jn 0
      ·refine At.c 0 ?_ ?_
       ·intro e;apply rtS2 g6 g1 e;exact At.r 3
       ·refine At.c 3 ?_ ?_
        ·apply rt;exact At.jsn 0
        ·refine At.c 3 ?_ ?_
         ·refine lx ?_;intro x22
          refine lx ?_;intro x23
          refine At.J 9 1 [8,10,11,15,16,48,49] 3 (fun p24=>([],[(0,.var (aW.enc p24))],[.var (.st 2 [(j64 x22),(j64 (I64 (0 - e17)))])])) (fun p24=>?_) fun p24=>?_
          ·refine At.b 7 (fun _ e=>aN [] (kV e)) fun r25=>?_
           refine At.c 0 ?_ ?_
           ·apply rt;exact At.jn 2
           ·apply rt;exact At.jn 0
          ·refine At.J 5 0 [8,10,11,18,48,49] 5 (fun p26=>([(109,(eB p26))],[],[])) (fun p26=>?_) fun p26=>?_
           ·refine At.s 105 3 ?_ ?_
            ·refine At.g [105] 4 ?_
             apply rt;exact At.jn 0
            ·refine At.g [105] 2 ?_
             refine At.b 0 (fun _ e=>aN [] (kV e)) fun r27=>?_
             refine At.g [105] 1 ?_
             apply rt;exact At.jn 0
           ·refine At.c 0 ?_ ?_
            ·apply rt;exact At.jsn 3
            ·apply rt;exact At.jsn 0
         ·refine At.J 0 1 [8,10,11,15,16,48,49] 3 (fun p28=>([],[(0,.var (aW.enc p28))],[.var (.st 2 [(j64 (I64 (e9 - e11))),(j64 e17)])])) (fun p28=>?_) fun p28=>?_
          ·refine At.b 7 (fun _ e=>aN [] (kV e)) fun r29=>?_
           refine At.c 0 ?_ ?_
           ·apply rt;exact At.jn 2
           ·apply rt;exact At.jn 0
          ·refine At.J 5 0 [8,10,11,18,48,49] 5 (fun p30=>([(109,(eB p30))],[],[])) (fun p30=>?_) fun p30=>?_
           ·refine At.s 105 3 ?_ ?_
            ·refine At.g [105] 4 ?_
             apply rt;exact At.jn 0
            ·refine At.g [105] 2 ?_
             refine At.b 0 (fun _ e=>aN [] (kV e)) fun r31=>?_
             refine At.g [105] 1 ?_
             apply rt;exact At.jn 0
           ·refine At.c 0 ?_ ?_
            ·apply rt;exact At.jsn 3
            ·apply rt;exact At.jsn 0
    ·exact fun h=>At.k 2 ⟨_,_,_,_,h,jr⟩
   ·apply rt;exact At.xs 0
 ·refine At.J 0 0 [8] 2 (fun p32=>([(9,(eB p32))],[],[])) (fun p32=>?_) fun p32=>?_
  ·refine boI (fun hc3=>?_) (fun hc3=>?_)
   ·refine At.d 0 (dE1 3 (fun _=>dO hc3 rfl (dC hT (im:=false) (by kernel_rfl))) dE0) dF0 ?_
    apply rt;exact At.jn 0
   ·refine bi fun r33 hr33=>?_
    refine At.d 0 (dE1 3 (fun _=>dO hc3 rfl (dC hT (im:=false) (by kernel_rfl))) (dE2 6 (eB r33) (fun _=>aO (kV hr33)) dE0)) dF0 ?_
    apply rt;exact At.jn 0
  ·apply rt;exact At.r 0
end Go.UK
