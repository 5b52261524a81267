/- A part of the proof: what the functions of the program compute. -/
import Derived.Test.YtmfanigkgeohiaaGreatMT
namespace Go.UK
open Go Go.Proofs
set_option maxRecDepth 20000
set_option maxHeartbeats 40000000
set_option linter.all false
attribute [local irreducible] adv aJd aIF aAR brPt aLI aGD pF aAN aL4 eK oC fV aJe aIg lPt owp awl aw FnM aFt opS Stab TOK Big
def aDw : Nat→Bool:=imL [1]
def mJ (N:Nat) (a0:aG):Nat→(List aD)→Int→Option ((List aD))
 | 0,_,_=>none
 | k+1,s2,s3=>
  aV ((a0.gA2.length:Int)) fun x4=>
  aV (cond (decide (s3 < x4)) (decide (s3 < 4)) false) fun x5=>
  cond x5 (
   Option.bind (idx a0.gA2 s3) fun e6=>
   aV ((e6.gA3.length:Int)) fun x7=>
   Option.bind (wC e6.gA3 0 (kE x7 260)) fun s8=>
   Option.bind (zD 32 s2 (([aD.mk e6.gE s8]:List aD))) fun z9=>
   mJ N a0 k z9 (I64 (s3+1))) (
   some s2)
def pC (N:Nat) (a0:aG):Option (aG):=
 Option.bind (mJ N a0 N [] 0) fun p1=>
 aV ((a0.gG.length:Int)) fun x10=>
 Option.bind (wC a0.gG 0 (kE x10 20)) fun s11=>
 aV ((a0.gB1.length:Int)) fun x12=>
 Option.bind (wC a0.gB1 0 (kE x12 8)) fun s13=>
 aV ((a0.gJ.length:Int)) fun x14=>
 Option.bind (wC a0.gJ 0 (kE x14 5)) fun s15=>
 aV (kE ((a0.gB6.length:Int)) 20) fun x16=>
 Option.bind (wC a0.gB6 0 x16) fun s17=>
 aV ((a0.gB7.length:Int)) fun x18=>
 Option.bind (wC a0.gB7 0 (kE x18 20)) fun s19=>
 some (aG.mk s11 s13 p1 s15 s17 s19 a0.gC3 a0.gC4 a0.gTo)
theorem aDg {N a0 r} (h:pC N a0=some r):FnM Tryz.prog 10 [] [(aG.enc a0)] (aG.enc r) []:=by
 unfold pC at h
 refine At.f aDw hT hmo Tryz.func10 rfl h ?_
 refine At.ownn 4 3 2 ?_
 refine At.L 0 [1,2] 2 (fun p1=>([(3,(eO 1 2 aD.enc p1))],[(1,.tail (p1.length*2))],[])) (fun p1 J k=>∃ s2 s3,mJ N a0 k s2 s3=some p1∧J [1,2] 2 [(3,(eO 1 2 aD.enc s2)),(4,(j64 s3))] [(1,.tail (s2.length*2))] []) N (fun _ h=>⟨_,_,h,jr⟩) (fun p1 k s hI=>?_) fun p1=>?_
 ·obtain ⟨s2,s3,h,hj⟩:=hI
  cases k with
  | zero=>cases h
  | succ k=>
   refine At.jr hj ?_ h
   refine lx ?_;intro x4
   refine lx ?_;intro x5
   refine At.c 9 ?_ ?_
   ·refine At.b 3 (fun _ e=>cH hT aD.enc e) fun e6=>?_
    refine lx ?_;intro x7
    refine bi fun s8 hs8=>?_
    refine bi fun z9 hz9=>?_
    refine At.d 3 (dE1 9 (fun _=>zR hT (k:=3) (eA 3 1 j64) hs8) (dE1 11 (fun _=>cT hT (x:=(.sl 2 1 [(.st 2 [(j64 e6.gE),(eL 3 (eA 3 1 j64) s8)])]))) dE0)) (dF 12 (eO 1 2 aD.enc z9) [(1,.tail (z9.length*2))] [] (bS (sJ hT aD.enc (id:=1) (k:=2) hz9)) dF0) ?_
    exact fun h=>At.k 3 ⟨_,_,h,jr⟩
   ·apply rt;exact At.x 0
 ·refine lx ?_;intro x10
  refine bi fun s11 hs11=>?_
  refine lx ?_;intro x12
  refine bi fun s13 hs13=>?_
  refine lx ?_;intro x14
  refine bi fun s15 hs15=>?_
  refine lx ?_;intro x16
  refine bi fun s17 hs17=>?_
  refine lx ?_;intro x18
  refine bi fun s19 hs19=>?_
  refine At.d 0 (dE1 6 (fun _=>zR hT (k:=19) aE.enc hs11) (dE1 13 (fun _=>zR hT (k:=5) aU.enc hs13) (dE1 21 (fun _=>zR hT (k:=13) aS.enc hs15) (dE1 28 (fun _=>zR hT (k:=1) k64 hs17) (dE1 35 (fun _=>zR hT (k:=1) k32 hs19) dE0))))) dF0 ?_
  apply rt;exact At.r 0
def aHo : Nat→Bool:=imL [2]
def qF (N:Nat) (a0:aC) (a1:Int):Option (Bool):=
 Option.bind (aV (decide ((jH (jH a0.gX a0.gY) a0.gZ)≤a1)) fun x2=>
 cond x2 (
  aV (decide ((kE (kE a0.gX a0.gY) a0.gZ)≥(I64 (0 - a1)))) fun x3=>
  some x3) (
  some false)) fun p1=>
 some p1
theorem aAB {N a0 a1 r} (h:qF N a0 a1=some r):FnM Tryz.prog 176 [] [(aC.enc a0),(j64 a1)] (eB r) []:=by
 unfold qF at h
 refine At.f aHo hT hmo Tryz.func176 rfl h ?_
 refine At.J 2 0 [] 0 (fun p1=>([(4,(eB p1))],[],[])) (fun p1=>?_) fun p1=>?_
 ·refine At.o 6 (yL (k := .i64) (i:=a0.gX) (j:=a0.gY) (l:=a0.gZ) (by kernel_rfl) (by kernel_rfl)) ?_
  refine lx ?_;intro x2
  refine At.s 14 3 ?_ ?_
  ·refine At.g [14] 6 ?_
   refine At.o 0 (yG (k := .i64) (i:=a0.gX) (j:=a0.gY) (l:=a0.gZ) (by kernel_rfl) (by kernel_rfl)) ?_
   refine lx ?_;intro x3
   refine At.g [14] 5 ?_
   apply rt;exact At.jn 0
  ·refine At.g [14] 12 ?_
   apply rt;exact At.jn 0
 ·apply rt;exact At.r 0
def aM3 : Nat→Bool:=imL [2,3]
def pM (N:Nat) (a0 a1:aC):Option (Bool):=
 Option.bind (Option.bind (qF N a0 65536) fun r2=>
 cond r2 (
  Option.bind (qF N a1 131072) fun r3=>
  cond r3 (
   aV (!(aC.eq a1 (aC.mk 0 0 0))) fun x4=>
   some x4) (
   some false)) (
  some false)) fun p1=>
 some p1
theorem zA {N a0 a1 r} (h:pM N a0 a1=some r):FnM Tryz.prog 92 [] [(aC.enc a0),(aC.enc a1)] (eB r) []:=by
 unfold pM at h
 refine At.f aM3 hT hmo Tryz.func92 rfl h ?_
 refine At.J 3 0 [] 0 (fun p1=>([(4,(eB p1))],[],[])) (fun p1=>?_) fun p1=>?_
 ·refine At.b 1 (fun _ e=>aN [] (aAB e)) fun r2=>?_
  refine At.s 7 1 ?_ ?_
  ·refine At.g [7] 1 ?_
   refine At.b 0 (fun _ e=>aN [] (aAB e)) fun r3=>?_
   refine At.g [7] 2 ?_
   refine At.s 11 0 ?_ ?_
   ·refine At.g [11] 2 ?_
    refine At.o 0 (zE aA8 (a1:aC) (aC.mk 0 0 0:aC) (by kernel_rfl) (by kernel_rfl) (fun _=>rfl) (fun _=>rfl) (by kernel_rfl) (by kernel_rfl)) ?_
    refine lx ?_;intro x4
    refine At.g [11] 2 ?_
    apply rt;exact At.jn 0
   ·refine At.g [11] 5 ?_
    apply rt;exact At.jn 0
  ·refine At.g [7,11] 9 ?_
   apply rt;exact At.jn 0
 ·apply rt;exact At.r 0
def aDp : Nat→Bool:=imL [2,3]
def jZ (N:Nat) (a1:aE):Nat→Int→Option (Sum (Unit) (Int))
 | 0,_=>none
 | k+1,s9=>
  cond (decide (s9 < 3)) (
   Option.bind (idx a1.gUv.toList s9) fun e10=>
   Option.bind (Option.bind (fD 0 2) fun _=>
   Option.bind (e10.toList[(Int.toNat 0)]?) fun e13=>
   Option.bind (fD 1 2) fun _=>
   Option.bind (e10.toList[(Int.toNat 1)]?) fun e15=>
   aV (decide ((kE e13 e15) < 0)) fun x16=>
   cond x16 (
    some true) (
    Option.bind (fD 0 2) fun _=>
    Option.bind (e10.toList[(Int.toNat 0)]?) fun e18=>
    Option.bind (fD 1 2) fun _=>
    Option.bind (e10.toList[(Int.toNat 1)]?) fun e20=>
    aV (decide ((jH e18 e20) > 65535)) fun x21=>
    some x21)) fun p11=>
   cond p11 (some (Sum.inr 5)) (jZ N a1 k (I64 (s9+1)))) (
   some (Sum.inl (())))
def jY (N:Nat) (a1:aE):Nat→Int→Option (Sum (Unit) (Int))
 | 0,_=>none
 | k+1,s23=>
  cond (decide (s23 < 3)) (
   Option.bind (idx a1.gP.toList s23) fun e24=>
   Option.bind (pM N e24 (aC.mk 1 0 0)) fun r25=>
   cond (!r25) (some (Sum.inr 8)) (jY N a1 k (I64 (s23+1)))) (
   some (Sum.inl (())))
def pP (N:Nat) (a0:aG) (a1:aE):Option (Int):=
 aV ((a0.gB1.length:Int)) fun x1=>
 aV (cond (decide (a1.gC8 < 0)) true (decide (a1.gC8≥x1))) fun x2=>
 aV (decide (a1.gA9 < (-1))) fun x3=>
 aV ((a0.gA2.length:Int)) fun x4=>
 aV (cond (cond x2 true x3) true (decide (a1.gA9≥x4))) fun x5=>
 aV (cond x5 true (decide (a1.gB5 < 0))) fun x6=>
 aV (decide (a1.gB5≥((a0.gB6.length:Int)))) fun x7=>
 cond (cond x6 true x7) (
  some 5) (
  Option.bind (jZ N a1 N 0) fun o=>lP o (fun p8=>
   Option.bind (jY N a1 N 0) fun o=>lP o (fun p22=>
    some 0) (fun r=>some r)) (fun r=>some r))
theorem aDZ {N a0 a1 r} (h:pP N a0 a1=some r):FnM Tryz.prog 37 [] [(aG.enc a0),(aE.enc a1)] (j64 r) []:=by
 unfold pP at h
 refine At.f aDp hT hmo Tryz.func37 rfl h ?_
 refine lx ?_;intro x1
 refine lx ?_;intro x2
 refine lx ?_;intro x3
 refine lx ?_;intro x4
 refine lx ?_;intro x5
 refine lx ?_;intro x6
 refine lx ?_;intro x7
 refine At.c 40 ?_ ?_
 ·apply rt;exact At.r 1
 ·refine At.LS 3 [3] 0 (fun p8=>([],[],[])) (fun op8 J k=>∃ s9,jZ N a1 k s9=some op8∧J [3,47] 0 [(48,(j64 s9))] [] []) N (fun _ h=>⟨_,h,jr⟩) (fun op8 g8 k s hI=>?_) fun p8=>?_
  ·obtain ⟨s9,h,hj⟩:=hI
   cases k with
   | zero=>cases h
   | succ k=>
    refine At.jr hj ?_ h
    refine At.c 1 ?_ ?_
    ·refine At.b 0 (fun _ e=>zP hT (eA 2 1 j64) a1.gUv e (by kernel_rfl) (by kernel_rfl)) fun e10=>?_
     refine At.J 2 0 [3,47,48] 1 (fun p11=>([(64,(eB p11))],[],[])) (fun p11=>?_) fun p11=>?_
     ·refine At.b 0 (fun _ e=>bG hT (k:=1) 0 [] 0 e) fun u12=>?_
      refine At.b 0 (fun _ e=>oY hT j64 0 e) fun e13=>?_
      refine At.b 0 (fun _ e=>bG hT (k:=1) 0 [] 0 e) fun u14=>?_
      refine At.b 0 (fun _ e=>oY hT j64 0 e) fun e15=>?_
      refine lx ?_;intro x16
      refine At.s 57 3 ?_ ?_
      ·refine At.g [57] 7 ?_
       apply rt;exact At.jn 0
      ·refine At.b 0 (fun _ e=>bG hT (k:=1) 0 [] 0 e) fun u17=>?_
       refine At.b 0 (fun _ e=>oY hT j64 0 e) fun e18=>?_
       refine At.b 0 (fun _ e=>bG hT (k:=1) 0 [] 0 e) fun u19=>?_
       refine At.b 0 (fun _ e=>oY hT j64 0 e) fun e20=>?_
       refine lx ?_;intro x21
       refine At.g [57] 3 ?_
       apply rt;exact At.jn 0
     ·refine At.c 0 ?_ ?_
      ·intro e;apply aCF g8 e;exact At.r 1
      ·exact fun h=>At.k 2 ⟨_,h,jr⟩
    ·apply rt;exact At.xs 0
  ·refine At.LS 3 [] 0 (fun p22=>([],[],[])) (fun op22 J k=>∃ s23,jY N a1 k s23=some op22∧J [67] 0 [(68,(j64 s23))] [] []) N (fun _ h=>⟨_,h,jr⟩) (fun op22 g22 k s hI=>?_) fun p22=>?_
   ·obtain ⟨s23,h,hj⟩:=hI
    cases k with
    | zero=>cases h
    | succ k=>
     refine At.jr hj ?_ h
     refine At.c 1 ?_ ?_
     ·refine At.b 0 (fun _ e=>zP hT aC.enc a1.gP e (by kernel_rfl) (by kernel_rfl)) fun e24=>?_
      refine At.b 4 (fun _ e=>aN [] (zA e)) fun r25=>?_
      refine At.c 1 ?_ ?_
      ·intro e;apply aCF g22 e;exact At.r 1
      ·exact fun h=>At.k 2 ⟨_,h,jr⟩
     ·apply rt;exact At.xs 0
   ·apply rt;exact At.r 1
def aCV : Nat→Bool:=imL [2]
def nB (N:Nat) (a0:aE) (a1:aG):Option (Int):=
 Option.bind (pP N a1 a0) fun r1=>
 some r1
theorem aCC {N a0 a1 r} (h:nB N a0 a1=some r):FnM Tryz.prog 36 [] [(aE.enc a0),(.im (aG.enc a1))] (j64 r) []:=by
 unfold nB at h
 refine At.f aCV hT hmo Tryz.func36 rfl h ?_
 refine At.b 4 (fun _ e=>aN [] (aDZ e)) fun r1=>?_
 apply rt;exact At.r 1
def fZ (N:Nat) (a0:(List aE)) (a1:aG):Nat→Int→Option (Sum (Unit) (Int))
 | 0,_=>none
 | k+1,s2=>
  aV (decide (s2 < ((a0.length:Int)))) fun x3=>
  cond x3 (
   Option.bind (idx a0 s2) fun e4=>
   Option.bind (nB N e4 a1) fun r5=>
   cond (r5 != 0) (
    some (Sum.inr r5)) (
    fZ N a0 a1 k (I64 (s2+1)))) (
   some (Sum.inl (())))
def fA (N:Nat) (a0:(List aE)) (a1:aG):Option (Int):=
 Option.bind (fZ N a0 a1 N 0) fun o=>lP o (fun p1=>
  some 0) (fun r=>some r)
theorem vX {N a0 a1 r} (h:fA N a0 a1=some r):FnM Tryz.prog 35 [] [(eL 19 aE.enc a0),(.fn (.func 36) [] [(.im (aG.enc a1))])] (j64 r) []:=by
 unfold fA at h
 refine At.f dJ hT hmo Tryz.func35 rfl h ?_
 refine At.LS 4 [] 0 (fun p1=>([],[],[])) (fun op1 J k=>∃ s2,fZ N a0 a1 k s2=some op1∧J [1,8,9] 0 [(10,(j64 s2))] [] []) N (fun _ h=>⟨_,h,jr⟩) (fun op1 g1 k s hI=>?_) fun p1=>?_
 ·obtain ⟨s2,h,hj⟩:=hI
  cases k with
  | zero=>cases h
  | succ k=>
   refine At.jr hj ?_ h
   refine lx ?_;intro x3
   refine At.c 1 ?_ ?_
   ·refine At.b 0 (fun _ e=>cH hT aE.enc e) fun e4=>?_
    refine At.b 5 (fun _ e=>aN [] (aCC e)) fun r5=>?_
    refine At.c 3 ?_ ?_
    ·intro e;apply aCF g1 e;exact At.r 2
    ·exact fun h=>At.k 2 ⟨_,h,jr⟩
   ·apply rt;exact At.xs 0
 ·apply rt;exact At.r 1
def lF (N:Nat) (a0 a1:Int):Option (Bool):=
 aV (cond (decide (a0 < 0)) true (decide (a0 > a1))) fun x1=>
 some x1
theorem aBN {N a0 a1 r} (h:lF N a0 a1=some r):FnM Tryz.prog 178 [] [(j64 a0),(.im (j64 a1))] (eB r) []:=by
 unfold lF at h
 refine At.f dJ hT hmo Tryz.func178 rfl h ?_
 refine lx ?_;intro x1
 apply rt;exact At.r 9
def eC (N:Nat) (a0:(List Int)) (a1:Int):Nat→Int→Option (Sum (Unit) (Int))
 | 0,_=>none
 | k+1,s2=>
  aV (decide (s2 < ((a0.length:Int)))) fun x3=>
  cond x3 (
   Option.bind (idx a0 s2) fun e4=>
   Option.bind (lF N e4 a1) fun r5=>
   cond r5 (
    some (Sum.inr s2)) (
    eC N a0 a1 k (I64 (s2+1)))) (
   some (Sum.inl (())))
def eS (N:Nat) (a0:(List Int)) (a1:Int):Option (Int):=
 Option.bind (eC N a0 a1 N 0) fun o=>lP o (fun p1=>
  some (-1)) (fun r=>some r)
theorem sG {N a0 a1 r} (h:eS N a0 a1=some r):FnM Tryz.prog 212 [] [(eL 1 j64 a0),(.fn (.func 178) [] [(.im (j64 a1))])] (j64 r) []:=by
 unfold eS at h
 refine At.f dJ hT hmo Tryz.func212 rfl h ?_
 refine At.LS 4 [] 0 (fun p1=>([],[],[])) (fun op1 J k=>∃ s2,eC N a0 a1 k s2=some op1∧J [0,1,7] 0 [(8,(j64 s2))] [] []) N (fun _ h=>⟨_,h,jr⟩) (fun op1 g1 k s hI=>?_) fun p1=>?_
 ·obtain ⟨s2,h,hj⟩:=hI
  cases k with
  | zero=>cases h
  | succ k=>
   refine At.jr hj ?_ h
   refine lx ?_;intro x3
   refine At.c 1 ?_ ?_
   ·refine At.b 5 (fun _ e=>cH hT j64 e) fun e4=>?_
    refine At.b 1 (fun _ e=>aN [] (aBN e)) fun r5=>?_
    refine At.c 0 ?_ ?_
    ·intro e;apply aCF g1 e;exact At.r 2
    ·exact fun h=>At.k 2 ⟨_,h,jr⟩
   ·apply rt;exact At.xs 0
 ·apply rt;exact At.r 1
def eD (N:Nat) (a0:(List Int)) (a1:Int):Option (Bool):=
 Option.bind (eS N a0 a1) fun r1=>
 some (decide (r1≥0))
theorem qY {N a0 a1 r} (h:eD N a0 a1=some r):FnM Tryz.prog 177 [] [(eL 1 j64 a0),(.fn (.func 178) [] [(.im (j64 a1))])] (eB r) []:=by
 unfold eD at h
 refine At.f dJ hT hmo Tryz.func177 rfl h ?_
 refine At.b 3 (fun _ e=>aN [] (sG e)) fun r1=>?_
 apply rt;exact At.r 2
def aEv : Nat→Bool:=imL [2]
def kA (N:Nat) (a0:Int) (a1:(List Int)):Option (Bool):=
 Option.bind (eD N a1 a0) fun r1=>
 some r1
theorem sY {N a0 a1 r} (h:kA N a0 a1=some r):FnM Tryz.prog 93 [] [(j64 a0),(eL 1 j64 a1)] (eB r) []:=by
 unfold kA at h
 refine At.f aEv hT hmo Tryz.func93 rfl h ?_
 refine At.o 3 (qJ (x:=(.fn (.func 178) [] [(.im (j64 a0))])) (by kernel_rfl) (by kernel_rfl)) ?_
 refine At.b 0 (fun _ e=>aN [] (qY e)) fun r1=>?_
 apply rt;exact At.r 1
def aDk : Nat→Bool:=imL [1]
def mZ (N:Nat) (a0:aU):Option (Int):=
 Option.bind (Option.bind (kA N 4 ([a0.gI])) fun r2=>
 cond r2 (
  some true) (
  Option.bind (idx a0.gB0.toList 0) fun e3=>
  Option.bind (idx a0.gB0.toList 1) fun e4=>
  Option.bind (idx a0.gB0.toList 2) fun e5=>
  Option.bind (kA N 65535 ([e3,e4,e5,a0.gD7])) fun r6=>
  some r6)) fun p1=>
 cond p1 (some 5) (some 0)
theorem aDK {N a0 r} (h:mZ N a0=some r):FnM Tryz.prog 39 [] [(aU.enc a0)] (j64 r) []:=by
 unfold mZ at h
 refine At.f aDk hT hmo Tryz.func39 rfl h ?_
 refine At.J 2 0 [] 0 (fun p1=>([(21,(eB p1))],[],[])) (fun p1=>?_) fun p1=>?_
 ·refine At.o 2 (cT hT (x:=(.sl 1 1 [(j64 a0.gI)]))) ?_
  refine At.b 0 (fun _ e=>aN [] (sY e)) fun r2=>?_
  refine At.s 7 1 ?_ ?_
  ·refine At.g [7] 14 ?_
   apply rt;exact At.jn 0
  ·refine At.g [7] 1 ?_
   refine At.b 0 (fun _ e=>dG hT (N:=3) (k:=1) j64 a0.gB0 e) fun e3=>?_
   refine At.g [7] 2 ?_
   refine At.b 0 (fun _ e=>dG hT (N:=3) (k:=1) j64 a0.gB0 e) fun e4=>?_
   refine At.g [7] 2 ?_
   refine At.b 0 (fun _ e=>dG hT (N:=3) (k:=1) j64 a0.gB0 e) fun e5=>?_
   refine At.g [7] 3 ?_
   refine At.o 0 (cT hT (x:=(.sl 1 4 [(j64 e3),(j64 e4),(j64 e5),(j64 a0.gD7)]))) ?_
   refine At.b 0 (fun _ e=>aN [] (sY e)) fun r6=>?_
   refine At.g [7] 1 ?_
   apply rt;exact At.jn 0
 ·refine At.c 0 ?_ ?_
  ·apply rt;exact At.r 1
  ·apply rt;exact At.r 1
def eH (N:Nat) (a0:(List aU)):Nat→Int→Option (Sum (Unit) (Int))
 | 0,_=>none
 | k+1,s2=>
  aV (decide (s2 < ((a0.length:Int)))) fun x3=>
  cond x3 (
   Option.bind (idx a0 s2) fun e4=>
   Option.bind (mZ N e4) fun r5=>
   cond (r5 != 0) (
    some (Sum.inr r5)) (
    eH N a0 k (I64 (s2+1)))) (
   some (Sum.inl (())))
def dQ (N:Nat) (a0:(List aU)):Option (Int):=
 Option.bind (eH N a0 N 0) fun o=>lP o (fun p1=>
  some 0) (fun r=>some r)
theorem tD {N a0 r} (h:dQ N a0=some r):FnM Tryz.prog 38 [] [(eL 5 aU.enc a0),(.fn (.func 39) [] [])] (j64 r) []:=by
 unfold dQ at h
 refine At.f dJ hT hmo Tryz.func38 rfl h ?_
 refine At.LS 4 [] 0 (fun p1=>([],[],[])) (fun op1 J k=>∃ s2,eH N a0 k s2=some op1∧J [1,8,9] 0 [(10,(j64 s2))] [] []) N (fun _ h=>⟨_,h,jr⟩) (fun op1 g1 k s hI=>?_) fun p1=>?_
 ·obtain ⟨s2,h,hj⟩:=hI
  cases k with
  | zero=>cases h
  | succ k=>
   refine At.jr hj ?_ h
   refine lx ?_;intro x3
   refine At.c 1 ?_ ?_
   ·refine At.b 0 (fun _ e=>cH hT aU.enc e) fun e4=>?_
    refine At.b 5 (fun _ e=>aN [] (aDK e)) fun r5=>?_
    refine At.c 3 ?_ ?_
    ·intro e;apply aCF g1 e;exact At.r 2
    ·exact fun h=>At.k 2 ⟨_,h,jr⟩
   ·apply rt;exact At.xs 0
 ·apply rt;exact At.r 1
def fF (N:Nat) (a0:(List Int)) (a1:Int):Nat→Int→Option (Sum (Unit) (Int))
 | 0,_=>none
 | k+1,s2=>
  aV (decide (s2 < ((a0.length:Int)))) fun x3=>
  cond x3 (
   Option.bind (idx a0 s2) fun e4=>
   cond (a1==e4) (
    some (Sum.inr s2)) (
    fF N a0 a1 k (I64 (s2+1)))) (
   some (Sum.inl (())))
def mM (N:Nat) (a0:(List Int)) (a1:Int):Option (Int):=
 Option.bind (fF N a0 a1 N 0) fun o=>lP o (fun p1=>
  some (-1)) (fun r=>some r)
theorem aAU {N a0 a1 r} (h:mM N a0 a1=some r):FnM Tryz.prog 179 [] [(eL 1 j64 a0),(j64 a1)] (j64 r) []:=by
 unfold mM at h
 refine At.f dJ hT hmo Tryz.func179 rfl h ?_
 refine At.LS 4 [] 0 (fun p1=>([],[],[])) (fun op1 J k=>∃ s2,fF N a0 a1 k s2=some op1∧J [0,1,7] 0 [(8,(j64 s2))] [] []) N (fun _ h=>⟨_,h,jr⟩) (fun op1 g1 k s hI=>?_) fun p1=>?_
 ·obtain ⟨s2,h,hj⟩:=hI
  cases k with
  | zero=>cases h
  | succ k=>
   refine At.jr hj ?_ h
   refine lx ?_;intro x3
   refine At.c 1 ?_ ?_
   ·refine At.b 5 (fun _ e=>cH hT j64 e) fun e4=>?_
    refine At.c 2 ?_ ?_
    ·intro e;apply aCF g1 e;exact At.r 2
    ·exact fun h=>At.k 2 ⟨_,h,jr⟩
   ·apply rt;exact At.xs 0
 ·apply rt;exact At.r 1
def iL (N:Nat) (a0:(List Int)) (a1:Int):Option (Bool):=
 Option.bind (mM N a0 a1) fun r1=>
 some (decide (r1≥0))
theorem yV {N a0 a1 r} (h:iL N a0 a1=some r):FnM Tryz.prog 94 [] [(eL 1 j64 a0),(j64 a1)] (eB r) []:=by
 unfold iL at h
 refine At.f dJ hT hmo Tryz.func94 rfl h ?_
 refine At.b 3 (fun _ e=>aN [] (aAU e)) fun r1=>?_
 apply rt;exact At.r 2
def aEs : Nat→Bool:=imL [1]
def kY (N:Nat) (x5:Int) (a0:aD):Nat→Int→Option (Sum (Unit) (Int))
 | 0,_=>none
 | k+1,s7=>
  cond (decide (s7 < x5)) (
   Option.bind (idx a0.gA3 s7) fun e8=>
   Option.bind (Option.bind (fD 0 3) fun _=>
   Option.bind (e8.toList[(Int.toNat 0)]?) fun e11=>
   Option.bind (fD 1 3) fun _=>
   Option.bind (e8.toList[(Int.toNat 1)]?) fun e13=>
   Option.bind (fD 2 3) fun _=>
   Option.bind (e8.toList[(Int.toNat 2)]?) fun e15=>
   aV (decide ((kE (kE e11 e13) e15) < 0)) fun x16=>
   cond x16 (
    some true) (
    Option.bind (fD 0 3) fun _=>
    Option.bind (e8.toList[(Int.toNat 0)]?) fun e18=>
    Option.bind (fD 1 3) fun _=>
    Option.bind (e8.toList[(Int.toNat 1)]?) fun e20=>
    Option.bind (fD 2 3) fun _=>
    Option.bind (e8.toList[(Int.toNat 2)]?) fun e22=>
    aV (decide ((jH (jH e18 e20) e22) > 255)) fun x23=>
    some x23)) fun p9=>
   cond p9 (some (Sum.inr 5)) (kY N x5 a0 k (I64 (s7+1)))) (
   some (Sum.inl (())))
def iX (N:Nat) (a0:aD):Option (Int):=
 Option.bind (iL N ([1,2,4,8,16]) a0.gE) fun r1=>
 aV ((a0.gA3.length:Int)) fun x2=>
 aV (I64 (a0.gE*a0.gE)) fun x3=>
 aV (cond (!r1) true (x2 != x3)) fun x4=>
 cond x4 (
  some 5) (
  aV ((a0.gA3.length:Int)) fun x5=>
  Option.bind (kY N x5 a0 N 0) fun o=>lP o (fun p6=>
   some 0) (fun r=>some r))
theorem sQ {N a0 r} (h:iX N a0=some r):FnM Tryz.prog 41 [] [(aD.enc a0)] (j64 r) []:=by
 unfold iX at h
 refine At.f aEs hT hmo Tryz.func41 rfl h ?_
 refine At.o 2 (cT hT (x:=(.sl 1 5 [(j64 1),(j64 2),(j64 4),(j64 8),(j64 16)]))) ?_
 refine At.b 2 (fun _ e=>aN [] (yV e)) fun r1=>?_
 refine lx ?_;intro x2
 refine lx ?_;intro x3
 refine lx ?_;intro x4
 refine At.c 12 ?_ ?_
 ·apply rt;exact At.r 1
 ·refine lx ?_;intro x5
  refine At.LS 4 [] 0 (fun p6=>([],[],[])) (fun op6 J k=>∃ s7,kY N x5 a0 k s7=some op6∧J [22,23] 0 [(24,(j64 s7))] [] []) N (fun _ h=>⟨_,h,jr⟩) (fun op6 g6 k s hI=>?_) fun p6=>?_
  ·obtain ⟨s7,h,hj⟩:=hI
   cases k with
   | zero=>cases h
   | succ k=>
    refine At.jr hj ?_ h
    refine At.c 1 ?_ ?_
    ·refine At.b 0 (fun _ e=>cH hT (eA 3 1 j64) e) fun e8=>?_
     refine At.J 3 0 [22,23,24] 1 (fun p9=>([(45,(eB p9))],[],[])) (fun p9=>?_) fun p9=>?_
     ·refine At.b 0 (fun _ e=>bG hT (k:=1) 0 [] 0 e) fun u10=>?_
      refine At.b 0 (fun _ e=>oY hT j64 0 e) fun e11=>?_
      refine At.b 0 (fun _ e=>bG hT (k:=1) 0 [] 0 e) fun u12=>?_
      refine At.b 0 (fun _ e=>oY hT j64 0 e) fun e13=>?_
      refine At.b 0 (fun _ e=>bG hT (k:=1) 0 [] 0 e) fun u14=>?_
      refine At.b 0 (fun _ e=>oY hT j64 0 e) fun e15=>?_
      refine At.o 0 (yG (k := .i64) (i:=e11) (j:=e13) (l:=e15) (by kernel_rfl) (by kernel_rfl)) ?_
      refine lx ?_;intro x16
      refine At.s 36 2 ?_ ?_
      ·refine At.g [36] 9 ?_
       apply rt;exact At.jn 0
      ·refine At.b 0 (fun _ e=>bG hT (k:=1) 0 [] 0 e) fun u17=>?_
       refine At.b 0 (fun _ e=>oY hT j64 0 e) fun e18=>?_
       refine At.b 0 (fun _ e=>bG hT (k:=1) 0 [] 0 e) fun u19=>?_
       refine At.b 0 (fun _ e=>oY hT j64 0 e) fun e20=>?_
       refine At.b 0 (fun _ e=>bG hT (k:=1) 0 [] 0 e) fun u21=>?_
       refine At.b 0 (fun _ e=>oY hT j64 0 e) fun e22=>?_
       refine At.o 0 (yL (k := .i64) (i:=e18) (j:=e20) (l:=e22) (by kernel_rfl) (by kernel_rfl)) ?_
       refine lx ?_;intro x23
       refine At.g [36] 2 ?_
       apply rt;exact At.jn 0
     ·refine At.c 0 ?_ ?_
      ·intro e;apply aCF g6 e;exact At.r 1
      ·exact fun h=>At.k 2 ⟨_,h,jr⟩
    ·apply rt;exact At.xs 0
  ·apply rt;exact At.r 1
def fH (N:Nat) (a0:(List aD)):Nat→Int→Option (Sum (Unit) (Int))
 | 0,_=>none
 | k+1,s2=>
  aV (decide (s2 < ((a0.length:Int)))) fun x3=>
  cond x3 (
   Option.bind (idx a0 s2) fun e4=>
   Option.bind (iX N e4) fun r5=>
   cond (r5 != 0) (
    some (Sum.inr r5)) (
    fH N a0 k (I64 (s2+1)))) (
   some (Sum.inl (())))
def eR (N:Nat) (a0:(List aD)):Option (Int):=
 Option.bind (fH N a0 N 0) fun o=>lP o (fun p1=>
  some 0) (fun r=>some r)
theorem vD {N a0 r} (h:eR N a0=some r):FnM Tryz.prog 40 [] [(eL 2 aD.enc a0),(.fn (.func 41) [] [])] (j64 r) []:=by
 unfold eR at h
 refine At.f dJ hT hmo Tryz.func40 rfl h ?_
 refine At.LS 4 [] 0 (fun p1=>([],[],[])) (fun op1 J k=>∃ s2,fH N a0 k s2=some op1∧J [1,8,9] 0 [(10,(j64 s2))] [] []) N (fun _ h=>⟨_,h,jr⟩) (fun op1 g1 k s hI=>?_) fun p1=>?_
 ·obtain ⟨s2,h,hj⟩:=hI
  cases k with
  | zero=>cases h
  | succ k=>
   refine At.jr hj ?_ h
   refine lx ?_;intro x3
   refine At.c 1 ?_ ?_
   ·refine At.b 0 (fun _ e=>cH hT aD.enc e) fun e4=>?_
    refine At.b 5 (fun _ e=>aN [] (sQ e)) fun r5=>?_
    refine At.c 3 ?_ ?_
    ·intro e;apply aCF g1 e;exact At.r 2
    ·exact fun h=>At.k 2 ⟨_,h,jr⟩
   ·apply rt;exact At.xs 0
 ·apply rt;exact At.r 1
def aE4 : Nat→Bool:=imL [1]
def mE (N:Nat) (a0:aC):Option (Bool):=
 Option.bind (aV (decide ((jH (jH a0.gX a0.gY) a0.gZ) > 4096)) fun x2=>
 cond x2 (
  some true) (
  aV (decide ((kE (kE a0.gX a0.gY) a0.gZ) < (-4096))) fun x3=>
  some x3)) fun p1=>
 some p1
theorem vQ {N a0 r} (h:mE N a0=some r):FnM Tryz.prog 95 [] [(aC.enc a0)] (eB r) []:=by
 unfold mE at h
 refine At.f aE4 hT hmo Tryz.func95 rfl h ?_
 refine At.J 2 0 [] 0 (fun p1=>([(2,(eB p1))],[],[])) (fun p1=>?_) fun p1=>?_
 ·refine At.o 6 (yL (k := .i64) (i:=a0.gX) (j:=a0.gY) (l:=a0.gZ) (by kernel_rfl) (by kernel_rfl)) ?_
  refine lx ?_;intro x2
  refine At.s 11 2 ?_ ?_
  ·refine At.g [11] 10 ?_
   apply rt;exact At.jn 0
  ·refine At.g [11] 6 ?_
   refine At.o 0 (yG (k := .i64) (i:=a0.gX) (j:=a0.gY) (l:=a0.gZ) (by kernel_rfl) (by kernel_rfl)) ?_
   refine lx ?_;intro x3
   refine At.g [11] 3 ?_
   apply rt;exact At.jn 0
 ·apply rt;exact At.r 0
def aGz : Nat→Bool:=imL [1]
def oS (N:Nat) (a0:aS):Option (Int):=
 Option.bind (Option.bind (kA N 2 ([a0.gI])) fun r2=>
 cond r2 (
  some true) (
  Option.bind (wC a0.gB0.toList 0 3) fun s3=>
  Option.bind (kA N 1048576 s3) fun r4=>
  some r4)) fun p1=>
 cond p1 (
  some 5) (
  Option.bind (Option.bind (mE N a0.gAt) fun r6=>
  cond r6 (
   some true) (
   Option.bind (mE N a0.gU) fun r7=>
   cond r7 (
    some true) (
    Option.bind (mE N a0.gV) fun r8=>
    some r8))) fun p5=>
  cond p5 (
   some 8) (
   Option.bind (cond (a0.gI==2) (
    cond (!(aC.eq a0.gAt (aC.mk 0 0 0))) (
     some (Sum.inr 5)) (
     Option.bind (aV (!(aC.eq a0.gU (aC.mk 0 0 0))) fun x11=>
     cond x11 (
      some true) (
      some (!(aC.eq a0.gV (aC.mk 0 0 0))))) fun p10=>
     cond p10 (some (Sum.inr 5)) (some (Sum.inl (()))))) (
    cond (a0.gI==0) (
     Option.bind (aV (!(aC.eq a0.gU (aC.mk 0 0 0))) fun x13=>
     cond x13 (
      some true) (
      some (!(aC.eq a0.gV (aC.mk 0 0 0))))) fun p12=>
     cond p12 (some (Sum.inr 5)) (some (Sum.inl (())))) (
     some (Sum.inl (()))))) fun o=>lP o (fun p9=>
    some 0) (fun r=>some r)))
theorem aBi {N a0 r} (h:oS N a0=some r):FnM Tryz.prog 43 [] [(aS.enc a0)] (j64 r) []:=by
 unfold oS at h
 refine At.f aGz hT hmo Tryz.func43 rfl h ?_
 refine At.J 6 0 [1,3,4] 1 (fun p1=>([(6,(eB p1))],[],[])) (fun p1=>?_) fun p1=>?_
 ·refine At.o 2 (cT hT (x:=(.sl 1 1 [(j64 a0.gI)]))) ?_
  refine At.b 0 (fun _ e=>aN [] (sY e)) fun r2=>?_
  refine At.s 11 1 ?_ ?_
  ·refine At.g [11] 5 ?_
   apply rt;exact At.jn 0
  ·refine At.g [11] 1 ?_
   refine At.b 0 (fun _ e=>aAj hT (N:=3) (k:=1) j64 a0.gB0 e) fun s3=>?_
   refine At.b 0 (fun _ e=>aN [] (sY e)) fun r4=>?_
   refine At.g [11] 2 ?_
   apply rt;exact At.jn 0
 ·refine At.c 0 ?_ ?_
  ·apply rt;exact At.r 1
  ·refine At.J 0 0 [1,4] 1 (fun p5=>([(16,(eB p5))],[],[])) (fun p5=>?_) fun p5=>?_
   ·refine At.b 3 (fun _ e=>aN [] (vQ e)) fun r6=>?_
    refine At.s 21 1 ?_ ?_
    ·refine At.g [21,27] 12 ?_
     apply rt;exact At.jn 0
    ·refine At.g [21] 3 ?_
     refine At.b 0 (fun _ e=>aN [] (vQ e)) fun r7=>?_
     refine At.g [21] 2 ?_
     refine At.s 27 0 ?_ ?_
     ·refine At.g [27] 6 ?_
      apply rt;exact At.jn 0
     ·refine At.g [27] 3 ?_
      refine At.b 0 (fun _ e=>aN [] (vQ e)) fun r8=>?_
      refine At.g [27] 2 ?_
      apply rt;exact At.jn 0
   ·refine At.c 0 ?_ ?_
    ·apply rt;exact At.r 1
    ·refine At.JS 0 1 [] 1 (fun p9=>([],[],[])) (fun op9 g9=>?_) fun p9=>?_
     ·refine At.c 4 ?_ ?_
      ·refine At.o 3 (zE aA8 (a0.gAt:aC) (aC.mk 0 0 0:aC) (by kernel_rfl) (by kernel_rfl) (fun _=>rfl) (fun _=>rfl) (by kernel_rfl) (by kernel_rfl)) ?_
       refine At.c 0 ?_ ?_
       ·intro e;apply aCF g9 e;exact At.r 1
       ·refine At.J 0 0 [] 1 (fun p10=>([(52,(eB p10))],[],[])) (fun p10=>?_) fun p10=>?_
        ·refine At.o 3 (zE aA8 (a0.gU:aC) (aC.mk 0 0 0:aC) (by kernel_rfl) (by kernel_rfl) (fun _=>rfl) (fun _=>rfl) (by kernel_rfl) (by kernel_rfl)) ?_
         refine lx ?_;intro x11
         refine At.s 47 1 ?_ ?_
         ·refine At.g [47] 5 ?_
          apply rt;exact At.jn 0
         ·refine At.g [47] 3 ?_
          refine At.o 0 (zE aA8 (a0.gV:aC) (aC.mk 0 0 0:aC) (by kernel_rfl) (by kernel_rfl) (fun _=>rfl) (fun _=>rfl) (by kernel_rfl) (by kernel_rfl)) ?_
          refine At.g [47] 1 ?_
          apply rt;exact At.jn 0
        ·refine At.c 0 ?_ ?_
         ·intro e;apply aCF g9 e;exact At.r 1
         ·apply rt;exact At.jsn 0
      ·refine At.c 2 ?_ ?_
       ·refine At.J 0 0 [] 1 (fun p12=>([(52,(eB p12))],[],[])) (fun p12=>?_) fun p12=>?_
        ·refine At.o 3 (zE aA8 (a0.gU:aC) (aC.mk 0 0 0:aC) (by kernel_rfl) (by kernel_rfl) (fun _=>rfl) (fun _=>rfl) (by kernel_rfl) (by kernel_rfl)) ?_
         refine lx ?_;intro x13
         refine At.s 47 1 ?_ ?_
         ·refine At.g [47] 5 ?_
          apply rt;exact At.jn 0
         ·refine At.g [47] 3 ?_
          refine At.o 0 (zE aA8 (a0.gV:aC) (aC.mk 0 0 0:aC) (by kernel_rfl) (by kernel_rfl) (fun _=>rfl) (fun _=>rfl) (by kernel_rfl) (by kernel_rfl)) ?_
          refine At.g [47] 1 ?_
          apply rt;exact At.jn 0
        ·refine At.c 0 ?_ ?_
         ·intro e;apply aCF g9 e;exact At.r 1
         ·apply rt;exact At.jsn 0
       ·apply rt;exact At.jsn 0
     ·apply rt;exact At.r 1
def hO (N:Nat) (a0:(List aS)):Nat→Int→Option (Sum (Unit) (Int))
 | 0,_=>none
 | k+1,s2=>
  aV (decide (s2 < ((a0.length:Int)))) fun x3=>
  cond x3 (
   Option.bind (idx a0 s2) fun e4=>
   Option.bind (oS N e4) fun r5=>
   cond (r5 != 0) (
    some (Sum.inr r5)) (
    hO N a0 k (I64 (s2+1)))) (
   some (Sum.inl (())))
def fC (N:Nat) (a0:(List aS)):Option (Int):=
 Option.bind (hO N a0 N 0) fun o=>lP o (fun p1=>
  some 0) (fun r=>some r)
theorem vS {N a0 r} (h:fC N a0=some r):FnM Tryz.prog 42 [] [(eL 13 aS.enc a0),(.fn (.func 43) [] [])] (j64 r) []:=by
 unfold fC at h
 refine At.f dJ hT hmo Tryz.func42 rfl h ?_
 refine At.LS 4 [] 0 (fun p1=>([],[],[])) (fun op1 J k=>∃ s2,hO N a0 k s2=some op1∧J [1,8,9] 0 [(10,(j64 s2))] [] []) N (fun _ h=>⟨_,h,jr⟩) (fun op1 g1 k s hI=>?_) fun p1=>?_
 ·obtain ⟨s2,h,hj⟩:=hI
  cases k with
  | zero=>cases h
  | succ k=>
   refine At.jr hj ?_ h
   refine lx ?_;intro x3
   refine At.c 1 ?_ ?_
   ·refine At.b 0 (fun _ e=>cH hT aS.enc e) fun e4=>?_
    refine At.b 5 (fun _ e=>aN [] (aBi e)) fun r5=>?_
    refine At.c 3 ?_ ?_
    ·intro e;apply aCF g1 e;exact At.r 2
    ·exact fun h=>At.k 2 ⟨_,h,jr⟩
   ·apply rt;exact At.xs 0
 ·apply rt;exact At.r 1
def aG2 : Nat→Bool:=imL [1]
def mU (N:Nat) (a0:aG):Option (Int):=
 aV ((a0.gB7.length:Int)) fun x1=>
 aV (x1 != ((a0.gB6.length:Int))) fun x2=>
 cond x2 (
  some 5) (
  Option.bind (fA N a0.gG a0) fun r3=>
  cond (r3 != 0) (
   some r3) (
   Option.bind (dQ N a0.gB1) fun r4=>
   cond (r4 != 0) (
    some r4) (
    Option.bind (eR N a0.gA2) fun r5=>
    cond (r5 != 0) (
     some r5) (
     Option.bind (fC N a0.gJ) fun r6=>
     some r6))))
theorem aGT {N a0 r} (h:mU N a0=some r):FnM Tryz.prog 14 [] [(aG.enc a0)] (j64 r) []:=by
 unfold mU at h
 refine At.f aG2 hT hmo Tryz.func14 rfl h ?_
 refine lx ?_;intro x1
 refine lx ?_;intro x2
 refine At.c 9 ?_ ?_
 ·apply rt;exact At.r 1
 ·refine At.o 2 (qJ (x:=(.fn (.func 36) [] [(.im (aG.enc a0))])) (by kernel_rfl) (by kernel_rfl)) ?_
  refine At.b 0 (fun _ e=>aN [] (vX e)) fun r3=>?_
  refine At.c 3 ?_ ?_
  ·apply rt;exact At.r 2
  ·refine At.b 2 (fun _ e=>aN [] (tD e)) fun r4=>?_
   refine At.c 3 ?_ ?_
   ·apply rt;exact At.r 2
   ·refine At.b 2 (fun _ e=>aN [] (vD e)) fun r5=>?_
    refine At.c 3 ?_ ?_
    ·apply rt;exact At.r 2
    ·refine At.b 2 (fun _ e=>aN [] (vS e)) fun r6=>?_
     apply rt;exact At.r 1
def aLA : Nat→Bool:=imL [1]
def uC (N:Nat) (a0:aC):Option (Bool):=
 Option.bind (aV (!(aC.eq a0 (aC.mk 0 0 0))) fun x2=>
 cond x2 (
  aV (decide ((jH (jH a0.gX a0.gY) a0.gZ)≤16384)) fun x3=>
  cond x3 (
   aV (decide ((kE (kE a0.gX a0.gY) a0.gZ)≥(-16384))) fun x4=>
   some x4) (
   some false)) (
  some false)) fun p1=>
 some p1
theorem aBT {N a0 r} (h:uC N a0=some r):FnM Tryz.prog 98 [] [(aC.enc a0)] (eB r) []:=by
 unfold uC at h
 refine At.f aLA hT hmo Tryz.func98 rfl h ?_
 refine At.J 2 0 [] 0 (fun p1=>([(2,(eB p1))],[],[])) (fun p1=>?_) fun p1=>?_
 ·refine At.o 2 (zE aA8 (a0:aC) (aC.mk 0 0 0:aC) (by kernel_rfl) (by kernel_rfl) (fun _=>rfl) (fun _=>rfl) (by kernel_rfl) (by kernel_rfl)) ?_
  refine lx ?_;intro x2
  refine At.s 6 1 ?_ ?_
  ·refine At.g [6] 6 ?_
   refine At.o 0 (yL (k := .i64) (i:=a0.gX) (j:=a0.gY) (l:=a0.gZ) (by kernel_rfl) (by kernel_rfl)) ?_
   refine lx ?_;intro x3
   refine At.g [6] 3 ?_
   refine At.s 16 0 ?_ ?_
   ·refine At.g [16] 6 ?_
    refine At.o 0 (yG (k := .i64) (i:=a0.gX) (j:=a0.gY) (l:=a0.gZ) (by kernel_rfl) (by kernel_rfl)) ?_
    refine lx ?_;intro x4
    refine At.g [16] 3 ?_
    apply rt;exact At.jn 0
   ·refine At.g [16] 10 ?_
    apply rt;exact At.jn 0
  ·refine At.g [6,16] 20 ?_
   apply rt;exact At.jn 0
 ·apply rt;exact At.r 0
def lI (N:Nat) (a0 a1 a2:Int):Option (Bool):=
 aV (cond (decide (a0≥a1)) (decide (a0≤a2)) false) fun x1=>
 some x1
theorem tT {N a0 a1 a2 r} (h:lI N a0 a1 a2=some r):FnM Tryz.prog 97 [] [(j64 a0),(j64 a1),(j64 a2)] (eB r) []:=by
 unfold lI at h
 refine At.f dJ hT hmo Tryz.func97 rfl h ?_
 refine lx ?_;intro x1
 apply rt;exact At.r 10
def aIT : Nat→Bool:=imL [3]
def sK (N:Nat) (a0:bP) (a1 a2:Int):Option (Int):=
 Option.bind (aV (decide ((jH (jH a0.gA5.gX a0.gA5.gY) a0.gA5.gZ) > 32768)) fun x2=>
 cond x2 (
  some true) (
  aV (decide ((kE (kE a0.gA5.gX a0.gA5.gY) a0.gA5.gZ) < (-32768))) fun x3=>
  some x3)) fun p1=>
 cond p1 (
  some 8) (
  Option.bind (Option.bind (uC N a0.gA7) fun r5=>
  cond (!r5) (
   some true) (
   Option.bind (uC N a0.gUp) fun r6=>
   cond (!r6) (
    some true) (
    Option.bind (uC N a0.gE2) fun r7=>
    some (!r7)))) fun p4=>
  cond p4 (
   some 2) (
   Option.bind (Option.bind (lI N a0.gD0 0 1024) fun r9=>
   cond (!r9) (
    some true) (
    Option.bind (lI N a0.gD5 1 32768) fun r10=>
    cond (!r10) (
     some true) (
     Option.bind (lI N a1 1 64) fun r11=>
     cond (!r11) (
      some true) (
      Option.bind (lI N a2 1 64) fun r12=>
      some (!r12))))) fun p8=>
   cond p8 (some 2) (some 0)))
theorem aCP {N a0 a1 a2 r} (h:sK N a0 a1 a2=some r):FnM Tryz.prog 48 [] [(bP.enc a0),(j64 a1),(j64 a2)] (j64 r) []:=by
 unfold sK at h
 refine At.f aIT hT hmo Tryz.func48 rfl h ?_
 refine At.J 7 0 [1,2,3,8] 1 (fun p1=>([(11,(eB p1))],[],[])) (fun p1=>?_) fun p1=>?_
 ·refine At.o 6 (yL (k := .i64) (i:=a0.gA5.gX) (j:=a0.gA5.gY) (l:=a0.gA5.gZ) (by kernel_rfl) (by kernel_rfl)) ?_
  refine lx ?_;intro x2
  refine At.s 20 2 ?_ ?_
  ·refine At.g [20] 10 ?_
   apply rt;exact At.jn 0
  ·refine At.g [20] 6 ?_
   refine At.o 0 (yG (k := .i64) (i:=a0.gA5.gX) (j:=a0.gA5.gY) (l:=a0.gA5.gZ) (by kernel_rfl) (by kernel_rfl)) ?_
   refine lx ?_;intro x3
   refine At.g [20] 3 ?_
   apply rt;exact At.jn 0
 ·refine At.c 0 ?_ ?_
  ·apply rt;exact At.r 1
  ·refine At.J 0 0 [1,2,3,8] 1 (fun p4=>([(30,(eB p4))],[],[])) (fun p4=>?_) fun p4=>?_
   ·refine At.b 2 (fun _ e=>aN [] (aBT e)) fun r5=>?_
    refine At.s 35 2 ?_ ?_
    ·refine At.g [35,41] 12 ?_
     apply rt;exact At.jn 0
    ·refine At.g [35] 2 ?_
     refine At.b 0 (fun _ e=>aN [] (aBT e)) fun r6=>?_
     refine At.g [35] 3 ?_
     refine At.s 41 0 ?_ ?_
     ·refine At.g [41] 6 ?_
      apply rt;exact At.jn 0
     ·refine At.g [41] 2 ?_
      refine At.b 0 (fun _ e=>aN [] (aBT e)) fun r7=>?_
      refine At.g [41] 3 ?_
      apply rt;exact At.jn 0
   ·refine At.c 0 ?_ ?_
    ·apply rt;exact At.r 1
    ·refine At.J 0 0 [] 1 (fun p8=>([(47,(eB p8))],[],[])) (fun p8=>?_) fun p8=>?_
     ·refine At.b 3 (fun _ e=>aN [] (tT e)) fun r9=>?_
      refine At.s 53 2 ?_ ?_
      ·refine At.g [53,60,66] 19 ?_
       apply rt;exact At.jn 0
      ·refine At.g [53] 3 ?_
       refine At.b 0 (fun _ e=>aN [] (tT e)) fun r10=>?_
       refine At.g [53] 3 ?_
       refine At.s 60 0 ?_ ?_
       ·refine At.g [60,66] 12 ?_
        apply rt;exact At.jn 0
       ·refine At.g [60] 2 ?_
        refine At.b 0 (fun _ e=>aN [] (tT e)) fun r11=>?_
        refine At.g [60] 3 ?_
        refine At.s 66 0 ?_ ?_
        ·refine At.g [66] 6 ?_
         apply rt;exact At.jn 0
        ·refine At.g [66] 2 ?_
         refine At.b 0 (fun _ e=>aN [] (tT e)) fun r12=>?_
         refine At.g [66] 3 ?_
         apply rt;exact At.jn 0
     ·refine At.c 0 ?_ ?_
      ·apply rt;exact At.r 1
      ·apply rt;exact At.r 1
def aJi : Nat→Bool:=imL [1]
def rW (N:Nat) (a0:aI):Option (Int):=
 Option.bind (sK N a0.gC5 a0.gW a0.gH) fun r1=>
 cond (r1 != 0) (
  some r1) (
  aV (decide (a0.gB8 < 1)) fun x2=>
  aV (decide (a0.gB8 > 16)) fun x3=>
  aV (cond (cond x2 true x3) true (decide (a0.gN < 0))) fun x4=>
  aV (cond x4 true (decide (a0.gN > 8))) fun x5=>
  aV (cond x5 true (decide (a0.gS < 0))) fun x6=>
  aV (cond x6 true (decide (a0.gS > 2))) fun x7=>
  cond x7 (some 2) (some 0))
theorem aIf {N a0 r} (h:rW N a0=some r):FnM Tryz.prog 16 [] [(aI.enc a0)] (j64 r) []:=by
 unfold rW at h
 refine At.f aJi hT hmo Tryz.func16 rfl h ?_
 refine At.b 8 (fun _ e=>aN [] (aCP e)) fun r1=>?_
 refine At.c 3 ?_ ?_
 ·apply rt;exact At.r 2
 ·refine lx ?_;intro x2
  refine lx ?_;intro x3
  refine lx ?_;intro x4
  refine lx ?_;intro x5
  refine lx ?_;intro x6
  refine lx ?_;intro x7
  refine At.c 28 ?_ ?_
  ·apply rt;exact At.r 1
  ·apply rt;exact At.r 1
def iW (N:Nat) (a0:Int):Option (Int×Int):=
 cond (a0==0) (
  some ((16,4))) (
  cond (a0==1) (
   some ((64,4))) (
   cond (a0==2) (some ((256,8))) (some ((0,0)))))
theorem sN {N a0 r} (h:iW N a0=some r):FnM Tryz.prog 27 [] [(j64 a0)] (.tup [(j64 r.1),(j64 r.2)]) []:=by
 unfold iW at h
 refine At.f dJ hT hmo Tryz.func27 rfl h ?_
 refine At.c 5 ?_ ?_
 ·apply rt;exact At.r 2
 ·refine At.c 2 ?_ ?_
  ·apply rt;exact At.r 2
  ·refine At.c 2 ?_ ?_
   ·apply rt;exact At.r 2
   ·apply rt;exact At.r 2
def aGA : Nat→Bool:=imL [2]
def pW (N:Nat) (a0:aG) (a1:Int):Option (Int):=
 Option.bind (iW N a1) fun r1=>
 aV ((a0.gG.length:Int)) fun x2=>
 aV ((a0.gJ.length:Int)) fun x3=>
 aV (cond (decide (x2 > r1.1)) true (decide (x3 > r1.2))) fun x4=>
 cond x4 (some 15) (some 0)
theorem aE7 {N a0 a1 r} (h:pW N a0 a1=some r):FnM Tryz.prog 24 [] [(aG.enc a0),(j64 a1)] (j64 r) []:=by
 unfold pW at h
 refine At.f aGA hT hmo Tryz.func24 rfl h ?_
 refine At.b 3 (fun _ e=>aN [] (sN e)) fun r1=>?_
 refine lx ?_;intro x2
 refine lx ?_;intro x3
 refine lx ?_;intro x4
 refine At.c 17 ?_ ?_
 ·apply rt;exact At.r 1
 ·apply rt;exact At.r 1
def rY (N:Nat) (a0:Int):Option (Int×Bool):=
 cond (decide (a0 < 0)) (some ((U64 (0 - (U64 a0)),true))) (some ((U64 a0,false)))
theorem aAn {N a0 r} (h:rY N a0=some r):FnM Tryz.prog 216 [] [(j64 a0)] (.tup [(k64 r.1),(eB r.2)]) []:=by
 unfold rY at h
 refine At.f dJ hT hmo Tryz.func216 rfl h ?_
 refine At.c 4 ?_ ?_
 ·apply rt;exact At.r 5
 ·apply rt;exact At.r 4
def jR (N:Nat) (a0 a1:Int):Option (Int×Int):=
 aV (eZ .u64 a0 4294967295) fun x1=>
 aV (eZ .u64 a1 4294967295) fun x2=>
 aV (U64 ((shr .u64 a0 32)*x2)) fun x3=>
 aV (shr .u64 (U64 (x1*x2)) 32) fun x4=>
 aV (eZ .u64 (U64 (x3+x4)) 4294967295) fun x5=>
 aV (shr .u64 (U64 (x3+x4)) 32) fun x6=>
 aV (U64 (x1*(shr .u64 a1 32))) fun x7=>
 aV (U64 ((shr .u64 a0 32)*(shr .u64 a1 32))) fun x8=>
 aV (shr .u64 (U64 (x5+x7)) 32) fun x9=>
 aV (U64 ((U64 (x8+x6))+x9)) fun x10=>
 some ((x10,U64 (a0*a1)))
theorem yN {N a0 a1 r} (h:jR N a0 a1=some r):FnM Tryz.prog 183 [] [(k64 a0),(k64 a1)] (.tup [(k64 r.1),(k64 r.2)]) []:=by
 unfold jR at h
 refine At.f dJ hT hmo Tryz.func183 rfl h ?_
 refine lx ?_;intro x1
 refine lx ?_;intro x2
 refine lx ?_;intro x3
 refine lx ?_;intro x4
 refine lx ?_;intro x5
 refine lx ?_;intro x6
 refine lx ?_;intro x7
 refine lx ?_;intro x8
 refine lx ?_;intro x9
 refine lx ?_;intro x10
 apply rt;exact At.r 50
theorem aMA {x y c:Int} {r:Int×Int} (h:aB5 x y c=some r):aFt Tryz.prog 254 [.int .u64 x,.int .u64 y,.int .u64 c] (.tuple #[.int .u64 r.1,.int .u64 r.2]):=
 aMn Tryz.func254 (by kernel_rfl) (by kernel_rfl) (by kernel_rfl) (by kernel_rfl) h
def oM (N:Nat) (a0 a1:Int):Option (Int×Int):=
 Option.bind (aB5 0 a1 0) fun r1=>
 Option.bind (aB5 0 a0 r1.2) fun r2=>
 some ((r2.1,r1.1))
theorem aBY {N a0 a1 r} (h:oM N a0 a1=some r):FnM Tryz.prog 215 [] [(k64 a0),(k64 a1)] (.tup [(k64 r.1),(k64 r.2)]) []:=by
 unfold oM at h
 refine At.f dJ hT hmo Tryz.func215 rfl h ?_
 refine At.b 3 (fun _ e=>aC3 (aMA e) (fun _=>aDT)) fun r1=>?_
 refine At.b 7 (fun _ e=>aC3 (aMA e) (fun _=>aDT)) fun r2=>?_
 apply rt;exact At.r 8
def jI (N:Nat) (a0 a1:Int) (a2:Bool):Option (aP×Bool):=
 Option.bind (cond a2 (
  Option.bind (oM N a0 a1) fun r2=>
  some ((r2.1,r2.2))) (
  some ((a0,a1)))) fun p1=>
 aV (decide ((I64 p1.1) < 0)) fun x3=>
 aV ((bor .u64 p1.1 p1.2)==0) fun x4=>
 aV (cond (x3==a2) true x4) fun x5=>
 some ((aP.mk (I64 p1.1) p1.2,x5))
theorem aBy {N a0 a1 a2 r} (h:jI N a0 a1 a2=some r):FnM Tryz.prog 217 [] [(k64 a0),(k64 a1),(eB a2)] (.tup [(aP.enc r.1),(eB r.2)]) []:=by
 unfold jI at h
 refine At.f dJ hT hmo Tryz.func217 rfl h ?_
 refine At.J 2 1 [2,6] 1 (fun p1=>([(0,(k64 p1.1)),(1,(k64 p1.2))],[],[])) (fun p1=>?_) fun p1=>?_
 ·refine At.c 1 ?_ ?_
  ·refine At.b 2 (fun _ e=>aN [] (aBY e)) fun r2=>?_
   apply rt;exact At.jn 5
  ·apply rt;exact At.jn 0
 ·refine lx ?_;intro x3
  refine lx ?_;intro x4
  refine lx ?_;intro x5
  apply rt;exact At.r 20
def fJ (N:Nat) (a0 a1:Int):Option (aP):=
 Option.bind (rY N a0) fun r1=>
 Option.bind (rY N a1) fun r2=>
 Option.bind (jR N r1.1 r2.1) fun r3=>
 Option.bind (jI N r3.1 r3.2 (!(r1.2==r2.2))) fun r4=>
 some r4.1
theorem kD {N a0 a1 r} (h:fJ N a0 a1=some r):FnM Tryz.prog 154 [] [(j64 a0),(j64 a1)] (aP.enc r) []:=by
 unfold fJ at h
 refine At.f dJ hT hmo Tryz.func154 rfl h ?_
 refine At.b 2 (fun _ e=>aN [] (aAn e)) fun r1=>?_
 refine At.b 6 (fun _ e=>aN [] (aAn e)) fun r2=>?_
 refine At.b 7 (fun _ e=>aN [] (yN e)) fun r3=>?_
 refine At.b 10 (fun _ e=>aN [] (aBy e)) fun r4=>?_
 apply rt;exact At.r 8
def aKH : Nat→Bool:=imL [1]
def oN (N:Nat) (a0:aP):Option (Int×Bool):=
 aV (shr .i64 (I64 a0.gLo) 63) fun x1=>
 cond (a0.gHi != x1) (some ((0,false))) (some ((I64 a0.gLo,true)))
theorem wL {N a0 r} (h:oN N a0=some r):FnM Tryz.prog 218 [] [(aP.enc a0)] (.tup [(j64 r.1),(eB r.2)]) []:=by
 unfold oN at h
 refine At.f aKH hT hmo Tryz.func218 rfl h ?_
 refine lx ?_;intro x1
 refine At.c 12 ?_ ?_
 ·apply rt;exact At.r 2
 ·apply rt;exact At.r 3
def aKY : Nat→Bool:=imL [1]
def rF (N:Nat) (a0:aP):Option (Int):=
 Option.bind (oN N a0) fun r1=>
 cond r1.2 (
  some r1.1) (
  cond (decide (a0.gHi < 0)) (some (-9223372036854775808)) (some 9223372036854775807))
theorem aBU {N a0 r} (h:rF N a0=some r):FnM Tryz.prog 155 [] [(aP.enc a0)] (j64 r) []:=by
 unfold rF at h
 refine At.f aKY hT hmo Tryz.func155 rfl h ?_
 refine At.b 3 (fun _ e=>aN [] (wL e)) fun r1=>?_
 refine At.c 6 ?_ ?_
 ·apply rt;exact At.r 2
 ·refine At.c 3 ?_ ?_
  ·apply rt;exact At.r 1
  ·apply rt;exact At.r 1
def jU (N:Nat) (a0:Int):Option (Int):=
 Option.bind (fJ N a0 4294967296) fun r1=>
 Option.bind (rF N r1) fun r2=>
 some r2
theorem kX {N a0 r} (h:jU N a0=some r):FnM Tryz.prog 82 [] [(j64 a0)] (j64 r) []:=by
 unfold jU at h
 refine At.f dJ hT hmo Tryz.func82 rfl h ?_
 refine At.b 2 (fun _ e=>aN [] (kD e)) fun r1=>?_
 refine At.b 0 (fun _ e=>aN [] (aBU e)) fun r2=>?_
 apply rt;exact At.r 1
def nZ (N:Nat) (a0:Int):Option (Int):=
 Option.bind (aV (decide (a0≥4294967296)) fun x2=>
 cond x2 (some ((shr .u64 a0 32,32))) (some ((a0,0)))) fun p1=>
 Option.bind (cond (decide (p1.1≥65536)) (
  some ((shr .u64 p1.1 16,I64 (p1.2+16)))) (
  some ((p1.1,p1.2)))) fun p3=>
 Option.bind (cond (decide (p3.1≥256)) (some ((shr .u64 p3.1 8,I64 (p3.2+8)))) (some ((p3.1,p3.2)))) fun p4=>
 Option.bind (idx aLQ.data.toList (U8 p4.1)) fun c5=>
 aV (I64 ((UInt8.toNat c5:Int))) fun x6=>
 some (I64 (p4.2+x6))
theorem aCm {N a0 r} (h:nZ N a0=some r):FnM Tryz.prog 236 [] [(k64 a0)] (j64 r) []:=by
 unfold nZ at h
 refine At.f dJ hT hmo Tryz.func236 rfl h ?_
 refine At.J 1 1 [] 0 (fun p1=>([(0,(k64 p1.1)),(2,(j64 p1.2))],[],[])) (fun p1=>?_) fun p1=>?_
 ·refine lx ?_;intro x2
  refine At.c 2 ?_ ?_
  ·apply rt;exact At.jn 4
  ·apply rt;exact At.jn 0
 ·refine At.J 0 1 [] 0 (fun p3=>([(0,(k64 p3.1)),(2,(j64 p3.2))],[],[])) (fun p3=>?_) fun p3=>?_
  ·refine At.c 2 ?_ ?_
   ·apply rt;exact At.jn 6
   ·apply rt;exact At.jn 0
  ·refine At.J 0 1 [] 0 (fun p4=>([(0,(k64 p4.1)),(2,(j64 p4.2))],[],[])) (fun p4=>?_) fun p4=>?_
   ·refine At.c 2 ?_ ?_
    ·apply rt;exact At.jn 6
    ·apply rt;exact At.jn 0
   ·refine At.b 3 (fun _ e=>aPc hT e (by kernel_rfl) (by kernel_rfl)) fun c5=>?_
    refine lx ?_;intro x6
    apply rt;exact At.r 3
def jQ (N:Nat) (a0:Int):Option (Int):=
 Option.bind (nZ N a0) fun r1=>
 some (I64 (64 - r1))
theorem xK {N a0 r} (h:jQ N a0=some r):FnM Tryz.prog 188 [] [(k64 a0)] (j64 r) []:=by
 unfold jQ at h
 refine At.f dJ hT hmo Tryz.func188 rfl h ?_
 refine At.b 2 (fun _ e=>aN [] (aCm e)) fun r1=>?_
 apply rt;exact At.r 2
def lO (N:Nat) (x5:Int):Nat→Int→Int→Int→Int→Int→Option (Int×Int×Int×Int)
 | 0,_,_,_,_,_=>none
 | k+1,s14,s15,s16,s17,s18=>
  aV (decide (s17≥4294967296)) fun x19=>
  aV (U64 ((U64 (4294967296*s18))+s16)) fun x20=>
  aV (decide ((U64 (s17*x5)) > x20)) fun x21=>
  cond (cond x19 true x21) (
   aV (decide ((U64 (s18+s14))≥4294967296)) fun x22=>
   cond x22 (
    some ((s14,s15,s16,U64 (s17 - 1)))) (
    lO N x5 k s14 s15 s16 (U64 (s17 - 1)) (U64 (s18+s14)))) (
   some ((s14,s15,s16,s17)))
def lM (N:Nat) (x9 x5:Int) (p13:Int×Int×Int×Int):Nat→Int→Int→Option (Int)
 | 0,_,_=>none
 | k+1,s28,s29=>
  aV (decide (s29≥4294967296)) fun x30=>
  aV (U64 ((U64 (4294967296*s28))+x9)) fun x31=>
  aV (decide ((U64 (s29*x5)) > x31)) fun x32=>
  cond (cond x30 true x32) (
   aV (decide ((U64 (s28+p13.1))≥4294967296)) fun x33=>
   cond x33 (
    some (U64 (s29 - 1))) (
    lM N x9 x5 p13 k (U64 (s28+p13.1)) (U64 (s29 - 1)))) (
   some s29)
def iP (N:Nat) (a0 a1 a2:Int):Option (Int×Int):=
 cond (a2==0) (
  none) (
  cond (decide (a2≤a0)) (
   none) (
   cond (a0==0) (
    Option.bind (aIQ .u64 a1 a2) fun x1=>
    Option.bind (aOQ .u64 a1 a2) fun x2=>
    some ((x1,x2))) (
    Option.bind (jQ N a2) fun r3=>
    Option.bind (aIj .u64 a2 (U64 r3)) fun x4=>
    aV (eZ .u64 x4 4294967295) fun x5=>
    Option.bind (aIj .u64 a0 (U64 r3)) fun x6=>
    Option.bind (aEq .u64 a1 (U64 (64 - (U64 r3)))) fun x7=>
    Option.bind (aIj .u64 a1 (U64 r3)) fun x8=>
    aV (eZ .u64 x8 4294967295) fun x9=>
    Option.bind (aIQ .u64 (bor .u64 x6 x7) (shr .u64 x4 32)) fun x10=>
    aV (U64 (x10*(shr .u64 x4 32))) fun x11=>
    aV (U64 ((bor .u64 x6 x7) - x11)) fun x12=>
    Option.bind (lO N x5 N (shr .u64 x4 32) (bor .u64 x6 x7) (shr .u64 x8 32) x10 x12) fun p13=>
    aV (U64 (p13.2.1*4294967296)) fun x23=>
    aV (U64 ((U64 (x23+p13.2.2.1)) - (U64 (p13.2.2.2*x4)))) fun x24=>
    Option.bind (aIQ .u64 x24 p13.1) fun x25=>
    aV (U64 (x24 - (U64 (x25*p13.1)))) fun x26=>
    Option.bind (lM N x9 x5 p13 N x26 x25) fun p27=>
    aV (U64 (p13.2.2.2*4294967296)) fun x34=>
    aV (U64 ((U64 (x24*4294967296))+x9)) fun x35=>
    aV (U64 (x35 - (U64 (p27*x4)))) fun x36=>
    Option.bind (aEq .u64 x36 (U64 r3)) fun x37=>
    some ((U64 (x34+p27),x37)))))
theorem yQ {N a0 a1 a2 r} (h:iP N a0 a1 a2=some r):FnM Tryz.prog 119 [] [(k64 a0),(k64 a1),(k64 a2)] (.tup [(k64 r.1),(k64 r.2)]) []:=by
 unfold iP at h
 refine At.f dJ hT hmo Tryz.func119 rfl h ?_
 refine At.c 4 ?_ ?_
 ·exact nn
 ·refine At.c 3 ?_ ?_
  ·exact nn
  ·refine At.c 2 ?_ ?_
   ·refine bi fun x1 hx1=>?_
    refine bi fun x2 hx2=>?_
    refine At.d 0 (dE1 2 (fun _=>aDO hT hx1 (by kernel_rfl) (by kernel_rfl)) (dE1 5 (fun _=>aLe hT hx2 (by kernel_rfl) (by kernel_rfl)) dE0)) dF0 ?_
    apply rt;exact At.r 0
   ·refine At.b 1 (fun _ e=>aN [] (xK e)) fun r3=>?_
    refine At.b 4 (fun _ e=>aB7 hT (k' := .u64) e (by kernel_rfl) (by kernel_rfl)) fun x4=>?_
    refine lx ?_;intro x5
    refine At.b 9 (fun _ e=>aB7 hT (k' := .u64) e (by kernel_rfl) (by kernel_rfl)) fun x6=>?_
    refine At.b 3 (fun _ e=>xQ hT (k' := .u64) e (by kernel_rfl) (by kernel_rfl)) fun x7=>?_
    refine At.b 4 (fun _ e=>aB7 hT (k' := .u64) e (by kernel_rfl) (by kernel_rfl)) fun x8=>?_
    refine lx ?_;intro x9
    refine At.b 9 (fun _ e=>aDO hT e (by kernel_rfl) (by kernel_rfl)) fun x10=>?_
    refine lx ?_;intro x11
    refine lx ?_;intro x12
    refine At.L 7 [2,8,10,14] 0 (fun p13=>([(9,(k64 p13.1)),(11,(k64 p13.2.1)),(13,(k64 p13.2.2.1)),(15,(k64 p13.2.2.2))],[],[])) (fun p13 J k=>∃ s14 s15 s16 s17 s18,lO N x5 k s14 s15 s16 s17 s18=some p13∧J [2,8,10,14] 0 [(9,(k64 s14)),(11,(k64 s15)),(13,(k64 s16)),(15,(k64 s17)),(16,(k64 s18))] [] []) N (fun _ h=>⟨_,_,_,_,_,h,jr⟩) (fun p13 k s hI=>?_) fun p13=>?_
    ·obtain ⟨s14,s15,s16,s17,s18,h,hj⟩:=hI
     cases k with
     | zero=>cases h
     | succ k=>
      refine At.jr hj ?_ h
      refine lx ?_;intro x19
      refine lx ?_;intro x20
      refine lx ?_;intro x21
      refine At.c 12 ?_ ?_
      ·refine lx ?_;intro x22
       refine At.c 9 ?_ ?_
       ·apply rt;exact At.x 0
       ·exact fun h=>At.k 0 ⟨_,_,_,_,_,h,jr⟩
      ·apply rt;exact At.x 0
    ·refine lx ?_;intro x23
     refine lx ?_;intro x24
     refine At.b 11 (fun _ e=>aDO hT e (by kernel_rfl) (by kernel_rfl)) fun x25=>?_
     refine lx ?_;intro x26
     refine At.L 7 [2,8,14,15,17] 0 (fun p27=>([(18,(k64 p27))],[],[])) (fun p27 J k=>∃ s28 s29,lM N x9 x5 p13 k s28 s29=some p27∧J [2,8,9,10,14,15,17] 0 [(16,(k64 s28)),(18,(k64 s29))] [] []) N (fun _ h=>⟨_,_,h,jr⟩) (fun p27 k s hI=>?_) fun p27=>?_
     ·obtain ⟨s28,s29,h,hj⟩:=hI
      cases k with
      | zero=>cases h
      | succ k=>
       refine At.jr hj ?_ h
       refine lx ?_;intro x30
       refine lx ?_;intro x31
       refine lx ?_;intro x32
       refine At.c 12 ?_ ?_
       ·refine lx ?_;intro x33
        refine At.c 9 ?_ ?_
        ·apply rt;exact At.x 0
        ·exact fun h=>At.k 0 ⟨_,_,h,jr⟩
       ·apply rt;exact At.x 0
     ·refine lx ?_;intro x34
      refine lx ?_;intro x35
      refine lx ?_;intro x36
      refine At.b 13 (fun _ e=>xQ hT (k' := .u64) e (by kernel_rfl) (by kernel_rfl)) fun x37=>?_
      apply rt;exact At.r 2
theorem aIU {x y c:Int} {r:Int×Int} (h:xJ x y c=some r):aFt Tryz.prog 189 [.int .u64 x,.int .u64 y,.int .u64 c] (.tuple #[.int .u64 r.1,.int .u64 r.2]):=
 aMW Tryz.func189 (by kernel_rfl) (by kernel_rfl) (by kernel_rfl) (by kernel_rfl) h
def aKP : Nat→Bool:=imL [2]
def oP (N:Nat) (a0:aP) (a1:Int):Option (aP×Int×Bool):=
 cond (a1==0) (
  some ((aP.mk 0 0,0,false))) (
  Option.bind (cond (decide (a0.gHi < 0)) (
   Option.bind (oM N (U64 a0.gHi) a0.gLo) fun r2=>
   some ((r2.1,r2.2))) (
   some ((U64 a0.gHi,a0.gLo)))) fun p1=>
  Option.bind (rY N a1) fun r3=>
  Option.bind (iP N 0 p1.1 r3.1) fun r4=>
  Option.bind (iP N r4.2 p1.2 r3.1) fun r5=>
  Option.bind (aV (!((decide (a0.gHi < 0))==r3.2)) fun x7=>
  aV (cond x7 (decide (r5.2 > 0)) false) fun x8=>
  cond x8 (
   Option.bind (xJ r5.1 1 0) fun r9=>
   some ((U64 (r4.1+r9.2),r9.1,U64 (r3.1 - r5.2)))) (
   some ((r4.1,r5.1,r5.2)))) fun p6=>
  aV (!((decide (a0.gHi < 0))==r3.2)) fun x10=>
  Option.bind (jI N p6.1 p6.2.1 x10) fun r11=>
  cond (!r11.2) (
   some ((aP.mk 0 0,0,false))) (
   Option.bind (cond r3.2 (some (U64 (0 - p6.2.2))) (some p6.2.2)) fun p12=>
   some ((r11.1,I64 p12,true))))
theorem zM {N a0 a1 r} (h:oP N a0 a1=some r):FnM Tryz.prog 153 [] [(aP.enc a0),(j64 a1)] (.tup [(aP.enc r.1),(j64 r.2.1),(eB r.2.2)]) []:=by
 unfold oP at h
 refine At.f aKP hT hmo Tryz.func153 rfl h ?_
 refine At.c 6 ?_ ?_
 ·apply rt;exact At.r 4
 ·refine At.d 0 dE0 dF0 ?_
  refine At.J 0 1 [1,2,4] 1 (fun p1=>([(7,(k64 p1.1)),(8,(k64 p1.2))],[],[])) (fun p1=>?_) fun p1=>?_
  ·refine At.c 3 ?_ ?_
   ·refine At.b 2 (fun _ e=>aN [] (aBY e)) fun r2=>?_
    apply rt;exact At.jn 5
   ·apply rt;exact At.jn 0
  ·refine At.b 1 (fun _ e=>aN [] (aAn e)) fun r3=>?_
   refine At.b 7 (fun _ e=>aN [] (yQ e)) fun r4=>?_
   refine At.b 8 (fun _ e=>aN [] (yQ e)) fun r5=>?_
   refine At.J 5 1 [2,4,10] 1 (fun p6=>([(11,(k64 p6.1)),(13,(k64 p6.2.1)),(14,(k64 p6.2.2))],[],[])) (fun p6=>?_) fun p6=>?_
   ·refine lx ?_;intro x7
    refine lx ?_;intro x8
    refine At.c 9 ?_ ?_
    ·refine At.b 1 (fun _ e=>aC3 (aIU e) (fun _=>aDT)) fun r9=>?_
     apply rt;exact At.jn 15
    ·apply rt;exact At.jn 0
   ·refine lx ?_;intro x10
    refine At.b 7 (fun _ e=>aN [] (aBy e)) fun r11=>?_
    refine At.c 7 ?_ ?_
    ·apply rt;exact At.r 4
    ·refine At.J 0 1 [4] 1 (fun p12=>([(14,(k64 p12))],[],[])) (fun p12=>?_) fun p12=>?_
     ·refine At.c 1 ?_ ?_
      ·apply rt;exact At.jn 3
      ·apply rt;exact At.jn 0
     ·apply rt;exact At.r 6
def pO (N:Nat) (a0 a1:Int):Option (Int):=
 cond (a1==0) (
  cond (decide (a0 > 0)) (
   some 9223372036854775807) (
   cond (decide (a0 < 0)) (some (-9223372036854775808)) (some 0))) (
  Option.bind (fJ N a0 4294967296) fun r1=>
  Option.bind (oP N r1 a1) fun r2=>
  Option.bind (rF N r2.1) fun r3=>
  some r3)
theorem uH {N a0 a1 r} (h:pO N a0 a1=some r):FnM Tryz.prog 81 [] [(j64 a0),(j64 a1)] (j64 r) []:=by
 unfold pO at h
 refine At.f dJ hT hmo Tryz.func81 rfl h ?_
 refine At.c 3 ?_ ?_
 ·refine At.c 3 ?_ ?_
  ·apply rt;exact At.r 1
  ·refine At.c 3 ?_ ?_
   ·apply rt;exact At.r 1
   ·apply rt;exact At.r 1
 ·refine At.b 1 (fun _ e=>aN [] (kD e)) fun r1=>?_
  refine At.b 1 (fun _ e=>aN [] (zM e)) fun r2=>?_
  refine At.b 9 (fun _ e=>aN [] (aBU e)) fun r3=>?_
  apply rt;exact At.r 1
def jA (N:Nat) (a0 a1:Int):Option (Int):=
 Option.bind (jU N a0) fun r1=>
 Option.bind (jU N a1) fun r2=>
 Option.bind (pO N r1 r2) fun r3=>
 some r3
theorem tE {N a0 a1 r} (h:jA N a0 a1=some r):FnM Tryz.prog 202 [] [(j64 a0),(.im (j64 a1))] (j64 r) []:=by
 unfold jA at h
 refine At.f dJ hT hmo Tryz.func202 rfl h ?_
 refine bi fun r1 hr1=>?_
 refine bi fun r2 hr2=>?_
 refine bi fun r3 hr3=>?_
 refine At.d 1 (dE2 1 (j64 r1) (fun _=>aO (kX hr1)) (dE2 3 (j64 r2) (fun _=>aO (kX hr2)) (dE2 4 (j64 r3) (fun _=>aO (uH hr3)) dE0))) dF0 ?_
 apply rt;exact At.r 0
def aGw : Nat→Bool:=imL [2,3]
def qQ (N:Nat) (a0:(Vector Int 3)) (a1:Int):Option (aB):=
 Option.bind (idx a0.toList 0) fun e1=>
 Option.bind (jA N e1 a1) fun r2=>
 Option.bind (idx a0.toList 1) fun e3=>
 Option.bind (jA N e3 a1) fun r4=>
 Option.bind (idx a0.toList 2) fun e5=>
 Option.bind (jA N e5 a1) fun r6=>
 some (aB.mk r2 r4 r6)
theorem aBV {N a0 a1 r} (h:qQ N a0 a1=some r):FnM Tryz.prog 136 [] [(eA 3 1 j64 a0),(j64 a1)] (aB.enc r) []:=by
 unfold qQ at h
 refine At.f aGw hT hmo Tryz.func136 rfl h ?_
 refine At.o 3 (qJ (x:=(.fn (.func 202) [] [(.im (j64 a1))])) (by kernel_rfl) (by kernel_rfl)) ?_
 refine bi fun e1 he1=>?_
 refine bi fun r2 hr2=>?_
 refine bi fun e3 he3=>?_
 refine bi fun r4 hr4=>?_
 refine bi fun e5 he5=>?_
 refine bi fun r6 hr6=>?_
 refine At.d 1 (dE1 1 (fun _=>dG hT (N:=3) (k:=1) j64 a0 he1) (dE2 3 (j64 r2) (fun _=>aO (tE hr2)) (dE1 5 (fun _=>dG hT (N:=3) (k:=1) j64 a0 he3) (dE2 7 (j64 r4) (fun _=>aO (tE hr4)) (dE1 9 (fun _=>dG hT (N:=3) (k:=1) j64 a0 he5) (dE2 11 (j64 r6) (fun _=>aO (tE hr6)) dE0)))))) dF0 ?_
 apply rt;exact At.r 0
def aG4 : Nat→Bool:=imL [1]
def oR (N:Nat) (a0:aS):Option (aB):=
 Option.bind (qQ N a0.gB0 65536) fun r1=>
 some r1
theorem yP {N a0 r} (h:oR N a0=some r):FnM Tryz.prog 70 [] [(aS.enc a0)] (aB.enc r) []:=by
 unfold oR at h
 refine At.f aG4 hT hmo Tryz.func70 rfl h ?_
 refine At.b 4 (fun _ e=>aN [] (aBV e)) fun r1=>?_
 apply rt;exact At.r 1
def mP (N:Nat) (a0:(List Int)):Nat→Int→Int→Option (Int)
 | 0,_,_=>none
 | k+1,s2,s3=>
  aV (decide (s3 < ((a0.length:Int)))) fun x4=>
  cond x4 (
   Option.bind (idx a0 s3) fun e5=>
   Option.bind (aV (cond (decide (s2 > 0)) (decide (e5 > 0)) false) fun x7=>
   aV (decide ((I64 (s2+e5)) < 0)) fun x8=>
   cond (cond x7 x8 false) (
    some 9223372036854775807) (
    aV (cond (decide (s2 < 0)) (decide (e5 < 0)) false) fun x9=>
    aV (decide ((I64 (s2+e5))≥0)) fun x10=>
    cond (cond x9 x10 false) (some (-9223372036854775808)) (some (I64 (s2+e5))))) fun p6=>
   mP N a0 k p6 (I64 (s3+1))) (
   some s2)
def lY (N:Nat) (a0:(List Int)):Option (Int):=
 Option.bind (mP N a0 N 0 0) fun p1=>
 some p1
theorem tW {N a0 r} (h:lY N a0=some r):FnM Tryz.prog 139 [] [(eL 1 j64 a0)] (j64 r) []:=by
 unfold lY at h
 refine At.f dJ hT hmo Tryz.func139 rfl h ?_
 refine At.L 5 [] 0 (fun p1=>([(3,(j64 p1))],[],[])) (fun p1 J k=>∃ s2 s3,mP N a0 k s2 s3=some p1∧J [7,8] 0 [(3,(j64 s2)),(9,(j64 s3))] [] []) N (fun _ h=>⟨_,_,h,jr⟩) (fun p1 k s hI=>?_) fun p1=>?_
 ·obtain ⟨s2,s3,h,hj⟩:=hI
  cases k with
  | zero=>cases h
  | succ k=>
   refine At.jr hj ?_ h
   refine lx ?_;intro x4
   refine At.c 1 ?_ ?_
   ·refine At.b 0 (fun _ e=>cH hT j64 e) fun e5=>?_
    refine At.J 6 2 [7,8,9] 0 (fun p6=>([(6,(j64 p6))],[],[])) (fun p6=>?_) fun p6=>?_
    ·refine lx ?_;intro x7
     refine lx ?_;intro x8
     refine At.c 11 ?_ ?_
     ·apply rt;exact At.jn 1
     ·refine lx ?_;intro x9
      refine lx ?_;intro x10
      refine At.c 11 ?_ ?_
      ·apply rt;exact At.jn 1
      ·apply rt;exact At.jn 0
    ·exact fun h=>At.k 4 ⟨_,_,h,jr⟩
   ·apply rt;exact At.x 0
 ·apply rt;exact At.r 2
def uL (N:Nat) (a0 a1:Int):Option (Int):=
 Option.bind (lY N ([a0,a1])) fun r1=>
 some r1
theorem aAy {N a0 a1 r} (h:uL N a0 a1=some r):FnM Tryz.prog 138 [] [(j64 a0),(j64 a1)] (j64 r) []:=by
 unfold uL at h
 refine At.f dJ hT hmo Tryz.func138 rfl h ?_
 refine At.o 3 (cT hT (x:=(.sl 1 2 [(j64 a0),(j64 a1)]))) ?_
 refine At.b 0 (fun _ e=>aN [] (tW e)) fun r1=>?_
 apply rt;exact At.r 1
def aDn : Nat→Bool:=imL [3,4]
def pT (N:Nat) (a0 a1:aB):Option (aB):=
 Option.bind (uL N a0.gX a1.gX) fun r1=>
 Option.bind (uL N a0.gY a1.gY) fun r2=>
 Option.bind (uL N a0.gZ a1.gZ) fun r3=>
 some (aB.mk r1 r2 r3)
theorem aC2 {N a0 a1 r} (h:pT N a0 a1=some r):FnM Tryz.prog 137 [] [(aB.enc a0),(aB.enc a1),(.fn (.func 138) [] [])] (aB.enc r) []:=by
 unfold pT at h
 refine At.f aDn hT hmo Tryz.func137 rfl h ?_
 refine bi fun r1 hr1=>?_
 refine bi fun r2 hr2=>?_
 refine bi fun r3 hr3=>?_
 refine At.d 3 (dE2 5 (j64 r1) (fun _=>aO (aAy hr1)) (dE2 11 (j64 r2) (fun _=>aO (aAy hr2)) (dE2 17 (j64 r3) (fun _=>aO (aAy hr3)) dE0))) dF0 ?_
 apply rt;exact At.r 0
def oK (N:Nat) (a0:(List aB)):Nat→aB→Int→Option (aB)
 | 0,_,_=>none
 | k+1,s2,s3=>
  aV (decide (s3 < ((a0.length:Int)))) fun x4=>
  cond x4 (
   Option.bind (idx a0 s3) fun e5=>
   Option.bind (pT N s2 e5) fun r6=>
   oK N a0 k r6 (I64 (s3+1))) (
   some s2)
def kZ (N:Nat) (a0:(List aB)):Option (aB):=
 Option.bind (oK N a0 N (aB.mk 0 0 0) 0) fun p1=>
 some p1
theorem vR {N a0 r} (h:kZ N a0=some r):FnM Tryz.prog 71 [] [(eL 3 aB.enc a0)] (aB.enc r) []:=by
 unfold kZ at h
 refine At.f dJ hT hmo Tryz.func71 rfl h ?_
 refine At.L 5 [2,3] 2 (fun p1=>([],[(1,.var (aB.enc p1))],[])) (fun p1 J k=>∃ s2 s3,oK N a0 k s2 s3=some p1∧J [2,3,6,7] 2 [(8,(j64 s3))] [(1,.var (aB.enc s2))] []) N (fun _ h=>⟨_,_,h,jr⟩) (fun p1 k s hI=>?_) fun p1=>?_
 ·obtain ⟨s2,s3,h,hj⟩:=hI
  cases k with
  | zero=>cases h
  | succ k=>
   refine At.jr hj ?_ h
   refine lx ?_;intro x4
   refine At.c 1 ?_ ?_
   ·refine At.b 0 (fun _ e=>cH hT aB.enc e) fun e5=>?_
    refine At.b 5 (fun _ e=>aN [] (aC2 e)) fun r6=>?_
    exact fun h=>At.k 3 ⟨_,_,h,jr⟩
   ·apply rt;exact At.x 0
 ·apply rt;exact At.r 2
def qU (N:Nat) (a0:(List aS)):Nat→(List aB)→Int→Option ((List aB))
 | 0,_,_=>none
 | k+1,s2,s3=>
  aV (decide (s3 < ((a0.length:Int)))) fun x4=>
  cond x4 (
   Option.bind (Option.bind (idx a0 s3) fun e6=>
   cond (e6.gI==2) (
    Option.bind (oR N e6) fun r7=>
    Option.bind (zD 24 s2 (([r7]:List aB))) fun z8=>
    some ((z8,e6))) (
    some ((s2,e6)))) fun p5=>
   qU N a0 k p5.1 (I64 (s3+1))) (
   some s2)
def vN (N:Nat) (a0:(List aS)):Option (aB):=
 Option.bind (qU N a0 N [] 0) fun p1=>
 Option.bind (kZ N p1) fun r9=>
 some r9
theorem aJF {N a0 r} (h:vN N a0=some r):FnM Tryz.prog 25 [] [(eL 13 aS.enc a0)] (aB.enc r) []:=by
 unfold vN at h
 refine At.f dJ hT hmo Tryz.func25 rfl h ?_
 refine At.ownn 5 3 3 ?_
 refine At.L 0 [2] 2 (fun p1=>([(3,(eO 1 3 aB.enc p1))],[(1,.tail (p1.length*3))],[])) (fun p1 J k=>∃ s2 s3,qU N a0 k s2 s3=some p1∧J [2,6,7] 2 [(3,(eO 1 3 aB.enc s2)),(8,(j64 s3))] [(1,.tail (s2.length*3))] []) N (fun _ h=>⟨_,_,h,jr⟩) (fun p1 k s hI=>?_) fun p1=>?_
 ·obtain ⟨s2,s3,h,hj⟩:=hI
  cases k with
  | zero=>cases h
  | succ k=>
   refine At.jr hj ?_ h
   refine lx ?_;intro x4
   refine At.c 1 ?_ ?_
   ·refine At.J 0 2 [2,6,7,8] 2 (fun p5=>([(3,(eO 1 3 aB.enc p5.1))],[(1,.tail (p5.1.length*3))],[.var (aS.enc p5.2)])) (fun p5=>?_) fun p5=>?_
    ·refine At.b 0 (fun _ e=>cH hT aS.enc e) fun e6=>?_
     refine At.c 6 ?_ ?_
     ·refine At.b 2 (fun _ e=>aN [] (yP e)) fun r7=>?_
      refine At.o 0 (cT hT (x:=(.sl 3 1 [(aB.enc r7)]))) ?_
      refine At.b 0 (fun _ e=>sJ hT aB.enc (id:=1) (k:=3) e) fun z8=>?_
      apply rt;exact At.jn 1
     ·apply rt;exact At.jn 0
    ·exact fun h=>At.k 2 ⟨_,_,h,jr⟩
   ·apply rt;exact At.x 0
 ·refine At.b 1 (fun _ e=>aN [] (vR e)) fun r9=>?_
  apply rt;exact At.r 1
def iI (N:Nat) (a0:(List (Vector Int 3))):Option ((List (Vector Int 3))):=
 Option.bind (zD 24 (([]:List (Vector Int 3))) a0) fun z1=>
 some z1
theorem xP {N a0 r} (h:iI N a0=some r):FnM Tryz.prog 73 [] [(eL 3 (eA 3 1 j64) a0)] (eL 3 (eA 3 1 j64) r) []:=by
 unfold iI at h
 refine At.f dJ hT hmo Tryz.func73 rfl h ?_
 refine At.q hT 2 (d:=4) (t:=62) (e:=38) (z:=3) (x:=(eL 3 (eA 3 1 j64) a0)) (es:=List.map (eA 3 1 j64) a0) rfl ?_ (fun he=>?_)
 ·refine At.o 1 (yO hT (eA 3 1 j64) (k:=3) ([]:List (Vector Int 3)) (by kernel_rfl) (by kernel_rfl)) ?_
  refine At.b 1 (fun _ e=>sJ hT (eA 3 1 j64) (id:=0) (k:=3) e) fun z1=>?_
  apply rt;exact At.r 1
 ·have h0:a0=[]:=List.map_eq_nil_iff.1 he
  subst h0
  change some []=_→_
  apply rt;exact At.r 2
def sI (N:Nat) (a0:aD):Option (Unit):=
 some (())
theorem aDN {N a0 r} (h:sI N a0=some r):FnM Tryz.prog 72 [] [(aD.enc a0)] (.fn (.func 140) [] [(.ref 0 [] 0)]) [.var (aD.enc a0)]:=by
 unfold sI at h
 refine At.f dJ hT hmo Tryz.func72 rfl h ?_
 refine At.o 2 (qJ (x:=(.fn (.func 140) [] [(.ref 0 [] 0)])) (by kernel_rfl) (by kernel_rfl)) ?_
 apply rt;exact At.r 1
def aCD : Nat→Bool:=imL [1]
def mK (N:Nat) (b2:(List aD)) (a1 a2:aD):Option ((List aD)):=
 Option.bind (zD 32 b2 (([a2]:List aD))) fun z1=>
 some z1
theorem aBn {N:Nat} {b2:(List aD)} {a1:aD} {a2:aD} {r:(List aD)} (h:mK N b2 a1 a2=some r):YldM Tryz.prog (aPA 25 Tryz.f26.body [1,1,1,0,1,0]) [en 5 (.ref 0 [] 0)] [.var (eO 2 2 aD.enc b2),.var (aD.enc a1),.tail (b2.length*2)] [(aD.enc a2)] [.var (eO 2 2 aD.enc r),.var (aD.enc a1),.tail (r.length*2)] none:=by
 unfold mK at h
 refine aKS (lo:=4) (by kernel_rfl) (fun bk rl=>At.of aCD hT hmo h ?_)
 refine At.to 0 ⟨[en 5 (.ref 0 [] 0),en 19 (aD.enc a2)],[.var (eO 2 2 aD.enc b2),.var (aD.enc a1),.tail (b2.length*2),.loop rl]⟩ ?_
 refine At.mid 2 (fun rl2=>?_)
 refine At.o 2 (cT hT (x:=(.sl 2 1 [(aD.enc a2)]))) ?_
 refine At.b 0 (fun _ e=>sJ hT aD.enc (id:=2) (k:=2) e) fun z1=>?_
 apply rt;exact At.rnd 1
def aHn : Nat→Bool:=imL [3]
def mQ (N:Nat) (a0:aD) (a1 a2:Int):Option ((Vector Int 3)):=
 aV (eZ .i64 a2 (I64 (a0.gE - 1))) fun x1=>
 aV (eZ .i64 a1 (I64 (a0.gE - 1))) fun x2=>
 aV (I64 ((I64 (x1*a0.gE))+x2)) fun x3=>
 Option.bind (idx a0.gA3 x3) fun e4=>
 some e4
theorem tP {N a0 a1 a2 r} (h:mQ N a0 a1 a2=some r):FnM Tryz.prog 203 [] [(aD.enc a0),(j64 a1),(j64 a2)] (eA 3 1 j64 r) []:=by
 unfold mQ at h
 refine At.f aHn hT hmo Tryz.func203 rfl h ?_
 refine lx ?_;intro x1
 refine lx ?_;intro x2
 refine lx ?_;intro x3
 refine At.b 18 (fun _ e=>cH hT (eA 3 1 j64) e) fun e4=>?_
 apply rt;exact At.r 2
def aF9 : Nat→Bool:=imL [1]
def jM (N:Nat) (r12 r14 r16 r19:(Vector Int 3)):Nat→(Vector Int 3)→Int→Option ((Vector Int 3))
 | 0,_,_=>none
 | k+1,s21,s22=>
  cond (decide (s22 < 3)) (
   Option.bind (fD s22 3) fun _=>
   Option.bind (r12.toList[s22.toNat]?) fun e24=>
   Option.bind (fD s22 3) fun _=>
   Option.bind (r14.toList[s22.toNat]?) fun e26=>
   Option.bind (fD s22 3) fun _=>
   Option.bind (r16.toList[s22.toNat]?) fun e28=>
   aV (I64 ((I64 (e24+e26))+e28)) fun x29=>
   Option.bind (fD s22 3) fun _=>
   Option.bind (r19.toList[s22.toNat]?) fun e31=>
   aV (I64 ((I64 (x29+e31))+2)) fun x32=>
   Option.bind (fD s22 3) fun _=>
   Option.bind (s21.toList[s22.toNat]?) fun e34=>
   jM N r12 r14 r16 r19 k (s21.setIfInBounds s22.toNat (I64 (Int.tdiv x32 4))) (I64 (s22+1))) (
   some s21)
def lQ (N:Nat) (x2 x3:Int) (a0:aD):Nat→(List (Vector Int 3))→Int→Option ((List (Vector Int 3)))
 | 0,_,_=>none
 | k+1,s5,s6=>
  aV (decide (s6 < (I64 (x2*x3)))) fun x7=>
  cond x7 (
   aV ((I64 (Int.tdiv a0.gE 2))) fun x8=>
   Option.bind (aOQ .i64 s6 x8) fun x9=>
   aV ((I64 (Int.tdiv a0.gE 2))) fun x10=>
   Option.bind (aIQ .i64 s6 x10) fun x11=>
   Option.bind (mQ N a0 (I64 (2*x9)) (I64 (2*x11))) fun r12=>
   aV (I64 ((I64 (2*x9))+1)) fun x13=>
   Option.bind (mQ N a0 x13 (I64 (2*x11))) fun r14=>
   aV (I64 ((I64 (2*x11))+1)) fun x15=>
   Option.bind (mQ N a0 (I64 (2*x9)) x15) fun r16=>
   aV (I64 ((I64 (2*x9))+1)) fun x17=>
   aV (I64 ((I64 (2*x11))+1)) fun x18=>
   Option.bind (mQ N a0 x17 x18) fun r19=>
   Option.bind (jM N r12 r14 r16 r19 N (#v[0,0,0]) 0) fun p20=>
   Option.bind (zD 24 s5 (([p20]:List (Vector Int 3)))) fun z35=>
   lQ N x2 x3 a0 k z35 (I64 (s6+1))) (
   some s5)
def rJ (N:Nat) (a0:aD):Option (aD):=
 aV (I64 (Int.tdiv a0.gE 2)) fun x1=>
 aV ((I64 (Int.tdiv a0.gE 2))) fun x2=>
 aV ((I64 (Int.tdiv a0.gE 2))) fun x3=>
 Option.bind (lQ N x2 x3 a0 N [] 0) fun p4=>
 some (aD.mk ((I64 (Int.tdiv a0.gE 2))) p4)
theorem aE0 {N a0 r} (h:rJ N a0=some r):FnM Tryz.prog 141 [] [(aD.enc a0)] (aD.enc r) []:=by
 unfold rJ at h
 refine At.f aF9 hT hmo Tryz.func141 rfl h ?_
 refine lx ?_;intro x1
 refine lx ?_;intro x2
 refine lx ?_;intro x3
 refine At.ownb 14 1 3 [1] ?_
 refine At.L 0 [2,3] 3 (fun p4=>([],[(1,.var (.st 2 [(j64 ((I64 (Int.tdiv a0.gE 2)))),(eO 2 3 (eA 3 1 j64) p4)])),(2,.tail (p4.length*3))],[])) (fun p4 J k=>∃ s5 s6,lQ N x2 x3 a0 k s5 s6=some p4∧J [1,2,3,21] 3 [(22,(j64 s6))] [(1,.var (.st 2 [(j64 ((I64 (Int.tdiv a0.gE 2)))),(eO 2 3 (eA 3 1 j64) s5)])),(2,.tail (s5.length*3))] []) N (fun _ h=>⟨_,_,h,jr⟩) (fun p4 k s hI=>?_) fun p4=>?_
 ·obtain ⟨s5,s6,h,hj⟩:=hI
  cases k with
  | zero=>cases h
  | succ k=>
   refine At.jr hj ?_ h
   refine lx ?_;intro x7
   refine At.c 1 ?_ ?_
   ·refine lx ?_;intro x8
    refine bi fun x9 hx9=>?_
    refine lx ?_;intro x10
    refine bi fun x11 hx11=>?_
    refine At.d 2 (dE1 3 (fun _=>aLe hT hx9 (by kernel_rfl) (by kernel_rfl)) (dE1 8 (fun _=>aDO hT hx11 (by kernel_rfl) (by kernel_rfl)) dE0)) dF0 ?_
    refine bi fun r12 hr12=>?_
    refine lx ?_;intro x13
    refine bi fun r14 hr14=>?_
    refine lx ?_;intro x15
    refine bi fun r16 hr16=>?_
    refine lx ?_;intro x17
    refine lx ?_;intro x18
    refine bi fun r19 hr19=>?_
    refine At.d2 0 [false,false,false,false] (dC2 3 (eA 3 1 j64 r12) (fun _=>aO (tP hr12)) (dC2 8 (eA 3 1 j64 r14) (fun _=>aO (tP hr14)) (dC2 13 (eA 3 1 j64 r16) (fun _=>aO (tP hr16)) (dC2 19 (eA 3 1 j64 r19) (fun _=>aO (tP hr19)) dC0)))) (dS1 20 ⟨(.ref 3 [] 0),3,.var (.arr 3 1 [(j64 0),(j64 0),(j64 0)]),.dead⟩ [[.var (.st 2 [(j64 0),(.v (.slice none 0 0))]),.var (.st 2 [(j64 ((I64 (Int.tdiv a0.gE 2)))),(eO 2 3 (eA 3 1 j64) s5)]),.tail (s5.length*3),.dead,.dead,.dead,.dead],[.var (.st 2 [(j64 0),(.v (.slice none 0 0))]),.var (.st 2 [(j64 ((I64 (Int.tdiv a0.gE 2)))),(eO 2 3 (eA 3 1 j64) s5)]),.tail (s5.length*3),.dead,.dead,.dead,.var (.arr 3 1 [(j64 0),(j64 0),(j64 0)])],[.var (.st 2 [(j64 0),(.v (.slice none 0 0))]),.var (.st 2 [(j64 ((I64 (Int.tdiv a0.gE 2)))),(eO 2 3 (eA 3 1 j64) s5)]),.tail (s5.length*3),.dead,.dead,.var (.arr 3 1 [(j64 0),(j64 0),(j64 0)]),.dead],[.var (.st 2 [(j64 0),(.v (.slice none 0 0))]),.var (.st 2 [(j64 ((I64 (Int.tdiv a0.gE 2)))),(eO 2 3 (eA 3 1 j64) s5)]),.tail (s5.length*3),.dead,.dead,.var (.arr 3 1 [(j64 0),(j64 0),(j64 0)]),.var (.arr 3 1 [(j64 0),(j64 0),(j64 0)])],[.var (.st 2 [(j64 0),(.v (.slice none 0 0))]),.var (.st 2 [(j64 ((I64 (Int.tdiv a0.gE 2)))),(eO 2 3 (eA 3 1 j64) s5)]),.tail (s5.length*3),.dead,.var (.arr 3 1 [(j64 0),(j64 0),(j64 0)]),.dead,.dead],[.var (.st 2 [(j64 0),(.v (.slice none 0 0))]),.var (.st 2 [(j64 ((I64 (Int.tdiv a0.gE 2)))),(eO 2 3 (eA 3 1 j64) s5)]),.tail (s5.length*3),.dead,.var (.arr 3 1 [(j64 0),(j64 0),(j64 0)]),.dead,.var (.arr 3 1 [(j64 0),(j64 0),(j64 0)])],[.var (.st 2 [(j64 0),(.v (.slice none 0 0))]),.var (.st 2 [(j64 ((I64 (Int.tdiv a0.gE 2)))),(eO 2 3 (eA 3 1 j64) s5)]),.tail (s5.length*3),.dead,.var (.arr 3 1 [(j64 0),(j64 0),(j64 0)]),.var (.arr 3 1 [(j64 0),(j64 0),(j64 0)]),.dead],[.var (.st 2 [(j64 0),(.v (.slice none 0 0))]),.var (.st 2 [(j64 ((I64 (Int.tdiv a0.gE 2)))),(eO 2 3 (eA 3 1 j64) s5)]),.tail (s5.length*3),.dead,.var (.arr 3 1 [(j64 0),(j64 0),(j64 0)]),.var (.arr 3 1 [(j64 0),(j64 0),(j64 0)]),.var (.arr 3 1 [(j64 0),(j64 0),(j64 0)])]] ⟨aX hT 3 (by kernel_rfl) (by kernel_rfl) (by kernel_rfl),aX hT 3 (by kernel_rfl) (by kernel_rfl) (by kernel_rfl),aX hT 3 (by kernel_rfl) (by kernel_rfl) (by kernel_rfl),aX hT 3 (by kernel_rfl) (by kernel_rfl) (by kernel_rfl),aX hT 3 (by kernel_rfl) (by kernel_rfl) (by kernel_rfl),aX hT 3 (by kernel_rfl) (by kernel_rfl) (by kernel_rfl),aX hT 3 (by kernel_rfl) (by kernel_rfl) (by kernel_rfl),aX hT 3 (by kernel_rfl) (by kernel_rfl) (by kernel_rfl),trivial⟩ (dS1 21 ⟨(.ref 4 [] 0),4,.var (.arr 3 1 [(j64 0),(j64 0),(j64 0)]),.dead⟩ [[.var (.st 2 [(j64 0),(.v (.slice none 0 0))]),.var (.st 2 [(j64 ((I64 (Int.tdiv a0.gE 2)))),(eO 2 3 (eA 3 1 j64) s5)]),.tail (s5.length*3),.dead,.dead,.dead,.dead],[.var (.st 2 [(j64 0),(.v (.slice none 0 0))]),.var (.st 2 [(j64 ((I64 (Int.tdiv a0.gE 2)))),(eO 2 3 (eA 3 1 j64) s5)]),.tail (s5.length*3),.dead,.dead,.dead,.var (.arr 3 1 [(j64 0),(j64 0),(j64 0)])],[.var (.st 2 [(j64 0),(.v (.slice none 0 0))]),.var (.st 2 [(j64 ((I64 (Int.tdiv a0.gE 2)))),(eO 2 3 (eA 3 1 j64) s5)]),.tail (s5.length*3),.dead,.dead,.var (.arr 3 1 [(j64 0),(j64 0),(j64 0)]),.dead],[.var (.st 2 [(j64 0),(.v (.slice none 0 0))]),.var (.st 2 [(j64 ((I64 (Int.tdiv a0.gE 2)))),(eO 2 3 (eA 3 1 j64) s5)]),.tail (s5.length*3),.dead,.dead,.var (.arr 3 1 [(j64 0),(j64 0),(j64 0)]),.var (.arr 3 1 [(j64 0),(j64 0),(j64 0)])],[.var (.st 2 [(j64 0),(.v (.slice none 0 0))]),.var (.st 2 [(j64 ((I64 (Int.tdiv a0.gE 2)))),(eO 2 3 (eA 3 1 j64) s5)]),.tail (s5.length*3),.var (.arr 3 1 [(j64 0),(j64 0),(j64 0)]),.dead,.dead,.dead],[.var (.st 2 [(j64 0),(.v (.slice none 0 0))]),.var (.st 2 [(j64 ((I64 (Int.tdiv a0.gE 2)))),(eO 2 3 (eA 3 1 j64) s5)]),.tail (s5.length*3),.var (.arr 3 1 [(j64 0),(j64 0),(j64 0)]),.dead,.dead,.var (.arr 3 1 [(j64 0),(j64 0),(j64 0)])],[.var (.st 2 [(j64 0),(.v (.slice none 0 0))]),.var (.st 2 [(j64 ((I64 (Int.tdiv a0.gE 2)))),(eO 2 3 (eA 3 1 j64) s5)]),.tail (s5.length*3),.var (.arr 3 1 [(j64 0),(j64 0),(j64 0)]),.dead,.var (.arr 3 1 [(j64 0),(j64 0),(j64 0)]),.dead],[.var (.st 2 [(j64 0),(.v (.slice none 0 0))]),.var (.st 2 [(j64 ((I64 (Int.tdiv a0.gE 2)))),(eO 2 3 (eA 3 1 j64) s5)]),.tail (s5.length*3),.var (.arr 3 1 [(j64 0),(j64 0),(j64 0)]),.dead,.var (.arr 3 1 [(j64 0),(j64 0),(j64 0)]),.var (.arr 3 1 [(j64 0),(j64 0),(j64 0)])]] ⟨aX hT 4 (by kernel_rfl) (by kernel_rfl) (by kernel_rfl),aX hT 4 (by kernel_rfl) (by kernel_rfl) (by kernel_rfl),aX hT 4 (by kernel_rfl) (by kernel_rfl) (by kernel_rfl),aX hT 4 (by kernel_rfl) (by kernel_rfl) (by kernel_rfl),aX hT 4 (by kernel_rfl) (by kernel_rfl) (by kernel_rfl),aX hT 4 (by kernel_rfl) (by kernel_rfl) (by kernel_rfl),aX hT 4 (by kernel_rfl) (by kernel_rfl) (by kernel_rfl),aX hT 4 (by kernel_rfl) (by kernel_rfl) (by kernel_rfl),trivial⟩ (dS1 22 ⟨(.ref 5 [] 0),5,.var (.arr 3 1 [(j64 0),(j64 0),(j64 0)]),.dead⟩ [[.var (.st 2 [(j64 0),(.v (.slice none 0 0))]),.var (.st 2 [(j64 ((I64 (Int.tdiv a0.gE 2)))),(eO 2 3 (eA 3 1 j64) s5)]),.tail (s5.length*3),.dead,.dead,.dead,.dead],[.var (.st 2 [(j64 0),(.v (.slice none 0 0))]),.var (.st 2 [(j64 ((I64 (Int.tdiv a0.gE 2)))),(eO 2 3 (eA 3 1 j64) s5)]),.tail (s5.length*3),.dead,.dead,.dead,.var (.arr 3 1 [(j64 0),(j64 0),(j64 0)])],[.var (.st 2 [(j64 0),(.v (.slice none 0 0))]),.var (.st 2 [(j64 ((I64 (Int.tdiv a0.gE 2)))),(eO 2 3 (eA 3 1 j64) s5)]),.tail (s5.length*3),.dead,.var (.arr 3 1 [(j64 0),(j64 0),(j64 0)]),.dead,.dead],[.var (.st 2 [(j64 0),(.v (.slice none 0 0))]),.var (.st 2 [(j64 ((I64 (Int.tdiv a0.gE 2)))),(eO 2 3 (eA 3 1 j64) s5)]),.tail (s5.length*3),.dead,.var (.arr 3 1 [(j64 0),(j64 0),(j64 0)]),.dead,.var (.arr 3 1 [(j64 0),(j64 0),(j64 0)])],[.var (.st 2 [(j64 0),(.v (.slice none 0 0))]),.var (.st 2 [(j64 ((I64 (Int.tdiv a0.gE 2)))),(eO 2 3 (eA 3 1 j64) s5)]),.tail (s5.length*3),.var (.arr 3 1 [(j64 0),(j64 0),(j64 0)]),.dead,.dead,.dead],[.var (.st 2 [(j64 0),(.v (.slice none 0 0))]),.var (.st 2 [(j64 ((I64 (Int.tdiv a0.gE 2)))),(eO 2 3 (eA 3 1 j64) s5)]),.tail (s5.length*3),.var (.arr 3 1 [(j64 0),(j64 0),(j64 0)]),.dead,.dead,.var (.arr 3 1 [(j64 0),(j64 0),(j64 0)])],[.var (.st 2 [(j64 0),(.v (.slice none 0 0))]),.var (.st 2 [(j64 ((I64 (Int.tdiv a0.gE 2)))),(eO 2 3 (eA 3 1 j64) s5)]),.tail (s5.length*3),.var (.arr 3 1 [(j64 0),(j64 0),(j64 0)]),.var (.arr 3 1 [(j64 0),(j64 0),(j64 0)]),.dead,.dead],[.var (.st 2 [(j64 0),(.v (.slice none 0 0))]),.var (.st 2 [(j64 ((I64 (Int.tdiv a0.gE 2)))),(eO 2 3 (eA 3 1 j64) s5)]),.tail (s5.length*3),.var (.arr 3 1 [(j64 0),(j64 0),(j64 0)]),.var (.arr 3 1 [(j64 0),(j64 0),(j64 0)]),.dead,.var (.arr 3 1 [(j64 0),(j64 0),(j64 0)])]] ⟨aX hT 5 (by kernel_rfl) (by kernel_rfl) (by kernel_rfl),aX hT 5 (by kernel_rfl) (by kernel_rfl) (by kernel_rfl),aX hT 5 (by kernel_rfl) (by kernel_rfl) (by kernel_rfl),aX hT 5 (by kernel_rfl) (by kernel_rfl) (by kernel_rfl),aX hT 5 (by kernel_rfl) (by kernel_rfl) (by kernel_rfl),aX hT 5 (by kernel_rfl) (by kernel_rfl) (by kernel_rfl),aX hT 5 (by kernel_rfl) (by kernel_rfl) (by kernel_rfl),aX hT 5 (by kernel_rfl) (by kernel_rfl) (by kernel_rfl),trivial⟩ (dS1 23 ⟨(.ref 6 [] 0),6,.var (.arr 3 1 [(j64 0),(j64 0),(j64 0)]),.dead⟩ [[.var (.st 2 [(j64 0),(.v (.slice none 0 0))]),.var (.st 2 [(j64 ((I64 (Int.tdiv a0.gE 2)))),(eO 2 3 (eA 3 1 j64) s5)]),.tail (s5.length*3),.dead,.dead,.dead,.dead],[.var (.st 2 [(j64 0),(.v (.slice none 0 0))]),.var (.st 2 [(j64 ((I64 (Int.tdiv a0.gE 2)))),(eO 2 3 (eA 3 1 j64) s5)]),.tail (s5.length*3),.dead,.dead,.var (.arr 3 1 [(j64 0),(j64 0),(j64 0)]),.dead],[.var (.st 2 [(j64 0),(.v (.slice none 0 0))]),.var (.st 2 [(j64 ((I64 (Int.tdiv a0.gE 2)))),(eO 2 3 (eA 3 1 j64) s5)]),.tail (s5.length*3),.dead,.var (.arr 3 1 [(j64 0),(j64 0),(j64 0)]),.dead,.dead],[.var (.st 2 [(j64 0),(.v (.slice none 0 0))]),.var (.st 2 [(j64 ((I64 (Int.tdiv a0.gE 2)))),(eO 2 3 (eA 3 1 j64) s5)]),.tail (s5.length*3),.dead,.var (.arr 3 1 [(j64 0),(j64 0),(j64 0)]),.var (.arr 3 1 [(j64 0),(j64 0),(j64 0)]),.dead],[.var (.st 2 [(j64 0),(.v (.slice none 0 0))]),.var (.st 2 [(j64 ((I64 (Int.tdiv a0.gE 2)))),(eO 2 3 (eA 3 1 j64) s5)]),.tail (s5.length*3),.var (.arr 3 1 [(j64 0),(j64 0),(j64 0)]),.dead,.dead,.dead],[.var (.st 2 [(j64 0),(.v (.slice none 0 0))]),.var (.st 2 [(j64 ((I64 (Int.tdiv a0.gE 2)))),(eO 2 3 (eA 3 1 j64) s5)]),.tail (s5.length*3),.var (.arr 3 1 [(j64 0),(j64 0),(j64 0)]),.dead,.var (.arr 3 1 [(j64 0),(j64 0),(j64 0)]),.dead],[.var (.st 2 [(j64 0),(.v (.slice none 0 0))]),.var (.st 2 [(j64 ((I64 (Int.tdiv a0.gE 2)))),(eO 2 3 (eA 3 1 j64) s5)]),.tail (s5.length*3),.var (.arr 3 1 [(j64 0),(j64 0),(j64 0)]),.var (.arr 3 1 [(j64 0),(j64 0),(j64 0)]),.dead,.dead],[.var (.st 2 [(j64 0),(.v (.slice none 0 0))]),.var (.st 2 [(j64 ((I64 (Int.tdiv a0.gE 2)))),(eO 2 3 (eA 3 1 j64) s5)]),.tail (s5.length*3),.var (.arr 3 1 [(j64 0),(j64 0),(j64 0)]),.var (.arr 3 1 [(j64 0),(j64 0),(j64 0)]),.var (.arr 3 1 [(j64 0),(j64 0),(j64 0)]),.dead]] ⟨aX hT 6 (by kernel_rfl) (by kernel_rfl) (by kernel_rfl),aX hT 6 (by kernel_rfl) (by kernel_rfl) (by kernel_rfl),aX hT 6 (by kernel_rfl) (by kernel_rfl) (by kernel_rfl),aX hT 6 (by kernel_rfl) (by kernel_rfl) (by kernel_rfl),aX hT 6 (by kernel_rfl) (by kernel_rfl) (by kernel_rfl),aX hT 6 (by kernel_rfl) (by kernel_rfl) (by kernel_rfl),aX hT 6 (by kernel_rfl) (by kernel_rfl) (by kernel_rfl),aX hT 6 (by kernel_rfl) (by kernel_rfl) (by kernel_rfl),trivial⟩ dS0)))) ?_
    refine At.L 2 [1,2,3,11,21,22] 8 (fun p20=>([],[(7,.var (eA 3 1 j64 p20))],[])) (fun p20 J k=>∃ s21 s22,jM N r12 r14 r16 r19 k s21 s22=some p20∧J [1,2,3,7,8,9,10,11,21,22] 8 [(55,(j64 s22))] [(7,.var (eA 3 1 j64 s21))] []) N (fun _ h=>⟨_,_,h,jr⟩) (fun p20 k s hI=>?_) fun p20=>?_
    ·obtain ⟨s21,s22,h,hj⟩:=hI
     cases k with
     | zero=>cases h
     | succ k=>
      refine At.jr hj ?_ h
      refine At.c 1 ?_ ?_
      ·refine bi fun u23 hu23=>?_
       refine bi fun e24 he24=>?_
       refine bi fun u25 hu25=>?_
       refine bi fun e26 he26=>?_
       refine bi fun u27 hu27=>?_
       refine bi fun e28 he28=>?_
       refine lx ?_;intro x29
       refine bi fun u30 hu30=>?_
       refine bi fun e31 he31=>?_
       refine lx ?_;intro x32
       refine bi fun u33 hu33=>?_
       refine bi fun e34 he34=>?_
       refine At.d 2 (dE1 2 (fun _=>bG hT (k:=1) 3 [] 0 hu23) (dEL hT 3 (j64 e24) j64 0 he24 (dE1 5 (fun _=>bG hT (k:=1) 4 [] 0 hu25) (dEL hT 6 (j64 e26) j64 0 he26 (dE1 9 (fun _=>bG hT (k:=1) 5 [] 0 hu27) (dEL hT 10 (j64 e28) j64 0 he28 (dE1 13 (fun _=>bG hT (k:=1) 6 [] 0 hu30) (dEL hT 14 (j64 e31) j64 0 he31 (dE1 18 (fun _=>bG hT (k:=1) 7 [] 0 hu33) dE0))))))))) (dF 19 (.v (.bool false)) [(7,.var (eA 3 1 j64 (s21.setIfInBounds s22.toNat (I64 (Int.tdiv x32 4)))))] [] (bS (nM hT j64 0 s21 he34 (I64 (Int.tdiv x32 4)) (by kernel_rfl) (by kernel_rfl) (H':=[.var (.st 2 [(j64 0),(.v (.slice none 0 0))]),.var (.st 2 [(j64 ((I64 (Int.tdiv a0.gE 2)))),(eO 2 3 (eA 3 1 j64) s5)]),.tail (s5.length*3),.var (eA 3 1 j64 r12),.var (eA 3 1 j64 r14),.var (eA 3 1 j64 r16),.var (eA 3 1 j64 r19),.var (eA 3 1 j64 (s21.setIfInBounds s22.toNat (I64 (Int.tdiv x32 4))))]))) dF0) ?_
       exact fun h=>At.k 2 ⟨_,_,h,jr⟩
      ·apply rt;exact At.x 0
    ·refine At.o 3 (cT hT (x:=(.sl 3 1 [(eA 3 1 j64 p20)]))) ?_
     refine At.b 0 (fun _ e=>sJ hT (eA 3 1 j64) (id:=2) (k:=3) e) fun z35=>?_
     exact fun h=>At.k 4 ⟨_,_,h,jr⟩
   ·apply rt;exact At.x 0
 ·apply rt;exact At.r 2
def bT (N:Nat)  : Nat→(List aD)→aD→Option ((List aD)×aD)
 | 0,_,_=>none
 | k+1,s2,s3=>
  Option.bind (mK N s2 s3 s3) fun r4=>
  cond (decide (s3.gE > 1)) (
   Option.bind (rJ N s3) fun r5=>
   bT N k r4 r5) (
   some ((r4,s3)))
def dY (N:Nat) (b2:(List aD)) (a1:aD):Option ((List aD)×aD):=
 Option.bind (bT N N b2 a1) fun p1=>
 some ((p1.1,p1.2))
theorem qL {N:Nat} {b2:(List aD)} {a1:aD} {r:(List aD)×aD} (h:dY N b2 a1=some r):ItM Tryz.prog 140 (aPA 25 Tryz.f26.body [1,1,1,0,1,0]) [en 5 (.ref 0 [] 0)] [.var (eO 2 2 aD.enc b2),.var (aD.enc a1),.tail (b2.length*2)] [(.yld 3),(.ref 1 [] 0)] (.tup []) [.var (eO 2 2 aD.enc r.1),.var (aD.enc r.2),.tail (r.1.length*2)] none:=by
 unfold dY at h
 refine aMa (m:=13) (lo:=4) (rs:=[]) hT Tryz.func140 rfl (by kernel_rfl) rfl (fun fn tmps D hsz=>At.of dJ hT hmo h ?_)
 refine At.L 0 [] 4 (fun p1=>([],[(0,.var (eO 2 2 aD.enc p1.1)),(1,.var (aD.enc p1.2)),(2,.tail (p1.1.length*2))],[])) (fun p1 J k=>∃ s2 s3,bT N k s2 s3=some p1∧J [0,1] 4 [] [(0,.var (eO 2 2 aD.enc s2)),(1,.var (aD.enc s3)),(2,.tail (s2.length*2))] []) N (fun _ h=>⟨_,_,h,jr⟩) (fun p1 k s hI=>?_) fun p1=>?_
 ·obtain ⟨s2,s3,h,hj⟩:=hI
  cases k with
  | zero=>cases h
  | succ k=>
   refine At.jr hj ?_ h
   refine At.b 2 (fun _ e=>aQZ (aBn e) (fn:=fn) (D:=D) hsz rfl (List.mem_singleton.2 rfl) (by kernel_rfl) (by kernel_rfl)) fun r4=>?_
   refine At.g [6] 5 ?_
   refine At.c 0 ?_ ?_
   ·refine At.b 1 (fun _ e=>aN [] (aE0 e)) fun r5=>?_
    exact fun h=>At.k 1 ⟨_,_,h,jr⟩
   ·apply rt;exact At.x 0
 ·apply rt;exact At.z 0
theorem qA : uZ Tryz.prog 140:=yS (show aAe Tryz.prog 140=true by kernel_rfl)
def aDz : Nat→Bool:=imL [1]
def pI (N:Nat) (a0:aD):Option ((List aD)×Int):=
 Option.bind (iX N a0) fun r1=>
 cond (r1 != 0) (
  some (([],r1))) (
  Option.bind (iI N a0.gA3) fun r2=>
  Option.bind (sI N (aD.mk a0.gE r2)) fun r3=>
  Option.bind (dY N [] ((aD.mk a0.gE r2))) fun r4=>
  some ((r4.1,0)))
theorem aDh {N a0 r} (h:pI N a0=some r):FnM Tryz.prog 26 [] [(aD.enc a0)] (.tup [(eL 2 aD.enc r.1),(j64 r.2)]) []:=by
 unfold pI at h
 refine At.fR aDz hT hmo Tryz.func26 rfl h ?_
 refine At.b 4 (fun _ e=>aN [] (sQ e)) fun r1=>?_
 refine At.c 3 ?_ ?_
 ·apply rt;exact At.r 3
 ·refine bi fun r2 hr2=>?_
  refine bi fun r3 hr3=>?_
  refine At.d 1 (dE2 4 (eL 3 (eA 3 1 j64) r2) (fun _=>aO (xP hr2)) dE0) (dF 6 (.fn (.func 140) [] [(.ref 1 [] 0)]) [] [.var (aD.enc ((aD.mk a0.gE r2)))] (bS (aN [] (aDN hr3))) dF0) ?_
  refine At.ownb 0 0 2 [] ?_
  refine bi fun r4 hr4=>?_
  refine At.rg 0 (qL hr4) qA (.tmp 18) [0,1,2] ⟨[en 5 (.ref 0 [] 0)],[.var (eO 2 2 aD.enc r4.1),.var (aD.enc r4.2),.tail (r4.1.length*2)]⟩ [(.ref 1 [] 0)] ?_
  apply rt;exact At.r 3
def rQ (N:Nat) (a0:(List aE)) (a1:Int):Option (Sum (Int) ((List aE)×Int)):=
 aV (cond (decide (a1 < 0)) true (decide (a1 > 4096))) fun x1=>
 cond x1 (
  some (Sum.inl 2)) (
  aV (decide (((a0.length:Int)) > a1)) fun x2=>
  cond x2 (
   some (Sum.inl 15)) (
   Option.bind (mkO 152 a1) fun _=>
   Option.bind (cpD (List.replicate a1.toNat (aE.mk (#v[aC.mk 0 0 0,aC.mk 0 0 0,aC.mk 0 0 0]) (#v[#v[0,0],#v[0,0],#v[0,0]]) 0 0 0 0:aE)) a0 a1.toNat) fun v4=>
   Option.bind (aAW v4 a1.toNat) fun _=>
   some (Sum.inr ((v4,0)))))
theorem aDV {N a0 a1 r} (h:rQ N a0 a1=some r):FnM Tryz.prog 28 [] [(eL 19 aE.enc a0),(j64 a1)] (aE5 r (fun r=>(.tup [(.v (.pointer none)),(j64 r)])) (fun r=>(.tup [(.ref 1 [] 0),(j64 r.2)]))) (aE5 r (fun r=>[]) (fun r=>[.dead,.var (.st 3 [(.st 1 [(j64 0)]),(eB true),(eL 19 aE.enc r.1)])])):=by
 unfold rQ at h
 refine At.f dJ hT hmo Tryz.func28 rfl h ?_
 refine lx ?_;intro x1
 refine At.c 9 ?_ ?_
 ·apply rt;exact At.r 2
 ·refine lx ?_;intro x2
  refine At.c 5 ?_ ?_
  ·apply rt;exact At.r 2
  ·refine At.b 1 (fun _ e=>aQ5 hT aE.enc ((aE.mk (#v[aC.mk 0 0 0,aC.mk 0 0 0,aC.mk 0 0 0]) (#v[#v[0,0],#v[0,0],#v[0,0]]) 0 0 0 0:aE)) (k:=19) (kd := .st [(0,57),(9,59),(15,3),(16,3),(17,3),(18,5)]) e (by kernel_rfl) (by kernel_rfl) rfl) fun u3=>?_
   refine At.b 8 (fun v4 e=>aNw hT aE.enc (id:=0) (k:=19) (N:=a1.toNat*19) (H':=[.var (.arr (a1.toNat*19) 19 (List.map aE.enc v4)),.var (.st 3 [(.st 1 [(j64 0)]),(eB true),(.bsl 0 [] 0 19 0 a1.toNat)])]) e (by kernel_rfl) (by kernel_rfl) (by kernel_rfl)) fun v4=>?_
   refine bi fun u5 hu5=>?_
   refine At.fz 3 0 19 a1.toNat _ (List.map aE.enc v4) (List.length_map _) (lenM aE.enc hu5) ?_
   apply rt;exact At.r 0
theorem aFW {N a0 a1 r} (h:rQ N a0 a1=some (Sum.inl r)):FnM Tryz.prog 28 [] [(eL 19 aE.enc a0),(j64 a1)] (.tup [(.v (.pointer none)),(j64 r)]) []:=aDV h
theorem aFn {N a0 a1 r} (h:rQ N a0 a1=some (Sum.inr r)):FnM Tryz.prog 28 [] [(eL 19 aE.enc a0),(j64 a1)] (.tup [(.ref 1 [] 0),(j64 r.2)]) [.dead,.var (.st 3 [(.st 1 [(j64 0)]),(eB true),(eL 19 aE.enc r.1)])]:=aDV h
def pE (N:Nat) (a0:aE):Nat→aC→aC→Int→Option (aC×aC)
 | 0,_,_,_=>none
 | k+1,s2,s3,s4=>
  aV (decide (s4 < ((3:Int)))) fun x5=>
  cond x5 (
   Option.bind (fD s4 3) fun _=>
   Option.bind (a0.gP.toList[s4.toNat]?) fun e7=>
   Option.bind (cond (s4==0) (some ((e7,e7))) (some ((s2,s3)))) fun p8=>
   pE N a0 k (aC.mk (kE p8.1.gX e7.gX) (kE p8.1.gY e7.gY) (kE p8.1.gZ e7.gZ)) (aC.mk (jH p8.2.gX e7.gX) (jH p8.2.gY e7.gY) (jH p8.2.gZ e7.gZ)) (I64 (s4+1))) (
   some ((s2,s3)))
def wN (N:Nat) (a0:aE):Option (aC×aC):=
 Option.bind (pE N a0 N (aC.mk 0 0 0) (aC.mk 0 0 0) 0) fun p1=>
 some ((p1.1,p1.2))
theorem aIH {N a0 r} (h:wN N a0=some r):FnM Tryz.prog 142 [.var (aE.enc a0)] [(.bsl 0 [0] 0 3 0 3)] (.tup [(aC.enc r.1),(aC.enc r.2)]) [.var (aE.enc a0)]:=by
 unfold wN at h
 refine At.f dJ hT hmo Tryz.func142 rfl h ?_
 refine At.L 5 [2,3] 3 (fun p1=>([],[(1,.var (aC.enc p1.1)),(2,.var (aC.enc p1.2))],[])) (fun p1 J k=>∃ s2 s3 s4,pE N a0 k s2 s3 s4=some p1∧J [2,3,6,7] 3 [(8,(j64 s4))] [(1,.var (aC.enc s2)),(2,.var (aC.enc s3))] []) N (fun _ h=>⟨_,_,_,h,jr⟩) (fun p1 k s hI=>?_) fun p1=>?_
 ·obtain ⟨s2,s3,s4,h,hj⟩:=hI
  cases k with
  | zero=>cases h
  | succ k=>
   refine At.jr hj ?_ h
   refine lx ?_;intro x5
   refine At.c 1 ?_ ?_
   ·refine At.b 1 (fun _ e=>aPV hT 0 [0] 0 0 3 (k:=3) e (by kernel_rfl) (by kernel_rfl)) fun u6=>?_
    refine At.b 0 (fun _ e=>oY hT aC.enc 1 e) fun e7=>?_
    refine At.J 3 1 [2,3,5,6,7,8] 4 (fun p8=>([],[(1,.var (aC.enc p8.1)),(2,.var (aC.enc p8.2))],[])) (fun p8=>?_) fun p8=>?_
    ·refine At.c 2 ?_ ?_
     ·refine At.d 0 dE0 dF0 ?_
      apply rt;exact At.jn 0
     ·apply rt;exact At.jn 0
    ·exact fun h=>At.k 36 ⟨_,_,_,h,jr⟩
   ·apply rt;exact At.x 0
 ·refine At.d 0 dE0 dF0 ?_
  apply rt;exact At.r 0
def sR (N:Nat) (a0:(List aC)):Nat→aC→aC→Int→Option (aC×aC)
 | 0,_,_,_=>none
 | k+1,s2,s3,s4=>
  aV (decide (s4 < ((a0.length:Int)))) fun x5=>
  cond x5 (
   Option.bind (idx a0 s4) fun e6=>
   Option.bind (cond (s4==0) (some ((e6,e6))) (some ((s2,s3)))) fun p7=>
   sR N a0 k (aC.mk (kE p7.1.gX e6.gX) (kE p7.1.gY e6.gY) (kE p7.1.gZ e6.gZ)) (aC.mk (jH p7.2.gX e6.gX) (jH p7.2.gY e6.gY) (jH p7.2.gZ e6.gZ)) (I64 (s4+1))) (
   some ((s2,s3)))
def nA (N:Nat) (a0:(List aC)):Option (aC×aC):=
 Option.bind (sR N a0 N (aC.mk 0 0 0) (aC.mk 0 0 0) 0) fun p1=>
 some ((p1.1,p1.2))
theorem rI {N a0 r} (h:nA N a0=some r):FnM Tryz.prog 142 [] [(eL 3 aC.enc a0)] (.tup [(aC.enc r.1),(aC.enc r.2)]) []:=by
 unfold nA at h
 refine At.f dJ hT hmo Tryz.func142 rfl h ?_
 refine At.L 5 [2,3] 2 (fun p1=>([],[(0,.var (aC.enc p1.1)),(1,.var (aC.enc p1.2))],[])) (fun p1 J k=>∃ s2 s3 s4,sR N a0 k s2 s3 s4=some p1∧J [2,3,6,7] 2 [(8,(j64 s4))] [(0,.var (aC.enc s2)),(1,.var (aC.enc s3))] []) N (fun _ h=>⟨_,_,_,h,jr⟩) (fun p1 k s hI=>?_) fun p1=>?_
 ·obtain ⟨s2,s3,s4,h,hj⟩:=hI
  cases k with
  | zero=>cases h
  | succ k=>
   refine At.jr hj ?_ h
   refine lx ?_;intro x5
   refine At.c 1 ?_ ?_
   ·refine At.b 1 (fun _ e=>cH hT aC.enc e) fun e6=>?_
    refine At.J 4 1 [2,3,5,6,7,8] 3 (fun p7=>([],[(0,.var (aC.enc p7.1)),(1,.var (aC.enc p7.2))],[])) (fun p7=>?_) fun p7=>?_
    ·refine At.c 2 ?_ ?_
     ·refine At.d 0 dE0 dF0 ?_
      apply rt;exact At.jn 0
     ·apply rt;exact At.jn 0
    ·exact fun h=>At.k 36 ⟨_,_,_,h,jr⟩
   ·apply rt;exact At.x 0
 ·refine At.d 0 dE0 dF0 ?_
  apply rt;exact At.r 0
def nS (N a3:Nat) (b0:(List Int)) (a2:Nat) (a1:(List aE)):Nat→aC→aC→Int→Option (aC×aC)
 | 0,_,_,_=>none
 | k+1,s2,s3,s4=>
  aV (decide (s4 < ((a3:Int)))) fun x5=>
  cond x5 (
   Option.bind (Option.bind (wU b0.length a2 a3 s4) fun _=>
   Option.bind (b0[(xI a2 s4.toNat)]?) fun e8=>
   Option.bind (idx a1 e8) fun e9=>
   Option.bind (wC e9.gP.toList 0 3) fun s10=>
   Option.bind (nA N s10) fun r11=>
   cond (s4==0) (
    some ((r11.1,r11.2,r11.1,r11.2))) (
    Option.bind (nA N ([s2,r11.1])) fun r12=>
    Option.bind (nA N ([s3,r11.2])) fun r13=>
    some ((r12.1,r13.2,r11.1,r11.2)))) fun p6=>
   nS N a3 b0 a2 a1 k p6.1 p6.2.1 (I64 (s4+1))) (
   some ((s2,s3)))
def vB (N:Nat) (b0:(List Int)) (a1:(List aE)) (a2 a3:Nat):Option (aC×aC):=
 Option.bind (nS N a3 b0 a2 a1 N (aC.mk 0 0 0) (aC.mk 0 0 0) 0) fun p1=>
 some ((p1.1,p1.2))
theorem aGk {N b0 a1 a2 a3 r} (h:vB N b0 a1 a2 a3=some r):FnM Tryz.prog 143 [.gro 1 (List.map j64 b0)] [(eL 19 aE.enc a1),(.gro 0 1 b0.length (.sub a2 a3))] (.tup [(aC.enc r.1),(aC.enc r.2)]) [.gro 1 (List.map j64 b0)]:=by
 unfold vB at h
 refine At.f dJ hT hmo Tryz.func143 rfl h ?_
 refine At.L 5 [4,5] 3 (fun p1=>([],[(1,.var (aC.enc p1.1)),(2,.var (aC.enc p1.2))],[])) (fun p1 J k=>∃ s2 s3 s4,nS N a3 b0 a2 a1 k s2 s3 s4=some p1∧J [0,4,5,10,11] 3 [(12,(j64 s4))] [(1,.var (aC.enc s2)),(2,.var (aC.enc s3))] []) N (fun _ h=>⟨_,_,_,h,jr⟩) (fun p1 k s hI=>?_) fun p1=>?_
 ·obtain ⟨s2,s3,s4,h,hj⟩:=hI
  cases k with
  | zero=>cases h
  | succ k=>
   refine At.jr hj ?_ h
   refine lx ?_;intro x5
   refine At.c 1 ?_ ?_
   ·refine At.J 0 2 [0,4,5,10,11,12] 3 (fun p6=>([],[(1,.var (aC.enc p6.1)),(2,.var (aC.enc p6.2.1))],[.var (aC.enc p6.2.2.1),.var (aC.enc p6.2.2.2)])) (fun p6=>?_) fun p6=>?_
    ·refine At.b 1 (fun _ e=>jJ hT (id:=0) (k:=1) e (by kernel_rfl) (by kernel_rfl)) fun u7=>?_
     refine At.b 0 (fun _ e=>oD hT j64 [] e rfl (by kernel_rfl) (by kernel_rfl)) fun e8=>?_
     refine At.b 4 (fun _ e=>cH hT aE.enc e) fun e9=>?_
     refine At.b 1 (fun _ e=>aAj hT (N:=9) (k:=3) aC.enc e9.gP e) fun s10=>?_
     refine At.b 0 (fun _ e=>aN [] (rI e)) fun r11=>?_
     refine At.c 9 ?_ ?_
     ·refine At.d 0 dE0 dF0 ?_
      apply rt;exact At.jn 0
     ·refine At.o 2 (cT hT (x:=(.sl 3 2 [(aC.enc s2),(aC.enc r11.1)]))) ?_
      refine At.b 0 (fun _ e=>aN [] (rI e)) fun r12=>?_
      refine At.o 6 (cT hT (x:=(.sl 3 2 [(aC.enc s3),(aC.enc r11.2)]))) ?_
      refine At.b 0 (fun _ e=>aN [] (rI e)) fun r13=>?_
      apply rt;exact At.jn 4
    ·exact fun h=>At.k 2 ⟨_,_,_,h,jr⟩
   ·apply rt;exact At.x 0
 ·refine At.d 0 dE0 dF0 ?_
  apply rt;exact At.r 0
def aIu : Nat→Bool:=imL [1]
def iY (N:Nat) (a0:aE):Option (aC):=
 Option.bind (wC a0.gP.toList 0 3) fun s1=>
 Option.bind (nA N s1) fun r2=>
 aV (I64 (r2.1.gX+r2.2.gX)) fun x3=>
 aV (I64 (r2.1.gY+r2.2.gY)) fun x4=>
 aV (I64 (r2.1.gZ+r2.2.gZ)) fun x5=>
 some (aC.mk ((I64 (r2.1.gX+r2.2.gX))) ((I64 (r2.1.gY+r2.2.gY))) ((I64 (r2.1.gZ+r2.2.gZ))))
theorem tN {N a0 r} (h:iY N a0=some r):FnM Tryz.prog 204 [] [(aE.enc a0)] (aC.enc r) []:=by
 unfold iY at h
 refine At.f aIu hT hmo Tryz.func204 rfl h ?_
 refine At.b 3 (fun _ e=>aAj hT (N:=9) (k:=3) aC.enc a0.gP e) fun s1=>?_
 refine At.b 0 (fun _ e=>aN [] (rI e)) fun r2=>?_
 refine lx ?_;intro x3
 refine lx ?_;intro x4
 refine lx ?_;intro x5
 apply rt;exact At.r 24
def aKw : Nat→Bool:=imL [2]
def kW (N:Nat) (a0:aC) (a1:Int):Option (Int):=
 Option.bind (idx (#v[a0.gX,a0.gY,a0.gZ]).toList a1) fun e1=>
 some e1
theorem mR {N a0 a1 r} (h:kW N a0 a1=some r):FnM Tryz.prog 205 [] [(aC.enc a0),(j64 a1)] (j64 r) []:=by
 unfold kW at h
 refine At.f aKw hT hmo Tryz.func205 rfl h ?_
 refine At.b 10 (fun _ e=>zP hT j64 (#v[a0.gX,a0.gY,a0.gZ]) e (by kernel_rfl) (by kernel_rfl)) fun e1=>?_
 apply rt;exact At.r 1
def oL (N:Nat) (a0 a1:Int) (a2:(List aE)) (a3:Int):Option (Int):=
 Option.bind (idx a2 a0) fun e1=>
 Option.bind (iY N e1) fun r2=>
 Option.bind (kW N r2 a3) fun r3=>
 Option.bind (idx a2 a1) fun e4=>
 Option.bind (iY N e4) fun r5=>
 Option.bind (kW N r5 a3) fun r6=>
 some (I64 (r3 - r6))
theorem aCi {N a0 a1 a2 a3 r} (h:oL N a0 a1 a2 a3=some r):FnM Tryz.prog 207 [.var (j64 a3)] [(j64 a0),(j64 a1),(.im (eL 19 aE.enc a2)),(.ref 0 [] 0)] (j64 r) [.var (j64 a3)]:=by
 unfold oL at h
 refine At.f dJ hT hmo Tryz.func207 rfl h ?_
 refine bi fun e1 he1=>?_
 refine bi fun r2 hr2=>?_
 refine bi fun r3 hr3=>?_
 refine bi fun e4 he4=>?_
 refine bi fun r5 hr5=>?_
 refine bi fun r6 hr6=>?_
 refine At.d 1 (dE1 2 (fun _=>cH hT aE.enc he1) (dE2 4 (aC.enc r2) (fun _=>aO (tN hr2)) (dE2 6 (j64 r3) (fun _=>aO (mR hr3)) (dE1 9 (fun _=>cH hT aE.enc he4) (dE2 11 (aC.enc r5) (fun _=>aO (tN hr5)) (dE2 13 (j64 r6) (fun _=>aO (mR hr6)) dE0)))))) dF0 ?_
 apply rt;exact At.r 0
def bL (N:Nat) (a3:Int) (a1:Nat) (a5:(List aE)) (a6:Int):Nat→(List Int)→Nat→Int→Option ((List Int)×Nat)
 | 0,_,_,_=>none
 | k+1,s6,s7,s8=>
  Option.bind (cond (decide (s8 > a3)) (
   Option.bind (wU s6.length a1 s7 s8) fun _=>
   Option.bind (s6[(xI a1 s8.toNat)]?) fun e11=>
   Option.bind (wU s6.length a1 s7 (I64 (s8 - 1))) fun _=>
   Option.bind (s6[(xI a1 ((I64 (s8 - 1)).toNat))]?) fun e13=>
   Option.bind (oL N e11 e13 a5 a6) fun r14=>
   some (decide (r14 < 0))) (
   some false)) fun p9=>
  cond p9 (
   Option.bind (wU s6.length a1 s7 (I64 (s8 - 1))) fun _=>
   Option.bind (s6[(xI a1 ((I64 (s8 - 1)).toNat))]?) fun e16=>
   Option.bind (wU s6.length a1 s7 s8) fun _=>
   Option.bind (s6[(xI a1 s8.toNat)]?) fun e18=>
   Option.bind (wU s6.length a1 s7 s8) fun _=>
   Option.bind (aF1 s6 ((xI a1 s8.toNat)) e16) fun z20=>
   Option.bind (wU s6.length a1 s7 (I64 (s8 - 1))) fun _=>
   Option.bind (aF1 z20 ((xI a1 ((I64 (s8 - 1)).toNat))) e18) fun z22=>
   bL N a3 a1 a5 a6 k z22 s7 (I64 (s8 - 1))) (
   some ((s6,s7)))
def bV (N:Nat) (a4 a3:Int) (a1:Nat) (a5:(List aE)) (a6:Int):Nat→(List Int)→Nat→Int→Option ((List Int))
 | 0,_,_,_=>none
 | k+1,s2,s3,s4=>
  cond (decide (s4 < a4)) (
   Option.bind (bL N a3 a1 a5 a6 N s2 s3 s4) fun p5=>
   bV N a4 a3 a1 a5 a6 k p5.1 p5.2 (I64 (s4+1))) (
   some s2)
def bH (N:Nat) (b0:(List Int)) (a1 a2:Nat) (a3 a4:Int) (a5:(List aE)) (a6:Int):Option ((List Int)):=
 Option.bind (bV N a4 a3 a1 a5 a6 N b0 a2 (I64 (a3+1))) fun p1=>
 some p1
theorem iU {N b0 a1 a2 a3 a4 a5 a6 r} (h:bH N b0 a1 a2 a3 a4 a5 a6=some r):FnM Tryz.prog 265 [.gro 1 (List.map j64 b0),.var (j64 a6)] [(.gro 0 1 b0.length (.sub a1 a2)),(j64 a3),(j64 a4),(.fn (.func 207) [] [(.im (eL 19 aE.enc a5)),(.ref 1 [] 0)])] (.tup []) [.gro 1 (List.map j64 r),.var (j64 a6)]:=by
 unfold bH at h
 refine At.f dJ hT hmo Tryz.func265 rfl h ?_
 refine At.L 3 [] 2 (fun p1=>([],[(0,.gro 1 (List.map j64 p1))],[])) (fun p1 J k=>∃ s2 s3 s4,bV N a4 a3 a1 a5 a6 k s2 s3 s4=some p1∧J [1,2,3] 2 [(0,(.gro 0 1 s2.length (.sub a1 s3))),(8,(j64 s4))] [(0,.gro 1 (List.map j64 s2))] []) N (fun _ h=>⟨_,_,_,h,jr⟩) (fun p1 k s hI=>?_) fun p1=>?_
 ·obtain ⟨s2,s3,s4,h,hj⟩:=hI
  cases k with
  | zero=>cases h
  | succ k=>
   refine At.jr hj ?_ h
   refine At.c 3 ?_ ?_
   ·refine At.L 2 [1,2,3,8] 2 (fun p5=>([(0,(.gro 0 1 p5.1.length (.sub a1 p5.2)))],[(0,.gro 1 (List.map j64 p5.1))],[])) (fun p5 J k=>∃ s6 s7 s8,bL N a3 a1 a5 a6 k s6 s7 s8=some p5∧J [1,2,3,8] 2 [(0,(.gro 0 1 s6.length (.sub a1 s7))),(9,(j64 s8))] [(0,.gro 1 (List.map j64 s6))] []) N (fun _ h=>⟨_,_,_,h,jr⟩) (fun p5 k s hI=>?_) fun p5=>?_
    ·obtain ⟨s6,s7,s8,h,hj⟩:=hI
     cases k with
     | zero=>cases h
     | succ k=>
      refine At.jr hj ?_ h
      refine At.J 0 0 [0,1,2,3,8,9] 2 (fun p9=>([(34,(eB p9))],[],[])) (fun p9=>?_) fun p9=>?_
      ·refine boI (fun hc3=>?_) (fun hc3=>?_)
       ·refine bi fun u10 hu10=>?_
        refine bi fun e11 he11=>?_
        refine bi fun u12 hu12=>?_
        refine bi fun e13 he13=>?_
        refine bi fun r14 hr14=>?_
        refine At.d 0 (dE1 3 (fun _=>dM hc3 rfl (dC hT (im:=false) (by kernel_rfl))) (dE1 7 (fun _=>jJ hT (id:=0) (k:=1) hu10 (by kernel_rfl) (by kernel_rfl)) (dET 8 (j64 e11) [[.gro 1 (List.map j64 s6),.var (j64 a6)]] ⟨bS (oD hT j64 [] he11 rfl (by kernel_rfl) (by kernel_rfl)),trivial⟩ (dE1 12 (fun _=>jJ hT (id:=0) (k:=1) hu12 (by kernel_rfl) (by kernel_rfl)) (dET 13 (j64 e13) [[.gro 1 (List.map j64 s6),.var (j64 a6)]] ⟨bS (oD hT j64 [] he13 rfl (by kernel_rfl) (by kernel_rfl)),trivial⟩ dE0))))) (dF 14 (j64 r14) [] [] (bS (aN [1] (aCi hr14))) dF0) ?_
        apply rt;exact At.jn 0
       ·refine At.d 0 (dE1 3 (fun _=>dM hc3 rfl (dC hT (im:=false) (by kernel_rfl))) dE0) dF0 ?_
        apply rt;exact At.jn 0
      ·refine At.c 0 ?_ ?_
       ·refine bi fun u15 hu15=>?_
        refine bi fun e16 he16=>?_
        refine bi fun u17 hu17=>?_
        refine bi fun e18 he18=>?_
        refine bi fun u19 hu19=>?_
        refine bi fun z20 hz20=>?_
        refine bi fun u21 hu21=>?_
        refine bi fun z22 hz22=>?_
        refine At.d 0 (dE1 8 (fun _=>jJ hT (id:=0) (k:=1) hu15 (by kernel_rfl) (by kernel_rfl)) (dET 9 (j64 e16) [[.gro 1 (List.map j64 s6),.var (j64 a6)]] ⟨bS (oD hT j64 [] he16 rfl (by kernel_rfl) (by kernel_rfl)),trivial⟩ (dE1 12 (fun _=>jJ hT (id:=0) (k:=1) hu17 (by kernel_rfl) (by kernel_rfl)) (dET 13 (j64 e18) [[.gro 1 (List.map j64 s6),.var (j64 a6)]] ⟨bS (oD hT j64 [] he18 rfl (by kernel_rfl) (by kernel_rfl)),trivial⟩ (dE1 14 (fun _=>jJ hT (id:=0) (k:=1) hu19 (by kernel_rfl) (by kernel_rfl)) (dE1 16 (fun _=>jJ hT (id:=0) (k:=1) hu21 (by kernel_rfl) (by kernel_rfl)) dE0)))))) (dF 15 (.v (.bool false)) [(0,.gro 1 (List.map j64 z20))] [] (bS (aBr hT j64 (k:=1) e16 hz20 rfl (by kernel_rfl) (fun _=>by kernel_rfl) (by kernel_rfl) (H':=[.gro 1 (List.map j64 z20),.var (j64 a6)]) (by kernel_rfl))) (dF 17 (.v (.bool false)) [(0,.gro 1 (List.map j64 z22))] [] (bS (aBr hT j64 (k:=1) e18 hz22 ((aBv hz20).2.2).symm (by kernel_rfl) (fun _=>by kernel_rfl) (by kernel_rfl) (H':=[.gro 1 (List.map j64 z22),.var (j64 a6)]) (by kernel_rfl))) dF0)) ?_
        refine At.gl 0 [0] [] 0 s6.length z22.length (((aBv hz22).2.2).trans ((aBv hz20).2.2)) ?_
        exact fun h=>At.k 3 ⟨_,_,_,h,jr⟩
       ·apply rt;exact At.x 0
    ·exact fun h=>At.k 3 ⟨_,_,_,h,jr⟩
   ·apply rt;exact At.x 0
 ·apply rt;exact At.z 0
def bZ (N:Nat) (a3:Int) (a1:Nat) (a4:(List aE)) (a5:Int):Nat→(List Int)→Nat→Int→Int→Option ((List Int)×Nat×Int)
 | 0,_,_,_,_=>none
 | k+1,s2,s3,s4,s5=>
  cond (decide (s5≤a3)) (
   Option.bind (bH N s2 a1 s3 s4 s5 a4 a5) fun r6=>
   Option.bind (aAW r6 s2.length) fun _=>
   bZ N a3 a1 a4 a5 k r6 s3 s5 (I64 (s5+20))) (
   some ((s2,s3,s4)))
def fM (N:Nat) (s11 a3:Int):Nat→Option (Unit)
 | 0=>none
 | k+1=>
  aV (decide ((I64 (2*s11))≤a3)) fun x13=>
  cond x13 (none) (some (()))
def cU (N:Nat) (a3:Int):Nat→Int→Option (Unit)
 | 0,_=>none
 | k+1,s11=>
  cond (decide (s11 < a3)) (
   Option.bind (fM N s11 a3 N ) fun p12=>
   Option.bind (aV (decide ((I64 (0+s11)) < a3)) fun x15=>
   cond x15 (none) (some (()))) fun p14=>
   cU N a3 k (I64 (s11*2))) (
   some (()))
def eJ (N:Nat) (b0:(List Int)) (a1 a2:Nat) (a3:Int) (a4:(List aE)) (a5:Int):Option ((List Int)):=
 Option.bind (bZ N a3 a1 a4 a5 N b0 a2 0 20) fun p1=>
 Option.bind (bH N p1.1 a1 p1.2.1 p1.2.2 a3 a4 a5) fun r8=>
 Option.bind (aAW r8 p1.1.length) fun _=>
 Option.bind (cU N a3 N 20) fun p10=>
 some r8
theorem rB {N b0 a1 a2 a3 a4 a5 r} (h:eJ N b0 a1 a2 a3 a4 a5=some r):FnM Tryz.prog 249 [.gro 1 (List.map j64 b0),.var (j64 a5)] [(.gro 0 1 b0.length (.sub a1 a2)),(j64 a3),(.fn (.func 207) [] [(.im (eL 19 aE.enc a4)),(.ref 1 [] 0)])] (.tup []) [.gro 1 (List.map j64 r),.var (j64 a5)]:=by
 unfold eJ at h
 refine At.f dJ hT hmo Tryz.func249 rfl h ?_
 refine At.L 4 [1,2,6] 2 (fun p1=>([(0,(.gro 0 1 p1.1.length (.sub a1 p1.2.1))),(7,(j64 p1.2.2))],[(0,.gro 1 (List.map j64 p1.1))],[])) (fun p1 J k=>∃ s2 s3 s4 s5,bZ N a3 a1 a4 a5 k s2 s3 s4 s5=some p1∧J [1,2,6] 2 [(0,(.gro 0 1 s2.length (.sub a1 s3))),(7,(j64 s4)),(8,(j64 s5))] [(0,.gro 1 (List.map j64 s2))] []) N (fun _ h=>⟨_,_,_,_,h,jr⟩) (fun p1 k s hI=>?_) fun p1=>?_
 ·obtain ⟨s2,s3,s4,s5,h,hj⟩:=hI
  cases k with
  | zero=>cases h
  | succ k=>
   refine At.jr hj ?_ h
   refine At.c 3 ?_ ?_
   ·refine bi fun r6 hr6=>?_
    refine bi fun u7 hu7=>?_
    refine At.o 4 (aN [0,1] (iU hr6)) ?_
    refine At.gl 0 [0] [] 0 s2.length r6.length (aBw hu7) ?_
    exact fun h=>At.k 6 ⟨_,_,_,_,h,jr⟩
   ·apply rt;exact At.x 0
 ·refine bi fun r8 hr8=>?_
  refine bi fun u9 hu9=>?_
  refine At.o 4 (aN [0,1] (iU hr8)) ?_
  refine At.gl 0 [0] [] 0 p1.1.length r8.length (aBw hu9) ?_
  refine At.L 0 [] 2 (fun p10=>([],[],[])) (fun p10 J k=>∃ s11,cU N a3 k s11=some p10∧J [0,1,2] 2 [(6,(j64 s11))] [] []) N (fun _ h=>⟨_,h,jr⟩) (fun p10 k s hI=>?_) fun p10=>?_
  ·obtain ⟨s11,h,hj⟩:=hI
   cases k with
   | zero=>cases h
   | succ k=>
    refine At.jr hj ?_ h
    refine At.c 3 ?_ ?_
    ·refine At.L 4 [0,1,2,6,7] 2 (fun p12=>([],[],[])) (fun p12 J k=>fM N s11 a3 k  = some p12∧J [0,1,2,6,7,8] 2 [] [] []) N (fun _ h=>⟨h,jr⟩) (fun p12 k s hI=>?_) fun p12=>?_
     ·obtain ⟨h,hj⟩:=hI
      cases k with
      | zero=>cases h
      | succ k=>
       unfold fM at h
       dsimp only at h
       refine At.jr hj ?_ h
       refine lx ?_;intro x13
       refine At.c 3 ?_ ?_
       ·exact nn
       ·apply rt;exact At.x 0
     ·refine At.J 0 1 [0,1,2,6] 2 (fun p14=>([],[],[])) (fun p14=>?_) fun p14=>?_
      ·refine lx ?_;intro x15
       refine At.c 7 ?_ ?_
       ·exact nn
       ·apply rt;exact At.jn 0
      ·exact fun h=>At.k 3 ⟨_,h,jr⟩
    ·apply rt;exact At.x 0
  ·apply rt;exact At.z 0
def cL (N:Nat) (b0:(List Int)) (a1 a2:Nat) (a3:(List aE)) (a4:Int):Option ((List Int)):=
 Option.bind (eJ N b0 a1 a2 ((a2:Int)) a3 a4) fun r1=>
 some r1
theorem pA {N b0 a1 a2 a3 a4 r} (h:cL N b0 a1 a2 a3 a4=some r):FnM Tryz.prog 206 [.gro 1 (List.map j64 b0),.var (j64 a4)] [(.gro 0 1 b0.length (.sub a1 a2)),(.fn (.func 207) [] [(.im (eL 19 aE.enc a3)),(.ref 1 [] 0)])] (.tup []) [.gro 1 (List.map j64 r),.var (j64 a4)]:=by
 unfold cL at h
 refine At.f dJ hT hmo Tryz.func206 rfl h ?_
 refine At.b 4 (fun _ e=>aN [0,1] (rB e)) fun r1=>?_
 apply rt;exact At.z 0
def uO (N:Nat) (a0 a1 a2:Int):Option (Int):=
 aV (I64 ((I64 (a0 - a1))*8)) fun x1=>
 Option.bind (aIQ .i64 x1 (I64 (a2 - a1))) fun x2=>
 some (kE x2 7)
theorem aF6 {N a0 a1 a2 r} (h:uO N a0 a1 a2=some r):FnM Tryz.prog 210 [] [(j64 a0),(j64 a1),(j64 a2)] (j64 r) []:=by
 unfold uO at h
 refine At.f dJ hT hmo Tryz.func210 rfl h ?_
 refine lx ?_;intro x1
 refine At.b 8 (fun _ e=>aDO hT e (by kernel_rfl) (by kernel_rfl)) fun x2=>?_
 apply rt;exact At.r 2
def aFk : Nat→Bool:=imL [4]
def nJ (N:Nat) (a0:bE) (a1:Int) (a2 a3:aC):Option (bE):=
 cond (a1==0) (
  some a0) (
  Option.bind (cond (decide (a0.gn > 0)) (
   Option.bind (nA N ([a0.glo,a2])) fun r2=>
   Option.bind (nA N ([a0.ghi,a3])) fun r3=>
   some ((r2.1,r3.2))) (
   some ((a2,a3)))) fun p1=>
  some (bE.mk (I64 (a0.gn+a1)) p1.1 p1.2))
theorem wZ {N a0 a1 a2 a3 r} (h:nJ N a0 a1 a2 a3=some r):FnM Tryz.prog 250 [] [(bE.enc a0),(j64 a1),(aC.enc a2),(aC.enc a3)] (bE.enc r) []:=by
 unfold nJ at h
 refine At.f aFk hT hmo Tryz.func250 rfl h ?_
 refine At.c 6 ?_ ?_
 ·apply rt;exact At.r 2
 ·refine At.J 0 1 [1,4,6,7,8] 3 (fun p1=>([],[(0,.var (aC.enc p1.1)),(1,.var (aC.enc p1.2))],[])) (fun p1=>?_) fun p1=>?_
  ·refine At.c 3 ?_ ?_
   ·refine At.o 3 (cT hT (x:=(.sl 3 2 [(aC.enc a0.glo),(aC.enc a2)]))) ?_
    refine At.b 0 (fun _ e=>aN [] (rI e)) fun r2=>?_
    refine At.o 7 (cT hT (x:=(.sl 3 2 [(aC.enc a0.ghi),(aC.enc a3)]))) ?_
    refine At.b 0 (fun _ e=>aN [] (rI e)) fun r3=>?_
    apply rt;exact At.jn 4
   ·apply rt;exact At.jn 0
  ·apply rt;exact At.r 8
def aKa : Nat→Bool:=imL [2,3]
def aA2 (N:Nat) (a0 a1:aC):Option (Int):=
 aV (shr .i64 (I64 (a1.gX - a0.gX)) 10) fun x1=>
 aV (shr .i64 (I64 (a1.gY - a0.gY)) 10) fun x2=>
 aV (shr .i64 (I64 (a1.gZ - a0.gZ)) 10) fun x3=>
 aV (I64 ((I64 (x1+1))*(I64 (x2+1)))) fun x4=>
 aV (I64 ((I64 (x2+1))*(I64 (x3+1)))) fun x5=>
 aV (I64 ((I64 (x3+1))*(I64 (x1+1)))) fun x6=>
 aV (I64 ((I64 (x4+x5))+x6)) fun x7=>
 some x7
theorem aJ1 {N a0 a1 r} (h:aA2 N a0 a1=some r):FnM Tryz.prog 267 [] [(aC.enc a0),(aC.enc a1)] (j64 r) []:=by
 unfold aA2 at h
 refine At.f aKa hT hmo Tryz.func267 rfl h ?_
 refine lx ?_;intro x1
 refine lx ?_;intro x2
 refine lx ?_;intro x3
 refine At.d 3 dE0 dF0 ?_
 refine lx ?_;intro x4
 refine lx ?_;intro x5
 refine lx ?_;intro x6
 refine lx ?_;intro x7
 apply rt;exact At.r 12
def aE6 : Nat→Bool:=imL [1]
def nU (N:Nat) (a0:bE):Option (Int):=
 cond (a0.gn==0) (
  some 1152921504606846976) (
  Option.bind (aA2 N a0.glo a0.ghi) fun r1=>
  some (I64 (a0.gn*r1)))
theorem aAZ {N a0 r} (h:nU N a0=some r):FnM Tryz.prog 251 [] [(bE.enc a0)] (j64 r) []:=by
 unfold nU at h
 refine At.f aE6 hT hmo Tryz.func251 rfl h ?_
 refine At.c 5 ?_ ?_
 ·apply rt;exact At.r 1
 ·refine bi fun r1 hr1=>?_
  refine At.d 0 (dE2 6 (j64 r1) (fun _=>aO (aJ1 hr1)) dE0) dF0 ?_
  apply rt;exact At.r 0
def kU (N a3:Nat) (b0:(List Int)) (a2:Nat) (a1:(List aE)) (a4 a5 a6:Int):Nat→(Vector bE 8)→Int→Option ((Vector bE 8))
 | 0,_,_=>none
 | k+1,s2,s3=>
  aV (decide (s3 < ((a3:Int)))) fun x4=>
  cond x4 (
   Option.bind (wU b0.length a2 a3 s3) fun _=>
   Option.bind (b0[(xI a2 s3.toNat)]?) fun e6=>
   Option.bind (idx a1 e6) fun e7=>
   Option.bind (wC e7.gP.toList 0 3) fun s8=>
   Option.bind (nA N s8) fun r9=>
   Option.bind (idx a1 e6) fun e10=>
   Option.bind (iY N e10) fun r11=>
   Option.bind (kW N r11 a4) fun r12=>
   Option.bind (uO N r12 a5 a6) fun r13=>
   Option.bind (fD r13 8) fun _=>
   Option.bind (s2.toList[r13.toNat]?) fun e15=>
   Option.bind (nJ N e15 1 r9.1 r9.2) fun r16=>
   Option.bind (fD r13 8) fun _=>
   Option.bind (s2.toList[r13.toNat]?) fun e18=>
   kU N a3 b0 a2 a1 a4 a5 a6 k (s2.setIfInBounds r13.toNat r16) (I64 (s3+1))) (
   some s2)
def kV (N:Nat) (p1:(Vector bE 8)) (s22:Int):Nat→bE→bE→Int→Option (bE×bE)
 | 0,_,_,_=>none
 | k+1,s25,s26,s27=>
  cond (decide (s27 < 8)) (
   Option.bind (Option.bind (idx p1.toList s27) fun e29=>
   cond (decide (s27 < s22)) (
    Option.bind (nJ N s25 e29.gn e29.glo e29.ghi) fun r30=>
    some ((r30,s26,e29))) (
    Option.bind (nJ N s26 e29.gn e29.glo e29.ghi) fun r31=>
    some ((s25,r31,e29)))) fun p28=>
   kV N p1 s22 k p28.1 p28.2.1 (I64 (s27+1))) (
   some ((s25,s26)))
def nK (N:Nat) (p1:(Vector bE 8)):Nat→Int→Int→Int→Option (Int)
 | 0,_,_,_=>none
 | k+1,s20,s21,s22=>
  cond (decide (s22 < 8)) (
   Option.bind (Option.bind (kV N p1 s22 N (bE.mk 0 (aC.mk 0 0 0) (aC.mk 0 0 0)) (bE.mk 0 (aC.mk 0 0 0) (aC.mk 0 0 0)) 0) fun p24=>
   Option.bind (nU N p24.1) fun r32=>
   aV (kE r32 576460752303423488) fun x33=>
   Option.bind (nU N p24.2) fun r34=>
   aV (kE r34 576460752303423488) fun x35=>
   aV (cond (decide (p24.1.gn > 0)) (decide (p24.2.gn > 0)) false) fun x36=>
   aV (decide ((I64 (x33+x35)) < s20)) fun x37=>
   cond (cond x36 x37 false) (
    some ((p24.1,p24.2,I64 (x33+x35),s22))) (
    some ((p24.1,p24.2,s20,s21)))) fun p23=>
   nK N p1 k p23.2.2.1 p23.2.2.2 (I64 (s22+1))) (
   some s21)
def qM (N:Nat) (b0:(List Int)) (a1:(List aE)) (a2 a3:Nat) (a4 a5 a6:Int):Option (Int):=
 Option.bind (kU N a3 b0 a2 a1 a4 a5 a6 N (Vector.replicate 8 (bE.mk 0 (aC.mk 0 0 0) (aC.mk 0 0 0))) 0) fun p1=>
 Option.bind (nK N p1 N 2305843009213693952 1 1) fun p19=>
 some p19
theorem aDx {N b0 a1 a2 a3 a4 a5 a6 r} (h:qM N b0 a1 a2 a3 a4 a5 a6=some r):FnM Tryz.prog 208 [.gro 1 (List.map j64 b0)] [(eL 19 aE.enc a1),(.gro 0 1 b0.length (.sub a2 a3)),(j64 a4),(j64 a5),(j64 a6)] (j64 r) [.gro 1 (List.map j64 b0)]:=by
 unfold qM at h
 refine At.f dJ hT hmo Tryz.func208 rfl h ?_
 refine At.L 5 [11] 2 (fun p1=>([],[(1,.var (eA 56 7 bE.enc p1))],[])) (fun p1 J k=>∃ s2 s3,kU N a3 b0 a2 a1 a4 a5 a6 k s2 s3=some p1∧J [0,2,3,4,11,25,26] 2 [(27,(j64 s3))] [(1,.var (eA 56 7 bE.enc s2))] []) N (fun _ h=>⟨_,_,h,jr⟩) (fun p1 k s hI=>?_) fun p1=>?_
 ·obtain ⟨s2,s3,h,hj⟩:=hI
  cases k with
  | zero=>cases h
  | succ k=>
   refine At.jr hj ?_ h
   refine lx ?_;intro x4
   refine At.c 1 ?_ ?_
   ·refine At.b 0 (fun _ e=>jJ hT (id:=0) (k:=1) e (by kernel_rfl) (by kernel_rfl)) fun u5=>?_
    refine At.b 0 (fun _ e=>oD hT j64 [] e rfl (by kernel_rfl) (by kernel_rfl)) fun e6=>?_
    refine At.b 3 (fun _ e=>cH hT aE.enc e) fun e7=>?_
    refine At.b 1 (fun _ e=>aAj hT (N:=9) (k:=3) aC.enc e7.gP e) fun s8=>?_
    refine At.b 0 (fun _ e=>aN [] (rI e)) fun r9=>?_
    refine At.b 9 (fun _ e=>cH hT aE.enc e) fun e10=>?_
    refine At.b 1 (fun _ e=>aN [] (tN e)) fun r11=>?_
    refine At.b 1 (fun _ e=>aN [] (mR e)) fun r12=>?_
    refine At.b 2 (fun _ e=>aN [] (aF6 e)) fun r13=>?_
    refine bi fun u14 hu14=>?_
    refine bi fun e15 he15=>?_
    refine bi fun r16 hr16=>?_
    refine bi fun u17 hu17=>?_
    refine bi fun e18 he18=>?_
    refine At.d 1 (dE1 2 (fun _=>bG hT (k:=7) 1 [] 0 hu14) (dEL hT 3 (bE.enc e15) bE.enc 0 he15 (dE2 6 (bE.enc r16) (fun _=>aO (wZ hr16)) (dE1 7 (fun _=>bG hT (k:=7) 1 [] 0 hu17) dE0)))) (dF 8 (.v (.bool false)) [(1,.var (eA 56 7 bE.enc (s2.setIfInBounds r13.toNat r16)))] [] (bS (nM hT bE.enc 0 s2 he18 r16 (by kernel_rfl) (by kernel_rfl) (H':=[.gro 1 (List.map j64 b0),.var (eA 56 7 bE.enc (s2.setIfInBounds r13.toNat r16)),.var (aC.enc r9.1),.var (aC.enc r9.2)]))) dF0) ?_
    exact fun h=>At.k 2 ⟨_,_,h,jr⟩
   ·apply rt;exact At.x 0
 ·refine At.L 3 [] 2 (fun p19=>([(18,(j64 p19))],[],[])) (fun p19 J k=>∃ s20 s21 s22,nK N p1 k s20 s21 s22=some p19∧J [11] 2 [(17,(j64 s20)),(18,(j64 s21)),(19,(j64 s22))] [] []) N (fun _ h=>⟨_,_,_,h,jr⟩) (fun p19 k s hI=>?_) fun p19=>?_
  ·obtain ⟨s20,s21,s22,h,hj⟩:=hI
   cases k with
   | zero=>cases h
   | succ k=>
    refine At.jr hj ?_ h
    refine At.c 2 ?_ ?_
    ·refine At.J 0 2 [11,19] 2 (fun p23=>([(17,(j64 p23.2.2.1)),(18,(j64 p23.2.2.2))],[],[.var (bE.enc p23.1),.var (bE.enc p23.2.1)])) (fun p23=>?_) fun p23=>?_
     ·refine At.L 4 [11,17,18,19,20,21] 4 (fun p24=>([],[(2,.var (bE.enc p24.1)),(3,.var (bE.enc p24.2))],[])) (fun p24 J k=>∃ s25 s26 s27,kV N p1 s22 k s25 s26 s27=some p24∧J [11,17,18,19,20,21,63] 4 [(64,(j64 s27))] [(2,.var (bE.enc s25)),(3,.var (bE.enc s26))] []) N (fun _ h=>⟨_,_,_,h,jr⟩) (fun p24 k s hI=>?_) fun p24=>?_
      ·obtain ⟨s25,s26,s27,h,hj⟩:=hI
       cases k with
       | zero=>cases h
       | succ k=>
        refine At.jr hj ?_ h
        refine At.c 1 ?_ ?_
        ·refine At.J 0 2 [11,17,18,19,20,21,63,64] 4 (fun p28=>([],[(2,.var (bE.enc p28.1)),(3,.var (bE.enc p28.2.1))],[.var (bE.enc p28.2.2)])) (fun p28=>?_) fun p28=>?_
         ·refine At.b 1 (fun _ e=>zP hT bE.enc p1 e (by kernel_rfl) (by kernel_rfl)) fun e29=>?_
          refine At.c 6 ?_ ?_
          ·refine At.b 7 (fun _ e=>aN [] (wZ e)) fun r30=>?_
           apply rt;exact At.jn 1
          ·refine At.b 7 (fun _ e=>aN [] (wZ e)) fun r31=>?_
           apply rt;exact At.jn 1
         ·exact fun h=>At.k 2 ⟨_,_,_,h,jr⟩
        ·apply rt;exact At.x 0
      ·refine bi fun r32 hr32=>?_
       refine lx ?_;intro x33
       refine bi fun r34 hr34=>?_
       refine lx ?_;intro x35
       refine At.d 0 (dE2 1 (j64 r32) (fun _=>aO (aAZ hr32)) (dE2 4 (j64 r34) (fun _=>aO (aAZ hr34)) dE0)) dF0 ?_
       refine lx ?_;intro x36
       refine lx ?_;intro x37
       refine At.c 13 ?_ ?_
       ·apply rt;exact At.jn 4
       ·apply rt;exact At.jn 0
     ·exact fun h=>At.k 3 ⟨_,_,_,h,jr⟩
    ·apply rt;exact At.x 0
  ·apply rt;exact At.r 2
def fT (N:Nat) (a0:Int) (a1:(List aE)) (a2 a3 a4 a5:Int):Option (Bool):=
 Option.bind (idx a1 a0) fun e1=>
 Option.bind (iY N e1) fun r2=>
 Option.bind (kW N r2 a5) fun r3=>
 Option.bind (uO N r3 a2 a3) fun r4=>
 some (decide (r4≥a4))
theorem oB {N a0 a1 a2 a3 a4 a5 r} (h:fT N a0 a1 a2 a3 a4 a5=some r):FnM Tryz.prog 209 [.var (j64 a5)] [(j64 a0),(.im (eL 19 aE.enc a1)),(.ref 0 [] 0),(.im (j64 a2)),(.im (j64 a3)),(.im (j64 a4))] (eB r) [.var (j64 a5)]:=by
 unfold fT at h
 refine At.f dJ hT hmo Tryz.func209 rfl h ?_
 refine bi fun e1 he1=>?_
 refine bi fun r2 hr2=>?_
 refine bi fun r3 hr3=>?_
 refine bi fun r4 hr4=>?_
 refine At.d 1 (dE1 2 (fun _=>cH hT aE.enc he1) (dE2 4 (aC.enc r2) (fun _=>aO (tN hr2)) (dE2 6 (j64 r3) (fun _=>aO (mR hr3)) (dE2 9 (j64 r4) (fun _=>aO (aF6 hr4)) dE0)))) dF0 ?_
 apply rt;exact At.r 0
def pL (N:Nat) (a0 a1:Int) (a2:(List aE)) (a3 a4 a5 a6:Int):Option (Int):=
 Option.bind (fT N a0 a2 a3 a4 a5 a6) fun r1=>
 Option.bind (fT N a1 a2 a3 a4 a5 a6) fun r2=>
 cond (r1==r2) (
  some 0) (
  Option.bind (fT N a1 a2 a3 a4 a5 a6) fun r3=>
  cond r3 (some (-1)) (some 1))
theorem aCz {N a0 a1 a2 a3 a4 a5 a6 r} (h:pL N a0 a1 a2 a3 a4 a5 a6=some r):FnM Tryz.prog 211 [.var (.fn (.func 209) [] [(.im (eL 19 aE.enc a2)),(.ref 1 [] 0),(.im (j64 a3)),(.im (j64 a4)),(.im (j64 a5))]),.var (j64 a6)] [(j64 a0),(j64 a1),(.ref 0 [] 0)] (j64 r) [.var (.fn (.func 209) [] [(.im (eL 19 aE.enc a2)),(.ref 1 [] 0),(.im (j64 a3)),(.im (j64 a4)),(.im (j64 a5))]),.var (j64 a6)]:=by
 unfold pL at h
 refine At.f dJ hT hmo Tryz.func211 rfl h ?_
 refine bi fun r1 hr1=>?_
 refine bi fun r2 hr2=>?_
 refine At.d 1 dE0 (dF 2 (eB r1) [] [] (bS (aN [1] (oB hr1))) (dF 5 (eB r2) [] [] (bS (aN [1] (oB hr2))) dF0)) ?_
 refine At.c 0 ?_ ?_
 ·apply rt;exact At.r 1
 ·refine At.b 2 (fun _ e=>aN [1] (oB e)) fun r3=>?_
  refine At.c 1 ?_ ?_
  ·apply rt;exact At.r 1
  ·apply rt;exact At.r 1
def bM (N:Nat) (a3:Int) (a1:Nat) (a5:(List aE)) (a6 a7 a8 a9:Int):Nat→(List Int)→Nat→Int→Option ((List Int)×Nat)
 | 0,_,_,_=>none
 | k+1,s6,s7,s8=>
  Option.bind (cond (decide (s8 > a3)) (
   Option.bind (wU s6.length a1 s7 s8) fun _=>
   Option.bind (s6[(xI a1 s8.toNat)]?) fun e11=>
   Option.bind (wU s6.length a1 s7 (I64 (s8 - 1))) fun _=>
   Option.bind (s6[(xI a1 ((I64 (s8 - 1)).toNat))]?) fun e13=>
   Option.bind (pL N e11 e13 a5 a6 a7 a8 a9) fun r14=>
   some (decide (r14 < 0))) (
   some false)) fun p9=>
  cond p9 (
   Option.bind (wU s6.length a1 s7 (I64 (s8 - 1))) fun _=>
   Option.bind (s6[(xI a1 ((I64 (s8 - 1)).toNat))]?) fun e16=>
   Option.bind (wU s6.length a1 s7 s8) fun _=>
   Option.bind (s6[(xI a1 s8.toNat)]?) fun e18=>
   Option.bind (wU s6.length a1 s7 s8) fun _=>
   Option.bind (aF1 s6 ((xI a1 s8.toNat)) e16) fun z20=>
   Option.bind (wU s6.length a1 s7 (I64 (s8 - 1))) fun _=>
   Option.bind (aF1 z20 ((xI a1 ((I64 (s8 - 1)).toNat))) e18) fun z22=>
   bM N a3 a1 a5 a6 a7 a8 a9 k z22 s7 (I64 (s8 - 1))) (
   some ((s6,s7)))
def cB (N:Nat) (a4 a3:Int) (a1:Nat) (a5:(List aE)) (a6 a7 a8 a9:Int):Nat→(List Int)→Nat→Int→Option ((List Int))
 | 0,_,_,_=>none
 | k+1,s2,s3,s4=>
  cond (decide (s4 < a4)) (
   Option.bind (bM N a3 a1 a5 a6 a7 a8 a9 N s2 s3 s4) fun p5=>
   cB N a4 a3 a1 a5 a6 a7 a8 a9 k p5.1 p5.2 (I64 (s4+1))) (
   some s2)
def bJ (N:Nat) (b0:(List Int)) (a1 a2:Nat) (a3 a4:Int) (a5:(List aE)) (a6 a7 a8 a9:Int):Option ((List Int)):=
 Option.bind (cB N a4 a3 a1 a5 a6 a7 a8 a9 N b0 a2 (I64 (a3+1))) fun p1=>
 some p1
theorem iZ {N b0 a1 a2 a3 a4 a5 a6 a7 a8 a9 r} (h:bJ N b0 a1 a2 a3 a4 a5 a6 a7 a8 a9=some r):FnM Tryz.prog 265 [.gro 1 (List.map j64 b0),.var (.fn (.func 209) [] [(.im (eL 19 aE.enc a5)),(.ref 2 [] 0),(.im (j64 a6)),(.im (j64 a7)),(.im (j64 a8))]),.var (j64 a9)] [(.gro 0 1 b0.length (.sub a1 a2)),(j64 a3),(j64 a4),(.fn (.func 211) [] [(.ref 1 [] 0)])] (.tup []) [.gro 1 (List.map j64 r),.var (.fn (.func 209) [] [(.im (eL 19 aE.enc a5)),(.ref 2 [] 0),(.im (j64 a6)),(.im (j64 a7)),(.im (j64 a8))]),.var (j64 a9)]:=by
 unfold bJ at h
 refine At.f dJ hT hmo Tryz.func265 rfl h ?_
 refine At.L 3 [] 3 (fun p1=>([],[(0,.gro 1 (List.map j64 p1))],[])) (fun p1 J k=>∃ s2 s3 s4,cB N a4 a3 a1 a5 a6 a7 a8 a9 k s2 s3 s4=some p1∧J [1,2,3] 3 [(0,(.gro 0 1 s2.length (.sub a1 s3))),(8,(j64 s4))] [(0,.gro 1 (List.map j64 s2))] []) N (fun _ h=>⟨_,_,_,h,jr⟩) (fun p1 k s hI=>?_) fun p1=>?_
 ·obtain ⟨s2,s3,s4,h,hj⟩:=hI
  cases k with
  | zero=>cases h
  | succ k=>
   refine At.jr hj ?_ h
   refine At.c 3 ?_ ?_
   ·refine At.L 2 [1,2,3,8] 3 (fun p5=>([(0,(.gro 0 1 p5.1.length (.sub a1 p5.2)))],[(0,.gro 1 (List.map j64 p5.1))],[])) (fun p5 J k=>∃ s6 s7 s8,bM N a3 a1 a5 a6 a7 a8 a9 k s6 s7 s8=some p5∧J [1,2,3,8] 3 [(0,(.gro 0 1 s6.length (.sub a1 s7))),(9,(j64 s8))] [(0,.gro 1 (List.map j64 s6))] []) N (fun _ h=>⟨_,_,_,h,jr⟩) (fun p5 k s hI=>?_) fun p5=>?_
    ·obtain ⟨s6,s7,s8,h,hj⟩:=hI
     cases k with
     | zero=>cases h
     | succ k=>
      refine At.jr hj ?_ h
      refine At.J 0 0 [0,1,2,3,8,9] 3 (fun p9=>([(34,(eB p9))],[],[])) (fun p9=>?_) fun p9=>?_
      ·refine boI (fun hc3=>?_) (fun hc3=>?_)
       ·refine bi fun u10 hu10=>?_
        refine bi fun e11 he11=>?_
        refine bi fun u12 hu12=>?_
        refine bi fun e13 he13=>?_
        refine bi fun r14 hr14=>?_
        refine At.d 0 (dE1 3 (fun _=>dM hc3 rfl (dC hT (im:=false) (by kernel_rfl))) (dE1 7 (fun _=>jJ hT (id:=0) (k:=1) hu10 (by kernel_rfl) (by kernel_rfl)) (dET 8 (j64 e11) [[.gro 1 (List.map j64 s6),.var (.fn (.func 209) [] [(.im (eL 19 aE.enc a5)),(.ref 2 [] 0),(.im (j64 a6)),(.im (j64 a7)),(.im (j64 a8))]),.var (j64 a9)]] ⟨bS (oD hT j64 [] he11 rfl (by kernel_rfl) (by kernel_rfl)),trivial⟩ (dE1 12 (fun _=>jJ hT (id:=0) (k:=1) hu12 (by kernel_rfl) (by kernel_rfl)) (dET 13 (j64 e13) [[.gro 1 (List.map j64 s6),.var (.fn (.func 209) [] [(.im (eL 19 aE.enc a5)),(.ref 2 [] 0),(.im (j64 a6)),(.im (j64 a7)),(.im (j64 a8))]),.var (j64 a9)]] ⟨bS (oD hT j64 [] he13 rfl (by kernel_rfl) (by kernel_rfl)),trivial⟩ dE0))))) (dF 14 (j64 r14) [] [] (bS (aN [1,2] (aCz hr14))) dF0) ?_
        apply rt;exact At.jn 0
       ·refine At.d 0 (dE1 3 (fun _=>dM hc3 rfl (dC hT (im:=false) (by kernel_rfl))) dE0) dF0 ?_
        apply rt;exact At.jn 0
      ·refine At.c 0 ?_ ?_
       ·refine bi fun u15 hu15=>?_
        refine bi fun e16 he16=>?_
        refine bi fun u17 hu17=>?_
        refine bi fun e18 he18=>?_
        refine bi fun u19 hu19=>?_
        refine bi fun z20 hz20=>?_
        refine bi fun u21 hu21=>?_
        refine bi fun z22 hz22=>?_
        refine At.d 0 (dE1 8 (fun _=>jJ hT (id:=0) (k:=1) hu15 (by kernel_rfl) (by kernel_rfl)) (dET 9 (j64 e16) [[.gro 1 (List.map j64 s6),.var (.fn (.func 209) [] [(.im (eL 19 aE.enc a5)),(.ref 2 [] 0),(.im (j64 a6)),(.im (j64 a7)),(.im (j64 a8))]),.var (j64 a9)]] ⟨bS (oD hT j64 [] he16 rfl (by kernel_rfl) (by kernel_rfl)),trivial⟩ (dE1 12 (fun _=>jJ hT (id:=0) (k:=1) hu17 (by kernel_rfl) (by kernel_rfl)) (dET 13 (j64 e18) [[.gro 1 (List.map j64 s6),.var (.fn (.func 209) [] [(.im (eL 19 aE.enc a5)),(.ref 2 [] 0),(.im (j64 a6)),(.im (j64 a7)),(.im (j64 a8))]),.var (j64 a9)]] ⟨bS (oD hT j64 [] he18 rfl (by kernel_rfl) (by kernel_rfl)),trivial⟩ (dE1 14 (fun _=>jJ hT (id:=0) (k:=1) hu19 (by kernel_rfl) (by kernel_rfl)) (dE1 16 (fun _=>jJ hT (id:=0) (k:=1) hu21 (by kernel_rfl) (by kernel_rfl)) dE0)))))) (dF 15 (.v (.bool false)) [(0,.gro 1 (List.map j64 z20))] [] (bS (aBr hT j64 (k:=1) e16 hz20 rfl (by kernel_rfl) (fun _=>by kernel_rfl) (by kernel_rfl) (H':=[.gro 1 (List.map j64 z20),.var (.fn (.func 209) [] [(.im (eL 19 aE.enc a5)),(.ref 2 [] 0),(.im (j64 a6)),(.im (j64 a7)),(.im (j64 a8))]),.var (j64 a9)]) (by kernel_rfl))) (dF 17 (.v (.bool false)) [(0,.gro 1 (List.map j64 z22))] [] (bS (aBr hT j64 (k:=1) e18 hz22 ((aBv hz20).2.2).symm (by kernel_rfl) (fun _=>by kernel_rfl) (by kernel_rfl) (H':=[.gro 1 (List.map j64 z22),.var (.fn (.func 209) [] [(.im (eL 19 aE.enc a5)),(.ref 2 [] 0),(.im (j64 a6)),(.im (j64 a7)),(.im (j64 a8))]),.var (j64 a9)]) (by kernel_rfl))) dF0)) ?_
        refine At.gl 0 [0] [] 0 s6.length z22.length (((aBv hz22).2.2).trans ((aBv hz20).2.2)) ?_
        exact fun h=>At.k 3 ⟨_,_,_,h,jr⟩
       ·apply rt;exact At.x 0
    ·exact fun h=>At.k 3 ⟨_,_,_,h,jr⟩
   ·apply rt;exact At.x 0
 ·apply rt;exact At.z 0
def cC (N:Nat) (a3:Int) (a1:Nat) (a4:(List aE)) (a5 a6 a7 a8:Int):Nat→(List Int)→Nat→Int→Int→Option ((List Int)×Nat×Int)
 | 0,_,_,_,_=>none
 | k+1,s2,s3,s4,s5=>
  cond (decide (s5≤a3)) (
   Option.bind (bJ N s2 a1 s3 s4 s5 a4 a5 a6 a7 a8) fun r6=>
   Option.bind (aAW r6 s2.length) fun _=>
   cC N a3 a1 a4 a5 a6 a7 a8 k r6 s3 s5 (I64 (s5+20))) (
   some ((s2,s3,s4)))
def fW (N:Nat) (s11 a3:Int):Nat→Option (Unit)
 | 0=>none
 | k+1=>
  aV (decide ((I64 (2*s11))≤a3)) fun x13=>
  cond x13 (none) (some (()))
def cY (N:Nat) (a3:Int):Nat→Int→Option (Unit)
 | 0,_=>none
 | k+1,s11=>
  cond (decide (s11 < a3)) (
   Option.bind (fW N s11 a3 N ) fun p12=>
   Option.bind (aV (decide ((I64 (0+s11)) < a3)) fun x15=>
   cond x15 (none) (some (()))) fun p14=>
   cY N a3 k (I64 (s11*2))) (
   some (()))
def eN (N:Nat) (b0:(List Int)) (a1 a2:Nat) (a3:Int) (a4:(List aE)) (a5 a6 a7 a8:Int):Option ((List Int)):=
 Option.bind (cC N a3 a1 a4 a5 a6 a7 a8 N b0 a2 0 20) fun p1=>
 Option.bind (bJ N p1.1 a1 p1.2.1 p1.2.2 a3 a4 a5 a6 a7 a8) fun r8=>
 Option.bind (aAW r8 p1.1.length) fun _=>
 Option.bind (cY N a3 N 20) fun p10=>
 some r8
theorem rC {N b0 a1 a2 a3 a4 a5 a6 a7 a8 r} (h:eN N b0 a1 a2 a3 a4 a5 a6 a7 a8=some r):FnM Tryz.prog 249 [.gro 1 (List.map j64 b0),.var (.fn (.func 209) [] [(.im (eL 19 aE.enc a4)),(.ref 2 [] 0),(.im (j64 a5)),(.im (j64 a6)),(.im (j64 a7))]),.var (j64 a8)] [(.gro 0 1 b0.length (.sub a1 a2)),(j64 a3),(.fn (.func 211) [] [(.ref 1 [] 0)])] (.tup []) [.gro 1 (List.map j64 r),.var (.fn (.func 209) [] [(.im (eL 19 aE.enc a4)),(.ref 2 [] 0),(.im (j64 a5)),(.im (j64 a6)),(.im (j64 a7))]),.var (j64 a8)]:=by
 unfold eN at h
 refine At.f dJ hT hmo Tryz.func249 rfl h ?_
 refine At.L 4 [1,2,6] 3 (fun p1=>([(0,(.gro 0 1 p1.1.length (.sub a1 p1.2.1))),(7,(j64 p1.2.2))],[(0,.gro 1 (List.map j64 p1.1))],[])) (fun p1 J k=>∃ s2 s3 s4 s5,cC N a3 a1 a4 a5 a6 a7 a8 k s2 s3 s4 s5=some p1∧J [1,2,6] 3 [(0,(.gro 0 1 s2.length (.sub a1 s3))),(7,(j64 s4)),(8,(j64 s5))] [(0,.gro 1 (List.map j64 s2))] []) N (fun _ h=>⟨_,_,_,_,h,jr⟩) (fun p1 k s hI=>?_) fun p1=>?_
 ·obtain ⟨s2,s3,s4,s5,h,hj⟩:=hI
  cases k with
  | zero=>cases h
  | succ k=>
   refine At.jr hj ?_ h
   refine At.c 3 ?_ ?_
   ·refine bi fun r6 hr6=>?_
    refine bi fun u7 hu7=>?_
    refine At.o 4 (aN [0,1,2] (iZ hr6)) ?_
    refine At.gl 0 [0] [] 0 s2.length r6.length (aBw hu7) ?_
    exact fun h=>At.k 6 ⟨_,_,_,_,h,jr⟩
   ·apply rt;exact At.x 0
 ·refine bi fun r8 hr8=>?_
  refine bi fun u9 hu9=>?_
  refine At.o 4 (aN [0,1,2] (iZ hr8)) ?_
  refine At.gl 0 [0] [] 0 p1.1.length r8.length (aBw hu9) ?_
  refine At.L 0 [] 3 (fun p10=>([],[],[])) (fun p10 J k=>∃ s11,cY N a3 k s11=some p10∧J [0,1,2] 3 [(6,(j64 s11))] [] []) N (fun _ h=>⟨_,h,jr⟩) (fun p10 k s hI=>?_) fun p10=>?_
  ·obtain ⟨s11,h,hj⟩:=hI
   cases k with
   | zero=>cases h
   | succ k=>
    refine At.jr hj ?_ h
    refine At.c 3 ?_ ?_
    ·refine At.L 4 [0,1,2,6,7] 3 (fun p12=>([],[],[])) (fun p12 J k=>fW N s11 a3 k  = some p12∧J [0,1,2,6,7,8] 3 [] [] []) N (fun _ h=>⟨h,jr⟩) (fun p12 k s hI=>?_) fun p12=>?_
     ·obtain ⟨h,hj⟩:=hI
      cases k with
      | zero=>cases h
      | succ k=>
       unfold fW at h
       dsimp only at h
       refine At.jr hj ?_ h
       refine lx ?_;intro x13
       refine At.c 3 ?_ ?_
       ·exact nn
       ·apply rt;exact At.x 0
     ·refine At.J 0 1 [0,1,2,6] 3 (fun p14=>([],[],[])) (fun p14=>?_) fun p14=>?_
      ·refine lx ?_;intro x15
       refine At.c 7 ?_ ?_
       ·exact nn
       ·apply rt;exact At.jn 0
      ·exact fun h=>At.k 3 ⟨_,h,jr⟩
    ·apply rt;exact At.x 0
  ·apply rt;exact At.z 0
def cP (N:Nat) (b0:(List Int)) (a1 a2:Nat) (a3:(List aE)) (a4 a5 a6 a7:Int):Option ((List Int)):=
 Option.bind (eN N b0 a1 a2 ((a2:Int)) a3 a4 a5 a6 a7) fun r1=>
 some r1
theorem pX {N b0 a1 a2 a3 a4 a5 a6 a7 r} (h:cP N b0 a1 a2 a3 a4 a5 a6 a7=some r):FnM Tryz.prog 206 [.gro 1 (List.map j64 b0),.var (.fn (.func 209) [] [(.im (eL 19 aE.enc a3)),(.ref 2 [] 0),(.im (j64 a4)),(.im (j64 a5)),(.im (j64 a6))]),.var (j64 a7)] [(.gro 0 1 b0.length (.sub a1 a2)),(.fn (.func 211) [] [(.ref 1 [] 0)])] (.tup []) [.gro 1 (List.map j64 r),.var (.fn (.func 209) [] [(.im (eL 19 aE.enc a3)),(.ref 2 [] 0),(.im (j64 a4)),(.im (j64 a5)),(.im (j64 a6))]),.var (j64 a7)]:=by
 unfold cP at h
 refine At.f dJ hT hmo Tryz.func206 rfl h ?_
 refine At.b 4 (fun _ e=>aN [0,1,2] (rC e)) fun r1=>?_
 apply rt;exact At.z 0
def bI (N a2:Nat) (b0:(List Int)) (a1:Nat) (a3:(List aE)) (a4 a5 a6 a7:Int):Nat→Int→Option (Sum (Unit) (Int))
 | 0,_=>none
 | k+1,s2=>
  aV (decide (s2 < ((a2:Int)))) fun x3=>
  cond x3 (
   Option.bind (wU b0.length a1 a2 s2) fun _=>
   Option.bind (b0[(xI a1 s2.toNat)]?) fun e5=>
   Option.bind (fT N e5 a3 a4 a5 a6 a7) fun r6=>
   cond r6 (
    some (Sum.inr s2)) (
    bI N a2 b0 a1 a3 a4 a5 a6 a7 k (I64 (s2+1)))) (
   some (Sum.inl (())))
def cV (N:Nat) (b0:(List Int)) (a1 a2:Nat) (a3:(List aE)) (a4 a5 a6 a7:Int):Option (Int):=
 Option.bind (bI N a2 b0 a1 a3 a4 a5 a6 a7 N 0) fun o=>lP o (fun p1=>
  some (-1)) (fun r=>some r)
theorem qI {N b0 a1 a2 a3 a4 a5 a6 a7 r} (h:cV N b0 a1 a2 a3 a4 a5 a6 a7=some r):FnM Tryz.prog 212 [.gro 1 (List.map j64 b0),.var (j64 a7)] [(.gro 0 1 b0.length (.sub a1 a2)),(.fn (.func 209) [] [(.im (eL 19 aE.enc a3)),(.ref 1 [] 0),(.im (j64 a4)),(.im (j64 a5)),(.im (j64 a6))])] (j64 r) [.gro 1 (List.map j64 b0),.var (j64 a7)]:=by
 unfold cV at h
 refine At.f dJ hT hmo Tryz.func212 rfl h ?_
 refine At.LS 4 [] 2 (fun p1=>([],[],[])) (fun op1 J k=>∃ s2,bI N a2 b0 a1 a3 a4 a5 a6 a7 k s2=some op1∧J [0,1,7] 2 [(8,(j64 s2))] [] []) N (fun _ h=>⟨_,h,jr⟩) (fun op1 g1 k s hI=>?_) fun p1=>?_
 ·obtain ⟨s2,h,hj⟩:=hI
  cases k with
  | zero=>cases h
  | succ k=>
   refine At.jr hj ?_ h
   refine lx ?_;intro x3
   refine At.c 1 ?_ ?_
   ·refine At.b 5 (fun _ e=>jJ hT (id:=0) (k:=1) e (by kernel_rfl) (by kernel_rfl)) fun u4=>?_
    refine At.b 0 (fun _ e=>oD hT j64 [] e rfl (by kernel_rfl) (by kernel_rfl)) fun e5=>?_
    refine At.b 0 (fun _ e=>aN [1] (oB e)) fun r6=>?_
    refine At.c 0 ?_ ?_
    ·intro e;apply aCF g1 e;exact At.r 2
    ·exact fun h=>At.k 2 ⟨_,h,jr⟩
   ·apply rt;exact At.xs 0
 ·apply rt;exact At.r 1
def aF2 : Nat→Bool:=imL [3]
def lU (N a3:Nat) (b0:(List Int)) (a2:Nat) (a1:(List aE)):Nat→(List aC)→Int→Option ((List aC))
 | 0,_,_=>none
 | k+1,s3,s4=>
  aV (decide (s4 < ((a3:Int)))) fun x5=>
  cond x5 (
   Option.bind (wU b0.length a2 a3 s4) fun _=>
   Option.bind (b0[(xI a2 s4.toNat)]?) fun e7=>
   Option.bind (idx a1 e7) fun e8=>
   Option.bind (iY N e8) fun r9=>
   Option.bind (zD 24 s3 (([r9]:List aC))) fun z10=>
   lU N a3 b0 a2 a1 k z10 (I64 (s4+1))) (
   some s3)
def oH (N:Nat) (r11:aC×aC):Nat→Int→Int→Option (Int)
 | 0,_,_=>none
 | k+1,s13,s14=>
  cond (decide (s14 < 3)) (
   Option.bind (Option.bind (kW N r11.2 s14) fun r16=>
   Option.bind (kW N r11.1 s14) fun r17=>
   Option.bind (kW N r11.2 s13) fun r18=>
   Option.bind (kW N r11.1 s13) fun r19=>
   aV (decide ((I64 (r16 - r17)) > (I64 (r18 - r19)))) fun x20=>
   cond x20 (some s14) (some s13)) fun p15=>
   oH N r11 k p15 (I64 (s14+1))) (
   some s13)
def rT (N:Nat) (b0:(List Int)) (a1:(List aE)) (a2 a3:Nat) (a4:Int):Option ((List Int)×Int):=
 aV (decide (((a3:Int))≤4)) fun x1=>
 cond x1 (
  some ((b0,0))) (
  Option.bind (lU N a3 b0 a2 a1 N [] 0) fun p2=>
  Option.bind (nA N p2) fun r11=>
  Option.bind (oH N r11 N 0 1) fun p12=>
  Option.bind (kW N r11.1 p12) fun r21=>
  Option.bind (kW N r11.2 p12) fun r22=>
  cond (r21==r22) (
   some ((b0,0))) (
   cond (decide (a4 > 31)) (
    Option.bind (cL N b0 a2 a3 a1 p12) fun r23=>
    Option.bind (aAW r23 b0.length) fun _=>
    aV (I64 (Int.tdiv ((a3:Int)) 2)) fun x25=>
    some ((r23,x25))) (
    Option.bind (qM N b0 a1 a2 a3 p12 r21 r22) fun r26=>
    Option.bind (cP N b0 a2 a3 a1 r21 r22 r26 p12) fun r27=>
    Option.bind (aAW r27 b0.length) fun _=>
    Option.bind (cV N r27 a2 a3 a1 r21 r22 r26 p12) fun r29=>
    some ((r27,r29)))))
theorem aEx {N b0 a1 a2 a3 a4 r} (h:rT N b0 a1 a2 a3 a4=some r):FnM Tryz.prog 144 [.gro 1 (List.map j64 b0)] [(eL 19 aE.enc a1),(.gro 0 1 b0.length (.sub a2 a3)),(j64 a4)] (j64 r.2) [.gro 1 (List.map j64 r.1)]:=by
 unfold rT at h
 refine At.f aF2 hT hmo Tryz.func144 rfl h ?_
 refine lx ?_;intro x1
 refine At.c 5 ?_ ?_
 ·apply rt;exact At.r 1
 ·refine At.ownn 4 7 3 ?_
  refine At.L 0 [1,2,3] 2 (fun p2=>([(7,(eO 1 3 aC.enc p2))],[(1,.tail (p2.length*3))],[])) (fun p2 J k=>∃ s3 s4,lU N a3 b0 a2 a1 k s3 s4=some p2∧J [1,2,3,21,22] 2 [(7,(eO 1 3 aC.enc s3)),(23,(j64 s4))] [(1,.tail (s3.length*3))] []) N (fun _ h=>⟨_,_,h,jr⟩) (fun p2 k s hI=>?_) fun p2=>?_
  ·obtain ⟨s3,s4,h,hj⟩:=hI
   cases k with
   | zero=>cases h
   | succ k=>
    refine At.jr hj ?_ h
    refine lx ?_;intro x5
    refine At.c 1 ?_ ?_
    ·refine At.b 0 (fun _ e=>jJ hT (id:=0) (k:=1) e (by kernel_rfl) (by kernel_rfl)) fun u6=>?_
     refine At.b 0 (fun _ e=>oD hT j64 [] e rfl (by kernel_rfl) (by kernel_rfl)) fun e7=>?_
     refine At.b 4 (fun _ e=>cH hT aE.enc e) fun e8=>?_
     refine At.b 1 (fun _ e=>aN [] (tN e)) fun r9=>?_
     refine At.o 0 (cT hT (x:=(.sl 3 1 [(aC.enc r9)]))) ?_
     refine At.b 0 (fun _ e=>sJ hT aC.enc (id:=1) (k:=3) e) fun z10=>?_
     exact fun h=>At.k 3 ⟨_,_,h,jr⟩
    ·apply rt;exact At.x 0
  ·refine At.b 1 (fun _ e=>aN [] (rI e)) fun r11=>?_
   refine At.L 10 [1,2,3,10,11,12] 5 (fun p12=>([],[(4,.var (j64 p12))],[])) (fun p12 J k=>∃ s13 s14,oH N r11 k s13 s14=some p12∧J [1,2,3,10,11,12] 5 [(13,(j64 s14))] [(4,.var (j64 s13))] []) N (fun _ h=>⟨_,_,h,jr⟩) (fun p12 k s hI=>?_) fun p12=>?_
   ·obtain ⟨s13,s14,h,hj⟩:=hI
    cases k with
    | zero=>cases h
    | succ k=>
     refine At.jr hj ?_ h
     refine At.c 2 ?_ ?_
     ·refine At.J 0 2 [1,2,3,10,11,12,13] 5 (fun p15=>([],[(4,.var (j64 p15))],[])) (fun p15=>?_) fun p15=>?_
      ·refine bi fun r16 hr16=>?_
       refine bi fun r17 hr17=>?_
       refine bi fun r18 hr18=>?_
       refine bi fun r19 hr19=>?_
       refine lx ?_;intro x20
       refine At.d 0 (dE2 2 (j64 r16) (fun _=>aO (mR hr16)) (dE2 5 (j64 r17) (fun _=>aO (mR hr17)) (dE2 9 (j64 r18) (fun _=>aO (mR hr18)) (dE2 12 (j64 r19) (fun _=>aO (mR hr19)) dE0)))) dF0 ?_
       refine At.c 0 ?_ ?_
       ·apply rt;exact At.jn 2
       ·apply rt;exact At.jn 0
      ·exact fun h=>At.k 3 ⟨_,_,h,jr⟩
     ·apply rt;exact At.x 0
   ·refine bi fun r21 hr21=>?_
    refine bi fun r22 hr22=>?_
    refine At.d2 0 [false,false] (dC2 2 (j64 r21) (fun _=>aO (mR hr21)) (dC2 5 (j64 r22) (fun _=>aO (mR hr22)) dC0)) (dS1 6 ⟨(.ref 5 [] 0),5,.var (j64 0),.dead⟩ [[.gro 1 (List.map j64 b0),.tail (p2.length*3),.var (aC.enc r11.1),.var (aC.enc r11.2),.var (j64 p12),.dead,.dead],[.gro 1 (List.map j64 b0),.tail (p2.length*3),.var (aC.enc r11.1),.var (aC.enc r11.2),.var (j64 p12),.dead,.var (j64 0)]] ⟨aX hT 5 (by kernel_rfl) (by kernel_rfl) (by kernel_rfl),aX hT 5 (by kernel_rfl) (by kernel_rfl) (by kernel_rfl),trivial⟩ (dS1 7 ⟨(.ref 6 [] 0),6,.var (j64 0),.dead⟩ [[.gro 1 (List.map j64 b0),.tail (p2.length*3),.var (aC.enc r11.1),.var (aC.enc r11.2),.var (j64 p12),.dead,.dead],[.gro 1 (List.map j64 b0),.tail (p2.length*3),.var (aC.enc r11.1),.var (aC.enc r11.2),.var (j64 p12),.var (j64 0),.dead]] ⟨aX hT 6 (by kernel_rfl) (by kernel_rfl) (by kernel_rfl),aX hT 6 (by kernel_rfl) (by kernel_rfl) (by kernel_rfl),trivial⟩ dS0)) ?_
    refine At.c 3 ?_ ?_
    ·apply rt;exact At.r 1
    ·refine At.c 2 ?_ ?_
     ·refine At.o 1 (qJ (x:=(.fn (.func 207) [] [(.im (eL 19 aE.enc a1)),(.ref 4 [] 0)])) (by kernel_rfl) (by kernel_rfl)) ?_
      refine bi fun r23 hr23=>?_
      refine bi fun u24 hu24=>?_
      refine At.o 0 (aN [0,4] (pA hr23)) ?_
      refine At.gl 0 [1] [] 0 b0.length r23.length (aBw hu24) ?_
      refine lx ?_;intro x25
      apply rt;exact At.r 4
     ·refine At.b 5 (fun _ e=>aN [0] (aDx e)) fun r26=>?_
      refine At.gz 2 5 ((j64 r21)) ?_
      refine At.gz 0 6 ((j64 r22)) ?_
      refine At.gz 0 7 ((j64 r26)) ?_
      refine At.o 0 (qJ (x:=(.fn (.func 209) [] [(.im (eL 19 aE.enc a1)),(.ref 4 [] 0),(.im (j64 r21)),(.im (j64 r22)),(.im (j64 r26))])) (by kernel_rfl) (by kernel_rfl)) ?_
      refine At.o 3 (qJ (x:=(.fn (.func 211) [] [(.ref 8 [] 0)])) (by kernel_rfl) (by kernel_rfl)) ?_
      refine bi fun r27 hr27=>?_
      refine bi fun u28 hu28=>?_
      refine At.o 0 (aN [0,8,4] (pX hr27)) ?_
      refine At.gl 0 [1] [] 0 b0.length r27.length (aBw hu28) ?_
      refine At.b 2 (fun _ e=>aN [0,4] (qI e)) fun r29=>?_
      apply rt;exact At.r 1
def pH (N:Nat) (a0:(List aE)):Nat→Int→Option (Sum (Unit) (aY×Int))
 | 0,_=>none
 | k+1,s3=>
  aV (decide (s3 < ((a0.length:Int)))) fun x4=>
  cond x4 (
   Option.bind (idx a0 s3) fun e5=>
   Option.bind (aN9 3 0 3) fun _=>
   Option.bind (wN N e5) fun r7=>
   Option.bind (aV (decide ((kE (kE r7.1.gX r7.1.gY) r7.1.gZ) < (-1048576))) fun x9=>
   cond x9 (
    some true) (
    aV (decide ((jH (jH r7.2.gX r7.2.gY) r7.2.gZ) > 1048576)) fun x10=>
    some x10)) fun p8=>
   cond p8 (
    some (Sum.inr ((aY.mk [] [],8)))) (
    pH N a0 k (I64 (s3+1)))) (
   some (Sum.inl (())))
def pJ (N:Nat) (a0:(List aE)):Nat→(List Int)→Int→Option ((List Int))
 | 0,_,_=>none
 | k+1,s13,s14=>
  aV (decide (s14 < ((a0.length:Int)))) fun x15=>
  cond x15 (
   Option.bind (zD 8 s13 (([s14]:List Int))) fun z16=>
   pJ N a0 k z16 (I64 (s14+1))) (
   some s13)
def pV (N:Nat) (a0:(List aE)):Nat→(List Int)→(List bC)→(List bA)→Nat→Option ((List Int)×(List bC)×(List bA))
 | 0,_,_,_,_=>none
 | k+1,s18,s19,s20,s21=>
  aV (decide (((s21:Int)) > 0)) fun x22=>
  cond x22 (
   aV (I64 (((s21:Int)) - 1)) fun x23=>
   Option.bind (wU s20.length 0 s21 x23) fun _=>
   Option.bind (s20[x23.toNat]?) fun e25=>
   aV (I64 (((s21:Int)) - 1)) fun x26=>
   Option.bind (aIE s20.length 0 s21 0 x26) fun _=>
   aV (I64 (e25.gB+e25.gA0)) fun x28=>
   Option.bind (aIE s18.length 0 s18.length e25.gB x28) fun _=>
   Option.bind (vB N s18 a0 e25.gB.toNat (x28.toNat - e25.gB.toNat)) fun r30=>
   Option.bind (Option.bind (rT N s18 a0 e25.gB.toNat (x28.toNat - e25.gB.toNat) e25.gD9) fun r32=>
   Option.bind (aAW r32.1 s18.length) fun _=>
   cond (decide (r32.2 > 0)) (
    aV (I64 (((s19.length:Int))+1)) fun x34=>
    Option.bind (zD 80 s19 (([bC.mk (aC.mk 0 0 0) (aC.mk 0 0 0) 0 0 0 0,bC.mk (aC.mk 0 0 0) (aC.mk 0 0 0) 0 0 0 0]:List bC))) fun z35=>
    aV (I64 (((s19.length:Int))+1)) fun x36=>
    aV (I64 (e25.gB+r32.2)) fun x37=>
    aV (I64 (e25.gA0 - r32.2)) fun x38=>
    Option.bind (aJS 32 s20 x26.toNat (([bA.mk x36 x37 x38 (I64 (e25.gD9+1)),bA.mk ((s19.length:Int)) e25.gB r32.2 (I64 (e25.gD9+1))]:List bA))) fun z39=>
    some ((r32.1,z35,z39,bC.mk r30.1 r30.2 ((s19.length:Int)) ((I64 (((s19.length:Int))+1))) 0 0,x26.toNat+2))) (
    some ((r32.1,s19,s20,bC.mk r30.1 r30.2 (-1) (-1) e25.gB e25.gA0,x26.toNat)))) fun p31=>
   Option.bind (fD e25.gA1 p31.2.1.length) fun _=>
   Option.bind (aF1 p31.2.1 e25.gA1.toNat p31.2.2.2.1) fun z41=>
   pV N a0 k p31.1 z41 p31.2.2.1 p31.2.2.2.2) (
   some ((s18,s19,s20)))
def wS (N:Nat) (a0:(List aE)):Option (aY×Int):=
 aV (decide (((a0.length:Int)) > 4096)) fun x1=>
 cond x1 (
  some ((aY.mk [] [],3))) (
  Option.bind (pH N a0 N 0) fun o=>lP o (fun p2=>
   aV (((a0.length:Int))==0) fun x11=>
   cond x11 (
    some ((aY.mk [] [],0))) (
    Option.bind (pJ N a0 N [] 0) fun p12=>
    Option.bind (pV N a0 N p12 (([bC.mk (aC.mk 0 0 0) (aC.mk 0 0 0) 0 0 0 0]:List bC)) (([bA.mk 0 0 ((a0.length:Int)) 1]:List bA)) ((([bA.mk 0 0 ((a0.length:Int)) 1]:List bA)).length)) fun p17=>
    some ((aY.mk p17.2.1 p17.1,0)))) (fun r=>some r))
theorem aH4 {N a0 r} (h:wS N a0=some r):FnM Tryz.prog 74 [] [(eL 19 aE.enc a0)] (.tup [(aY.enc r.1),(j64 r.2)]) []:=by
 unfold wS at h
 refine At.f dJ hT hmo Tryz.func74 rfl h ?_
 refine lx ?_;intro x1
 refine At.c 5 ?_ ?_
 ·apply rt;exact At.r 3
 ·refine At.LS 3 [0,2] 1 (fun p2=>([],[],[])) (fun op2 J k=>∃ s3,pH N a0 k s3=some op2∧J [0,2,22,23] 1 [(24,(j64 s3))] [] []) N (fun _ h=>⟨_,h,jr⟩) (fun op2 g2 k s hI=>?_) fun p2=>?_
  ·obtain ⟨s3,h,hj⟩:=hI
   cases k with
   | zero=>cases h
   | succ k=>
    refine At.jr hj ?_ h
    refine lx ?_;intro x4
    refine At.c 1 ?_ ?_
    ·refine At.b 0 (fun _ e=>cH hT aE.enc e) fun e5=>?_
     refine At.b 4 (fun _ e=>aLq hT (k:=3) 1 [0] 0 e (by kernel_rfl) (by kernel_rfl) (by decide)) fun s6=>?_
     refine At.b 0 (fun _ e=>aN [1] (aIH e)) fun r7=>?_
     refine At.J 7 0 [0,2,22,23,24] 4 (fun p8=>([(51,(eB p8))],[],[])) (fun p8=>?_) fun p8=>?_
     ·refine At.o 6 (yG (k := .i64) (i:=r7.1.gX) (j:=r7.1.gY) (l:=r7.1.gZ) (by kernel_rfl) (by kernel_rfl)) ?_
      refine lx ?_;intro x9
      refine At.s 42 2 ?_ ?_
      ·refine At.g [42] 9 ?_
       apply rt;exact At.jn 0
      ·refine At.g [42] 6 ?_
       refine At.o 0 (yL (k := .i64) (i:=r7.2.gX) (j:=r7.2.gY) (l:=r7.2.gZ) (by kernel_rfl) (by kernel_rfl)) ?_
       refine lx ?_;intro x10
       refine At.g [42] 2 ?_
       apply rt;exact At.jn 0
     ·refine At.c 0 ?_ ?_
      ·intro e;apply aCF g2 e;exact At.r 3
      ·exact fun h=>At.k 2 ⟨_,h,jr⟩
    ·apply rt;exact At.xs 0
  ·refine lx ?_;intro x11
   refine At.c 4 ?_ ?_
   ·apply rt;exact At.r 3
   ·refine At.grob 3 1 1 [1] ?_
    refine At.L 0 [0,2,8] 3 (fun p12=>([],[(1,.var (.st 2 [(.v (.slice none 0 0)),(.gro 2 1 p12.length .all)])),(2,.gro 1 (List.map j64 p12))],[])) (fun p12 J k=>∃ s13 s14,pJ N a0 k s13 s14=some p12∧J [0,2,8,59] 3 [(60,(j64 s14))] [(1,.var (.st 2 [(.v (.slice none 0 0)),(.gro 2 1 s13.length .all)])),(2,.gro 1 (List.map j64 s13))] []) N (fun _ h=>⟨_,_,h,jr⟩) (fun p12 k s hI=>?_) fun p12=>?_
    ·obtain ⟨s13,s14,h,hj⟩:=hI
     cases k with
     | zero=>cases h
     | succ k=>
      refine At.jr hj ?_ h
      refine lx ?_;intro x15
      refine At.c 1 ?_ ?_
      ·refine At.o 5 (cT hT (x:=(.sl 1 1 [(j64 s14)]))) ?_
       refine At.b 0 (fun z16 e=>aHT hT j64 (id:=2) (k:=1) e (by kernel_rfl) (by kernel_rfl) (H':=[.var (.st 2 [(.v (.slice none 0 0)),(.v (.slice none 0 0))]),.var (.st 2 [(.v (.slice none 0 0)),(.gro 2 1 s13.length .all)]),.gro 1 (List.map j64 z16)]) (by kernel_rfl)) fun z16=>?_
       exact fun h=>At.k 4 ⟨_,_,h,jr⟩
      ·apply rt;exact At.x 0
    ·refine At.o 1 (aCw hT bC.enc (k:=10) ([bC.mk (aC.mk 0 0 0) (aC.mk 0 0 0) 0 0 0 0]:List bC) (by kernel_rfl) (by kernel_rfl)) ?_
     refine At.o 5 (aCw hT bA.enc (k:=4) ([bA.mk 0 0 ((a0.length:Int)) 1]:List bA) (by kernel_rfl) (by kernel_rfl)) ?_
     refine At.gsub 1 10 ?_
     refine At.L 0 [2,8] 5 (fun p17=>([],[(1,.var (.st 2 [(.gro 3 10 p17.2.1.length .all),(.gro 2 1 p17.1.length .all)])),(2,.gro 1 (List.map j64 p17.1)),(3,.gro 10 (List.map bC.enc p17.2.1)),(4,.gro 4 (List.map bA.enc p17.2.2))],[])) (fun p17 J k=>∃ s18 s19 s20 s21,pV N a0 k s18 s19 s20 s21=some p17∧J [0,2,8] 5 [(10,(.gro 4 4 s20.length (.sub 0 s21)))] [(1,.var (.st 2 [(.gro 3 10 s19.length .all),(.gro 2 1 s18.length .all)])),(2,.gro 1 (List.map j64 s18)),(3,.gro 10 (List.map bC.enc s19)),(4,.gro 4 (List.map bA.enc s20))] []) N (fun _ h=>⟨_,_,_,_,h,jr⟩) (fun p17 k s hI=>?_) fun p17=>?_
     ·obtain ⟨s18,s19,s20,s21,h,hj⟩:=hI
      cases k with
      | zero=>cases h
      | succ k=>
       refine At.jr hj ?_ h
       refine lx ?_;intro x22
       refine At.c 3 ?_ ?_
       ·refine lx ?_;intro x23
        refine At.b 4 (fun _ e=>jJ hT (id:=4) (k:=4) e (by kernel_rfl) (by kernel_rfl)) fun u24=>?_
        refine At.b 0 (fun _ e=>oD hT bA.enc [] e rfl (by kernel_rfl) (by kernel_rfl)) fun e25=>?_
        refine lx ?_;intro x26
        refine At.b 6 (fun _ e=>aFA hT (id:=4) (k:=4) (L:=s20.length) (lo0:=0) (m:=s21) e (by kernel_rfl) (by kernel_rfl)) fun s27=>?_
        refine lx ?_;intro x28
        refine At.b 10 (fun _ e=>aFA hT (id:=2) (k:=1) (L:=s18.length) (lo0:=0) (m:=s18.length) e (by kernel_rfl) (by kernel_rfl)) fun s29=>?_
        refine At.b 3 (fun _ e=>aN [2] (aGk e)) fun r30=>?_
        refine At.J 16 1 [0,2,8,11,15] 9 (fun p31=>([(10,(.gro 4 4 p31.2.2.1.length (.sub 0 p31.2.2.2.2)))],[(1,.var (.st 2 [(.gro 3 10 p31.2.1.length .all),(.gro 2 1 p31.1.length .all)])),(2,.gro 1 (List.map j64 p31.1)),(3,.gro 10 (List.map bC.enc p31.2.1)),(4,.gro 4 (List.map bA.enc p31.2.2.1)),(8,.var (bC.enc p31.2.2.2.1))],[])) (fun p31=>?_) fun p31=>?_
        ·refine bi fun r32 hr32=>?_
         refine bi fun u33 hu33=>?_
         refine At.o 4 (aN [2] (aEx hr32)) ?_
         refine At.gl 0 [] [1] 2 s18.length r32.1.length (aBw hu33) ?_
         refine At.c 3 ?_ ?_
         ·refine lx ?_;intro x34
          refine At.o 15 (cT hT (x:=(.sl 10 2 [(.st 10 [(.st 3 [(j64 0),(j64 0),(j64 0)]),(.st 3 [(j64 0),(j64 0),(j64 0)]),(j64 0),(j64 0),(j64 0),(j64 0)]),(.st 10 [(.st 3 [(j64 0),(j64 0),(j64 0)]),(.st 3 [(j64 0),(j64 0),(j64 0)]),(j64 0),(j64 0),(j64 0),(j64 0)])]))) ?_
          refine At.b 0 (fun z35 e=>aHT hT bC.enc (id:=3) (k:=10) e (by kernel_rfl) (by kernel_rfl) (H':=[.var (.st 2 [(.v (.slice none 0 0)),(.v (.slice none 0 0))]),.var (.st 2 [(.gro 3 10 s19.length .all),(.gro 2 1 r32.1.length .all)]),.gro 1 (List.map j64 r32.1),.gro 10 (List.map bC.enc z35),.gro 4 (List.map bA.enc s20),.var (bA.enc e25),.var (aC.enc r30.1),.var (aC.enc r30.2),.var (.st 10 [(aC.enc r30.1),(aC.enc r30.2),(j64 ((s19.length:Int))),(j64 ((I64 (((s19.length:Int))+1)))),(j64 0),(j64 0)])]) (by kernel_rfl)) fun z35=>?_
          refine lx ?_;intro x36
          refine lx ?_;intro x37
          refine lx ?_;intro x38
          refine At.o 25 (cT hT (x:=(.sl 4 2 [(.st 4 [(j64 x36),(j64 x37),(j64 x38),(j64 (I64 (e25.gD9+1)))]),(.st 4 [(j64 ((s19.length:Int))),(j64 e25.gB),(j64 r32.2),(j64 (I64 (e25.gD9+1)))])]))) ?_
          refine At.b 0 (fun z39 e=>aED hT bA.enc (id:=4) (k:=4) e (by kernel_rfl) (by kernel_rfl) (H':=[.var (.st 2 [(.v (.slice none 0 0)),(.v (.slice none 0 0))]),.var (.st 2 [(.gro 3 10 z35.length .all),(.gro 2 1 r32.1.length .all)]),.gro 1 (List.map j64 r32.1),.gro 10 (List.map bC.enc z35),.gro 4 (List.map bA.enc z39),.var (bA.enc e25),.var (aC.enc r30.1),.var (aC.enc r30.2),.var (.st 10 [(aC.enc r30.1),(aC.enc r30.2),(j64 ((s19.length:Int))),(j64 ((I64 (((s19.length:Int))+1)))),(j64 0),(j64 0)])]) (by kernel_rfl)) fun z39=>?_
          apply rt;exact At.jn 1
         ·apply rt;exact At.jn 0
        ·refine At.b 5 (fun _ e=>aPi hT (id:=3) (k:=10) e (by kernel_rfl) (by kernel_rfl)) fun u40=>?_
         refine bi fun z41 hz41=>?_
         refine At.o 0 (aBr hT bC.enc (k:=10) p31.2.2.2.1 hz41 rfl (by kernel_rfl) (fun _=>by kernel_rfl) (by kernel_rfl) (H':=[.var (.st 2 [(.v (.slice none 0 0)),(.v (.slice none 0 0))]),.var (.st 2 [(.gro 3 10 p31.2.1.length .all),(.gro 2 1 p31.1.length .all)]),.gro 1 (List.map j64 p31.1),.gro 10 (List.map bC.enc z41),.gro 4 (List.map bA.enc p31.2.2.1),.var (bA.enc e25),.var (aC.enc r30.1),.var (aC.enc r30.2),.var (bC.enc p31.2.2.2.1)]) (by kernel_rfl)) ?_
         refine At.gl 0 [167] [1] 3 p31.2.1.length z41.length ((aBv hz41).2.2) ?_
         exact fun h=>At.k 0 ⟨_,_,_,_,h,jr⟩
       ·apply rt;exact At.x 0
     ·refine At.fz 3 2 1 p17.1.length _ (List.map j64 p17.1) (List.length_map _) (List.length_map _) ?_
      refine At.fz 0 3 10 p17.2.1.length _ (List.map bC.enc p17.2.1) (List.length_map _) (List.length_map _) ?_
      apply rt;exact At.r 0
def iK (N:Nat) (a0:(List aE)):Option ((List aE)):=
 Option.bind (zD 152 (([]:List aE)) a0) fun z1=>
 some z1
theorem vI {N a0 r} (h:iK N a0=some r):FnM Tryz.prog 75 [] [(eL 19 aE.enc a0)] (eL 19 aE.enc r) []:=by
 unfold iK at h
 refine At.f dJ hT hmo Tryz.func75 rfl h ?_
 refine At.q hT 2 (d:=4) (t:=22) (e:=61) (z:=19) (x:=(eL 19 aE.enc a0)) (es:=List.map aE.enc a0) rfl ?_ (fun he=>?_)
 ·refine At.o 1 (yO hT aE.enc (k:=19) ([]:List aE) (by kernel_rfl) (by kernel_rfl)) ?_
  refine At.b 1 (fun _ e=>sJ hT aE.enc (id:=0) (k:=19) e) fun z1=>?_
  apply rt;exact At.r 1
 ·have h0:a0=[]:=List.map_eq_nil_iff.1 he
  subst h0
  change some []=_→_
  apply rt;exact At.r 2
def uA (N:Nat) (a0:(List aE)):Option (Sum (Int) (aY×aM×Int)):=
 Option.bind (wS N a0) fun r1=>
 cond (r1.2 != 0) (
  some (Sum.inl r1.2)) (
  Option.bind (iK N a0) fun r2=>
  some (Sum.inr ((r1.1,aM.mk r1.1 true r2 0,0))))
theorem aEb {N a0 r} (h:uA N a0=some r):FnM Tryz.prog 29 [] [(eL 19 aE.enc a0)] (aE5 r (fun r=>(.tup [(.v (.pointer none)),(j64 r)])) (fun r=>(.tup [(.ref 1 [] 0),(j64 r.2.2)]))) (aE5 r (fun r=>[]) (fun r=>[.var (aY.enc r.1),.var (aM.enc r.2.1)])):=by
 unfold uA at h
 refine At.f dJ hT hmo Tryz.func29 rfl h ?_
 refine At.b 3 (fun _ e=>aN [] (aH4 e)) fun r1=>?_
 refine At.c 8 ?_ ?_
 ·apply rt;exact At.r 3
 ·refine bi fun r2 hr2=>?_
  refine At.d 0 (dE2 2 (eL 19 aE.enc r2) (fun _=>aO (vI hr2)) dE0) dF0 ?_
  apply rt;exact At.r 0
theorem aGq {N a0 r} (h:uA N a0=some (Sum.inl r)):FnM Tryz.prog 29 [] [(eL 19 aE.enc a0)] (.tup [(.v (.pointer none)),(j64 r)]) []:=aEb h
theorem aG1 {N a0 r} (h:uA N a0=some (Sum.inr r)):FnM Tryz.prog 29 [] [(eL 19 aE.enc a0)] (.tup [(.ref 1 [] 0),(j64 r.2.2)]) [.var (aY.enc r.1),.var (aM.enc r.2.1)]:=aEb h
def aJH : Nat→Bool:=imL [2,3]
def lJ (N:Nat) (x8:Int) (a0:aG):Nat→(List (List aD))→Int→Option ((List (List aD)))
 | 0,_,_=>none
 | k+1,s10,s11=>
  cond (decide (s11 < x8)) (
   Option.bind (idx a0.gA2 s11) fun e12=>
   Option.bind (pI N e12) fun r13=>
   Option.bind (zD 24 s10 (([r13.1]:List (List aD)))) fun z14=>
   lJ N x8 a0 k z14 (I64 (s11+1))) (
   some s10)
def lH (N:Nat) (a0:aG) (a1:aI):Option (Sum (Int) (Sum ((List aE)×(List aU)×(List aS)×(List (List aD))×aB×Int) (Sum ((List aE)×(List aU)×(List aS)×(List (List aD))×aB×(List aE)×Int) (Sum ((List aE)×(List aU)×(List aS)×(List (List aD))×aB×Int) ((List aE)×(List aU)×(List aS)×(List (List aD))×aB×aY×aM×Int))))):=
 Option.bind (mU N a0) fun r1=>
 cond (r1 != 0) (
  some (Sum.inl r1)) (
  Option.bind (rW N a1) fun r2=>
  cond (r2 != 0) (
   some (Sum.inl r2)) (
   Option.bind (pW N a0 a1.gS) fun r3=>
   cond (r3 != 0) (
    some (Sum.inl r3)) (
    Option.bind (vN N a0.gJ) fun r4=>
    Option.bind (zD 152 (([]:List aE)) a0.gG) fun z5=>
    Option.bind (zD 40 (([]:List aU)) a0.gB1) fun z6=>
    Option.bind (zD 104 (([]:List aS)) a0.gJ) fun z7=>
    aV ((a0.gA2.length:Int)) fun x8=>
    Option.bind (lJ N x8 a0 N [] 0) fun p9=>
    cond a1.gA4 (
     Option.bind (iW N a1.gS) fun r15=>
     Option.bind (rQ N a0.gG r15.1) fun q=>
     lP q (fun r17=>
      some (Sum.inr (Sum.inl ((z5,z6,z7,p9,r4,r17))))) (fun r18=>
      some (Sum.inr (Sum.inr (Sum.inl ((z5,z6,z7,p9,r4,r18.1,r18.2))))))) (
     Option.bind (uA N a0.gG) fun q=>
     lP q (fun r20=>
      some (Sum.inr (Sum.inr (Sum.inr (Sum.inl ((z5,z6,z7,p9,r4,r20))))))) (fun r21=>
      some (Sum.inr (Sum.inr (Sum.inr (Sum.inr ((z5,z6,z7,p9,r4,r21.1,r21.2.1,r21.2.2)))))))))))
theorem aAu {N a0 a1 r} (h:lH N a0 a1=some r):FnM Tryz.prog 11 [] [(aG.enc a0),(aI.enc a1)] (aE5 r (fun r=>(.tup [(.v (.pointer none)),(j64 r)])) (fun r=>aE5 r (fun r=>(.tup [(.ref 0 [] 0),(j64 r.2.2.2.2.2)])) (fun r=>aE5 r (fun r=>(.tup [(.ref 0 [] 0),(j64 r.2.2.2.2.2.2)])) (fun r=>aE5 r (fun r=>(.tup [(.ref 0 [] 0),(j64 r.2.2.2.2.2)])) (fun r=>(.tup [(.ref 0 [] 0),(j64 r.2.2.2.2.2.2.2)])))))) (aE5 r (fun r=>[]) (fun r=>aE5 r (fun r=>[.var (.st 38 [(.st 9 [(eL 19 aE.enc r.1),(eL 5 aU.enc r.2.1),(eL 2 aD.enc a0.gA2),(eL 13 aS.enc r.2.2.1),(eL 1 k64 a0.gB6),(eL 1 k32 a0.gB7),(k32 a0.gC3),(k32 a0.gC4),(k32 a0.gTo)]),(aI.enc a1),(.ifc 88 (.v (.pointer none))),(eL 1 (eL 2 aD.enc) r.2.2.2.1),(aB.enc r.2.2.2.2.1),(.st 3 [(j64 0),(j64 0),(j64 0)])])]) (fun r=>aE5 r (fun r=>[.var (.st 38 [(.st 9 [(eO 1 19 aE.enc r.1),(eO 2 5 aU.enc r.2.1),(eL 2 aD.enc a0.gA2),(eO 3 13 aS.enc r.2.2.1),(eL 1 k64 a0.gB6),(eL 1 k32 a0.gB7),(k32 a0.gC3),(k32 a0.gC4),(k32 a0.gTo)]),(aI.enc a1),(.ifc 88 (.ref 6 [] 0)),(eO 4 1 (eL 2 aD.enc) r.2.2.2.1),(aB.enc r.2.2.2.2.1),(.st 3 [(j64 0),(j64 0),(j64 0)])]),.tail (r.1.length*19),.tail (r.2.1.length*5),.tail (r.2.2.1.length*13),.tail (r.2.2.2.1.length*1),.dead,.var (.st 3 [(.st 1 [(j64 0)]),(eB true),(eL 19 aE.enc r.2.2.2.2.2.1)])]) (fun r=>aE5 r (fun r=>[.var (.st 38 [(.st 9 [(eL 19 aE.enc r.1),(eL 5 aU.enc r.2.1),(eL 2 aD.enc a0.gA2),(eL 13 aS.enc r.2.2.1),(eL 1 k64 a0.gB6),(eL 1 k32 a0.gB7),(k32 a0.gC3),(k32 a0.gC4),(k32 a0.gTo)]),(aI.enc a1),(.ifc 91 (.v (.pointer none))),(eL 1 (eL 2 aD.enc) r.2.2.2.1),(aB.enc r.2.2.2.2.1),(.st 3 [(j64 0),(j64 0),(j64 0)])])]) (fun r=>[.var (.st 38 [(.st 9 [(eO 1 19 aE.enc r.1),(eO 2 5 aU.enc r.2.1),(eL 2 aD.enc a0.gA2),(eO 3 13 aS.enc r.2.2.1),(eL 1 k64 a0.gB6),(eL 1 k32 a0.gB7),(k32 a0.gC3),(k32 a0.gC4),(k32 a0.gTo)]),(aI.enc a1),(.ifc 91 (.ref 6 [] 0)),(eO 4 1 (eL 2 aD.enc) r.2.2.2.1),(aB.enc r.2.2.2.2.1),(.st 3 [(j64 0),(j64 0),(j64 0)])]),.tail (r.1.length*19),.tail (r.2.1.length*5),.tail (r.2.2.1.length*13),.tail (r.2.2.2.1.length*1),.var (aY.enc r.2.2.2.2.2.1),.var (aM.enc r.2.2.2.2.2.2.1)]))))):=by
 unfold lH at h
 refine At.f aJH hT hmo Tryz.func11 rfl h ?_
 refine At.b 5 (fun _ e=>aN [] (aGT e)) fun r1=>?_
 refine At.c 3 ?_ ?_
 ·apply rt;exact At.r 3
 ·refine At.b 1 (fun _ e=>aN [] (aIf e)) fun r2=>?_
  refine At.c 3 ?_ ?_
  ·apply rt;exact At.r 3
  ·refine At.b 3 (fun _ e=>aN [] (aE7 e)) fun r3=>?_
   refine At.c 3 ?_ ?_
   ·apply rt;exact At.r 3
   ·refine bi fun r4 hr4=>?_
    refine At.d 0 (dE2 4 (aB.enc r4) (fun _=>aO (aJF hr4)) dE0) dF0 ?_
    refine At.o 1 (yO hT aE.enc (k:=19) ([]:List aE) (by kernel_rfl) (by kernel_rfl)) ?_
    refine At.b 2 (fun _ e=>sJ hT aE.enc (id:=1) (k:=19) e) fun z5=>?_
    refine At.o 5 (yO hT aU.enc (k:=5) ([]:List aU) (by kernel_rfl) (by kernel_rfl)) ?_
    refine At.b 2 (fun _ e=>sJ hT aU.enc (id:=2) (k:=5) e) fun z6=>?_
    refine At.o 5 (yO hT aS.enc (k:=13) ([]:List aS) (by kernel_rfl) (by kernel_rfl)) ?_
    refine At.b 2 (fun _ e=>sJ hT aS.enc (id:=3) (k:=13) e) fun z7=>?_
    refine lx ?_;intro x8
    refine At.ownb 8 0 1 [3] ?_
    refine At.L 0 [2,3,9] 5 (fun p9=>([],[(0,.var (.st 38 [(.st 9 [(eO 1 19 aE.enc z5),(eO 2 5 aU.enc z6),(eL 2 aD.enc a0.gA2),(eO 3 13 aS.enc z7),(eL 1 k64 a0.gB6),(eL 1 k32 a0.gB7),(k32 a0.gC3),(k32 a0.gC4),(k32 a0.gTo)]),(aI.enc a1),(.v .nilIface),(eO 4 1 (eL 2 aD.enc) p9),(aB.enc r4),(.st 3 [(j64 0),(j64 0),(j64 0)])])),(4,.tail (p9.length*1))],[])) (fun p9 J k=>∃ s10 s11,lJ N x8 a0 k s10 s11=some p9∧J [2,3,9,69,70] 5 [(71,(j64 s11))] [(0,.var (.st 38 [(.st 9 [(eO 1 19 aE.enc z5),(eO 2 5 aU.enc z6),(eL 2 aD.enc a0.gA2),(eO 3 13 aS.enc z7),(eL 1 k64 a0.gB6),(eL 1 k32 a0.gB7),(k32 a0.gC3),(k32 a0.gC4),(k32 a0.gTo)]),(aI.enc a1),(.v .nilIface),(eO 4 1 (eL 2 aD.enc) s10),(aB.enc r4),(.st 3 [(j64 0),(j64 0),(j64 0)])])),(4,.tail (s10.length*1))] []) N (fun _ h=>⟨_,_,h,jr⟩) (fun p9 k s hI=>?_) fun p9=>?_
    ·obtain ⟨s10,s11,h,hj⟩:=hI
     cases k with
     | zero=>cases h
     | succ k=>
      refine At.jr hj ?_ h
      refine At.c 1 ?_ ?_
      ·refine At.b 0 (fun _ e=>cH hT aD.enc e) fun e12=>?_
       refine At.b 4 (fun _ e=>aN [] (aDh e)) fun r13=>?_
       refine At.o 11 (cT hT (x:=(.sl 1 1 [(eL 2 aD.enc r13.1)]))) ?_
       refine At.b 0 (fun _ e=>sJ hT (eL 2 aD.enc) (id:=4) (k:=1) e) fun z14=>?_
       exact fun h=>At.k 5 ⟨_,_,h,jr⟩
      ·apply rt;exact At.x 0
    ·refine At.c 2 ?_ ?_
     ·refine At.b 2 (fun _ e=>aN [] (sN e)) fun r15=>?_
      refine aMU (fun r17 hr17=>?_) (fun r18 hr18=>?_)
      ·refine At.o 8 (aN [] (aFW hr17)) ?_
       refine At.o 7 (aB3 hT (t:=88) (x:=(.v (.pointer none))) (by kernel_rfl) (by kernel_rfl)) ?_
       apply rt;exact At.r 7
      ·refine At.o 8 (aN [] (aFn hr18)) ?_
       refine At.o 7 (aB3 hT (t:=88) (x:=(.ref 6 [] 0)) (by kernel_rfl) (by kernel_rfl)) ?_
       apply rt;exact At.r 7
     ·refine aMU (fun r20 hr20=>?_) (fun r21 hr21=>?_)
      ·refine At.o 2 (aN [] (aGq hr20)) ?_
       refine At.o 7 (aB3 hT (t:=91) (x:=(.v (.pointer none))) (by kernel_rfl) (by kernel_rfl)) ?_
       apply rt;exact At.r 7
      ·refine At.o 2 (aN [] (aG1 hr21)) ?_
       refine At.o 7 (aB3 hT (t:=91) (x:=(.ref 6 [] 0)) (by kernel_rfl) (by kernel_rfl)) ?_
       apply rt;exact At.r 7
theorem yJ {N a0 a1 r} (h:lH N a0 a1=some (Sum.inl r)):FnM Tryz.prog 11 [] [(aG.enc a0),(aI.enc a1)] (.tup [(.v (.pointer none)),(j64 r)]) []:=aAu h
theorem aBR {N a0 a1 r} (h:lH N a0 a1=some (Sum.inr (Sum.inr (Sum.inl r)))):FnM Tryz.prog 11 [] [(aG.enc a0),(aI.enc a1)] (.tup [(.ref 0 [] 0),(j64 r.2.2.2.2.2.2)]) [.var (.st 38 [(.st 9 [(eO 1 19 aE.enc r.1),(eO 2 5 aU.enc r.2.1),(eL 2 aD.enc a0.gA2),(eO 3 13 aS.enc r.2.2.1),(eL 1 k64 a0.gB6),(eL 1 k32 a0.gB7),(k32 a0.gC3),(k32 a0.gC4),(k32 a0.gTo)]),(aI.enc a1),(.ifc 88 (.ref 6 [] 0)),(eO 4 1 (eL 2 aD.enc) r.2.2.2.1),(aB.enc r.2.2.2.2.1),(.st 3 [(j64 0),(j64 0),(j64 0)])]),.tail (r.1.length*19),.tail (r.2.1.length*5),.tail (r.2.2.1.length*13),.tail (r.2.2.2.1.length*1),.dead,.var (.st 3 [(.st 1 [(j64 0)]),(eB true),(eL 19 aE.enc r.2.2.2.2.2.1)])]:=aAu h
theorem aBe {N a0 a1 r} (h:lH N a0 a1=some (Sum.inr (Sum.inr (Sum.inr (Sum.inr r))))):FnM Tryz.prog 11 [] [(aG.enc a0),(aI.enc a1)] (.tup [(.ref 0 [] 0),(j64 r.2.2.2.2.2.2.2)]) [.var (.st 38 [(.st 9 [(eO 1 19 aE.enc r.1),(eO 2 5 aU.enc r.2.1),(eL 2 aD.enc a0.gA2),(eO 3 13 aS.enc r.2.2.1),(eL 1 k64 a0.gB6),(eL 1 k32 a0.gB7),(k32 a0.gC3),(k32 a0.gC4),(k32 a0.gTo)]),(aI.enc a1),(.ifc 91 (.ref 6 [] 0)),(eO 4 1 (eL 2 aD.enc) r.2.2.2.1),(aB.enc r.2.2.2.2.1),(.st 3 [(j64 0),(j64 0),(j64 0)])]),.tail (r.1.length*19),.tail (r.2.1.length*5),.tail (r.2.2.1.length*13),.tail (r.2.2.2.1.length*1),.var (aY.enc r.2.2.2.2.2.1),.var (aM.enc r.2.2.2.2.2.2.1)]:=aAu h
def tZ (N:Nat):Option (aI):=
 some (aI.mk 1 1 1 0 0 0 (bP.mk (aC.mk 0 0 0) (aC.mk 16384 0 0) (aC.mk 0 16384 0) (aC.mk 0 0 16384) 0 1) false)
theorem aCE {N r} (h:tZ N=some r):FnM Tryz.prog 30 [] [] (aI.enc r) []:=by
 unfold tZ at h
 refine At.f dJ hT hmo Tryz.func30 rfl h ?_
 apply rt;exact At.r 7
def sZ (N:Nat) (a0 a1 a2:Int):Option (Unit):=
 some (())
theorem aCR {N a0 a1 a2 r} (h:sZ N a0 a1 a2=some r):FnM Tryz.prog 31 [] [(k64 a0),(j64 a1),(j64 a2)] (.ref 0 [] 0) [.var (.st 72 [cv_5,(eB true),(k64 a0),(j64 a1),(j64 a2)])]:=by
 unfold sZ at h
 refine At.f dJ hT hmo Tryz.func31 rfl h ?_
 apply rt;exact At.r 7
def pK (N:Nat) (a0 a1 a2 a3:Int):Option (bK):=
 aV (U32 (eZ .i64 a2 65535)) fun x1=>
 aV (U32 (Int.tdiv (U32 (eZ .i64 a3 63)) 16)) fun x2=>
 aV (U32 ((U32 (x1*4))+x2)) fun x3=>
 some (bK.mk (U32 a0) (U32 a1) ((U32 ((U32 ((U32 (eZ .i64 a2 65535))*4))+(U32 (Int.tdiv (U32 (eZ .i64 a3 63)) 16))))))
theorem aEo {N a0 a1 a2 a3 r} (h:pK N a0 a1 a2 a3=some r):FnM Tryz.prog 145 [] [(j64 a0),(j64 a1),(j64 a2),(j64 a3)] (bK.enc r) []:=by
 unfold pK at h
 refine At.f dJ hT hmo Tryz.func145 rfl h ?_
 refine lx ?_;intro x1
 refine lx ?_;intro x2
 refine lx ?_;intro x3
 apply rt;exact At.r 16
def nQ (N:Nat) (a0:Int):Nat→(Vector Int 32)→Int→Option ((Vector Int 32))
 | 0,_,_=>none
 | k+1,s4,s5=>
  cond (decide (s5 < 8)) (
   Option.bind (aEq .u64 a0 (I64 (8*s5))) fun x6=>
   Option.bind (fD (I64 (24+s5)) 32) fun _=>
   Option.bind (s4.toList[(I64 (24+s5)).toNat]?) fun e8=>
   nQ N a0 k (s4.setIfInBounds ((I64 (24+s5)).toNat) (U8 x6)) (I64 (s5+1))) (
   some s4)
def uY (N:Nat) (a0:Int):Option ((Vector Int 32)):=
 Option.bind (aN9 32 0 32) fun _=>
 Option.bind (cpV (Vector.replicate 32 0) (aKt str_1) 0 32) fun v2=>
 Option.bind (nQ N a0 N v2 0) fun p3=>
 some p3
theorem aGx {N a0 r} (h:uY N a0=some r):FnM Tryz.prog 214 [] [(k64 a0)] (eA 32 1 k8 r) []:=by
 unfold uY at h
 refine At.f dJ hT hmo Tryz.func214 rfl h ?_
 refine At.b 2 (fun _ e=>aLq hT (k:=1) 1 [] 0 e (by kernel_rfl) (by kernel_rfl) (by decide)) fun s1=>?_
 refine At.b 0 (fun v2 e=>aNk hT k8 (id:=1) (path:=[]) (off:=0) (H':=[.var (eA 32 1 k8 (Vector.replicate 32 0)),.var (eA 32 1 k8 v2)]) e (by kernel_rfl) (by kernel_rfl) (by kernel_rfl)) fun v2=>?_
 refine At.L 1 [2,3] 2 (fun p3=>([],[(1,.var (eA 32 1 k8 p3))],[])) (fun p3 J k=>∃ s4 s5,nQ N a0 k s4 s5=some p3∧J [0,2,3] 2 [(7,(j64 s5))] [(1,.var (eA 32 1 k8 s4))] []) N (fun _ h=>⟨_,_,h,jr⟩) (fun p3 k s hI=>?_) fun p3=>?_
 ·obtain ⟨s4,s5,h,hj⟩:=hI
  cases k with
  | zero=>cases h
  | succ k=>
   refine At.jr hj ?_ h
   refine At.c 1 ?_ ?_
   ·refine At.b 7 (fun _ e=>xQ hT (k' := .i64) e (by kernel_rfl) (by kernel_rfl)) fun x6=>?_
    refine At.b 1 (fun _ e=>bG hT (k:=1) 1 [] 0 e) fun u7=>?_
    refine At.b 0 (fun _ e=>nM hT k8 0 s4 e (U8 x6) (by kernel_rfl) (by kernel_rfl) (H':=[.var (eA 32 1 k8 (Vector.replicate 32 0)),.var (eA 32 1 k8 (s4.setIfInBounds ((I64 (24+s5)).toNat) (U8 x6)))])) fun e8=>?_
    exact fun h=>At.k 2 ⟨_,_,h,jr⟩
   ·apply rt;exact At.x 0
 ·apply rt;exact At.r 2
def nW (N:Nat) (a0:(List Int)):Option (Int):=
 Option.bind (idx a0 0) fun e1=>
 Option.bind (idx a0 1) fun e2=>
 aV (bor .u32 (U32 e1) (shl .u32 (U32 e2) 8)) fun x3=>
 Option.bind (idx a0 2) fun e4=>
 aV (bor .u32 x3 (shl .u32 (U32 e4) 16)) fun x5=>
 Option.bind (idx a0 3) fun e6=>
 aV (bor .u32 x5 (shl .u32 (U32 e6) 24)) fun x7=>
 some x7
theorem aAg {N a0 r} (h:nW N a0=some r):FnM Tryz.prog 268 [] [(eL 1 k8 a0)] (k32 r) []:=by
 unfold nW at h
 refine At.f dJ hT hmo Tryz.func268 rfl h ?_
 refine bi fun e1 he1=>?_
 refine bi fun e2 he2=>?_
 refine lx ?_;intro x3
 refine bi fun e4 he4=>?_
 refine lx ?_;intro x5
 refine bi fun e6 he6=>?_
 refine lx ?_;intro x7
 refine At.d 1 (dE1 1 (fun _=>cH hT k8 he1) (dE1 5 (fun _=>cH hT k8 he2) (dE1 11 (fun _=>cH hT k8 he4) (dE1 17 (fun _=>cH hT k8 he6) dE0)))) dF0 ?_
 apply rt;exact At.r 0
def aFV : Nat→Bool:=imL [3,5]
def lZ (N:Nat) (a0:(Vector Int 32)):Nat→(Vector Int 16)→Int→Option ((Vector Int 16))
 | 0,_,_=>none
 | k+1,s2,s3=>
  cond (decide (s3 < 8)) (
   Option.bind (wC a0.toList (I64 (4*s3)) 32) fun s4=>
   Option.bind (nW N s4) fun r5=>
   Option.bind (fD (I64 (4+s3)) 16) fun _=>
   Option.bind (s2.toList[(I64 (4+s3)).toNat]?) fun e7=>
   lZ N a0 k (s2.setIfInBounds ((I64 (4+s3)).toNat) r5) (I64 (s3+1))) (
   some s2)
def mA (N:Nat) (a2:(Vector Int 12)):Nat→(Vector Int 16)→Int→Option ((Vector Int 16))
 | 0,_,_=>none
 | k+1,s9,s10=>
  cond (decide (s10 < 3)) (
   Option.bind (wC a2.toList (I64 (4*s10)) 12) fun s11=>
   Option.bind (nW N s11) fun r12=>
   Option.bind (fD (I64 (13+s10)) 16) fun _=>
   Option.bind (s9.toList[(I64 (13+s10)).toNat]?) fun e14=>
   mA N a2 k (s9.setIfInBounds ((I64 (13+s10)).toNat) r12) (I64 (s10+1))) (
   some s9)
def rV (N:Nat) (a0:(Vector Int 32)) (a1:Int) (a2:(Vector Int 12)):Option ((Vector Int 16)):=
 Option.bind (lZ N a0 N (#v[1634760805,857760878,2036477234,1797285236,0,0,0,0,0,0,0,0,a1,0,0,0]) 0) fun p1=>
 Option.bind (mA N a2 N p1 0) fun p8=>
 some p8
theorem aE1 {N a0 a1 a2 r} (h:rV N a0 a1 a2=some r):FnM Tryz.prog 252 [] [(eA 32 1 k8 a0),(k32 a1),(eA 12 1 k8 a2)] (eA 16 1 k32 r) []:=by
 unfold rV at h
 refine At.f aFV hT hmo Tryz.func252 rfl h ?_
 refine At.L 8 [5,6,7] 2 (fun p1=>([],[(1,.var (eA 16 1 k32 p1))],[])) (fun p1 J k=>∃ s2 s3,lZ N a0 k s2 s3=some p1∧J [3,5,6,7] 2 [(12,(j64 s3))] [(1,.var (eA 16 1 k32 s2))] []) N (fun _ h=>⟨_,_,h,jr⟩) (fun p1 k s hI=>?_) fun p1=>?_
 ·obtain ⟨s2,s3,h,hj⟩:=hI
  cases k with
  | zero=>cases h
  | succ k=>
   refine At.jr hj ?_ h
   refine At.c 1 ?_ ?_
   ·refine At.b 6 (fun _ e=>aAj hT (N:=32) (k:=1) k8 a0 e) fun s4=>?_
    refine At.b 0 (fun _ e=>aN [] (aAg e)) fun r5=>?_
    refine At.b 0 (fun _ e=>bG hT (k:=1) 1 [] 0 e) fun u6=>?_
    refine At.b 0 (fun _ e=>nM hT k32 0 s2 e r5 (by kernel_rfl) (by kernel_rfl) (H':=[.var (eA 16 1 k32 (Vector.replicate 16 0)),.var (eA 16 1 k32 (s2.setIfInBounds ((I64 (4+s3)).toNat) r5))])) fun e7=>?_
    exact fun h=>At.k 2 ⟨_,_,h,jr⟩
   ·apply rt;exact At.x 0
 ·refine At.L 1 [6,7] 2 (fun p8=>([],[(1,.var (eA 16 1 k32 p8))],[])) (fun p8 J k=>∃ s9 s10,mA N a2 k s9 s10=some p8∧J [5,6,7] 2 [(23,(j64 s10))] [(1,.var (eA 16 1 k32 s9))] []) N (fun _ h=>⟨_,_,h,jr⟩) (fun p8 k s hI=>?_) fun p8=>?_
  ·obtain ⟨s9,s10,h,hj⟩:=hI
   cases k with
   | zero=>cases h
   | succ k=>
    refine At.jr hj ?_ h
    refine At.c 1 ?_ ?_
    ·refine At.b 6 (fun _ e=>aAj hT (N:=12) (k:=1) k8 a2 e) fun s11=>?_
     refine At.b 0 (fun _ e=>aN [] (aAg e)) fun r12=>?_
     refine At.b 0 (fun _ e=>bG hT (k:=1) 1 [] 0 e) fun u13=>?_
     refine At.b 0 (fun _ e=>nM hT k32 0 s9 e r12 (by kernel_rfl) (by kernel_rfl) (H':=[.var (eA 16 1 k32 (Vector.replicate 16 0)),.var (eA 16 1 k32 (s9.setIfInBounds ((I64 (13+s10)).toNat) r12))])) fun e14=>?_
     exact fun h=>At.k 2 ⟨_,_,h,jr⟩
    ·apply rt;exact At.x 0
  ·apply rt;exact At.r 2
def dU (N:Nat) (a0 a1:Int):Option (Int):=
 Option.bind (aIj .u32 a0 (eZ .u64 (U64 a1) 31)) fun x1=>
 aV (U64 (32 - (eZ .u64 (U64 a1) 31))) fun x2=>
 Option.bind (aEq .u32 a0 x2) fun x3=>
 some (bor .u32 x1 x3)
theorem kF {N a0 a1 r} (h:dU N a0 a1=some r):FnM Tryz.prog 269 [] [(k32 a0),(j64 a1)] (k32 r) []:=by
 unfold dU at h
 refine At.f dJ hT hmo Tryz.func269 rfl h ?_
 refine At.b 7 (fun _ e=>aB7 hT (k' := .u64) e (by kernel_rfl) (by kernel_rfl)) fun x1=>?_
 refine lx ?_;intro x2
 refine At.b 3 (fun _ e=>xQ hT (k' := .u64) e (by kernel_rfl) (by kernel_rfl)) fun x3=>?_
 apply rt;exact At.r 2
def aDm : Nat→Bool:=imL [1]
def pU (N:Nat) (a0:(Vector Int 4)):Option ((Vector Int 4)):=
 Option.bind (idx a0.toList 0) fun e1=>
 Option.bind (idx a0.toList 1) fun e2=>
 Option.bind (idx a0.toList 2) fun e3=>
 Option.bind (idx a0.toList 3) fun e4=>
 aV (bxor .u32 e4 (U32 (e1+e2))) fun x5=>
 Option.bind (dU N x5 16) fun r6=>
 aV (bxor .u32 e2 (U32 (e3+r6))) fun x7=>
 Option.bind (dU N x7 12) fun r8=>
 aV (U32 ((U32 (e1+e2))+r8)) fun x9=>
 Option.bind (dU N (bxor .u32 r6 x9) 8) fun r10=>
 aV (U32 ((U32 (e3+r6))+r10)) fun x11=>
 Option.bind (dU N (bxor .u32 r8 x11) 7) fun r12=>
 some (#v[x9,r12,x11,r10])
theorem aDe {N a0 r} (h:pU N a0=some r):FnM Tryz.prog 253 [] [(eA 4 1 k32 a0)] (eA 4 1 k32 r) []:=by
 unfold pU at h
 refine At.f aDm hT hmo Tryz.func253 rfl h ?_
 refine bi fun e1 he1=>?_
 refine bi fun e2 he2=>?_
 refine bi fun e3 he3=>?_
 refine bi fun e4 he4=>?_
 refine At.d 2 (dE1 0 (fun _=>dG hT (N:=4) (k:=1) k32 a0 he1) (dE1 2 (fun _=>dG hT (N:=4) (k:=1) k32 a0 he2) (dE1 4 (fun _=>dG hT (N:=4) (k:=1) k32 a0 he3) (dE1 6 (fun _=>dG hT (N:=4) (k:=1) k32 a0 he4) dE0)))) dF0 ?_
 refine lx ?_;intro x5
 refine At.b 7 (fun _ e=>aN [] (kF e)) fun r6=>?_
 refine lx ?_;intro x7
 refine At.b 8 (fun _ e=>aN [] (kF e)) fun r8=>?_
 refine lx ?_;intro x9
 refine At.b 8 (fun _ e=>aN [] (kF e)) fun r10=>?_
 refine lx ?_;intro x11
 refine At.b 8 (fun _ e=>aN [] (kF e)) fun r12=>?_
 apply rt;exact At.r 7
def aFw : Nat→Bool:=imL [3,5]
def jL (N:Nat)  : Nat→(Vector Int 16)→Int→Option ((Vector Int 16))
 | 0,_,_=>none
 | k+1,s6,s7=>
  cond (decide (s7 < 8)) (
   Option.bind (idx (#v[#v[0,4,8,12],#v[1,5,9,13],#v[2,6,10,14],#v[3,7,11,15],#v[0,5,10,15],#v[1,6,11,12],#v[2,7,8,13],#v[3,4,9,14]]).toList s7) fun e8=>
   Option.bind (fD 0 4) fun _=>
   Option.bind (e8.toList[(Int.toNat 0)]?) fun e10=>
   Option.bind (fD e10 16) fun _=>
   Option.bind (s6.toList[e10.toNat]?) fun e12=>
   Option.bind (fD 1 4) fun _=>
   Option.bind (e8.toList[(Int.toNat 1)]?) fun e14=>
   Option.bind (fD e14 16) fun _=>
   Option.bind (s6.toList[e14.toNat]?) fun e16=>
   Option.bind (fD 2 4) fun _=>
   Option.bind (e8.toList[(Int.toNat 2)]?) fun e18=>
   Option.bind (fD e18 16) fun _=>
   Option.bind (s6.toList[e18.toNat]?) fun e20=>
   Option.bind (fD 3 4) fun _=>
   Option.bind (e8.toList[(Int.toNat 3)]?) fun e22=>
   Option.bind (fD e22 16) fun _=>
   Option.bind (s6.toList[e22.toNat]?) fun e24=>
   Option.bind (pU N (#v[e12,e16,e20,e24])) fun r25=>
   Option.bind (fD 0 4) fun _=>
   Option.bind (e8.toList[(Int.toNat 0)]?) fun e27=>
   Option.bind (fD 1 4) fun _=>
   Option.bind (e8.toList[(Int.toNat 1)]?) fun e29=>
   Option.bind (fD 2 4) fun _=>
   Option.bind (e8.toList[(Int.toNat 2)]?) fun e31=>
   Option.bind (fD 3 4) fun _=>
   Option.bind (e8.toList[(Int.toNat 3)]?) fun e33=>
   Option.bind (fD 0 4) fun _=>
   Option.bind (r25.toList[(Int.toNat 0)]?) fun e35=>
   Option.bind (fD 1 4) fun _=>
   Option.bind (r25.toList[(Int.toNat 1)]?) fun e37=>
   Option.bind (fD 2 4) fun _=>
   Option.bind (r25.toList[(Int.toNat 2)]?) fun e39=>
   Option.bind (fD 3 4) fun _=>
   Option.bind (r25.toList[(Int.toNat 3)]?) fun e41=>
   Option.bind (fD e27 16) fun _=>
   Option.bind (s6.toList[e27.toNat]?) fun e43=>
   Option.bind (fD e29 16) fun _=>
   Option.bind ((s6.setIfInBounds e27.toNat e35).toList[e29.toNat]?) fun e45=>
   Option.bind (fD e31 16) fun _=>
   Option.bind (((s6.setIfInBounds e27.toNat e35).setIfInBounds e29.toNat e37).toList[e31.toNat]?) fun e47=>
   Option.bind (fD e33 16) fun _=>
   Option.bind ((((s6.setIfInBounds e27.toNat e35).setIfInBounds e29.toNat e37).setIfInBounds e31.toNat e39).toList[e33.toNat]?) fun e49=>
   jL N k ((((s6.setIfInBounds e27.toNat e35).setIfInBounds e29.toNat e37).setIfInBounds e31.toNat e39).setIfInBounds e33.toNat e41) (I64 (s7+1))) (
   some s6)
def lS (N:Nat)  : Nat→(Vector Int 16)→Int→Option ((Vector Int 16))
 | 0,_,_=>none
 | k+1,s3,s4=>
  cond (decide (s4 < 10)) (
   Option.bind (jL N N s3 0) fun p5=>
   lS N k p5 (I64 (s4+1))) (
   some s3)
def lR (N:Nat) (p2 r1:(Vector Int 16)):Nat→(Vector Int 64)→Int→Option ((Vector Int 64))
 | 0,_,_=>none
 | k+1,s51,s52=>
  cond (decide (s52 < 16)) (
   Option.bind (idx p2.toList s52) fun e53=>
   Option.bind (fD s52 16) fun _=>
   Option.bind (r1.toList[s52.toNat]?) fun e55=>
   aV (I64 ((I64 (4*s52))+1)) fun x56=>
   aV (I64 ((I64 (4*s52))+2)) fun x57=>
   aV (I64 ((I64 (4*s52))+3)) fun x58=>
   aV (shr .u32 (U32 (e53+e55)) 8) fun x59=>
   aV (shr .u32 (U32 (e53+e55)) 16) fun x60=>
   aV (shr .u32 (U32 (e53+e55)) 24) fun x61=>
   Option.bind (fD (I64 (4*s52)) 64) fun _=>
   Option.bind (s51.toList[(I64 (4*s52)).toNat]?) fun e63=>
   Option.bind (fD x56 64) fun _=>
   Option.bind ((s51.setIfInBounds ((I64 (4*s52)).toNat) (U8 (U32 (e53+e55)))).toList[x56.toNat]?) fun e65=>
   Option.bind (fD x57 64) fun _=>
   Option.bind (((s51.setIfInBounds ((I64 (4*s52)).toNat) (U8 (U32 (e53+e55)))).setIfInBounds x56.toNat (U8 x59)).toList[x57.toNat]?) fun e67=>
   Option.bind (fD x58 64) fun _=>
   Option.bind ((((s51.setIfInBounds ((I64 (4*s52)).toNat) (U8 (U32 (e53+e55)))).setIfInBounds x56.toNat (U8 x59)).setIfInBounds x57.toNat (U8 x60)).toList[x58.toNat]?) fun e69=>
   lR N p2 r1 k ((((s51.setIfInBounds ((I64 (4*s52)).toNat) (U8 (U32 (e53+e55)))).setIfInBounds x56.toNat (U8 x59)).setIfInBounds x57.toNat (U8 x60)).setIfInBounds x58.toNat (U8 x61)) (I64 (s52+1))) (
   some s51)
def sE (N:Nat) (a0:(Vector Int 32)) (a1:Int) (a2:(Vector Int 12)):Option ((Vector Int 64)):=
 Option.bind (rV N a0 a1 a2) fun r1=>
 Option.bind (lS N N r1 0) fun p2=>
 Option.bind (lR N p2 r1 N (Vector.replicate 64 0) 0) fun p50=>
 some p50
theorem aE2 {N a0 a1 a2 r} (h:sE N a0 a1 a2=some r):FnM Tryz.prog 213 [] [(eA 32 1 k8 a0),(k32 a1),(eA 12 1 k8 a2)] (eA 64 1 k8 r) []:=by
 unfold sE at h
 refine At.f aFw hT hmo Tryz.func213 rfl h ?_
 refine At.b 6 (fun _ e=>aN [] (aE1 e)) fun r1=>?_
 refine At.L 17 [6,7,8] 4 (fun p2=>([],[(2,.var (eA 16 1 k32 p2))],[])) (fun p2 J k=>∃ s3 s4,lS N k s3 s4=some p2∧J [6,7,8,9] 4 [(30,(j64 s4))] [(2,.var (eA 16 1 k32 s3))] []) N (fun _ h=>⟨_,_,h,jr⟩) (fun p2 k s hI=>?_) fun p2=>?_
 ·obtain ⟨s3,s4,h,hj⟩:=hI
  cases k with
  | zero=>cases h
  | succ k=>
   refine At.jr hj ?_ h
   refine At.c 1 ?_ ?_
   ·refine At.L 2 [6,7,8,9,30] 4 (fun p5=>([],[(2,.var (eA 16 1 k32 p5))],[])) (fun p5 J k=>∃ s6 s7,jL N k s6 s7=some p5∧J [6,7,8,9,30,32] 4 [(33,(j64 s7))] [(2,.var (eA 16 1 k32 s6))] []) N (fun _ h=>⟨_,_,h,jr⟩) (fun p5 k s hI=>?_) fun p5=>?_
    ·obtain ⟨s6,s7,h,hj⟩:=hI
     cases k with
     | zero=>cases h
     | succ k=>
      refine At.jr hj ?_ h
      refine At.c 1 ?_ ?_
      ·refine At.b 0 (fun _ e=>zP hT (eA 4 1 j64) (#v[#v[0,4,8,12],#v[1,5,9,13],#v[2,6,10,14],#v[3,7,11,15],#v[0,5,10,15],#v[1,6,11,12],#v[2,7,8,13],#v[3,4,9,14]]) e (by kernel_rfl) (by kernel_rfl)) fun e8=>?_
       refine bi fun u9 hu9=>?_
       refine bi fun e10 he10=>?_
       refine bi fun u11 hu11=>?_
       refine bi fun e12 he12=>?_
       refine bi fun u13 hu13=>?_
       refine bi fun e14 he14=>?_
       refine bi fun u15 hu15=>?_
       refine bi fun e16 he16=>?_
       refine bi fun u17 hu17=>?_
       refine bi fun e18 he18=>?_
       refine bi fun u19 hu19=>?_
       refine bi fun e20 he20=>?_
       refine bi fun u21 hu21=>?_
       refine bi fun e22 he22=>?_
       refine bi fun u23 hu23=>?_
       refine bi fun e24 he24=>?_
       refine bi fun r25 hr25=>?_
       refine At.d 2 (dE1 0 (fun _=>bG hT (k:=1) 4 [] 0 hu9) (dEL hT 1 (j64 e10) j64 0 he10 (dE1 2 (fun _=>bG hT (k:=1) 2 [] 0 hu11) (dEL hT 3 (k32 e12) k32 0 he12 (dE1 4 (fun _=>bG hT (k:=1) 4 [] 0 hu13) (dEL hT 5 (j64 e14) j64 0 he14 (dE1 6 (fun _=>bG hT (k:=1) 2 [] 0 hu15) (dEL hT 7 (k32 e16) k32 0 he16 (dE1 8 (fun _=>bG hT (k:=1) 4 [] 0 hu17) (dEL hT 9 (j64 e18) j64 0 he18 (dE1 10 (fun _=>bG hT (k:=1) 2 [] 0 hu19) (dEL hT 11 (k32 e20) k32 0 he20 (dE1 12 (fun _=>bG hT (k:=1) 4 [] 0 hu21) (dEL hT 13 (j64 e22) j64 0 he22 (dE1 14 (fun _=>bG hT (k:=1) 2 [] 0 hu23) (dEL hT 15 (k32 e24) k32 0 he24 (dE2 17 (eA 4 1 k32 r25) (fun _=>aO (aDe hr25)) dE0))))))))))))))))) dF0 ?_
       refine bi fun u26 hu26=>?_
       refine bi fun e27 he27=>?_
       refine bi fun u28 hu28=>?_
       refine bi fun e29 he29=>?_
       refine bi fun u30 hu30=>?_
       refine bi fun e31 he31=>?_
       refine bi fun u32 hu32=>?_
       refine bi fun e33 he33=>?_
       refine bi fun u34 hu34=>?_
       refine bi fun e35 he35=>?_
       refine bi fun u36 hu36=>?_
       refine bi fun e37 he37=>?_
       refine bi fun u38 hu38=>?_
       refine bi fun e39 he39=>?_
       refine bi fun u40 hu40=>?_
       refine bi fun e41 he41=>?_
       refine bi fun u42 hu42=>?_
       refine bi fun e43 he43=>?_
       refine bi fun u44 hu44=>?_
       refine bi fun e45 he45=>?_
       refine bi fun u46 hu46=>?_
       refine bi fun e47 he47=>?_
       refine bi fun u48 hu48=>?_
       refine bi fun e49 he49=>?_
       refine At.d 0 (dE1 0 (fun _=>bG hT (k:=1) 4 [] 0 hu26) (dEL hT 1 (j64 e27) j64 0 he27 (dE1 2 (fun _=>bG hT (k:=1) 4 [] 0 hu28) (dEL hT 3 (j64 e29) j64 0 he29 (dE1 4 (fun _=>bG hT (k:=1) 4 [] 0 hu30) (dEL hT 5 (j64 e31) j64 0 he31 (dE1 6 (fun _=>bG hT (k:=1) 4 [] 0 hu32) (dEL hT 7 (j64 e33) j64 0 he33 (dE1 8 (fun _=>bG hT (k:=1) 5 [] 0 hu34) (dEL hT 9 (k32 e35) k32 0 he35 (dE1 10 (fun _=>bG hT (k:=1) 5 [] 0 hu36) (dEL hT 11 (k32 e37) k32 0 he37 (dE1 12 (fun _=>bG hT (k:=1) 5 [] 0 hu38) (dEL hT 13 (k32 e39) k32 0 he39 (dE1 14 (fun _=>bG hT (k:=1) 5 [] 0 hu40) (dEL hT 15 (k32 e41) k32 0 he41 (dE1 16 (fun _=>bG hT (k:=1) 2 [] 0 hu42) (dE1 18 (fun _=>bG hT (k:=1) 2 [] 0 hu44) (dE1 20 (fun _=>bG hT (k:=1) 2 [] 0 hu46) (dE1 22 (fun _=>bG hT (k:=1) 2 [] 0 hu48) dE0)))))))))))))))))))) (dF 17 (.v (.bool false)) [(2,.var (eA 16 1 k32 (s6.setIfInBounds e27.toNat e35)))] [] (bS (nM hT k32 0 s6 he43 e35 (by kernel_rfl) (by kernel_rfl) (H':=[.var (eA 64 1 k8 (Vector.replicate 64 0)),.var (eA 16 1 k32 r1),.var (eA 16 1 k32 (s6.setIfInBounds e27.toNat e35)),.var aJZ,.var (eA 4 1 j64 e8),.var (eA 4 1 k32 r25)]))) (dF 19 (.v (.bool false)) [(2,.var (eA 16 1 k32 ((s6.setIfInBounds e27.toNat e35).setIfInBounds e29.toNat e37)))] [] (bS (nM hT k32 0 (s6.setIfInBounds e27.toNat e35) he45 e37 (by kernel_rfl) (by kernel_rfl) (H':=[.var (eA 64 1 k8 (Vector.replicate 64 0)),.var (eA 16 1 k32 r1),.var (eA 16 1 k32 ((s6.setIfInBounds e27.toNat e35).setIfInBounds e29.toNat e37)),.var aJZ,.var (eA 4 1 j64 e8),.var (eA 4 1 k32 r25)]))) (dF 21 (.v (.bool false)) [(2,.var (eA 16 1 k32 (((s6.setIfInBounds e27.toNat e35).setIfInBounds e29.toNat e37).setIfInBounds e31.toNat e39)))] [] (bS (nM hT k32 0 ((s6.setIfInBounds e27.toNat e35).setIfInBounds e29.toNat e37) he47 e39 (by kernel_rfl) (by kernel_rfl) (H':=[.var (eA 64 1 k8 (Vector.replicate 64 0)),.var (eA 16 1 k32 r1),.var (eA 16 1 k32 (((s6.setIfInBounds e27.toNat e35).setIfInBounds e29.toNat e37).setIfInBounds e31.toNat e39)),.var aJZ,.var (eA 4 1 j64 e8),.var (eA 4 1 k32 r25)]))) (dF 23 (.v (.bool false)) [(2,.var (eA 16 1 k32 ((((s6.setIfInBounds e27.toNat e35).setIfInBounds e29.toNat e37).setIfInBounds e31.toNat e39).setIfInBounds e33.toNat e41)))] [] (bS (nM hT k32 0 (((s6.setIfInBounds e27.toNat e35).setIfInBounds e29.toNat e37).setIfInBounds e31.toNat e39) he49 e41 (by kernel_rfl) (by kernel_rfl) (H':=[.var (eA 64 1 k8 (Vector.replicate 64 0)),.var (eA 16 1 k32 r1),.var (eA 16 1 k32 ((((s6.setIfInBounds e27.toNat e35).setIfInBounds e29.toNat e37).setIfInBounds e31.toNat e39).setIfInBounds e33.toNat e41)),.var aJZ,.var (eA 4 1 j64 e8),.var (eA 4 1 k32 r25)]))) dF0)))) ?_
       exact fun h=>At.k 2 ⟨_,_,h,jr⟩
      ·apply rt;exact At.x 0
    ·exact fun h=>At.k 2 ⟨_,_,h,jr⟩
   ·apply rt;exact At.x 0
 ·refine At.L 3 [6,13] 5 (fun p50=>([],[(4,.var (eA 64 1 k8 p50))],[])) (fun p50 J k=>∃ s51 s52,lR N p2 r1 k s51 s52=some p50∧J [6,7,13,76] 5 [(77,(j64 s52))] [(4,.var (eA 64 1 k8 s51))] []) N (fun _ h=>⟨_,_,h,jr⟩) (fun p50 k s hI=>?_) fun p50=>?_
  ·obtain ⟨s51,s52,h,hj⟩:=hI
   cases k with
   | zero=>cases h
   | succ k=>
    refine At.jr hj ?_ h
    refine At.c 1 ?_ ?_
    ·refine At.b 1 (fun _ e=>zP hT k32 p2 e (by kernel_rfl) (by kernel_rfl)) fun e53=>?_
     refine At.b 4 (fun _ e=>bG hT (k:=1) 1 [] 0 e) fun u54=>?_
     refine At.b 0 (fun _ e=>oY hT k32 0 e) fun e55=>?_
     refine lx ?_;intro x56
     refine lx ?_;intro x57
     refine lx ?_;intro x58
     refine lx ?_;intro x59
     refine lx ?_;intro x60
     refine lx ?_;intro x61
     refine At.b 24 (fun _ e=>bG hT (k:=1) 4 [] 0 e) fun u62=>?_
     refine At.b 0 (fun _ e=>nM hT k8 0 s51 e (U8 (U32 (e53+e55))) (by kernel_rfl) (by kernel_rfl) (H':=[.var (eA 64 1 k8 (Vector.replicate 64 0)),.var (eA 16 1 k32 r1),.var (eA 16 1 k32 p2),.var aJZ,.var (eA 64 1 k8 (s51.setIfInBounds ((I64 (4*s52)).toNat) (U8 (U32 (e53+e55)))))])) fun e63=>?_
     refine At.b 0 (fun _ e=>bG hT (k:=1) 4 [] 0 e) fun u64=>?_
     refine At.b 0 (fun _ e=>nM hT k8 0 (s51.setIfInBounds ((I64 (4*s52)).toNat) (U8 (U32 (e53+e55)))) e (U8 x59) (by kernel_rfl) (by kernel_rfl) (H':=[.var (eA 64 1 k8 (Vector.replicate 64 0)),.var (eA 16 1 k32 r1),.var (eA 16 1 k32 p2),.var aJZ,.var (eA 64 1 k8 ((s51.setIfInBounds ((I64 (4*s52)).toNat) (U8 (U32 (e53+e55)))).setIfInBounds x56.toNat (U8 x59)))])) fun e65=>?_
     refine At.b 0 (fun _ e=>bG hT (k:=1) 4 [] 0 e) fun u66=>?_
     refine At.b 0 (fun _ e=>nM hT k8 0 ((s51.setIfInBounds ((I64 (4*s52)).toNat) (U8 (U32 (e53+e55)))).setIfInBounds x56.toNat (U8 x59)) e (U8 x60) (by kernel_rfl) (by kernel_rfl) (H':=[.var (eA 64 1 k8 (Vector.replicate 64 0)),.var (eA 16 1 k32 r1),.var (eA 16 1 k32 p2),.var aJZ,.var (eA 64 1 k8 (((s51.setIfInBounds ((I64 (4*s52)).toNat) (U8 (U32 (e53+e55)))).setIfInBounds x56.toNat (U8 x59)).setIfInBounds x57.toNat (U8 x60)))])) fun e67=>?_
     refine At.b 0 (fun _ e=>bG hT (k:=1) 4 [] 0 e) fun u68=>?_
     refine At.b 0 (fun _ e=>nM hT k8 0 (((s51.setIfInBounds ((I64 (4*s52)).toNat) (U8 (U32 (e53+e55)))).setIfInBounds x56.toNat (U8 x59)).setIfInBounds x57.toNat (U8 x60)) e (U8 x61) (by kernel_rfl) (by kernel_rfl) (H':=[.var (eA 64 1 k8 (Vector.replicate 64 0)),.var (eA 16 1 k32 r1),.var (eA 16 1 k32 p2),.var aJZ,.var (eA 64 1 k8 ((((s51.setIfInBounds ((I64 (4*s52)).toNat) (U8 (U32 (e53+e55)))).setIfInBounds x56.toNat (U8 x59)).setIfInBounds x57.toNat (U8 x60)).setIfInBounds x58.toNat (U8 x61)))])) fun e69=>?_
     exact fun h=>At.k 2 ⟨_,_,h,jr⟩
    ·apply rt;exact At.x 0
  ·apply rt;exact At.r 2
def aBj : Nat→Bool:=imL [2]
def hQ (N:Nat) (a0:bK):Nat→(Vector Int 12)→Int→Option ((Vector Int 12))
 | 0,_,_=>none
 | k+1,s2,s3=>
  cond (decide (s3 < 4)) (
   Option.bind (aEq .u32 a0.gE3 (I64 (8*s3))) fun x4=>
   Option.bind (aEq .u32 a0.gE4 (I64 (8*s3))) fun x5=>
   Option.bind (fD s3 12) fun _=>
   Option.bind (s2.toList[s3.toNat]?) fun e7=>
   Option.bind (fD (I64 (4+s3)) 12) fun _=>
   Option.bind ((s2.setIfInBounds s3.toNat (U8 x4)).toList[(I64 (4+s3)).toNat]?) fun e9=>
   hQ N a0 k ((s2.setIfInBounds s3.toNat (U8 x4)).setIfInBounds ((I64 (4+s3)).toNat) (U8 x5)) (I64 (s3+1))) (
   some s2)
def iF (N:Nat) (a0:bK) (a1:Int):Option ((Vector Int 64)):=
 Option.bind (hQ N a0 N (Vector.replicate 12 0) 0) fun p1=>
 Option.bind (uY N a1) fun r10=>
 Option.bind (sE N r10 a0.gE5 p1) fun r11=>
 some r11
theorem aBM {N a0 a1 r} (h:iF N a0 a1=some r):FnM Tryz.prog 146 [] [(bK.enc a0),(k64 a1)] (eA 64 1 k8 r) []:=by
 unfold iF at h
 refine At.f aBj hT hmo Tryz.func146 rfl h ?_
 refine At.L 4 [1,2,4,5] 2 (fun p1=>([],[(1,.var (eA 12 1 k8 p1))],[])) (fun p1 J k=>∃ s2 s3,hQ N a0 k s2 s3=some p1∧J [1,2,4,5] 2 [(7,(j64 s3))] [(1,.var (eA 12 1 k8 s2))] []) N (fun _ h=>⟨_,_,h,jr⟩) (fun p1 k s hI=>?_) fun p1=>?_
 ·obtain ⟨s2,s3,h,hj⟩:=hI
  cases k with
  | zero=>cases h
  | succ k=>
   refine At.jr hj ?_ h
   refine At.c 1 ?_ ?_
   ·refine bi fun x4 hx4=>?_
    refine bi fun x5 hx5=>?_
    refine bi fun u6 hu6=>?_
    refine bi fun e7 he7=>?_
    refine bi fun u8 hu8=>?_
    refine bi fun e9 he9=>?_
    refine At.d 2 (dE1 7 (fun _=>xQ hT (k' := .i64) hx4 (by kernel_rfl) (by kernel_rfl)) (dE1 13 (fun _=>xQ hT (k' := .i64) hx5 (by kernel_rfl) (by kernel_rfl)) (dE1 15 (fun _=>bG hT (k:=1) 1 [] 0 hu6) (dE1 17 (fun _=>bG hT (k:=1) 1 [] 0 hu8) dE0)))) (dF 16 (.v (.bool false)) [(1,.var (eA 12 1 k8 (s2.setIfInBounds s3.toNat (U8 x4))))] [] (bS (nM hT k8 0 s2 he7 (U8 x4) (by kernel_rfl) (by kernel_rfl) (H':=[.var (eA 64 1 k8 (Vector.replicate 64 0)),.var (eA 12 1 k8 (s2.setIfInBounds s3.toNat (U8 x4)))]))) (dF 18 (.v (.bool false)) [(1,.var (eA 12 1 k8 ((s2.setIfInBounds s3.toNat (U8 x4)).setIfInBounds ((I64 (4+s3)).toNat) (U8 x5))))] [] (bS (nM hT k8 0 (s2.setIfInBounds s3.toNat (U8 x4)) he9 (U8 x5) (by kernel_rfl) (by kernel_rfl) (H':=[.var (eA 64 1 k8 (Vector.replicate 64 0)),.var (eA 12 1 k8 ((s2.setIfInBounds s3.toNat (U8 x4)).setIfInBounds ((I64 (4+s3)).toNat) (U8 x5)))]))) dF0)) ?_
    exact fun h=>At.k 2 ⟨_,_,h,jr⟩
   ·apply rt;exact At.x 0
 ·refine bi fun r10 hr10=>?_
  refine bi fun r11 hr11=>?_
  refine At.d 0 (dE2 1 (eA 32 1 k8 r10) (fun _=>aO (aGx hr10)) (dE2 5 (eA 64 1 k8 r11) (fun _=>aO (aE2 hr11)) dE0)) dF0 ?_
  apply rt;exact At.r 0
def aE8 : Nat→Bool:=imL [2]
def nV (N:Nat) (a0:(Vector Int 64)) (a1:Int):Option (Int):=
 aV (I64 (4*(eZ .i64 a1 15))) fun x1=>
 Option.bind (idx a0.toList x1) fun e2=>
 Option.bind (idx a0.toList (I64 (x1+1))) fun e3=>
 aV (bor .u32 (U32 e2) (shl .u32 (U32 e3) 8)) fun x4=>
 Option.bind (idx a0.toList (I64 (x1+2))) fun e5=>
 aV (bor .u32 x4 (shl .u32 (U32 e5) 16)) fun x6=>
 Option.bind (idx a0.toList (I64 (x1+3))) fun e7=>
 aV (bor .u32 x6 (shl .u32 (U32 e7) 24)) fun x8=>
 some x8
theorem aD9 {N a0 a1 r} (h:nV N a0 a1=some r):FnM Tryz.prog 147 [] [(eA 64 1 k8 a0),(j64 a1)] (k32 r) []:=by
 unfold nV at h
 refine At.f aE8 hT hmo Tryz.func147 rfl h ?_
 refine lx ?_;intro x1
 refine bi fun e2 he2=>?_
 refine bi fun e3 he3=>?_
 refine lx ?_;intro x4
 refine bi fun e5 he5=>?_
 refine lx ?_;intro x6
 refine bi fun e7 he7=>?_
 refine lx ?_;intro x8
 refine At.d 6 (dE1 1 (fun _=>dG hT (N:=64) (k:=1) k8 a0 he2) (dE1 6 (fun _=>dG hT (N:=64) (k:=1) k8 a0 he3) (dE1 13 (fun _=>dG hT (N:=64) (k:=1) k8 a0 he5) (dE1 20 (fun _=>dG hT (N:=64) (k:=1) k8 a0 he7) dE0)))) dF0 ?_
 apply rt;exact At.r 0
def fO (N:Nat) (a0 a1:Int) (a2:aA):Option (aT×Int):=
 cond (!a2.gA) (
  some ((a2.gD2,0))) (
  Option.bind (Option.bind (pK N a2.gB a2.gD a0 a1) fun r2=>
  Option.bind (cond (!a2.gD2.gis) (
   some true) (
   some (!(bK.eq r2 a2.gD2.gE6)))) fun p3=>
  cond p3 (
   Option.bind (iF N r2 a2.gC) fun r4=>
   some ((aT.mk r2 true r4,r2))) (
   some ((a2.gD2,r2)))) fun p1=>
  Option.bind (nV N p1.1.gE7 a1) fun r5=>
  some ((p1.1,r5)))
theorem tA {N a0 a1 a2 r} (h:fO N a0 a1 a2=some r):FnM Tryz.prog 76 [.var (aA.enc a2)] [(.ref 0 [] 0),(j64 a0),(j64 a1)] (k32 r.2) [.var (.st 72 [(aT.enc r.1),(eB a2.gA),(k64 a2.gC),(j64 a2.gB),(j64 a2.gD)])]:=by
 unfold fO at h
 refine At.f dJ hT hmo Tryz.func76 rfl h ?_
 refine At.o 2 (nY hT (t:=96) (x:=(.ref 0 [] 0)) (b:=true) (by kernel_rfl) rfl rfl (by kernel_rfl)) ?_
 refine At.g [10] 7 ?_
 refine At.c 0 ?_ ?_
 ·apply rt;exact At.r 1
 ·refine At.J 0 1 [0,2] 1 (fun p1=>([],[(0,.var (.st 72 [(aT.enc p1.1),(eB a2.gA),(k64 a2.gC),(j64 a2.gB),(j64 a2.gD)]))],[.var (bK.enc p1.2)])) (fun p1=>?_) fun p1=>?_
  ·refine bi fun r2 hr2=>?_
   refine At.d 0 (dE2 10 (bK.enc r2) (fun _=>aO (aEo hr2)) dE0) dF0 ?_
   refine At.J 0 0 [0,2,7] 2 (fun p3=>([(42,(eB p3))],[],[])) (fun p3=>?_) fun p3=>?_
   ·refine boI (fun hc6=>?_) (fun hc6=>?_)
    ·refine At.d 0 (dE1 6 (fun _=>dM hc6 rfl (dC hT (im:=false) (by kernel_rfl))) dE0) dF0 ?_
     apply rt;exact At.jn 0
    ·refine At.d 0 (dE1 6 (fun _=>dM hc6 rfl (dC hT (im:=false) (by kernel_rfl))) (dE1 13 (fun _=>zE aPx (r2:bK) (a2.gD2.gE6:bK) (by kernel_rfl) (by kernel_rfl) (fun _=>rfl) (fun _=>rfl) (by kernel_rfl) (by kernel_rfl)) dE0)) dF0 ?_
     apply rt;exact At.jn 0
   ·refine At.c 0 ?_ ?_
    ·refine bi fun r4 hr4=>?_
     refine At.d 0 (dE2 7 (eA 64 1 k8 r4) (fun _=>aO (aBM hr4)) dE0) dF0 ?_
     apply rt;exact At.jn 0
    ·apply rt;exact At.jn 0
  ·refine At.b 6 (fun _ e=>aN [] (aD9 e)) fun r5=>?_
   apply rt;exact At.r 1
def dS (N:Nat) (b4:(List (List aD))) (a1:Int) (a2:aH) (a3 a4:aB) (a5:Int) (a6:Bool) (a7:aF) (a8:aG) (a9:aI) (a10:aB) (a11:aJ) (a12:aA) (a13:aM):Option (aT×Int):=
 Option.bind (fO N a5 a1 a12) fun r1=>
 some ((r1.1,r1.2))
theorem cZ {N b4 a1 a2 a3 a4 a5 a6 a7 a8 a9 a10 a11 a12 a13 r} (h:dS N b4 a1 a2 a3 a4 a5 a6 a7 a8 a9 a10 a11 a12 a13=some r):FnM Tryz.prog 32 [.var (.st 26 [(aH.enc a2),(.ref 1 [] 0),(.ref 2 [] 0),(aB.enc a3),(aB.enc a4),(j64 a5),(eB a6),(aF.enc a7)]),.var (.st 38 [(aG.enc a8),(aI.enc a9),(.ifc 91 (.ref 3 [] 0)),(eO 4 1 (eL 2 aD.enc) b4),(aB.enc a10),(aJ.enc a11)]),.var (aA.enc a12),.var (aM.enc a13),.tail (b4.length*1)] [(.ref 0 [] 0),(j64 a1)] (k32 r.2) [.var (.st 26 [(aH.enc a2),(.ref 1 [] 0),(.ref 2 [] 0),(aB.enc a3),(aB.enc a4),(j64 a5),(eB a6),(aF.enc a7)]),.var (.st 38 [(aG.enc a8),(aI.enc a9),(.ifc 91 (.ref 3 [] 0)),(eO 4 1 (eL 2 aD.enc) b4),(aB.enc a10),(aJ.enc a11)]),.var (.st 72 [(aT.enc r.1),(eB a12.gA),(k64 a12.gC),(j64 a12.gB),(j64 a12.gD)]),.var (aM.enc a13),.tail (b4.length*1)]:=by
 unfold dS at h
 refine At.f dJ hT hmo Tryz.func32 rfl h ?_
 refine bi fun r1 hr1=>?_
 refine At.d 1 dE0 (dF 9 (k32 r1.2) [(2,.var (.st 72 [(aT.enc r1.1),(eB a12.gA),(k64 a12.gC),(j64 a12.gB),(j64 a12.gD)]))] [] (bS (aN [2] (tA hr1))) dF0) ?_
 apply rt;exact At.r 0
def oT (N:Nat) (a0:Int):Option (Int):=
 some (I64 a0)
theorem yE {N a0 r} (h:oT N a0=some r):FnM Tryz.prog 148 [] [(k32 a0)] (j64 r) []:=by
 unfold oT at h
 refine At.f dJ hT hmo Tryz.func148 rfl h ?_
 apply rt;exact At.r 4
def sF (N:Nat) (a0 a1:Int):Option (Int):=
 aV (cond (decide (a0≥0)) (decide (a1 < 0)) false) fun x1=>
 aV (decide ((I64 (a0 - a1)) < 0)) fun x2=>
 cond (cond x1 x2 false) (
  some 9223372036854775807) (
  aV (cond (decide (a0 < 0)) (decide (a1 > 0)) false) fun x3=>
  aV (decide ((I64 (a0 - a1))≥0)) fun x4=>
  cond (cond x3 x4 false) (some (-9223372036854775808)) (some (I64 (a0 - a1))))
theorem yW {N a0 a1 r} (h:sF N a0 a1=some r):FnM Tryz.prog 149 [] [(j64 a0),(j64 a1)] (j64 r) []:=by
 unfold sF at h
 refine At.f dJ hT hmo Tryz.func149 rfl h ?_
 refine lx ?_;intro x1
 refine lx ?_;intro x2
 refine At.c 16 ?_ ?_
 ·apply rt;exact At.r 1
 ·refine lx ?_;intro x3
  refine lx ?_;intro x4
  refine At.c 11 ?_ ?_
  ·apply rt;exact At.r 1
  ·apply rt;exact At.r 2
def aOJ : Nat→Bool:=imL [1]
def mF (N:Nat) (a0:aC):Option (aB):=
 Option.bind (jU N a0.gX) fun r1=>
 Option.bind (jU N a0.gY) fun r2=>
 Option.bind (jU N a0.gZ) fun r3=>
 some (aB.mk r1 r2 r3)
theorem qW {N a0 r} (h:mF N a0=some r):FnM Tryz.prog 83 [] [(aC.enc a0)] (aB.enc r) []:=by
 unfold mF at h
 refine At.f aOJ hT hmo Tryz.func83 rfl h ?_
 refine bi fun r1 hr1=>?_
 refine bi fun r2 hr2=>?_
 refine bi fun r3 hr3=>?_
 refine At.d 2 (dE2 2 (j64 r1) (fun _=>aO (kX hr1)) (dE2 5 (j64 r2) (fun _=>aO (kX hr2)) (dE2 8 (j64 r3) (fun _=>aO (kX hr3)) dE0))) dF0 ?_
 apply rt;exact At.r 0
def sS (N:Nat) (a0:Int):Option (aP):=
 some (aP.mk (shr .i64 a0 63) (U64 a0))
theorem yD {N a0 r} (h:sS N a0=some r):FnM Tryz.prog 255 [] [(j64 a0)] (aP.enc r) []:=by
 unfold sS at h
 refine At.f dJ hT hmo Tryz.func255 rfl h ?_
 apply rt;exact At.r 7
def aK8 : Nat→Bool:=imL [2]
def yT (N:Nat) (a0:aP) (a1:Int):Option (aP):=
 aV (decide ((jH a1 0)≥64)) fun x1=>
 cond x1 (
  aV (kE (I64 ((jH a1 0) - 64)) 63) fun x2=>
  Option.bind (aEq .i64 a0.gHi x2) fun x3=>
  Option.bind (sS N x3) fun r4=>
  some r4) (
  cond ((jH a1 0)==0) (
   some a0) (
   Option.bind (aEq .i64 a0.gHi (jH a1 0)) fun x5=>
   Option.bind (aEq .u64 a0.gLo (jH a1 0)) fun x6=>
   Option.bind (aIj .u64 (U64 a0.gHi) (I64 (64 - (jH a1 0)))) fun x7=>
   some (aP.mk x5 (bor .u64 x6 x7))))
theorem aJP {N a0 a1 r} (h:yT N a0 a1=some r):FnM Tryz.prog 234 [] [(aP.enc a0),(j64 a1)] (aP.enc r) []:=by
 unfold yT at h
 refine At.f aK8 hT hmo Tryz.func234 rfl h ?_
 refine lx ?_;intro x1
 refine At.c 7 ?_ ?_
 ·refine lx ?_;intro x2
  refine At.b 5 (fun _ e=>xQ hT (k' := .i64) e (by kernel_rfl) (by kernel_rfl)) fun x3=>?_
  refine At.b 0 (fun _ e=>aN [] (yD e)) fun r4=>?_
  apply rt;exact At.r 1
 ·refine At.c 2 ?_ ?_
  ·apply rt;exact At.r 2
  ·refine bi fun x5 hx5=>?_
   refine bi fun x6 hx6=>?_
   refine bi fun x7 hx7=>?_
   refine At.d 0 (dE1 3 (fun _=>xQ hT (k' := .i64) hx5 (by kernel_rfl) (by kernel_rfl)) (dE1 7 (fun _=>xQ hT (k' := .i64) hx6 (by kernel_rfl) (by kernel_rfl)) (dE1 13 (fun _=>aB7 hT (k' := .i64) hx7 (by kernel_rfl) (by kernel_rfl)) dE0))) dF0 ?_
   apply rt;exact At.r 0
def sX (N:Nat) (a0:(List Int)):Nat→Int→Int→Option (Int)
 | 0,_,_=>none
 | k+1,s2,s3=>
  aV (decide (s3 < ((a0.length:Int)))) fun x4=>
  cond x4 (
   Option.bind (Option.bind (idx a0 s3) fun e6=>
   cond (s3==0) (
    some e6) (
    Option.bind (fJ N s2 e6) fun r7=>
    Option.bind (yT N r7 32) fun r8=>
    Option.bind (rF N r8) fun r9=>
    some r9)) fun p5=>
   sX N a0 k p5 (I64 (s3+1))) (
   some s2)
def aAb (N:Nat) (a0:(List Int)):Option (Int):=
 Option.bind (sX N a0 N 4294967296 0) fun p1=>
 some p1
theorem aKM {N a0 r} (h:aAb N a0=some r):FnM Tryz.prog 173 [] [(eL 1 j64 a0)] (j64 r) []:=by
 unfold aAb at h
 refine At.f dJ hT hmo Tryz.func173 rfl h ?_
 refine At.L 5 [] 0 (fun p1=>([(3,(j64 p1))],[],[])) (fun p1 J k=>∃ s2 s3,sX N a0 k s2 s3=some p1∧J [6,7] 0 [(3,(j64 s2)),(8,(j64 s3))] [] []) N (fun _ h=>⟨_,_,h,jr⟩) (fun p1 k s hI=>?_) fun p1=>?_
 ·obtain ⟨s2,s3,h,hj⟩:=hI
  cases k with
  | zero=>cases h
  | succ k=>
   refine At.jr hj ?_ h
   refine lx ?_;intro x4
   refine At.c 1 ?_ ?_
   ·refine At.J 0 2 [6,7,8] 0 (fun p5=>([(3,(j64 p5))],[],[])) (fun p5=>?_) fun p5=>?_
    ·refine At.b 1 (fun _ e=>cH hT j64 e) fun e6=>?_
     refine At.c 5 ?_ ?_
     ·apply rt;exact At.jn 2
     ·refine At.b 2 (fun _ e=>aN [] (kD e)) fun r7=>?_
      refine At.b 0 (fun _ e=>aN [] (aJP e)) fun r8=>?_
      refine At.b 0 (fun _ e=>aN [] (aBU e)) fun r9=>?_
      apply rt;exact At.jn 1
    ·exact fun h=>At.k 2 ⟨_,_,h,jr⟩
   ·apply rt;exact At.x 0
 ·apply rt;exact At.r 2
def qO (N:Nat) (a0 a1:Int):Option (Int):=
 Option.bind (aAb N ([a0,a1])) fun r1=>
 some r1
theorem yY {N a0 a1 r} (h:qO N a0 a1=some r):FnM Tryz.prog 172 [] [(j64 a0),(j64 a1)] (j64 r) []:=by
 unfold qO at h
 refine At.f dJ hT hmo Tryz.func172 rfl h ?_
 refine At.o 3 (cT hT (x:=(.sl 1 2 [(j64 a0),(j64 a1)]))) ?_
 refine At.b 0 (fun _ e=>aN [] (aKM e)) fun r1=>?_
 apply rt;exact At.r 1
def aCe : Nat→Bool:=imL [3,4]
def nE (N:Nat) (a0 a1:aB):Option (aB):=
 Option.bind (qO N a0.gX a1.gX) fun r1=>
 Option.bind (qO N a0.gY a1.gY) fun r2=>
 Option.bind (qO N a0.gZ a1.gZ) fun r3=>
 some (aB.mk r1 r2 r3)
theorem aCG {N a0 a1 r} (h:nE N a0 a1=some r):FnM Tryz.prog 137 [] [(aB.enc a0),(aB.enc a1),(.fn (.func 172) [] [])] (aB.enc r) []:=by
 unfold nE at h
 refine At.f aCe hT hmo Tryz.func137 rfl h ?_
 refine bi fun r1 hr1=>?_
 refine bi fun r2 hr2=>?_
 refine bi fun r3 hr3=>?_
 refine At.d 3 (dE2 5 (j64 r1) (fun _=>aO (yY hr1)) (dE2 11 (j64 r2) (fun _=>aO (yY hr2)) (dE2 17 (j64 r3) (fun _=>aO (yY hr3)) dE0))) dF0 ?_
 apply rt;exact At.r 0
def jT (N:Nat) (a0:(List aB)):Nat→aB→Int→Option (aB)
 | 0,_,_=>none
 | k+1,s2,s3=>
  aV (decide (s3 < ((a0.length:Int)))) fun x4=>
  cond x4 (
   Option.bind (idx a0 s3) fun e5=>
   Option.bind (nE N s2 e5) fun r6=>
   jT N a0 k r6 (I64 (s3+1))) (
   some s2)
def iE (N:Nat) (a0:(List aB)):Option (aB):=
 Option.bind (jT N a0 N (aB.mk 4294967296 4294967296 4294967296) 0) fun p1=>
 some p1
theorem qE {N a0 r} (h:iE N a0=some r):FnM Tryz.prog 90 [] [(eL 3 aB.enc a0)] (aB.enc r) []:=by
 unfold iE at h
 refine At.f dJ hT hmo Tryz.func90 rfl h ?_
 refine At.L 7 [2,3] 2 (fun p1=>([],[(1,.var (aB.enc p1))],[])) (fun p1 J k=>∃ s2 s3,jT N a0 k s2 s3=some p1∧J [2,3,7,8] 2 [(9,(j64 s3))] [(1,.var (aB.enc s2))] []) N (fun _ h=>⟨_,_,h,jr⟩) (fun p1 k s hI=>?_) fun p1=>?_
 ·obtain ⟨s2,s3,h,hj⟩:=hI
  cases k with
  | zero=>cases h
  | succ k=>
   refine At.jr hj ?_ h
   refine lx ?_;intro x4
   refine At.c 1 ?_ ?_
   ·refine At.b 0 (fun _ e=>cH hT aB.enc e) fun e5=>?_
    refine At.b 5 (fun _ e=>aN [] (aCG e)) fun r6=>?_
    exact fun h=>At.k 3 ⟨_,_,h,jr⟩
   ·apply rt;exact At.x 0
 ·apply rt;exact At.r 2
def aJC : Nat→Bool:=imL [2]
def iC (N:Nat) (a0:aB) (a1:Int):Option (aB):=
 Option.bind (iE N ([a0,aB.mk a1 a1 a1])) fun r1=>
 some r1
theorem jK {N a0 a1 r} (h:iC N a0 a1=some r):FnM Tryz.prog 80 [] [(aB.enc a0),(j64 a1)] (aB.enc r) []:=by
 unfold iC at h
 refine At.f aJC hT hmo Tryz.func80 rfl h ?_
 refine At.o 7 (cT hT (x:=(.sl 3 2 [(aB.enc a0),(.st 3 [(j64 a1),(j64 a1),(j64 a1)])]))) ?_
 refine At.b 0 (fun _ e=>aN [] (qE e)) fun r1=>?_
 apply rt;exact At.r 1
def aGi : Nat→Bool:=imL [6,11]
def tR (N:Nat) (a0:bP) (a1 a2 a3 a4:Int) (a5:(Vector Int 2)):Option (aB×Int):=
 Option.bind (sK N a0 a1 a2) fun r1=>
 cond (r1 != 0) (
  some ((aB.mk 0 0 0,r1))) (
  aV (cond (decide (a3 < 0)) true (decide (a3≥a1))) fun x2=>
  aV (cond x2 true (decide (a4 < 0))) fun x3=>
  aV (cond x3 true (decide (a4≥a2))) fun x4=>
  cond x4 (
   some ((aB.mk 0 0 0,2))) (
   aV (I64 ((I64 (2*a3)) - a1)) fun x5=>
   Option.bind (jU N x5) fun r6=>
   Option.bind (idx a5.toList 0) fun e7=>
   Option.bind (oT N e7) fun r8=>
   Option.bind (lY N ([r6,I64 (2*r8)])) fun r9=>
   Option.bind (jU N a1) fun r10=>
   Option.bind (pO N r9 r10) fun r11=>
   aV (I64 (a2 - (I64 (2*a4)))) fun x12=>
   Option.bind (jU N x12) fun r13=>
   Option.bind (idx a5.toList 1) fun e14=>
   Option.bind (oT N e14) fun r15=>
   Option.bind (sF N r13 (I64 (2*r15))) fun r16=>
   Option.bind (jU N a2) fun r17=>
   Option.bind (pO N r16 r17) fun r18=>
   Option.bind (mF N a0.gE2) fun r19=>
   Option.bind (mF N a0.gA7) fun r20=>
   Option.bind (iC N r20 r11) fun r21=>
   Option.bind (mF N a0.gUp) fun r22=>
   Option.bind (iC N r22 r18) fun r23=>
   Option.bind (kZ N ([r19,r21,r23])) fun r24=>
   some ((r24,0))))
theorem aGO {N a0 a1 a2 a3 a4 a5 r} (h:tR N a0 a1 a2 a3 a4 a5=some r):FnM Tryz.prog 77 [] [(bP.enc a0),(j64 a1),(j64 a2),(j64 a3),(j64 a4),(eA 2 1 k32 a5)] (.tup [(aB.enc r.1),(j64 r.2)]) []:=by
 unfold tR at h
 refine At.f aGi hT hmo Tryz.func77 rfl h ?_
 refine At.b 7 (fun _ e=>aN [] (aCP e)) fun r1=>?_
 refine At.c 3 ?_ ?_
 ·apply rt;exact At.r 4
 ·refine lx ?_;intro x2
  refine lx ?_;intro x3
  refine lx ?_;intro x4
  refine At.c 16 ?_ ?_
  ·apply rt;exact At.r 3
  ·refine lx ?_;intro x5
   refine bi fun r6 hr6=>?_
   refine bi fun e7 he7=>?_
   refine bi fun r8 hr8=>?_
   refine bi fun r9 hr9=>?_
   refine bi fun r10 hr10=>?_
   refine bi fun r11 hr11=>?_
   refine At.d 0 (dE2 4 (j64 r6) (fun _=>aO (kX hr6)) (dE1 5 (fun _=>dG hT (N:=2) (k:=1) k32 a5 he7) (dE2 7 (j64 r8) (fun _=>aO (yE hr8)) (dE1 9 (fun _=>cT hT (x:=(.sl 1 2 [(j64 r6),(j64 (I64 (2*r8)))]))) (dE2 10 (j64 r9) (fun _=>aO (tW hr9)) (dE2 12 (j64 r10) (fun _=>aO (kX hr10)) (dE2 13 (j64 r11) (fun _=>aO (uH hr11)) dE0))))))) dF0 ?_
   refine lx ?_;intro x12
   refine bi fun r13 hr13=>?_
   refine bi fun e14 he14=>?_
   refine bi fun r15 hr15=>?_
   refine bi fun r16 hr16=>?_
   refine bi fun r17 hr17=>?_
   refine bi fun r18 hr18=>?_
   refine At.d 0 (dE2 4 (j64 r13) (fun _=>aO (kX hr13)) (dE1 5 (fun _=>dG hT (N:=2) (k:=1) k32 a5 he14) (dE2 7 (j64 r15) (fun _=>aO (yE hr15)) (dE2 9 (j64 r16) (fun _=>aO (yW hr16)) (dE2 11 (j64 r17) (fun _=>aO (kX hr17)) (dE2 12 (j64 r18) (fun _=>aO (uH hr18)) dE0)))))) dF0 ?_
   refine bi fun r19 hr19=>?_
   refine bi fun r20 hr20=>?_
   refine bi fun r21 hr21=>?_
   refine bi fun r22 hr22=>?_
   refine bi fun r23 hr23=>?_
   refine bi fun r24 hr24=>?_
   refine At.d 0 (dE2 2 (aB.enc r19) (fun _=>aO (qW hr19)) (dE2 5 (aB.enc r20) (fun _=>aO (qW hr20)) (dE2 7 (aB.enc r21) (fun _=>aO (jK hr21)) (dE2 10 (aB.enc r22) (fun _=>aO (qW hr22)) (dE2 12 (aB.enc r23) (fun _=>aO (jK hr23)) (dE1 13 (fun _=>cT hT (x:=(.sl 3 3 [(aB.enc r19),(aB.enc r21),(aB.enc r23)]))) (dE2 14 (aB.enc r24) (fun _=>aO (vR hr24)) dE0))))))) dF0 ?_
   apply rt;exact At.r 0
def pR (N:Nat) (a0 a1:Int):Option (Int):=
 aV (kE (jH a1 0) 2147483648) fun x1=>
 aV (U64 ((U64 a0)*(U64 x1))) fun x2=>
 some (I64 (shr .u64 x2 32))
theorem aBC {N a0 a1 r} (h:pR N a0 a1=some r):FnM Tryz.prog 151 [] [(k32 a0),(j64 a1)] (j64 r) []:=by
 unfold pR at h
 refine At.f dJ hT hmo Tryz.func151 rfl h ?_
 refine lx ?_;intro x1
 refine lx ?_;intro x2
 apply rt;exact At.r 13
def lW (N:Nat) (a0:Int) (a1:bP):Option (Int):=
 aV (I64 ((I64 (2*a1.gD0))+1)) fun x1=>
 Option.bind (pR N a0 x1) fun r2=>
 Option.bind (jU N (I64 (r2 - a1.gD0))) fun r3=>
 Option.bind (jU N 16384) fun r4=>
 Option.bind (pO N r3 r4) fun r5=>
 some r5
theorem yR {N a0 a1 r} (h:lW N a0 a1=some r):FnM Tryz.prog 150 [] [(k32 a0),(.im (bP.enc a1))] (j64 r) []:=by
 unfold lW at h
 refine At.f dJ hT hmo Tryz.func150 rfl h ?_
 refine lx ?_;intro x1
 refine bi fun r2 hr2=>?_
 refine bi fun r3 hr3=>?_
 refine bi fun r4 hr4=>?_
 refine bi fun r5 hr5=>?_
 refine At.d 1 (dE2 5 (j64 r2) (fun _=>aO (aBC hr2)) (dE2 9 (j64 r3) (fun _=>aO (kX hr3)) (dE2 10 (j64 r4) (fun _=>aO (kX hr4)) (dE2 11 (j64 r5) (fun _=>aO (uH hr5)) dE0)))) dF0 ?_
 apply rt;exact At.r 0
def rD (N:Nat) (a0:Int):Option (Int):=
 aV (eZ .i64 (shr .i64 a0 31) 1) fun x1=>
 aV (I64 ((shr .i64 a0 32)+x1)) fun x2=>
 some x2
theorem aAi {N a0 r} (h:rD N a0=some r):FnM Tryz.prog 152 [] [(j64 a0)] (j64 r) []:=by
 unfold rD at h
 refine At.f dJ hT hmo Tryz.func152 rfl h ?_
 refine lx ?_;intro x1
 refine lx ?_;intro x2
 apply rt;exact At.r 8
def aHl : Nat→Bool:=imL [2,3]
def vC (N:Nat) (a0:bP) (a1:(Vector Int 4)):Option (aC):=
 Option.bind (mF N a0.gA7) fun r1=>
 Option.bind (idx a1.toList 2) fun e2=>
 Option.bind (lW N e2 a0) fun r3=>
 Option.bind (iC N r1 r3) fun r4=>
 Option.bind (mF N a0.gUp) fun r5=>
 Option.bind (idx a1.toList 3) fun e6=>
 Option.bind (lW N e6 a0) fun r7=>
 Option.bind (iC N r5 r7) fun r8=>
 Option.bind (kZ N ([r4,r8])) fun r9=>
 Option.bind (rD N r9.gX) fun r10=>
 Option.bind (rD N r9.gY) fun r11=>
 Option.bind (rD N r9.gZ) fun r12=>
 some (aC.mk r10 r11 r12)
theorem aGf {N a0 a1 r} (h:vC N a0 a1=some r):FnM Tryz.prog 78 [] [(bP.enc a0),(eA 4 1 k32 a1)] (aC.enc r) []:=by
 unfold vC at h
 refine At.f aHl hT hmo Tryz.func78 rfl h ?_
 refine At.o 3 (qJ (x:=(.fn (.func 150) [] [(.im (bP.enc a0))])) (by kernel_rfl) (by kernel_rfl)) ?_
 refine bi fun r1 hr1=>?_
 refine bi fun e2 he2=>?_
 refine bi fun r3 hr3=>?_
 refine bi fun r4 hr4=>?_
 refine bi fun r5 hr5=>?_
 refine bi fun e6 he6=>?_
 refine bi fun r7 hr7=>?_
 refine bi fun r8 hr8=>?_
 refine bi fun r9 hr9=>?_
 refine At.d 1 (dE2 2 (aB.enc r1) (fun _=>aO (qW hr1)) (dE1 4 (fun _=>dG hT (N:=4) (k:=1) k32 a1 he2) (dE2 6 (j64 r3) (fun _=>aO (yR hr3)) (dE2 7 (aB.enc r4) (fun _=>aO (jK hr4)) (dE2 10 (aB.enc r5) (fun _=>aO (qW hr5)) (dE1 12 (fun _=>dG hT (N:=4) (k:=1) k32 a1 he6) (dE2 14 (j64 r7) (fun _=>aO (yR hr7)) (dE2 15 (aB.enc r8) (fun _=>aO (jK hr8)) (dE1 16 (fun _=>cT hT (x:=(.sl 3 2 [(aB.enc r4),(aB.enc r8)]))) (dE2 17 (aB.enc r9) (fun _=>aO (vR hr9)) dE0)))))))))) dF0 ?_
 refine bi fun r10 hr10=>?_
 refine bi fun r11 hr11=>?_
 refine bi fun r12 hr12=>?_
 refine At.d 0 (dE2 2 (j64 r10) (fun _=>aO (aAi hr10)) (dE2 5 (j64 r11) (fun _=>aO (aAi hr11)) (dE2 8 (j64 r12) (fun _=>aO (aAi hr12)) dE0))) dF0 ?_
 apply rt;exact At.r 0
def aFx : Nat→Bool:=imL [3,4]
def uT (N:Nat) (a0 a1:aB):Option (aB):=
 Option.bind (sF N a0.gX a1.gX) fun r1=>
 Option.bind (sF N a0.gY a1.gY) fun r2=>
 Option.bind (sF N a0.gZ a1.gZ) fun r3=>
 some (aB.mk r1 r2 r3)
theorem aEz {N a0 a1 r} (h:uT N a0 a1=some r):FnM Tryz.prog 137 [] [(aB.enc a0),(aB.enc a1),(.fn (.func 149) [] [])] (aB.enc r) []:=by
 unfold uT at h
 refine At.f aFx hT hmo Tryz.func137 rfl h ?_
 refine bi fun r1 hr1=>?_
 refine bi fun r2 hr2=>?_
 refine bi fun r3 hr3=>?_
 refine At.d 3 (dE2 5 (j64 r1) (fun _=>aO (yW hr1)) (dE2 11 (j64 r2) (fun _=>aO (yW hr2)) (dE2 17 (j64 r3) (fun _=>aO (yW hr3)) dE0))) dF0 ?_
 apply rt;exact At.r 0
def aM7 : Nat→Bool:=imL [2,3]
def sV (N:Nat) (a0 a1:aB):Option (aB):=
 Option.bind (uT N a0 a1) fun r1=>
 some r1
theorem aAr {N a0 a1 r} (h:sV N a0 a1=some r):FnM Tryz.prog 79 [] [(aB.enc a0),(aB.enc a1)] (aB.enc r) []:=by
 unfold sV at h
 refine At.f aM7 hT hmo Tryz.func79 rfl h ?_
 refine At.b 5 (fun _ e=>aN [] (aEz e)) fun r1=>?_
 apply rt;exact At.r 1
def sL (N:Nat) (a0:Int):Option (Int):=
 Option.bind (sF N 0 a0) fun r1=>
 some r1
theorem aAt {N a0 r} (h:sL N a0=some r):FnM Tryz.prog 231 [] [(j64 a0)] (j64 r) []:=by
 unfold sL at h
 refine At.f dJ hT hmo Tryz.func231 rfl h ?_
 refine At.b 2 (fun _ e=>aN [] (yW e)) fun r1=>?_
 apply rt;exact At.r 1
def wA (N:Nat) (a0:Int):Option (Int):=
 Option.bind (sL N a0) fun r1=>
 some (jH a0 r1)
theorem aCW {N a0 r} (h:wA N a0=some r):FnM Tryz.prog 219 [] [(j64 a0)] (j64 r) []:=by
 unfold wA at h
 refine At.f dJ hT hmo Tryz.func219 rfl h ?_
 refine At.b 3 (fun _ e=>aN [] (aAt e)) fun r1=>?_
 apply rt;exact At.r 2
def aKg : Nat→Bool:=imL [1]
def vV (N:Nat) (a0:aB):Option (Int):=
 Option.bind (wA N a0.gX) fun r1=>
 Option.bind (wA N a0.gY) fun r2=>
 Option.bind (wA N a0.gZ) fun r3=>
 some (jH (jH r1 r2) r3)
theorem aEK {N a0 r} (h:vV N a0=some r):FnM Tryz.prog 156 [] [(aB.enc a0)] (j64 r) []:=by
 unfold vV at h
 refine At.f aKg hT hmo Tryz.func156 rfl h ?_
 refine bi fun r1 hr1=>?_
 refine bi fun r2 hr2=>?_
 refine bi fun r3 hr3=>?_
 refine At.d 2 (dE2 2 (j64 r1) (fun _=>aO (aCW hr1)) (dE2 5 (j64 r2) (fun _=>aO (aCW hr2)) (dE2 8 (j64 r3) (fun _=>aO (aCW hr3)) (dE1 9 (fun _=>yL (k := .i64) (i:=r1) (j:=r2) (l:=r3) (by kernel_rfl) (by kernel_rfl)) dE0)))) dF0 ?_
 apply rt;exact At.r 0
def iV (N:Nat) (a0 a1 a2:Int):Option (Int):=
 cond (a2==0) (
  some 0) (
  Option.bind (fJ N a0 a1) fun r1=>
  Option.bind (oP N r1 a2) fun r2=>
  Option.bind (oN N r2.1) fun r3=>
  cond r3.2 (
   some r3.1) (
   cond (decide (r2.1.gHi < 0)) (some (-9223372036854775808)) (some 9223372036854775807)))
theorem sC {N a0 a1 a2 r} (h:iV N a0 a1 a2=some r):FnM Tryz.prog 158 [] [(j64 a0),(j64 a1),(j64 a2)] (j64 r) []:=by
 unfold iV at h
 refine At.f dJ hT hmo Tryz.func158 rfl h ?_
 refine At.c 3 ?_ ?_
 ·apply rt;exact At.r 1
 ·refine At.b 2 (fun _ e=>aN [] (kD e)) fun r1=>?_
  refine At.b 4 (fun _ e=>aN [] (zM e)) fun r2=>?_
  refine At.b 9 (fun _ e=>aN [] (wL e)) fun r3=>?_
  refine At.c 6 ?_ ?_
  ·apply rt;exact At.r 2
  ·refine At.c 3 ?_ ?_
   ·apply rt;exact At.r 1
   ·apply rt;exact At.r 1
def jP (N:Nat) (a0 a1:Int):Option (Int):=
 Option.bind (iV N a0 16384 a1) fun r1=>
 some (jH r1 (-16384))
theorem tY {N a0 a1 r} (h:jP N a0 a1=some r):FnM Tryz.prog 157 [] [(j64 a0),(.im (j64 a1))] (j64 r) []:=by
 unfold jP at h
 refine At.f dJ hT hmo Tryz.func157 rfl h ?_
 refine At.b 3 (fun _ e=>aN [] (sC e)) fun r1=>?_
 apply rt;exact At.r 2
def aHq : Nat→Bool:=imL [1]
def sO (N:Nat) (a0:aB):Option (aC×Int):=
 Option.bind (vV N a0) fun r1=>
 cond (r1==0) (
  some ((aC.mk 0 0 0,2))) (
  Option.bind (jP N a0.gX r1) fun r2=>
  Option.bind (jP N a0.gY r1) fun r3=>
  Option.bind (jP N a0.gZ r1) fun r4=>
  some ((aC.mk r2 r3 r4,0)))
theorem aCM {N a0 r} (h:sO N a0=some r):FnM Tryz.prog 84 [] [(aB.enc a0)] (.tup [(aC.enc r.1),(j64 r.2)]) []:=by
 unfold sO at h
 refine At.f aHq hT hmo Tryz.func84 rfl h ?_
 refine At.b 4 (fun _ e=>aN [] (aEK e)) fun r1=>?_
 refine At.c 4 ?_ ?_
 ·apply rt;exact At.r 3
 ·refine At.gz 0 1 ((j64 r1)) ?_
  refine At.o 0 (qJ (x:=(.fn (.func 157) [] [(.im (j64 r1))])) (by kernel_rfl) (by kernel_rfl)) ?_
  refine bi fun r2 hr2=>?_
  refine bi fun r3 hr3=>?_
  refine bi fun r4 hr4=>?_
  refine At.d 1 (dE2 3 (j64 r2) (fun _=>aO (tY hr2)) (dE2 7 (j64 r3) (fun _=>aO (tY hr3)) (dE2 11 (j64 r4) (fun _=>aO (tY hr4)) dE0))) dF0 ?_
  apply rt;exact At.r 0
def aKy : Nat→Bool:=imL [6,11]
def rX (N:Nat) (a0:bP) (a1 a2 a3 a4:Int) (a5:(Vector Int 4)):Option (aC×aC×Int):=
 Option.bind (idx a5.toList 0) fun e1=>
 Option.bind (idx a5.toList 1) fun e2=>
 Option.bind (tR N a0 a1 a2 a3 a4 (#v[e1,e2])) fun r3=>
 cond (r3.2 != 0) (
  some ((aC.mk 0 0 0,aC.mk 0 0 0,r3.2))) (
  Option.bind (cond (decide (a0.gD0 > 0)) (
   Option.bind (vC N a0 a5) fun r5=>
   aV (I64 (a0.gA5.gX+r5.gX)) fun x6=>
   aV (I64 (a0.gA5.gY+r5.gY)) fun x7=>
   aV (I64 (a0.gA5.gZ+r5.gZ)) fun x8=>
   Option.bind (jU N a0.gD5) fun r9=>
   Option.bind (jU N 16384) fun r10=>
   Option.bind (pO N r9 r10) fun r11=>
   Option.bind (iC N r3.1 r11) fun r12=>
   Option.bind (mF N r5) fun r13=>
   Option.bind (sV N r12 r13) fun r14=>
   some ((aC.mk ((I64 (a0.gA5.gX+r5.gX))) ((I64 (a0.gA5.gY+r5.gY))) ((I64 (a0.gA5.gZ+r5.gZ))),r14))) (
   some ((a0.gA5,r3.1)))) fun p4=>
  Option.bind (sO N p4.2) fun r15=>
  cond (r15.2 != 0) (
   some ((aC.mk 0 0 0,aC.mk 0 0 0,r15.2))) (
   some ((p4.1,r15.1,0))))
theorem aEj {N a0 a1 a2 a3 a4 a5 r} (h:rX N a0 a1 a2 a3 a4 a5=some r):FnM Tryz.prog 33 [] [(bP.enc a0),(j64 a1),(j64 a2),(j64 a3),(j64 a4),(eA 4 1 k32 a5)] (.tup [(aC.enc r.1),(aC.enc r.2.1),(j64 r.2.2)]) []:=by
 unfold rX at h
 refine At.f aKy hT hmo Tryz.func33 rfl h ?_
 refine At.b 10 (fun _ e=>dG hT (N:=4) (k:=1) k32 a5 e) fun e1=>?_
 refine At.b 1 (fun _ e=>dG hT (N:=4) (k:=1) k32 a5 e) fun e2=>?_
 refine At.b 2 (fun _ e=>aN [] (aGO e)) fun r3=>?_
 refine At.c 8 ?_ ?_
 ·refine At.d 0 dE0 dF0 ?_
  apply rt;exact At.r 0
 ·refine At.J 3 1 [12,13,15] 3 (fun p4=>([],[(0,.var (aC.enc p4.1)),(2,.var (aB.enc p4.2))],[])) (fun p4=>?_) fun p4=>?_
  ·refine At.c 3 ?_ ?_
   ·refine At.b 2 (fun _ e=>aN [] (aGf e)) fun r5=>?_
    refine lx ?_;intro x6
    refine lx ?_;intro x7
    refine lx ?_;intro x8
    refine bi fun r9 hr9=>?_
    refine bi fun r10 hr10=>?_
    refine bi fun r11 hr11=>?_
    refine bi fun r12 hr12=>?_
    refine bi fun r13 hr13=>?_
    refine bi fun r14 hr14=>?_
    refine At.d 19 (dE2 3 (j64 r9) (fun _=>aO (kX hr9)) (dE2 4 (j64 r10) (fun _=>aO (kX hr10)) (dE2 5 (j64 r11) (fun _=>aO (uH hr11)) (dE2 6 (aB.enc r12) (fun _=>aO (jK hr12)) (dE2 8 (aB.enc r13) (fun _=>aO (qW hr13)) (dE2 9 (aB.enc r14) (fun _=>aO (aAr hr14)) dE0)))))) dF0 ?_
    apply rt;exact At.jn 0
   ·apply rt;exact At.jn 0
  ·refine At.b 1 (fun _ e=>aN [] (aCM e)) fun r15=>?_
   refine At.c 7 ?_ ?_
   ·apply rt;exact At.r 6
   ·refine At.d 0 dE0 dF0 ?_
    apply rt;exact At.r 0
def iG (N:Nat) (a0:aM):Option (Bool):=
 some (!a0.gA)
theorem xG {N a0 r} (h:iG N a0=some r):FnM Tryz.prog 304 [.var (aM.enc a0)] [(.ref 0 [] 0)] (eB r) [.var (aM.enc a0)]:=by
 unfold iG at h
 refine At.f dJ hT hmo Tryz.func304 rfl h ?_
 refine At.o 2 (nY hT (t:=91) (x:=(.ref 0 [] 0)) (b:=true) (by kernel_rfl) rfl rfl (by kernel_rfl)) ?_
 refine At.g [5] 8 ?_
 apply rt;exact At.r 0
def aKe : Nat→Bool:=imL [2,3]
def nD (N:Nat) (a0 a1:aP):Option (Int):=
 cond (aP.eq a0 a1) (
  some 0) (
  Option.bind (aV (decide (a0.gHi < a1.gHi)) fun x2=>
  cond x2 (
   some x2) (
   aV (decide (a0.gLo < a1.gLo)) fun x3=>
   aV (cond (a0.gHi==a1.gHi) x3 false) fun x4=>
   some x4)) fun p1=>
  cond p1 (some (-1)) (some 1))
theorem zO {N a0 a1 r} (h:nD N a0 a1=some r):FnM Tryz.prog 256 [] [(aP.enc a0),(aP.enc a1)] (j64 r) []:=by
 unfold nD at h
 refine At.f aKe hT hmo Tryz.func256 rfl h ?_
 refine At.o 5 (aDM aPg (a0:aP) (a1:aP) (by kernel_rfl) (by kernel_rfl) (fun _=>rfl) (fun _=>rfl) (by kernel_rfl) (by kernel_rfl)) ?_
 refine At.c 1 ?_ ?_
 ·apply rt;exact At.r 1
 ·refine At.J 0 1 [] 0 (fun p1=>([(9,(eB p1))],[],[])) (fun p1=>?_) fun p1=>?_
  ·refine lx ?_;intro x2
   refine At.c 6 ?_ ?_
   ·apply rt;exact At.jn 0
   ·refine lx ?_;intro x3
    refine lx ?_;intro x4
    apply rt;exact At.jn 13
  ·refine At.c 0 ?_ ?_
   ·apply rt;exact At.r 1
   ·apply rt;exact At.r 1
def aC7 : Nat→Bool:=imL [2,3]
def dW (N:Nat) (a0 a1:aW):Option (Bool):=
 Option.bind (fJ N a0.gn a1.gd) fun r1=>
 Option.bind (fJ N a1.gn a0.gd) fun r2=>
 Option.bind (nD N r1 r2) fun r3=>
 some (decide (r3 < 0))
theorem kO {N a0 a1 r} (h:dW N a0 a1=some r):FnM Tryz.prog 307 [] [(aW.enc a0),(aW.enc a1)] (eB r) []:=by
 unfold dW at h
 refine At.f aC7 hT hmo Tryz.func307 rfl h ?_
 refine bi fun r1 hr1=>?_
 refine bi fun r2 hr2=>?_
 refine bi fun r3 hr3=>?_
 refine At.d 3 (dE2 4 (aP.enc r1) (fun _=>aO (kD hr1)) (dE2 9 (aP.enc r2) (fun _=>aO (kD hr2)) (dE2 10 (j64 r3) (fun _=>aO (zO hr3)) dE0))) dF0 ?_
 apply rt;exact At.r 0
def aJ2 : Nat→Bool:=imL [4,5,6,7]
def jN (N:Nat) (a0 a1 a2 a3:aC):Nat→aW→aW→Bool→Int→Option (Sum (aW×aW×Bool) (aW×Bool))
 | 0,_,_,_,_=>none
 | k+1,s2,s3,s4,s5=>
  cond (decide (s5 < 3)) (
   Option.bind (Option.bind (idx (#v[#v[a0.gX,a1.gX,a2.gX,a3.gX],#v[a0.gY,a1.gY,a2.gY,a3.gY],#v[a0.gZ,a1.gZ,a2.gZ,a3.gZ]]).toList s5) fun e7=>
   Option.bind (fD 0 4) fun _=>
   Option.bind (e7.toList[(Int.toNat 0)]?) fun e9=>
   Option.bind (fD 2 4) fun _=>
   Option.bind (e7.toList[(Int.toNat 2)]?) fun e11=>
   Option.bind (fD 1 4) fun _=>
   Option.bind (e7.toList[(Int.toNat 1)]?) fun e13=>
   Option.bind (fD 2 4) fun _=>
   Option.bind (e7.toList[(Int.toNat 2)]?) fun e15=>
   Option.bind (fD 3 4) fun _=>
   Option.bind (e7.toList[(Int.toNat 3)]?) fun e17=>
   aV (decide ((I64 (e9 - e11)) > (I64 (e13 - e15)))) fun x18=>
   cond x18 (
    some (Sum.inr ((s2,false)))) (
    Option.bind (cond (e17==0) (
     aV (decide ((I64 (e9 - e11)) > 0)) fun x20=>
     aV (decide ((I64 (e13 - e15)) < 0)) fun x21=>
     some (cond x20 true x21)) (
     some false)) fun p19=>
    cond p19 (
     some (Sum.inr ((s2,false)))) (
     cond (e17==0) (
      some (Sum.inl ((s2,s3,e7,s4)))) (
      cond (decide (e17 < 0)) (
       aV (I64 (0 - (I64 (e13 - e15)))) fun x22=>
       aV (I64 (0 - (I64 (e9 - e11)))) fun x23=>
       Option.bind (Option.bind (dW N s2 (aW.mk x22 (I64 (0 - e17)))) fun r25=>
       cond r25 (some (aW.mk x22 (I64 (0 - e17)))) (some s2)) fun p24=>
       Option.bind (cond (!s4) (
        some true) (
        Option.bind (dW N (aW.mk x23 (I64 (0 - e17))) s3) fun r27=>
        some r27)) fun p26=>
       cond p26 (
        some (Sum.inl ((p24,aW.mk x23 (I64 (0 - e17)),e7,true)))) (
        some (Sum.inl ((p24,s3,e7,s4))))) (
       Option.bind (Option.bind (dW N s2 (aW.mk (I64 (e9 - e11)) e17)) fun r29=>
       cond r29 (some (aW.mk (I64 (e9 - e11)) e17)) (some s2)) fun p28=>
       Option.bind (cond (!s4) (
        some true) (
        Option.bind (dW N (aW.mk (I64 (e13 - e15)) e17) s3) fun r31=>
        some r31)) fun p30=>
       cond p30 (
        some (Sum.inl ((p28,aW.mk (I64 (e13 - e15)) e17,e7,true)))) (
        some (Sum.inl ((p28,s3,e7,s4))))))))) fun o=>lP o (fun p6=>
    jN N a0 a1 a2 a3 k p6.1 p6.2.1 p6.2.2.2 (I64 (s5+1))) (fun r=>some (Sum.inr r))) (
   some (Sum.inl ((s2,s3,s4))))
def oJ (N:Nat) (a0 a1 a2 a3:aC):Option (aW×Bool):=
 Option.bind (jN N a0 a1 a2 a3 N (aW.mk 0 1) (aW.mk 0 0) false 0) fun o=>lP o (fun p1=>
  Option.bind (cond (!p1.2.2) (
   some true) (
   Option.bind (dW N p1.2.1 p1.1) fun r33=>
   some (!r33))) fun p32=>
  some ((p1.1,p32))) (fun r=>some r)
theorem aDB {N a0 a1 a2 a3 r} (h:oJ N a0 a1 a2 a3=some r):FnM Tryz.prog 305 [] [(aC.enc a0),(aC.enc a1),(aC.enc a2),(aC.enc a3)] (.tup [(aW.enc r.1),(eB r.2)]) []:=by
 unfold oJ at h
 refine At.f aJ2 hT hmo Tryz.func305 rfl h ?_
 refine At.LS 41 [8,10] 2 (fun p1=>([(11,(eB p1.2.2))],[(0,.var (aW.enc p1.1)),(1,.var (aW.enc p1.2.1))],[])) (fun op1 J k=>∃ s2 s3 s4 s5,jN N a0 a1 a2 a3 k s2 s3 s4 s5=some op1∧J [8,10,48] 2 [(11,(eB s4)),(49,(j64 s5))] [(0,.var (aW.enc s2)),(1,.var (aW.enc s3))] []) N (fun _ h=>⟨_,_,_,_,h,jr⟩) (fun op1 g1 k s hI=>?_) fun p1=>?_
 ·obtain ⟨s2,s3,s4,s5,h,hj⟩:=hI
  cases k with
  | zero=>cases h
  | succ k=>
   refine At.jr hj ?_ h
   refine At.c 1 ?_ ?_
   ·refine At.JS 0 2 [8,10,48,49] 2 (fun p6=>([(11,(eB p6.2.2.2))],[(0,.var (aW.enc p6.1)),(1,.var (aW.enc p6.2.1))],[.var (eA 4 1 j64 p6.2.2.1)])) (fun op6 g6=>?_) fun p6=>?_
    ·refine At.b 0 (fun _ e=>zP hT (eA 4 1 j64) (#v[#v[a0.gX,a1.gX,a2.gX,a3.gX],#v[a0.gY,a1.gY,a2.gY,a3.gY],#v[a0.gZ,a1.gZ,a2.gZ,a3.gZ]]) e (by kernel_rfl) (by kernel_rfl)) fun e7=>?_
     refine bi fun u8 hu8=>?_
     refine bi fun e9 he9=>?_
     refine bi fun u10 hu10=>?_
     refine bi fun e11 he11=>?_
     refine bi fun u12 hu12=>?_
     refine bi fun e13 he13=>?_
     refine bi fun u14 hu14=>?_
     refine bi fun e15 he15=>?_
     refine bi fun u16 hu16=>?_
     refine bi fun e17 he17=>?_
     refine At.d 2 (dE1 0 (fun _=>bG hT (k:=1) 2 [] 0 hu8) (dEL hT 1 (j64 e9) j64 0 he9 (dE1 2 (fun _=>bG hT (k:=1) 2 [] 0 hu10) (dEL hT 3 (j64 e11) j64 0 he11 (dE1 5 (fun _=>bG hT (k:=1) 2 [] 0 hu12) (dEL hT 6 (j64 e13) j64 0 he13 (dE1 7 (fun _=>bG hT (k:=1) 2 [] 0 hu14) (dEL hT 8 (j64 e15) j64 0 he15 (dE1 10 (fun _=>bG hT (k:=1) 2 [] 0 hu16) (dEL hT 11 (j64 e17) j64 0 he17 dE0)))))))))) dF0 ?_
     refine lx ?_;intro x18
     refine At.c 4 ?_ ?_
     ·intro e;apply rtS2 g6 g1 e;exact At.r 3
     ·refine At.J 0 0 [8,10,11,14,15,16,48,49] 3 (fun p19=>([(69,(eB p19))],[],[])) (fun p19=>?_) fun p19=>?_
      ·refine At.s 72 3 ?_ ?_
       ·refine lx ?_;intro x20
        refine lx ?_;intro x21
        refine At.g [72] 8 ?_
        apply rt;exact At.jn 0
       ·refine At.g [72,75] 8 ?_
        apply rt;exact At.jn 0
      ·refine At.c 0 ?_ ?_
       ·intro e;apply rtS2 g6 g1 e;exact At.r 3
       ·refine At.c 3 ?_ ?_
        ·apply rt;exact At.jsn 0
        ·refine At.c 3 ?_ ?_
         ·refine lx ?_;intro x22
          refine lx ?_;intro x23
          refine At.J 9 1 [8,10,11,15,16,48,49] 3 (fun p24=>([],[(0,.var (aW.enc p24))],[.var (.st 2 [(j64 x22),(j64 (I64 (0 - e17)))])])) (fun p24=>?_) fun p24=>?_
          ·refine At.b 7 (fun _ e=>aN [] (kO e)) fun r25=>?_
           refine At.c 0 ?_ ?_
           ·apply rt;exact At.jn 2
           ·apply rt;exact At.jn 0
          ·refine At.J 5 0 [8,10,11,18,48,49] 5 (fun p26=>([(109,(eB p26))],[],[])) (fun p26=>?_) fun p26=>?_
           ·refine At.s 105 3 ?_ ?_
            ·refine At.g [105] 4 ?_
             apply rt;exact At.jn 0
            ·refine At.g [105] 2 ?_
             refine At.b 0 (fun _ e=>aN [] (kO e)) fun r27=>?_
             refine At.g [105] 1 ?_
             apply rt;exact At.jn 0
           ·refine At.c 0 ?_ ?_
            ·apply rt;exact At.jsn 3
            ·apply rt;exact At.jsn 0
         ·refine At.J 0 1 [8,10,11,15,16,48,49] 3 (fun p28=>([],[(0,.var (aW.enc p28))],[.var (.st 2 [(j64 (I64 (e9 - e11))),(j64 e17)])])) (fun p28=>?_) fun p28=>?_
          ·refine At.b 7 (fun _ e=>aN [] (kO e)) fun r29=>?_
           refine At.c 0 ?_ ?_
           ·apply rt;exact At.jn 2
           ·apply rt;exact At.jn 0
          ·refine At.J 5 0 [8,10,11,18,48,49] 5 (fun p30=>([(109,(eB p30))],[],[])) (fun p30=>?_) fun p30=>?_
           ·refine At.s 105 3 ?_ ?_
            ·refine At.g [105] 4 ?_
             apply rt;exact At.jn 0
            ·refine At.g [105] 2 ?_
             refine At.b 0 (fun _ e=>aN [] (kO e)) fun r31=>?_
             refine At.g [105] 1 ?_
             apply rt;exact At.jn 0
           ·refine At.c 0 ?_ ?_
            ·apply rt;exact At.jsn 3
            ·apply rt;exact At.jsn 0
    ·exact fun h=>At.k 2 ⟨_,_,_,_,h,jr⟩
   ·apply rt;exact At.xs 0
 ·refine At.J 0 0 [8] 2 (fun p32=>([(9,(eB p32))],[],[])) (fun p32=>?_) fun p32=>?_
  ·refine boI (fun hc3=>?_) (fun hc3=>?_)
   ·refine At.d 0 (dE1 3 (fun _=>dM hc3 rfl (dC hT (im:=false) (by kernel_rfl))) dE0) dF0 ?_
    apply rt;exact At.jn 0
   ·refine bi fun r33 hr33=>?_
    refine At.d 0 (dE1 3 (fun _=>dM hc3 rfl (dC hT (im:=false) (by kernel_rfl))) (dE2 6 (eB r33) (fun _=>aO (kO hr33)) dE0)) dF0 ?_
    apply rt;exact At.jn 0
  ·apply rt;exact At.r 0
end Go.UK
