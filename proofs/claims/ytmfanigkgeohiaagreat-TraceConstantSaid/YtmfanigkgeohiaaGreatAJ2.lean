/- A part of the proof: what the functions of the program compute. -/
import Derived.Test.YtmfanigkgeohiaaGreatAJ1
namespace Go.UK
open Go Go.Proofs
set_option maxRecDepth 20000
set_option maxHeartbeats 40000000
set_option linter.all false
attribute [local irreducible] adv aJd aIF aAR brPt aLI aGD pF aAN aL4 eK oC fV aJe aIg lPt owp awl aw FnM aFt opS Stab TOK Big
def aJT : Nat→Bool:=imL [1]
def uP (N:Nat) (a0:aC):Option (Bool):=
 Option.bind (qF N a0 65536) fun r1=>
 some (!r1)
theorem aIr {N a0 r} (h:uP N a0=some r):FnM Tryz.prog 297 [] [(aC.enc a0)] (eB r) []:=by
 unfold uP at h
 refine At.f aJT hT hmo Tryz.func297 rfl h ?_
 refine At.b 3 (fun _ e=>aN [] (aAB e)) fun r1=>?_
 apply rt;exact At.r 2
def dD (N:Nat) (a0:(List aC)):Nat→Int→Option (Sum (Unit) (Int))
 | 0,_=>none
 | k+1,s2=>
  aV (decide (s2 < ((a0.length:Int)))) fun x3=>
  cond x3 (
   Option.bind (idx a0 s2) fun e4=>
   Option.bind (uP N e4) fun r5=>
   cond r5 (
    some (Sum.inr s2)) (
    dD N a0 k (I64 (s2+1)))) (
   some (Sum.inl (())))
def dP (N:Nat) (a0:(List aC)):Option (Int):=
 Option.bind (dD N a0 N 0) fun o=>lP o (fun p1=>
  some (-1)) (fun r=>some r)
theorem oX {N a0 r} (h:dP N a0=some r):FnM Tryz.prog 300 [] [(eL 3 aC.enc a0),(.fn (.func 297) [] [])] (j64 r) []:=by
 unfold dP at h
 refine At.f dJ hT hmo Tryz.func300 rfl h ?_
 refine At.LS 4 [] 0 (fun p1=>([],[],[])) (fun op1 J k=>∃ s2,dD N a0 k s2=some op1∧J [0,1,7] 0 [(8,(j64 s2))] [] []) N (fun _ h=>⟨_,h,jr⟩) (fun op1 g1 k s hI=>?_) fun p1=>?_
 ·obtain ⟨s2,h,hj⟩:=hI
  cases k with
  | zero=>cases h
  | succ k=>
   refine At.jr hj ?_ h
   refine lx ?_;intro x3
   refine At.c 1 ?_ ?_
   ·refine At.b 5 (fun _ e=>cH hT aC.enc e) fun e4=>?_
    refine At.b 1 (fun _ e=>aN [] (aIr e)) fun r5=>?_
    refine At.c 0 ?_ ?_
    ·intro e;apply aCF g1 e;exact At.r 2
    ·exact fun h=>At.k 2 ⟨_,h,jr⟩
   ·apply rt;exact At.xs 0
 ·apply rt;exact At.r 1
def cA (N:Nat) (a0:(List aC)):Option (Bool):=
 Option.bind (dP N a0) fun r1=>
 some (decide (r1≥0))
theorem nO {N a0 r} (h:cA N a0=some r):FnM Tryz.prog 298 [] [(eL 3 aC.enc a0),(.fn (.func 297) [] [])] (eB r) []:=by
 unfold cA at h
 refine At.f dJ hT hmo Tryz.func298 rfl h ?_
 refine At.b 3 (fun _ e=>aN [] (oX e)) fun r1=>?_
 apply rt;exact At.r 2
def aMS : Nat→Bool:=imL [2,3]
def lA (N:Nat) (a0 a1:aC):Option (aC):=
 some (aC.mk (I64 (a0.gX - a1.gX)) (I64 (a0.gY - a1.gY)) (I64 (a0.gZ - a1.gZ)))
theorem rK {N a0 a1 r} (h:lA N a0 a1=some r):FnM Tryz.prog 161 [] [(aC.enc a0),(aC.enc a1)] (aC.enc r) []:=by
 unfold lA at h
 refine At.f aMS hT hmo Tryz.func161 rfl h ?_
 apply rt;exact At.r 20
def aJq : Nat→Bool:=imL [2,3]
def mT (N:Nat) (a0 a1:aC):Option (aC):=
 aV (I64 ((I64 (a0.gY*a1.gZ)) - (I64 (a0.gZ*a1.gY)))) fun x1=>
 aV (I64 ((I64 (a0.gZ*a1.gX)) - (I64 (a0.gX*a1.gZ)))) fun x2=>
 aV (I64 ((I64 (a0.gX*a1.gY)) - (I64 (a0.gY*a1.gX)))) fun x3=>
 some (aC.mk ((I64 ((I64 (a0.gY*a1.gZ)) - (I64 (a0.gZ*a1.gY))))) ((I64 ((I64 (a0.gZ*a1.gX)) - (I64 (a0.gX*a1.gZ))))) ((I64 ((I64 (a0.gX*a1.gY)) - (I64 (a0.gY*a1.gX))))))
theorem xV {N a0 a1 r} (h:mT N a0 a1=some r):FnM Tryz.prog 160 [] [(aC.enc a0),(aC.enc a1)] (aC.enc r) []:=by
 unfold mT at h
 refine At.f aJq hT hmo Tryz.func160 rfl h ?_
 refine lx ?_;intro x1
 refine lx ?_;intro x2
 refine lx ?_;intro x3
 apply rt;exact At.r 38
def aMy : Nat→Bool:=imL [2,3]
def qP (N:Nat) (a0 a1:aC):Option (Int):=
 aV (I64 ((I64 (a0.gX*a1.gX))+(I64 (a0.gY*a1.gY)))) fun x1=>
 aV (I64 (x1+(I64 (a0.gZ*a1.gZ)))) fun x2=>
 some x2
theorem yK {N a0 a1 r} (h:qP N a0 a1=some r):FnM Tryz.prog 299 [] [(aC.enc a0),(aC.enc a1)] (j64 r) []:=by
 unfold qP at h
 refine At.f aMy hT hmo Tryz.func299 rfl h ?_
 refine lx ?_;intro x1
 refine lx ?_;intro x2
 apply rt;exact At.r 21
def aMo : Nat→Bool:=imL [3,4,5]
def pG (N:Nat) (a0 a1:aC) (a2:(Vector aC 3)):Option (aL×Bool):=
 Option.bind (Option.bind (pM N a0 a1) fun r2=>
 cond (!r2) (
  some true) (
  Option.bind (wC a2.toList 0 3) fun s3=>
  Option.bind (cA N s3) fun r4=>
  some r4)) fun p1=>
 cond p1 (
  some ((aL.mk 0 0 0 0,false))) (
  Option.bind (idx a2.toList 1) fun e5=>
  Option.bind (idx a2.toList 0) fun e6=>
  Option.bind (lA N e5 e6) fun r7=>
  Option.bind (idx a2.toList 2) fun e8=>
  Option.bind (idx a2.toList 0) fun e9=>
  Option.bind (lA N e8 e9) fun r10=>
  Option.bind (mT N a1 r10) fun r11=>
  Option.bind (idx a2.toList 0) fun e12=>
  Option.bind (lA N a0 e12) fun r13=>
  Option.bind (mT N r13 r7) fun r14=>
  Option.bind (qP N r10 r14) fun r15=>
  Option.bind (qP N r7 r11) fun r16=>
  Option.bind (qP N r13 r11) fun r17=>
  Option.bind (qP N a1 r14) fun r18=>
  Option.bind (cond (decide (r16 < 0)) (
   some (aL.mk (I64 (0 - r15)) (I64 (0 - r16)) (I64 (0 - r17)) (I64 (0 - r18)))) (
   some (aL.mk r15 r16 r17 r18))) fun p19=>
  aV (cond (p19.gM==0) true (decide (p19.gU < 0))) fun x20=>
  aV (cond x20 true (decide (p19.gV < 0))) fun x21=>
  aV (decide ((I64 (p19.gU+p19.gV)) > p19.gM)) fun x22=>
  aV (cond (cond x21 true x22) true (decide (p19.gT≤0))) fun x23=>
  cond x23 (some ((aL.mk 0 0 0 0,false))) (some ((p19,true))))
theorem aFX {N a0 a1 a2 r} (h:pG N a0 a1 a2=some r):FnM Tryz.prog 296 [] [(aC.enc a0),(aC.enc a1),(eA 9 3 aC.enc a2)] (.tup [(aL.enc r.1),(eB r.2)]) []:=by
 unfold pG at h
 refine At.f aMo hT hmo Tryz.func296 rfl h ?_
 refine At.J 6 0 [3,4,5,6] 1 (fun p1=>([(22,(eB p1))],[],[])) (fun p1=>?_) fun p1=>?_
 ·refine At.b 2 (fun _ e=>aN [] (zA e)) fun r2=>?_
  refine At.s 18 2 ?_ ?_
  ·refine At.g [18] 4 ?_
   apply rt;exact At.jn 0
  ·refine At.b 0 (fun _ e=>aAj hT (N:=9) (k:=3) aC.enc a2 e) fun s3=>?_
   refine At.g [18] 1 ?_
   refine At.b 0 (fun _ e=>aN [] (nO e)) fun r4=>?_
   refine At.g [18] 1 ?_
   apply rt;exact At.jn 0
 ·refine At.c 0 ?_ ?_
  ·apply rt;exact At.r 3
  ·refine bi fun e5 he5=>?_
   refine bi fun e6 he6=>?_
   refine bi fun r7 hr7=>?_
   refine bi fun e8 he8=>?_
   refine bi fun e9 he9=>?_
   refine bi fun r10 hr10=>?_
   refine At.d2 0 [false,false] (dC1 0 (fun _=>dG hT (N:=9) (k:=3) aC.enc a2 he5) (dC1 2 (fun _=>dG hT (N:=9) (k:=3) aC.enc a2 he6) (dC2 4 (aC.enc r7) (fun _=>aO (rK hr7)) (dC1 5 (fun _=>dG hT (N:=9) (k:=3) aC.enc a2 he8) (dC1 7 (fun _=>dG hT (N:=9) (k:=3) aC.enc a2 he9) (dC2 9 (aC.enc r10) (fun _=>aO (rK hr10)) dC0)))))) (dS1 10 ⟨(.ref 1 [] 0),1,.var (.st 3 [(j64 0),(j64 0),(j64 0)]),.dead⟩ [[.var (.st 4 [(j64 0),(j64 0),(j64 0),(j64 0)]),.dead,.dead],[.var (.st 4 [(j64 0),(j64 0),(j64 0),(j64 0)]),.dead,.var (.st 3 [(j64 0),(j64 0),(j64 0)])]] ⟨aX hT 1 (by kernel_rfl) (by kernel_rfl) (by kernel_rfl),aX hT 1 (by kernel_rfl) (by kernel_rfl) (by kernel_rfl),trivial⟩ (dS1 11 ⟨(.ref 2 [] 0),2,.var (.st 3 [(j64 0),(j64 0),(j64 0)]),.dead⟩ [[.var (.st 4 [(j64 0),(j64 0),(j64 0),(j64 0)]),.dead,.dead],[.var (.st 4 [(j64 0),(j64 0),(j64 0),(j64 0)]),.var (.st 3 [(j64 0),(j64 0),(j64 0)]),.dead]] ⟨aX hT 2 (by kernel_rfl) (by kernel_rfl) (by kernel_rfl),aX hT 2 (by kernel_rfl) (by kernel_rfl) (by kernel_rfl),trivial⟩ dS0)) ?_
   refine At.b 2 (fun _ e=>aN [] (xV e)) fun r11=>?_
   refine At.b 3 (fun _ e=>dG hT (N:=9) (k:=3) aC.enc a2 e) fun e12=>?_
   refine At.b 1 (fun _ e=>aN [] (rK e)) fun r13=>?_
   refine At.b 4 (fun _ e=>aN [] (xV e)) fun r14=>?_
   refine bi fun r15 hr15=>?_
   refine bi fun r16 hr16=>?_
   refine bi fun r17 hr17=>?_
   refine bi fun r18 hr18=>?_
   refine At.d 2 (dE2 2 (j64 r15) (fun _=>aO (yK hr15)) (dE2 5 (j64 r16) (fun _=>aO (yK hr16)) (dE2 8 (j64 r17) (fun _=>aO (yK hr17)) (dE2 11 (j64 r18) (fun _=>aO (yK hr18)) dE0)))) dF0 ?_
   refine At.J 0 1 [6] 6 (fun p19=>([],[(0,.var (aL.enc p19))],[])) (fun p19=>?_) fun p19=>?_
   ·refine At.c 3 ?_ ?_
    ·apply rt;exact At.jn 14
    ·apply rt;exact At.jn 0
   ·refine lx ?_;intro x20
    refine lx ?_;intro x21
    refine lx ?_;intro x22
    refine lx ?_;intro x23
    refine At.c 28 ?_ ?_
    ·apply rt;exact At.r 3
    ·apply rt;exact At.r 3
def zZ : Nat→Bool:=imL [7,8]
def cE (N:Nat) (a0 a1:aC) (a2 a3 a4:Int) (a5:aM):Option (aL×Bool):=
 Option.bind (idx a5.gl a4) fun e1=>
 aV ((eZ .u8 e1.gB4 a2)==0) fun x2=>
 aV (cond x2 true (a4==a3)) fun x3=>
 cond x3 (
  some ((aL.mk 0 0 0 0,false))) (
  Option.bind (idx a5.gl a4) fun e4=>
  Option.bind (pG N a0 a1 e4.gP) fun r5=>
  some ((r5.1,r5.2)))
theorem tB {N a0 a1 a2 a3 a4 a5 r} (h:cE N a0 a1 a2 a3 a4 a5=some r):FnM Tryz.prog 306 [.var (aM.enc a5)] [(.ref 0 [] 0),(aC.enc a0),(aC.enc a1),(k8 a2),(j64 a3),(j64 a4)] (.tup [(aL.enc r.1),(eB r.2)]) [.var (aM.enc a5)]:=by
 unfold cE at h
 refine At.f zZ hT hmo Tryz.func306 rfl h ?_
 refine At.b 9 (fun _ e=>cH hT aE.enc e) fun e1=>?_
 refine lx ?_;intro x2
 refine lx ?_;intro x3
 refine At.c 10 ?_ ?_
 ·apply rt;exact At.r 3
 ·refine bi fun e4 he4=>?_
  refine bi fun r5 hr5=>?_
  refine At.d 0 (dE1 7 (fun _=>cH hT aE.enc he4) (dE2 10 (.tup [(aL.enc r5.1),(eB r5.2)]) (fun _=>aO (aFX hr5)) dE0)) dF0 ?_
  apply rt;exact At.r 0
def aJ6 : Nat→Bool:=imL [2,3]
def qH (N:Nat) (a0 a1:aL):Option (Bool):=
 aV (cond (decide (a0.gM < 1)) true (decide (a1.gM < 1))) fun x1=>
 cond x1 (
  some false) (
  Option.bind (fJ N a0.gT a1.gM) fun r2=>
  Option.bind (fJ N a1.gT a0.gM) fun r3=>
  Option.bind (nD N r2 r3) fun r4=>
  some (decide (r4 < 0)))
theorem aBu {N a0 a1 r} (h:qH N a0 a1=some r):FnM Tryz.prog 295 [] [(aL.enc a0),(aL.enc a1)] (eB r) []:=by
 unfold qH at h
 refine At.f aJ6 hT hmo Tryz.func295 rfl h ?_
 refine lx ?_;intro x1
 refine At.c 11 ?_ ?_
 ·apply rt;exact At.r 1
 ·refine bi fun r2 hr2=>?_
  refine bi fun r3 hr3=>?_
  refine bi fun r4 hr4=>?_
  refine At.d 0 (dE2 4 (aP.enc r2) (fun _=>aO (kD hr2)) (dE2 9 (aP.enc r3) (fun _=>aO (kD hr3)) (dE2 10 (j64 r4) (fun _=>aO (zO hr4)) dE0))) dF0 ?_
  apply rt;exact At.r 0
def zC : Nat→Bool:=imL [6,7]
def bN (N:Nat) (s23:(List Int)) (a0 a1:aC) (a2 a3:Int) (a4:aM):Nat→Int→aL→Int→Int→Option (Int×aL×Int)
 | 0,_,_,_,_=>none
 | k+1,s25,s26,s27,s28=>
  aV (decide (s28 < ((s23.length:Int)))) fun x29=>
  cond x29 (
   Option.bind (Option.bind (idx s23 s28) fun e31=>
   Option.bind (cE N a0 a1 a2 a3 e31 (aM.mk a4.gR a4.gA a4.gl (I64 (s25+1)))) fun r32=>
   Option.bind (cond r32.2 (
    cond (decide (s27 < 0)) (
     some true) (
     Option.bind (qH N r32.1 s26) fun r34=>
     cond r34 (
      some true) (
      cond (decide (e31 < s27)) (
       Option.bind (qH N s26 r32.1) fun r35=>
       some (!r35)) (
       some false)))) (
    some false)) fun p33=>
   cond p33 (some ((r32.1,r32.1,e31))) (some ((s26,r32.1,s27)))) fun p30=>
   bN N s23 a0 a1 a2 a3 a4 k (I64 (s25+1)) p30.1 p30.2.2 (I64 (s28+1))) (
   some ((s25,s26,s27)))
def cF (N:Nat) (a4:aM) (a0 a1:aC) (a2 a3:Int):Nat→(List Int)→Int→aL→Int→Nat→Option ((List Int)×Int×aL×Int)
 | 0,_,_,_,_,_=>none
 | k+1,s6,s7,s8,s9,s10=>
  aV (decide (((s10:Int)) > 0)) fun x11=>
  cond x11 (
   aV (I64 (((s10:Int)) - 1)) fun x12=>
   Option.bind (wU s6.length 0 s10 x12) fun _=>
   Option.bind (s6[x12.toNat]?) fun e14=>
   Option.bind (idx a4.gR.gQ e14) fun e15=>
   aV (I64 (((s10:Int)) - 1)) fun x16=>
   Option.bind (aIE s6.length 0 s10 0 x16) fun _=>
   Option.bind (oJ N e15.gLo e15.gHi a0 a1) fun r18=>
   Option.bind (cond (!r18.2) (
    some true) (
    cond (decide (s9≥0)) (
     Option.bind (dW N (aW.mk s8.gT s8.gM) r18.1) fun r20=>
     some r20) (
     some false))) fun p19=>
   cond p19 (
    cF N a4 a0 a1 a2 a3 k s6 (I64 (s7+1)) s8 s9 x16.toNat) (
    cond (decide (e15.gA6≥0)) (
     Option.bind (aJS 8 s6 x16.toNat (([e15.gA7,e15.gA6]:List Int))) fun z21=>
     cF N a4 a0 a1 a2 a3 k z21 (I64 (s7+1)) s8 s9 (x16.toNat+2)) (
     aV (I64 (e15.gC2+e15.gC9)) fun x22=>
     Option.bind (wC a4.gR.gB9 e15.gC2 x22) fun s23=>
     Option.bind (bN N s23 a0 a1 a2 a3 a4 N (I64 (s7+1)) s8 s9 0) fun p24=>
     cF N a4 a0 a1 a2 a3 k s6 p24.1 p24.2.1 p24.2.2 x16.toNat))) (
   some ((s6,s7,s8,s9)))
def cX (N:Nat) (a0 a1:aC) (a2 a3:Int) (a4:aM):Option (Int×Int×aL):=
 Option.bind (Option.bind (iG N a4) fun r2=>
 aV ((a4.gR.gQ.length:Int)) fun x3=>
 cond (cond r2 true (x3==0)) (
  some true) (
  Option.bind (pM N a0 a1) fun r4=>
  some (!r4))) fun p1=>
 cond p1 (
  some ((a4.gD8,-1,aL.mk 0 0 0 0))) (
  Option.bind (cF N a4 a0 a1 a2 a3 N (([0]:List Int)) a4.gD8 (aL.mk 0 0 0 0) (-1) ((([0]:List Int)).length)) fun p5=>
  some ((p5.2.1,p5.2.2.2,p5.2.2.1)))
theorem rS {N a0 a1 a2 a3 a4 r} (h:cX N a0 a1 a2 a3 a4=some r):FnM Tryz.prog 302 [.var (aM.enc a4)] [(.ref 0 [] 0),(aC.enc a0),(aC.enc a1),(k8 a2),(j64 a3)] (.tup [(j64 r.2.1),(aL.enc r.2.2)]) [.var (.st 5 [(aY.enc a4.gR),(eB a4.gA),(eL 19 aE.enc a4.gl),(j64 r.1)])]:=by
 unfold cX at h
 refine At.f zC hT hmo Tryz.func302 rfl h ?_
 refine At.J 5 0 [0,3,4,6,7,10,11] 2 (fun p1=>([(36,(eB p1))],[],[])) (fun p1=>?_) fun p1=>?_
 ·refine At.b 1 (fun _ e=>aN [0] (xG e)) fun r2=>?_
  refine lx ?_;intro x3
  refine At.s 31 10 ?_ ?_
  ·refine At.g [31] 5 ?_
   apply rt;exact At.jn 0
  ·refine At.g [31] 2 ?_
   refine At.b 0 (fun _ e=>aN [] (zA e)) fun r4=>?_
   refine At.g [31] 2 ?_
   apply rt;exact At.jn 0
 ·refine At.c 0 ?_ ?_
  ·refine At.d 0 dE0 dF0 ?_
   apply rt;exact At.r 0
  ·refine At.o 0 (aCw hT j64 (k:=1) ([0]:List Int) (by kernel_rfl) (by kernel_rfl)) ?_
   refine At.gsub 1 12 ?_
   refine At.L 0 [11] 3 (fun p5=>([(10,(j64 p5.2.2.2))],[(0,.var (.st 5 [(aY.enc a4.gR),(eB a4.gA),(eL 19 aE.enc a4.gl),(j64 p5.2.1)])),(1,.var (aL.enc p5.2.2.1)),(2,.gro 1 (List.map j64 p5.1))],[])) (fun p5 J k=>∃ s6 s7 s8 s9 s10,cF N a4 a0 a1 a2 a3 k s6 s7 s8 s9 s10=some p5∧J [0,3,4,6,7,11] 3 [(10,(j64 s9)),(12,(.gro 2 1 s6.length (.sub 0 s10)))] [(0,.var (.st 5 [(aY.enc a4.gR),(eB a4.gA),(eL 19 aE.enc a4.gl),(j64 s7)])),(1,.var (aL.enc s8)),(2,.gro 1 (List.map j64 s6))] []) N (fun _ h=>⟨_,_,_,_,_,h,jr⟩) (fun p5 k s hI=>?_) fun p5=>?_
   ·obtain ⟨s6,s7,s8,s9,s10,h,hj⟩:=hI
    cases k with
    | zero=>cases h
    | succ k=>
     refine At.jr hj ?_ h
     refine lx ?_;intro x11
     refine At.c 3 ?_ ?_
     ·refine lx ?_;intro x12
      refine bi fun u13 hu13=>?_
      refine bi fun e14 he14=>?_
      refine bi fun e15 he15=>?_
      refine At.d 0 (dE1 9 (fun _=>jJ hT (id:=2) (k:=1) hu13 (by kernel_rfl) (by kernel_rfl)) (dET 10 (j64 e14) [[.var (.st 5 [(aY.enc a4.gR),(eB a4.gA),(eL 19 aE.enc a4.gl),(j64 s7)]),.var (aL.enc s8),.gro 1 (List.map j64 s6)],[.var (.st 5 [(aY.enc a4.gR),(eB a4.gA),(eL 19 aE.enc a4.gl),(j64 s7)]),.var (aL.enc s8),.gro 1 (List.map j64 s6),.var cv_8]] ⟨bS (oD hT j64 [] he14 rfl (by kernel_rfl) (by kernel_rfl)),bS (oD hT j64 [] he14 rfl (by kernel_rfl) (by kernel_rfl)),trivial⟩ (dE1 11 (fun _=>cH hT bC.enc he15) dE0))) dF0 ?_
      refine lx ?_;intro x16
      refine At.b 4 (fun _ e=>aFA hT (id:=2) (k:=1) (L:=s6.length) (lo0:=0) (m:=s10) e (by kernel_rfl) (by kernel_rfl)) fun s17=>?_
      refine At.b 15 (fun _ e=>aN [] (aDB e)) fun r18=>?_
      refine At.J 6 0 [0,3,4,6,7,10,11,12,13] 5 (fun p19=>([(92,(eB p19))],[],[])) (fun p19=>?_) fun p19=>?_
      ·refine At.s 80 3 ?_ ?_
       ·refine At.g [80,83] 12 ?_
        apply rt;exact At.jn 0
       ·refine At.g [80] 3 ?_
        refine At.s 83 0 ?_ ?_
        ·refine At.g [83] 6 ?_
         refine At.b 0 (fun _ e=>aN [] (kO e)) fun r20=>?_
         refine At.g [80,83] 2 ?_
         apply rt;exact At.jn 0
        ·refine At.g [83,80] 9 ?_
         apply rt;exact At.jn 0
      ·refine At.c 0 ?_ ?_
       ·exact fun h=>At.k 0 ⟨_,_,_,_,_,h,jr⟩
       ·refine At.c 3 ?_ ?_
        ·refine At.o 5 (cT hT (x:=(.sl 1 2 [(j64 e15.gA7),(j64 e15.gA6)]))) ?_
         refine At.b 0 (fun z21 e=>aED hT j64 (id:=2) (k:=1) e (by kernel_rfl) (by kernel_rfl) (H':=[.var (.st 5 [(aY.enc a4.gR),(eB a4.gA),(eL 19 aE.enc a4.gl),(j64 (I64 (s7+1)))]),.var (aL.enc s8),.gro 1 (List.map j64 z21),.var (bC.enc e15),.var (aW.enc r18.1)]) (by kernel_rfl)) fun z21=>?_
         exact fun h=>At.k 1 ⟨_,_,_,_,_,h,jr⟩
        ·refine lx ?_;intro x22
         refine bi fun s23 hs23=>?_
         refine At.d 0 (dE1 12 (fun _=>zR hT (k:=1) j64 hs23) dE0) dF0 ?_
         refine At.L 0 [0,3,4,6,7,11,12] 5 (fun p24=>([(10,(j64 p24.2.2))],[(0,.var (.st 5 [(aY.enc a4.gR),(eB a4.gA),(eL 19 aE.enc a4.gl),(j64 p24.1)])),(1,.var (aL.enc p24.2.1))],[])) (fun p24 J k=>∃ s25 s26 s27 s28,bN N s23 a0 a1 a2 a3 a4 k s25 s26 s27 s28=some p24∧J [0,3,4,6,7,11,12,115,116] 5 [(10,(j64 s27)),(117,(j64 s28))] [(0,.var (.st 5 [(aY.enc a4.gR),(eB a4.gA),(eL 19 aE.enc a4.gl),(j64 s25)])),(1,.var (aL.enc s26))] []) N (fun _ h=>⟨_,_,_,_,h,jr⟩) (fun p24 k s hI=>?_) fun p24=>?_
         ·obtain ⟨s25,s26,s27,s28,h,hj⟩:=hI
          cases k with
          | zero=>cases h
          | succ k=>
           refine At.jr hj ?_ h
           refine lx ?_;intro x29
           refine At.c 1 ?_ ?_
           ·refine At.J 0 2 [0,3,4,6,7,11,12,115,116,117] 5 (fun p30=>([(10,(j64 p30.2.2))],[(0,.var (.st 5 [(aY.enc a4.gR),(eB a4.gA),(eL 19 aE.enc a4.gl),(j64 (I64 (s25+1)))])),(1,.var (aL.enc p30.1))],[.var (aL.enc p30.2.1)])) (fun p30=>?_) fun p30=>?_
            ·refine At.b 0 (fun _ e=>cH hT j64 e) fun e31=>?_
             refine At.b 16 (fun _ e=>aN [0] (tB e)) fun r32=>?_
             refine At.J 6 0 [0,3,4,6,7,10,11,12,17,18,115,116,117] 6 (fun p33=>([(158,(eB p33))],[],[])) (fun p33=>?_) fun p33=>?_
             ·refine At.s 139 2 ?_ ?_
              ·refine At.g [139] 3 ?_
               refine At.s 142 0 ?_ ?_
               ·refine At.g [142,139,147,151] 16 ?_
                apply rt;exact At.jn 0
               ·refine At.g [142] 2 ?_
                refine At.b 0 (fun _ e=>aN [] (aBu e)) fun r34=>?_
                refine At.g [139,142] 2 ?_
                refine At.s 147 0 ?_ ?_
                ·refine At.g [147,151,139] 11 ?_
                 apply rt;exact At.jn 0
                ·refine At.g [147] 4 ?_
                 refine At.s 151 0 ?_ ?_
                 ·refine At.g [151] 2 ?_
                  refine At.b 0 (fun _ e=>aN [] (aBu e)) fun r35=>?_
                  refine At.g [151,147,139] 4 ?_
                  apply rt;exact At.jn 0
                 ·refine At.g [151,147,139] 7 ?_
                  apply rt;exact At.jn 0
              ·refine At.g [139,142,147,151] 19 ?_
               apply rt;exact At.jn 0
             ·refine At.c 0 ?_ ?_
              ·refine At.d 0 dE0 dF0 ?_
               apply rt;exact At.jn 0
              ·apply rt;exact At.jn 0
            ·exact fun h=>At.k 2 ⟨_,_,_,_,h,jr⟩
           ·apply rt;exact At.x 0
         ·exact fun h=>At.k 0 ⟨_,_,_,_,_,h,jr⟩
     ·apply rt;exact At.x 0
   ·refine At.d 0 dE0 dF0 ?_
    apply rt;exact At.r 0
def nH (N:Nat) (a0:Int):Option (Int):=
 aV (kE (jH a0 (-1073741824)) 1073741824) fun x1=>
 some x1
theorem xC {N a0 r} (h:nH N a0=some r):FnM Tryz.prog 220 [] [(j64 a0)] (j64 r) []:=by
 unfold nH at h
 refine At.f dJ hT hmo Tryz.func220 rfl h ?_
 refine lx ?_;intro x1
 apply rt;exact At.r 5
def aJv : Nat→Bool:=imL [1]
def pS (N:Nat) (a0:aP):Nat→Int→Int→Option (Int)
 | 0,_,_=>none
 | k+1,s2,s3=>
  cond (decide (s3 < 64)) (
   Option.bind (Option.bind (aIj .u64 1 (I64 (63 - s3))) fun x5=>
   Option.bind (jR N (bor .u64 s2 x5) (bor .u64 s2 x5)) fun r6=>
   Option.bind (aV (decide (r6.1 < (U64 a0.gHi))) fun x8=>
   cond x8 (
    some ((bor .u64 s2 x5,true))) (
    aV (cond (r6.1==(U64 a0.gHi)) (decide (r6.2≤a0.gLo)) false) fun x9=>
    some ((bor .u64 s2 x5,x9)))) fun p7=>
   cond p7.2 (some p7.1) (some s2)) fun p4=>
   pS N a0 k p4 (I64 (s3+1))) (
   some s2)
def rL (N:Nat) (a0:aP):Option (Int):=
 cond (decide (a0.gHi < 0)) (
  some 0) (
  Option.bind (pS N a0 N 0 0) fun p1=>
  some p1)
theorem aCv {N a0 r} (h:rL N a0=some r):FnM Tryz.prog 221 [] [(aP.enc a0)] (k64 r) []:=by
 unfold rL at h
 refine At.f aJv hT hmo Tryz.func221 rfl h ?_
 refine At.c 5 ?_ ?_
 ·apply rt;exact At.r 1
 ·refine At.L 2 [] 0 (fun p1=>([(3,(k64 p1))],[],[])) (fun p1 J k=>∃ s2 s3,pS N a0 k s2 s3=some p1∧J [1] 0 [(3,(k64 s2)),(11,(j64 s3))] [] []) N (fun _ h=>⟨_,_,h,jr⟩) (fun p1 k s hI=>?_) fun p1=>?_
  ·obtain ⟨s2,s3,h,hj⟩:=hI
   cases k with
   | zero=>cases h
   | succ k=>
    refine At.jr hj ?_ h
    refine At.c 1 ?_ ?_
    ·refine At.J 0 2 [1,11] 0 (fun p4=>([(3,(k64 p4))],[],[])) (fun p4=>?_) fun p4=>?_
     ·refine At.b 5 (fun _ e=>aB7 hT (k' := .i64) e (by kernel_rfl) (by kernel_rfl)) fun x5=>?_
      refine At.b 4 (fun _ e=>aN [] (yN e)) fun r6=>?_
      refine At.J 5 0 [1,3,11] 0 (fun p7=>([(5,(k64 p7.1)),(42,(eB p7.2))],[],[])) (fun p7=>?_) fun p7=>?_
      ·refine lx ?_;intro x8
       refine At.s 30 6 ?_ ?_
       ·refine At.g [30,36] 12 ?_
        apply rt;exact At.jn 0
       ·refine lx ?_;intro x9
        refine At.g [30] 12 ?_
        apply rt;exact At.jn 0
      ·refine At.c 0 ?_ ?_
       ·apply rt;exact At.jn 2
       ·apply rt;exact At.jn 0
     ·exact fun h=>At.k 2 ⟨_,_,h,jr⟩
    ·apply rt;exact At.x 0
  ·apply rt;exact At.r 2
def jV (N:Nat) (a0 a1:Int):Option (Int):=
 Option.bind (oP N (aP.mk a0 0) a1) fun r1=>
 Option.bind (oN N r1.1) fun r2=>
 some r2.1
theorem uF {N a0 a1 r} (h:jV N a0 a1=some r):FnM Tryz.prog 222 [] [(j64 a0),(.im (j64 a1))] (j64 r) []:=by
 unfold jV at h
 refine At.f dJ hT hmo Tryz.func222 rfl h ?_
 refine At.b 4 (fun _ e=>aN [] (zM e)) fun r1=>?_
 refine At.b 9 (fun _ e=>aN [] (wL e)) fun r2=>?_
 apply rt;exact At.r 7
def aH2 : Nat→Bool:=imL [1]
def fI (N:Nat) (a0:aC):Option (aB):=
 Option.bind (nH N a0.gX) fun r1=>
 Option.bind (nH N a0.gY) fun r2=>
 Option.bind (nH N a0.gZ) fun r3=>
 aV (I64 ((I64 (r1*r1))+(I64 (r2*r2)))) fun x4=>
 aV (I64 (x4+(I64 (r3*r3)))) fun x5=>
 Option.bind (rL N (aP.mk x5 0)) fun r6=>
 cond ((I64 r6)==0) (
  some (aB.mk 0 0 0)) (
  Option.bind (jV N r1 (I64 r6)) fun r7=>
  Option.bind (jV N r2 (I64 r6)) fun r8=>
  Option.bind (jV N r3 (I64 r6)) fun r9=>
  some (aB.mk r7 r8 r9))
theorem lD {N a0 r} (h:fI N a0=some r):FnM Tryz.prog 159 [] [(aC.enc a0)] (aB.enc r) []:=by
 unfold fI at h
 refine At.f aH2 hT hmo Tryz.func159 rfl h ?_
 refine bi fun r1 hr1=>?_
 refine bi fun r2 hr2=>?_
 refine bi fun r3 hr3=>?_
 refine At.d 3 (dE2 3 (j64 r1) (fun _=>aO (xC hr1)) (dE2 7 (j64 r2) (fun _=>aO (xC hr2)) (dE2 11 (j64 r3) (fun _=>aO (xC hr3)) dE0))) dF0 ?_
 refine lx ?_;intro x4
 refine lx ?_;intro x5
 refine At.b 12 (fun _ e=>aN [] (aCv e)) fun r6=>?_
 refine At.c 5 ?_ ?_
 ·apply rt;exact At.r 2
 ·refine At.gz 0 1 ((j64 (I64 r6))) ?_
  refine At.o 0 (qJ (x:=(.fn (.func 222) [] [(.im (j64 (I64 r6)))])) (by kernel_rfl) (by kernel_rfl)) ?_
  refine At.b 3 (fun _ e=>aN [] (uF e)) fun r7=>?_
  refine At.b 2 (fun _ e=>aN [] (uF e)) fun r8=>?_
  refine At.b 2 (fun _ e=>aN [] (uF e)) fun r9=>?_
  apply rt;exact At.r 2
def qN (N:Nat) (a0:(List aP)):Nat→aP→Int→Option (Sum (aP) (aP×Bool))
 | 0,_,_=>none
 | k+1,s2,s3=>
  aV (decide (s3 < ((a0.length:Int)))) fun x4=>
  cond x4 (
   Option.bind (idx a0 s3) fun e5=>
   Option.bind (xJ s2.gLo e5.gLo 0) fun r6=>
   Option.bind (xJ (U64 s2.gHi) (U64 e5.gHi) r6.2) fun r7=>
   aV ((decide (s2.gHi < 0))==(decide (e5.gHi < 0))) fun x8=>
   aV (decide ((I64 r7.1) < 0)) fun x9=>
   aV (!(x9==(decide (e5.gHi < 0)))) fun x10=>
   cond (cond x8 x10 false) (
    some (Sum.inr ((aP.mk 0 0,false)))) (
    qN N a0 k (aP.mk (I64 r7.1) r6.1) (I64 (s3+1)))) (
   some (Sum.inl s2))
def uG (N:Nat) (a0:(List aP)):Option (aP×Bool):=
 Option.bind (qN N a0 N (aP.mk 0 0) 0) fun o=>lP o (fun p1=>
  some ((p1,true))) (fun r=>some r)
theorem aBh {N a0 r} (h:uG N a0=some r):FnM Tryz.prog 229 [] [(eL 2 aP.enc a0)] (.tup [(aP.enc r.1),(eB r.2)]) []:=by
 unfold uG at h
 refine At.f dJ hT hmo Tryz.func229 rfl h ?_
 refine At.LS 5 [2] 1 (fun p1=>([],[(0,.var (aP.enc p1))],[])) (fun op1 J k=>∃ s2 s3,qN N a0 k s2 s3=some op1∧J [2,11,12] 1 [(13,(j64 s3))] [(0,.var (aP.enc s2))] []) N (fun _ h=>⟨_,_,h,jr⟩) (fun op1 g1 k s hI=>?_) fun p1=>?_
 ·obtain ⟨s2,s3,h,hj⟩:=hI
  cases k with
  | zero=>cases h
  | succ k=>
   refine At.jr hj ?_ h
   refine lx ?_;intro x4
   refine At.c 1 ?_ ?_
   ·refine At.b 0 (fun _ e=>cH hT aP.enc e) fun e5=>?_
    refine At.b 7 (fun _ e=>aC3 (aIU e) (fun _=>aDT)) fun r6=>?_
    refine At.b 12 (fun _ e=>aC3 (aIU e) (fun _=>aDT)) fun r7=>?_
    refine lx ?_;intro x8
    refine lx ?_;intro x9
    refine lx ?_;intro x10
    refine At.c 23 ?_ ?_
    ·intro e;apply aCF g1 e;exact At.r 3
    ·exact fun h=>At.k 6 ⟨_,_,h,jr⟩
   ·apply rt;exact At.xs 0
 ·apply rt;exact At.r 3
def vZ (N:Nat) (a0 a1:Int):Option (Int):=
 Option.bind (sS N a0) fun r1=>
 Option.bind (sS N a1) fun r2=>
 Option.bind (uG N ([r1,r2])) fun r3=>
 Option.bind (sS N (-65536)) fun r4=>
 Option.bind (sS N 65536) fun r5=>
 Option.bind (nD N r3.1 r4) fun r6=>
 cond (decide (r6 < 0)) (
  some (-65536)) (
  Option.bind (nD N r3.1 r5) fun r7=>
  cond (decide (r7 > 0)) (
   some 65536) (
   Option.bind (oN N r3.1) fun r8=>
   some r8.1))
theorem aEf {N a0 a1 r} (h:vZ N a0 a1=some r):FnM Tryz.prog 224 [] [(j64 a0),(j64 a1)] (j64 r) []:=by
 unfold vZ at h
 refine At.f dJ hT hmo Tryz.func224 rfl h ?_
 refine At.b 2 (fun _ e=>aN [] (yD e)) fun r1=>?_
 refine At.b 1 (fun _ e=>aN [] (yD e)) fun r2=>?_
 refine At.o 0 (cT hT (x:=(.sl 2 2 [(aP.enc r1),(aP.enc r2)]))) ?_
 refine At.b 0 (fun _ e=>aN [] (aBh e)) fun r3=>?_
 refine At.b 6 (fun _ e=>aN [] (yD e)) fun r4=>?_
 refine At.b 0 (fun _ e=>aN [] (yD e)) fun r5=>?_
 refine At.b 6 (fun _ e=>aN [] (zO e)) fun r6=>?_
 refine At.c 2 ?_ ?_
 ·apply rt;exact At.r 1
 ·refine At.b 2 (fun _ e=>aN [] (zO e)) fun r7=>?_
  refine At.c 2 ?_ ?_
  ·apply rt;exact At.r 1
  ·refine At.b 1 (fun _ e=>aN [] (wL e)) fun r8=>?_
   apply rt;exact At.r 7
def jO (N:Nat) (a0 a1:Int) (a2:aL):Option (Int):=
 cond (decide (a2.gM < 1)) (
  Option.bind (vZ N a0 0) fun r1=>
  some r1) (
  Option.bind (iV N a1 a2.gT a2.gM) fun r2=>
  Option.bind (vZ N a0 r2) fun r3=>
  some r3)
theorem uI {N a0 a1 a2 r} (h:jO N a0 a1 a2=some r):FnM Tryz.prog 223 [] [(j64 a0),(j64 a1),(.im (aL.enc a2))] (j64 r) []:=by
 unfold jO at h
 refine At.f dJ hT hmo Tryz.func223 rfl h ?_
 refine At.c 4 ?_ ?_
 ·refine At.b 1 (fun _ e=>aN [] (aEf e)) fun r1=>?_
  apply rt;exact At.r 1
 ·refine At.b 6 (fun _ e=>aN [] (sC e)) fun r2=>?_
  refine At.b 0 (fun _ e=>aN [] (aEf e)) fun r3=>?_
  apply rt;exact At.r 1
def aJw : Nat→Bool:=imL [3,4,5]
def qC (N:Nat) (a0 a1:aC) (a2:aL):Option (aC):=
 Option.bind (jO N a0.gX a1.gX a2) fun r1=>
 Option.bind (jO N a0.gY a1.gY a2) fun r2=>
 Option.bind (jO N a0.gZ a1.gZ a2) fun r3=>
 some (aC.mk r1 r2 r3)
theorem xM {N a0 a1 a2 r} (h:qC N a0 a1 a2=some r):FnM Tryz.prog 162 [] [(aC.enc a0),(aC.enc a1),(aL.enc a2)] (aC.enc r) []:=by
 unfold qC at h
 refine At.f aJw hT hmo Tryz.func162 rfl h ?_
 refine At.o 4 (qJ (x:=(.fn (.func 223) [] [(.im (aL.enc a2))])) (by kernel_rfl) (by kernel_rfl)) ?_
 refine bi fun r1 hr1=>?_
 refine bi fun r2 hr2=>?_
 refine bi fun r3 hr3=>?_
 refine At.d 1 (dE2 5 (j64 r1) (fun _=>aO (uI hr1)) (dE2 11 (j64 r2) (fun _=>aO (uI hr2)) (dE2 17 (j64 r3) (fun _=>aO (uI hr3)) dE0))) dF0 ?_
 apply rt;exact At.r 0
def aMH : Nat→Bool:=imL [2,3]
def qT (N:Nat) (a0 a1:aB):Option (Int):=
 Option.bind (iE N ([a0,a1])) fun r1=>
 Option.bind (lY N ([r1.gX,r1.gY,r1.gZ])) fun r2=>
 some r2
theorem wF {N a0 a1 r} (h:qT N a0 a1=some r):FnM Tryz.prog 170 [] [(aB.enc a0),(aB.enc a1)] (j64 r) []:=by
 unfold qT at h
 refine At.f aMH hT hmo Tryz.func170 rfl h ?_
 refine At.o 5 (cT hT (x:=(.sl 3 2 [(aB.enc a0),(aB.enc a1)]))) ?_
 refine At.b 0 (fun _ e=>aN [] (qE e)) fun r1=>?_
 refine At.o 8 (cT hT (x:=(.sl 1 3 [(j64 r1.gX),(j64 r1.gY),(j64 r1.gZ)]))) ?_
 refine At.b 0 (fun _ e=>aN [] (tW e)) fun r2=>?_
 apply rt;exact At.r 1
def aDu : Nat→Bool:=imL [2,3]
def jC (N:Nat) (a0:aB) (a1:aC):Option (aB):=
 Option.bind (fI N a1) fun r1=>
 Option.bind (qT N a0 r1) fun r2=>
 cond (decide (r2≤0)) (
  some a0) (
  Option.bind (iC N a0 (-4294967296)) fun r3=>
  some r3)
theorem rA {N a0 a1 r} (h:jC N a0 a1=some r):FnM Tryz.prog 163 [] [(aB.enc a0),(aC.enc a1)] (aB.enc r) []:=by
 unfold jC at h
 refine At.f aDu hT hmo Tryz.func163 rfl h ?_
 refine bi fun r1 hr1=>?_
 refine bi fun r2 hr2=>?_
 refine At.d 3 (dE2 2 (aB.enc r1) (fun _=>aO (lD hr1)) (dE2 3 (j64 r2) (fun _=>aO (wF hr2)) dE0)) dF0 ?_
 refine At.c 0 ?_ ?_
 ·apply rt;exact At.r 2
 ·refine At.b 1 (fun _ e=>aN [] (jK e)) fun r3=>?_
  apply rt;exact At.r 1
def uU (N:Nat) (a0:(List aD)) (a1:Int):Option (aD×Bool):=
 aV (((a0.length:Int))==0) fun x1=>
 cond x1 (
  some ((aD.mk 0 [],false))) (
  aV (I64 (((a0.length:Int)) - 1)) fun x2=>
  Option.bind (idx a0 (kE (jH a1 0) x2)) fun e3=>
  some ((e3,true)))
theorem aGo {N a0 a1 r} (h:uU N a0 a1=some r):FnM Tryz.prog 225 [] [(eL 2 aD.enc a0),(j64 a1)] (.tup [(aD.enc r.1),(eB r.2)]) []:=by
 unfold uU at h
 refine At.f dJ hT hmo Tryz.func225 rfl h ?_
 refine lx ?_;intro x1
 refine At.c 5 ?_ ?_
 ·apply rt;exact At.r 3
 ·refine lx ?_;intro x2
  refine At.b 7 (fun _ e=>cH hT aD.enc e) fun e3=>?_
  apply rt;exact At.r 3
def kP (N:Nat) (a0:Int) (a1:aL) (a2:(Vector (Vector Int 2) 3)):Option (Int):=
 aV (I64 ((I64 (a1.gM - a1.gU)) - a1.gV)) fun x1=>
 Option.bind (idx a2.toList 0) fun e2=>
 Option.bind (idx e2.toList a0) fun e3=>
 Option.bind (fJ N x1 e3) fun r4=>
 Option.bind (idx a2.toList 1) fun e5=>
 Option.bind (idx e5.toList a0) fun e6=>
 Option.bind (fJ N a1.gU e6) fun r7=>
 Option.bind (idx a2.toList 2) fun e8=>
 Option.bind (idx e8.toList a0) fun e9=>
 Option.bind (fJ N a1.gV e9) fun r10=>
 Option.bind (uG N ([r4,r7,r10])) fun r11=>
 cond (!r11.2) (
  some 0) (
  Option.bind (oP N r11.1 a1.gM) fun r12=>
  Option.bind (oN N r12.1) fun r13=>
  aV (cond (!r13.2) (decide (r12.1.gHi < 0)) false) fun x14=>
  cond x14 (
   some (-2147483648)) (
   cond (!r13.2) (
    some 2147483647) (
    aV (jH r13.1 (-2147483648)) fun x15=>
    some (kE x15 2147483647))))
theorem xE {N a0 a1 a2 r} (h:kP N a0 a1 a2=some r):FnM Tryz.prog 257 [] [(j64 a0),(.im (aL.enc a1)),(.im (eA 6 2 (eA 2 1 j64) a2))] (j64 r) []:=by
 unfold kP at h
 refine At.f dJ hT hmo Tryz.func257 rfl h ?_
 refine lx ?_;intro x1
 refine bi fun e2 he2=>?_
 refine bi fun e3 he3=>?_
 refine bi fun r4 hr4=>?_
 refine bi fun e5 he5=>?_
 refine bi fun e6 he6=>?_
 refine bi fun r7 hr7=>?_
 refine bi fun e8 he8=>?_
 refine bi fun e9 he9=>?_
 refine bi fun r10 hr10=>?_
 refine bi fun r11 hr11=>?_
 refine At.d 10 (dE1 2 (fun _=>dG hT (N:=6) (k:=2) (eA 2 1 j64) a2 he2) (dE1 3 (fun _=>dG hT (N:=2) (k:=1) j64 e2 he3) (dE2 5 (aP.enc r4) (fun _=>aO (kD hr4)) (dE1 9 (fun _=>dG hT (N:=6) (k:=2) (eA 2 1 j64) a2 he5) (dE1 10 (fun _=>dG hT (N:=2) (k:=1) j64 e5 he6) (dE2 12 (aP.enc r7) (fun _=>aO (kD hr7)) (dE1 16 (fun _=>dG hT (N:=6) (k:=2) (eA 2 1 j64) a2 he8) (dE1 17 (fun _=>dG hT (N:=2) (k:=1) j64 e8 he9) (dE2 19 (aP.enc r10) (fun _=>aO (kD hr10)) (dE1 20 (fun _=>cT hT (x:=(.sl 2 3 [(aP.enc r4),(aP.enc r7),(aP.enc r10)]))) (dE2 21 (.tup [(aP.enc r11.1),(eB r11.2)]) (fun _=>aO (aBh hr11)) dE0))))))))))) dF0 ?_
 refine At.c 2 ?_ ?_
 ·apply rt;exact At.r 1
 ·refine At.b 3 (fun _ e=>aN [] (zM e)) fun r12=>?_
  refine At.b 9 (fun _ e=>aN [] (wL e)) fun r13=>?_
  refine lx ?_;intro x14
  refine At.c 13 ?_ ?_
  ·apply rt;exact At.r 1
  ·refine At.c 3 ?_ ?_
   ·apply rt;exact At.r 1
   ·refine lx ?_;intro x15
    apply rt;exact At.r 4
def aIW : Nat→Bool:=imL [2,3]
def vE (N:Nat) (a0:aL) (a1:(Vector (Vector Int 2) 3)):Option (Int×Int):=
 Option.bind (cond (decide (a0.gM < 1)) (
  some true) (
  aV (decide ((jH (jH (jH a0.gT a0.gM) a0.gU) a0.gV) > 1152921504606846976)) fun x2=>
  cond x2 (
   some true) (
   aV (decide ((kE (kE a0.gT a0.gU) a0.gV) < (-1152921504606846976))) fun x3=>
   some x3))) fun p1=>
 cond p1 (
  some ((0,0))) (
  Option.bind (kP N 0 a0 a1) fun r4=>
  Option.bind (kP N 1 a0 a1) fun r5=>
  some ((r4,r5)))
theorem aGt {N a0 a1 r} (h:vE N a0 a1=some r):FnM Tryz.prog 226 [] [(aL.enc a0),(eA 6 2 (eA 2 1 j64) a1)] (.tup [(j64 r.1),(j64 r.2)]) []:=by
 unfold vE at h
 refine At.f aIW hT hmo Tryz.func226 rfl h ?_
 refine At.J 4 0 [2,3] 0 (fun p1=>([(31,(eB p1))],[],[])) (fun p1=>?_) fun p1=>?_
 ·refine At.s 10 4 ?_ ?_
  ·refine At.g [10,22] 21 ?_
   apply rt;exact At.jn 0
  ·refine At.g [10] 8 ?_
   refine At.o 0 (aOr (k := .i64) (i:=a0.gT) (j:=a0.gM) (l:=a0.gU) (m:=a0.gV) (by kernel_rfl) (by kernel_rfl)) ?_
   refine lx ?_;intro x2
   refine At.g [10] 3 ?_
   refine At.s 22 0 ?_ ?_
   ·refine At.g [22] 9 ?_
    apply rt;exact At.jn 0
   ·refine At.g [22] 6 ?_
    refine At.o 0 (yG (k := .i64) (i:=a0.gT) (j:=a0.gU) (l:=a0.gV) (by kernel_rfl) (by kernel_rfl)) ?_
    refine lx ?_;intro x3
    refine At.g [22] 2 ?_
    apply rt;exact At.jn 0
 ·refine At.c 0 ?_ ?_
  ·apply rt;exact At.r 2
  ·refine At.o 0 (qJ (x:=(.fn (.func 257) [] [(.im (aL.enc a0)),(.im (eA 6 2 (eA 2 1 j64) a1))])) (by kernel_rfl) (by kernel_rfl)) ?_
   refine At.b 2 (fun _ e=>aN [] (xE e)) fun r4=>?_
   refine At.b 1 (fun _ e=>aN [] (xE e)) fun r5=>?_
   apply rt;exact At.r 2
def aIX : Nat→Bool:=imL [3]
def uW (N:Nat) (a0:aD) (a1 a2:Int):Option ((Vector Int 3)×Int):=
 Option.bind (iX N a0) fun r1=>
 cond (r1 != 0) (
  some ((#v[0,0,0],r1))) (
  Option.bind (mQ N a0 a1 a2) fun r2=>
  some ((r2,0)))
theorem aG3 {N a0 a1 a2 r} (h:uW N a0 a1 a2=some r):FnM Tryz.prog 259 [] [(aD.enc a0),(j64 a1),(j64 a2)] (.tup [(eA 3 1 j64 r.1),(j64 r.2)]) []:=by
 unfold uW at h
 refine At.f aIX hT hmo Tryz.func259 rfl h ?_
 refine At.b 4 (fun _ e=>aN [] (sQ e)) fun r1=>?_
 refine At.c 3 ?_ ?_
 ·apply rt;exact At.r 4
 ·refine At.b 3 (fun _ e=>aN [] (tP e)) fun r2=>?_
  apply rt;exact At.r 2
def eF (N:Nat) (a0 a1:Int) (a2:aD) (a3 a4:Int):Option ((Vector Int 3)):=
 aV (I64 ((shr .i64 a3 16)+a0)) fun x1=>
 aV (I64 ((shr .i64 a4 16)+a1)) fun x2=>
 Option.bind (uW N a2 x1 x2) fun r3=>
 some r3.1
theorem lT {N a0 a1 a2 a3 a4 r} (h:eF N a0 a1 a2 a3 a4=some r):FnM Tryz.prog 258 [] [(j64 a0),(j64 a1),(.im (aD.enc a2)),(.im (j64 a3)),(.im (j64 a4))] (eA 3 1 j64 r) []:=by
 unfold eF at h
 refine At.f dJ hT hmo Tryz.func258 rfl h ?_
 refine lx ?_;intro x1
 refine lx ?_;intro x2
 refine At.b 10 (fun _ e=>aN [] (aG3 e)) fun r3=>?_
 apply rt;exact At.r 8
def aFY : Nat→Bool:=imL [3]
def lX (N:Nat) (e20:(Vector Int 3)) (s19 x4 x5:Int):Nat→(Vector Int 3)→Int→Option ((Vector Int 3))
 | 0,_,_=>none
 | k+1,s22,s23=>
  cond (decide (s23 < 3)) (
   Option.bind (fD s23 3) fun _=>
   Option.bind (s22.toList[s23.toNat]?) fun e25=>
   Option.bind (fD s23 3) fun _=>
   Option.bind (e20.toList[s23.toNat]?) fun e27=>
   Option.bind (fD s19 4) fun _=>
   Option.bind ((#v[I64 ((I64 (65536 - (eZ .i64 x4 65535)))*(I64 (65536 - (eZ .i64 x5 65535)))),(I64 ((eZ .i64 x4 65535)*(I64 (65536 - (eZ .i64 x5 65535))))),(I64 ((I64 (65536 - (eZ .i64 x4 65535)))*(eZ .i64 x5 65535))),(I64 ((eZ .i64 x4 65535)*(eZ .i64 x5 65535)))]).toList[s19.toNat]?) fun e29=>
   aV (I64 (e25+(I64 (e27*e29)))) fun x30=>
   Option.bind (fD s23 3) fun _=>
   Option.bind (s22.toList[s23.toNat]?) fun e32=>
   lX N e20 s19 x4 x5 k (s22.setIfInBounds s23.toNat x30) (I64 (s23+1))) (
   some s22)
def lV (N:Nat) (r13 r14 r15 r16:(Vector Int 3)) (x4 x5:Int):Nat→(Vector Int 3)→Int→Option ((Vector Int 3))
 | 0,_,_=>none
 | k+1,s18,s19=>
  cond (decide (s19 < 4)) (
   Option.bind (idx (#v[r13,r14,r15,r16]).toList s19) fun e20=>
   Option.bind (lX N e20 s19 x4 x5 N s18 0) fun p21=>
   lV N r13 r14 r15 r16 x4 x5 k p21 (I64 (s19+1))) (
   some s18)
def rO (N:Nat) (a0:aD) (a1 a2:Int):Option (aB×Int):=
 Option.bind (iX N a0) fun r1=>
 cond (r1 != 0) (
  some ((aB.mk 0 0 0,r1))) (
  aV (decide ((kE a1 a2) < 0)) fun x2=>
  aV (decide ((jH a1 a2) > 65535)) fun x3=>
  cond (cond x2 true x3) (
   some ((aB.mk 0 0 0,2))) (
   aV (I64 ((I64 (a1*a0.gE)) - 32768)) fun x4=>
   aV (I64 ((I64 (a2*a0.gE)) - 32768)) fun x5=>
   aV (I64 (65536 - (eZ .i64 x4 65535))) fun x6=>
   aV (I64 (65536 - (eZ .i64 x5 65535))) fun x7=>
   aV (I64 (65536 - (eZ .i64 x5 65535))) fun x8=>
   aV (I64 ((eZ .i64 x4 65535)*x8)) fun x9=>
   aV (I64 (65536 - (eZ .i64 x4 65535))) fun x10=>
   aV (I64 (x10*(eZ .i64 x5 65535))) fun x11=>
   aV (I64 ((eZ .i64 x4 65535)*(eZ .i64 x5 65535))) fun x12=>
   Option.bind (eF N 0 0 a0 x4 x5) fun r13=>
   Option.bind (eF N 1 0 a0 x4 x5) fun r14=>
   Option.bind (eF N 0 1 a0 x4 x5) fun r15=>
   Option.bind (eF N 1 1 a0 x4 x5) fun r16=>
   Option.bind (lV N r13 r14 r15 r16 x4 x5 N (#v[0,0,0]) 0) fun p17=>
   Option.bind (fD 0 3) fun _=>
   Option.bind (p17.toList[(Int.toNat 0)]?) fun e34=>
   Option.bind (fD 1 3) fun _=>
   Option.bind (p17.toList[(Int.toNat 1)]?) fun e36=>
   Option.bind (fD 2 3) fun _=>
   Option.bind (p17.toList[(Int.toNat 2)]?) fun e38=>
   some ((aB.mk (I64 (Int.tdiv e34 255)) (I64 (Int.tdiv e36 255)) (I64 (Int.tdiv e38 255)),0))))
theorem aE3 {N a0 a1 a2 r} (h:rO N a0 a1 a2=some r):FnM Tryz.prog 227 [] [(aD.enc a0),(j64 a1),(j64 a2)] (.tup [(aB.enc r.1),(j64 r.2)]) []:=by
 unfold rO at h
 refine At.f aFY hT hmo Tryz.func227 rfl h ?_
 refine At.b 4 (fun _ e=>aN [] (sQ e)) fun r1=>?_
 refine At.c 3 ?_ ?_
 ·apply rt;exact At.r 4
 ·refine lx ?_;intro x2
  refine lx ?_;intro x3
  refine At.c 10 ?_ ?_
  ·apply rt;exact At.r 3
  ·refine lx ?_;intro x4
   refine lx ?_;intro x5
   refine At.d2 0 [false,false] dC0 (dS1 10 ⟨(.ref 1 [] 0),1,.var (j64 0),.dead⟩ [[.var (.st 3 [(j64 0),(j64 0),(j64 0)]),.dead,.dead],[.var (.st 3 [(j64 0),(j64 0),(j64 0)]),.dead,.var (j64 0)]] ⟨aX hT 1 (by kernel_rfl) (by kernel_rfl) (by kernel_rfl),aX hT 1 (by kernel_rfl) (by kernel_rfl) (by kernel_rfl),trivial⟩ (dS1 11 ⟨(.ref 2 [] 0),2,.var (j64 0),.dead⟩ [[.var (.st 3 [(j64 0),(j64 0),(j64 0)]),.dead,.dead],[.var (.st 3 [(j64 0),(j64 0),(j64 0)]),.var (j64 0),.dead]] ⟨aX hT 2 (by kernel_rfl) (by kernel_rfl) (by kernel_rfl),aX hT 2 (by kernel_rfl) (by kernel_rfl) (by kernel_rfl),trivial⟩ dS0)) ?_
   refine At.d 0 dE0 dF0 ?_
   refine At.gz 0 1 ((j64 x4)) ?_
   refine At.gz 0 2 ((j64 x5)) ?_
   refine At.o 0 (qJ (x:=(.fn (.func 258) [] [(.im (aD.enc a0)),(.im (j64 x4)),(.im (j64 x5))])) (by kernel_rfl) (by kernel_rfl)) ?_
   refine lx ?_;intro x6
   refine lx ?_;intro x7
   refine lx ?_;intro x8
   refine lx ?_;intro x9
   refine lx ?_;intro x10
   refine lx ?_;intro x11
   refine lx ?_;intro x12
   refine At.b 21 (fun _ e=>aN [] (lT e)) fun r13=>?_
   refine At.b 1 (fun _ e=>aN [] (lT e)) fun r14=>?_
   refine At.b 1 (fun _ e=>aN [] (lT e)) fun r15=>?_
   refine At.b 1 (fun _ e=>aN [] (lT e)) fun r16=>?_
   refine At.L 6 [6,16] 6 (fun p17=>([],[(5,.var (eA 3 1 j64 p17))],[])) (fun p17 J k=>∃ s18 s19,lV N r13 r14 r15 r16 x4 x5 k s18 s19=some p17∧J [6,14,16,78] 6 [(79,(j64 s19))] [(5,.var (eA 3 1 j64 s18))] []) N (fun _ h=>⟨_,_,h,jr⟩) (fun p17 k s hI=>?_) fun p17=>?_
   ·obtain ⟨s18,s19,h,hj⟩:=hI
    cases k with
    | zero=>cases h
    | succ k=>
     refine At.jr hj ?_ h
     refine At.c 1 ?_ ?_
     ·refine At.b 1 (fun _ e=>zP hT (eA 3 1 j64) (#v[r13,r14,r15,r16]) e (by kernel_rfl) (by kernel_rfl)) fun e20=>?_
      refine At.L 4 [6,14,16,78,79] 7 (fun p21=>([],[(5,.var (eA 3 1 j64 p21))],[])) (fun p21 J k=>∃ s22 s23,lX N e20 s19 x4 x5 k s22 s23=some p21∧J [6,14,16,17,18,78,79] 7 [(83,(j64 s23))] [(5,.var (eA 3 1 j64 s22))] []) N (fun _ h=>⟨_,_,h,jr⟩) (fun p21 k s hI=>?_) fun p21=>?_
      ·obtain ⟨s22,s23,h,hj⟩:=hI
       cases k with
       | zero=>cases h
       | succ k=>
        refine At.jr hj ?_ h
        refine At.c 1 ?_ ?_
        ·refine bi fun u24 hu24=>?_
         refine bi fun e25 he25=>?_
         refine bi fun u26 hu26=>?_
         refine bi fun e27 he27=>?_
         refine bi fun u28 hu28=>?_
         refine bi fun e29 he29=>?_
         refine lx ?_;intro x30
         refine bi fun u31 hu31=>?_
         refine bi fun e32 he32=>?_
         refine At.d 2 (dE1 1 (fun _=>bG hT (k:=1) 5 [] 0 hu24) (dEL hT 2 (j64 e25) j64 0 he25 (dE1 4 (fun _=>bG hT (k:=1) 6 [] 0 hu26) (dEL hT 5 (j64 e27) j64 0 he27 (dE1 7 (fun _=>bG hT (k:=1) 3 [] 0 hu28) (dEL hT 8 (j64 e29) j64 0 he29 (dE1 11 (fun _=>bG hT (k:=1) 5 [] 0 hu31) dE0))))))) (dF 12 (.v (.bool false)) [(5,.var (eA 3 1 j64 (s22.setIfInBounds s23.toNat x30)))] [] (bS (nM hT j64 0 s22 he32 x30 (by kernel_rfl) (by kernel_rfl) (H':=[.var (.st 3 [(j64 0),(j64 0),(j64 0)]),.dead,.dead,.var (.arr 4 1 [(j64 (I64 ((I64 (65536 - (eZ .i64 x4 65535)))*(I64 (65536 - (eZ .i64 x5 65535)))))),(j64 ((I64 ((eZ .i64 x4 65535)*(I64 (65536 - (eZ .i64 x5 65535))))))),(j64 ((I64 ((I64 (65536 - (eZ .i64 x4 65535)))*(eZ .i64 x5 65535))))),(j64 ((I64 ((eZ .i64 x4 65535)*(eZ .i64 x5 65535)))))]),.var (.arr 12 3 [(eA 3 1 j64 r13),(eA 3 1 j64 r14),(eA 3 1 j64 r15),(eA 3 1 j64 r16)]),.var (eA 3 1 j64 (s22.setIfInBounds s23.toNat x30)),.var (eA 3 1 j64 e20)]))) dF0) ?_
         exact fun h=>At.k 2 ⟨_,_,h,jr⟩
        ·apply rt;exact At.x 0
      ·exact fun h=>At.k 2 ⟨_,_,h,jr⟩
     ·apply rt;exact At.x 0
   ·refine At.b 0 (fun _ e=>bG hT (k:=1) 5 [] 0 e) fun u33=>?_
    refine At.b 0 (fun _ e=>oY hT j64 0 e) fun e34=>?_
    refine At.b 1 (fun _ e=>bG hT (k:=1) 5 [] 0 e) fun u35=>?_
    refine At.b 0 (fun _ e=>oY hT j64 0 e) fun e36=>?_
    refine At.b 1 (fun _ e=>bG hT (k:=1) 5 [] 0 e) fun u37=>?_
    refine At.b 0 (fun _ e=>oY hT j64 0 e) fun e38=>?_
    apply rt;exact At.r 4
def aEy : Nat→Bool:=imL [5,7,8]
def kB (N:Nat) (a0:(Vector Int 3)) (a1:(List aD)) (a2:(Vector (Vector Int 2) 3)) (a3:aL) (a4:Int):Option (aB):=
 Option.bind (qQ N a0 65535) fun r1=>
 Option.bind (uU N a1 a4) fun r2=>
 cond (!r2.2) (
  some r1) (
  Option.bind (vE N a3 a2) fun r3=>
  aV (kE (jH r3.1 0) 65535) fun x4=>
  aV (kE (jH r3.2 0) 65535) fun x5=>
  Option.bind (rO N r2.1 x4 x5) fun r6=>
  cond (r6.2 != 0) (
   some r1) (
   Option.bind (iE N ([r1,r6.1])) fun r7=>
   some r7))
theorem aAO {N a0 a1 a2 a3 a4 r} (h:kB N a0 a1 a2 a3 a4=some r):FnM Tryz.prog 164 [] [(eA 3 1 j64 a0),(eL 2 aD.enc a1),(eA 6 2 (eA 2 1 j64) a2),(aL.enc a3),(j64 a4)] (aB.enc r) []:=by
 unfold kB at h
 refine At.f aEy hT hmo Tryz.func164 rfl h ?_
 refine At.b 5 (fun _ e=>aN [] (aBV e)) fun r1=>?_
 refine At.b 4 (fun _ e=>aN [] (aGo e)) fun r2=>?_
 refine At.c 8 ?_ ?_
 ·apply rt;exact At.r 2
 ·refine At.b 2 (fun _ e=>aN [] (aGt e)) fun r3=>?_
  refine lx ?_;intro x4
  refine lx ?_;intro x5
  refine At.b 12 (fun _ e=>aN [] (aE3 e)) fun r6=>?_
  refine At.c 8 ?_ ?_
  ·apply rt;exact At.r 2
  ·refine At.o 2 (cT hT (x:=(.sl 3 2 [(aB.enc r1),(aB.enc r6.1)]))) ?_
   refine At.b 0 (fun _ e=>aN [] (qE e)) fun r7=>?_
   apply rt;exact At.r 1
def nG (N:Nat) (a0:Int):Option (aP):=
 Option.bind (fJ N a0 a0) fun r1=>
 some r1
theorem wX {N a0 r} (h:nG N a0=some r):FnM Tryz.prog 228 [] [(j64 a0)] (aP.enc r) []:=by
 unfold nG at h
 refine At.f dJ hT hmo Tryz.func228 rfl h ?_
 refine At.b 3 (fun _ e=>aN [] (kD e)) fun r1=>?_
 apply rt;exact At.r 1
def aIh : Nat→Bool:=imL [1]
def oI (N:Nat) (a0:aB):Option (Int):=
 Option.bind (nG N a0.gX) fun r1=>
 Option.bind (nG N a0.gY) fun r2=>
 Option.bind (nG N a0.gZ) fun r3=>
 Option.bind (uG N ([r1,r2,r3])) fun r4=>
 cond (!r4.2) (
  some 9223372036854775807) (
  Option.bind (rL N r4.1) fun r5=>
  aV (kE r5 9223372036854775807) fun x6=>
  some (I64 x6))
theorem aCS {N a0 r} (h:oI N a0=some r):FnM Tryz.prog 165 [] [(aB.enc a0)] (j64 r) []:=by
 unfold oI at h
 refine At.f aIh hT hmo Tryz.func165 rfl h ?_
 refine bi fun r1 hr1=>?_
 refine bi fun r2 hr2=>?_
 refine bi fun r3 hr3=>?_
 refine bi fun r4 hr4=>?_
 refine At.d 3 (dE2 3 (aP.enc r1) (fun _=>aO (wX hr1)) (dE2 7 (aP.enc r2) (fun _=>aO (wX hr2)) (dE2 11 (aP.enc r3) (fun _=>aO (wX hr3)) (dE1 12 (fun _=>cT hT (x:=(.sl 2 3 [(aP.enc r1),(aP.enc r2),(aP.enc r3)]))) (dE2 13 (.tup [(aP.enc r4.1),(eB r4.2)]) (fun _=>aO (aBh hr4)) dE0))))) dF0 ?_
 refine At.c 2 ?_ ?_
 ·apply rt;exact At.r 1
 ·refine At.b 1 (fun _ e=>aN [] (aCv e)) fun r5=>?_
  refine lx ?_;intro x6
  apply rt;exact At.r 3
def mI (N:Nat) (b4:(List (List aD))) (a1:aH) (a2 a3:aB) (a4:Int) (a5:Bool) (a6:aF) (a7:aG) (a8:aI) (a9:aB) (a10:aJ) (a11:aA) (a12:aM):Option (aF×Int×Int×aR×Bool):=
 Option.bind (cond (a4==0) (some 9) (some 4)) fun p1=>
 Option.bind (cX N a1.go a1.gd p1 a1.gD1 a12) fun r2=>
 Option.bind (cond a8.gA4 (some (I64 (a10.gB2+4))) (some a10.gB2)) fun p3=>
 cond (decide (r2.2.1 < 0)) (
  some ((a6,p3,r2.1,aR.mk 0 (aC.mk 0 0 0) (aB.mk 0 0 0) (aB.mk 0 0 0) (aU.mk 0 (#v[0,0,0]) 0) false,false))) (
  Option.bind (idx a7.gG r2.2.1) fun e4=>
  Option.bind (fD 1 3) fun _=>
  Option.bind (e4.gP.toList[(Int.toNat 1)]?) fun e6=>
  Option.bind (fD 0 3) fun _=>
  Option.bind (e4.gP.toList[(Int.toNat 0)]?) fun e8=>
  Option.bind (lA N e6 e8) fun r9=>
  Option.bind (fD 2 3) fun _=>
  Option.bind (e4.gP.toList[(Int.toNat 2)]?) fun e11=>
  Option.bind (fD 0 3) fun _=>
  Option.bind (e4.gP.toList[(Int.toNat 0)]?) fun e13=>
  Option.bind (lA N e11 e13) fun r14=>
  Option.bind (mT N r9 r14) fun r15=>
  Option.bind (fI N r15) fun r16=>
  Option.bind (Option.bind (qC N a1.go a1.gd r2.2.2) fun r18=>
  Option.bind (jC N r16 a1.gd) fun r19=>
  Option.bind (idx a7.gB1 e4.gC8) fun e20=>
  cond (a4==0) (
   aV ((eZ .u8 e4.gB4 8) != 0) fun x21=>
   some (aR.mk r2.2.1 r18 r19 (aB.mk 0 0 0) e20 x21)) (
   some (aR.mk r2.2.1 r18 r19 (aB.mk 0 0 0) e20 false))) fun p17=>
  Option.bind (cond (decide (e4.gA9≥0)) (
   Option.bind (idx b4 e4.gA9) fun e23=>
   cond (!a8.gA4) (some ((I64 (p3+4),e23))) (some ((p3,e23)))) (
   some ((p3,[])))) fun p22=>
  Option.bind (kB N p17.gF.gB0 p22.2 e4.gUv r2.2.2 a4) fun r24=>
  Option.bind (aV (cond (a4==0) (!a5) false) fun x26=>
  cond x26 (
   Option.bind (mF N p17.gat) fun r27=>
   Option.bind (mF N a1.go) fun r28=>
   Option.bind (sV N r27 r28) fun r29=>
   Option.bind (oI N r29) fun r30=>
   cond p17.gA8 (
    some (aF.mk (aB.mk 0 0 0) 0 r30 p17.gn e4.gB5)) (
    some (aF.mk (aB.mk 0 0 0) 1 r30 p17.gn e4.gB5))) (
   some a6)) fun p25=>
  some ((p25,p22.1,r2.1,aR.mk p17.gi p17.gat p17.gn r24 p17.gF p17.gA8,true)))
theorem aBq {N b4 a1 a2 a3 a4 a5 a6 a7 a8 a9 a10 a11 a12 r} (h:mI N b4 a1 a2 a3 a4 a5 a6 a7 a8 a9 a10 a11 a12=some r):FnM Tryz.prog 85 [.var (.st 26 [(aH.enc a1),(.ref 1 [] 0),(.ref 2 [] 0),(aB.enc a2),(aB.enc a3),(j64 a4),(eB a5),(aF.enc a6)]),.var (.st 38 [(aG.enc a7),(aI.enc a8),(.ifc 91 (.ref 3 [] 0)),(eO 4 1 (eL 2 aD.enc) b4),(aB.enc a9),(aJ.enc a10)]),.var (aA.enc a11),.var (aM.enc a12),.tail (b4.length*1)] [(.ref 0 [] 0)] (.tup [(aR.enc r.2.2.2.1),(eB r.2.2.2.2)]) [.var (.st 26 [(aH.enc a1),(.ref 1 [] 0),(.ref 2 [] 0),(aB.enc a2),(aB.enc a3),(j64 a4),(eB a5),(aF.enc r.1)]),.var (.st 38 [(aG.enc a7),(aI.enc a8),(.ifc 91 (.ref 3 [] 0)),(eO 4 1 (eL 2 aD.enc) b4),(aB.enc a9),(.st 3 [(j64 a10.gK),(j64 r.2.1),(j64 (I64 (a10.gL+1)))])]),.var (aA.enc a11),.var (.st 5 [(aY.enc a12.gR),(eB a12.gA),(eL 19 aE.enc a12.gl),(j64 r.2.2.1)]),.tail (b4.length*1)]:=by
 unfold mI at h
 refine At.f dJ hT hmo Tryz.func85 rfl h ?_
 refine At.J 3 1 [0,2] 6 (fun p1=>([(4,(k8 p1))],[],[])) (fun p1=>?_) fun p1=>?_
 ·refine At.c 5 ?_ ?_
  ·apply rt;exact At.jn 1
  ·apply rt;exact At.jn 0
 ·refine bi fun r2 hr2=>?_
  refine At.d2 0 [false] dC0 (dS1 25 ⟨(.tup [(j64 r2.2.1),(aL.enc r2.2.2)]),3,.var (.st 5 [(aY.enc a12.gR),(eB a12.gA),(eL 19 aE.enc a12.gl),(j64 r2.1)]),.var (aM.enc a12)⟩ [[.var (.st 26 [(aH.enc a1),(.ref 1 [] 0),(.ref 2 [] 0),(aB.enc a2),(aB.enc a3),(j64 a4),(eB a5),(aF.enc a6)]),.var (.st 38 [(aG.enc a7),(aI.enc a8),(.ifc 91 (.ref 3 [] 0)),(eO 4 1 (eL 2 aD.enc) b4),(aB.enc a9),(aJ.enc a10)]),.var (aA.enc a11),.var (aM.enc a12),.tail (b4.length*1),.var aJW,.dead],[.var (.st 26 [(aH.enc a1),(.ref 1 [] 0),(.ref 2 [] 0),(aB.enc a2),(aB.enc a3),(j64 a4),(eB a5),(aF.enc a6)]),.var (.st 38 [(aG.enc a7),(aI.enc a8),(.ifc 91 (.ref 3 [] 0)),(eO 4 1 (eL 2 aD.enc) b4),(aB.enc a9),(aJ.enc a10)]),.var (aA.enc a11),.var (aM.enc a12),.tail (b4.length*1),.var aJW,.var (.st 4 [(j64 0),(j64 0),(j64 0),(j64 0)])]] ⟨bS (aN [3] (rS hr2)),bS (aN [3] (rS hr2)),trivial⟩ (dS1 29 ⟨(.ref 6 [] 0),6,.var (.st 4 [(j64 0),(j64 0),(j64 0),(j64 0)]),.dead⟩ [[.var (.st 26 [(aH.enc a1),(.ref 1 [] 0),(.ref 2 [] 0),(aB.enc a2),(aB.enc a3),(j64 a4),(eB a5),(aF.enc a6)]),.var (.st 38 [(aG.enc a7),(aI.enc a8),(.ifc 91 (.ref 3 [] 0)),(eO 4 1 (eL 2 aD.enc) b4),(aB.enc a9),(aJ.enc a10)]),.var (aA.enc a11),.var (aM.enc a12),.tail (b4.length*1),.var aJW,.dead],[.var (.st 26 [(aH.enc a1),(.ref 1 [] 0),(.ref 2 [] 0),(aB.enc a2),(aB.enc a3),(j64 a4),(eB a5),(aF.enc a6)]),.var (.st 38 [(aG.enc a7),(aI.enc a8),(.ifc 91 (.ref 3 [] 0)),(eO 4 1 (eL 2 aD.enc) b4),(aB.enc a9),(aJ.enc a10)]),.var (aA.enc a11),.var (.st 5 [(aY.enc a12.gR),(eB a12.gA),(eL 19 aE.enc a12.gl),(j64 r2.1)]),.tail (b4.length*1),.var aJW,.dead]] ⟨aX hT 6 (by kernel_rfl) (by kernel_rfl) (by kernel_rfl),aX hT 6 (by kernel_rfl) (by kernel_rfl) (by kernel_rfl),trivial⟩ dS0)) ?_
  refine At.J 13 1 [0,2,5,6] 7 (fun p3=>([],[(1,.var (.st 38 [(aG.enc a7),(aI.enc a8),(.ifc 91 (.ref 3 [] 0)),(eO 4 1 (eL 2 aD.enc) b4),(aB.enc a9),(.st 3 [(j64 a10.gK),(j64 p3),(j64 (I64 (a10.gL+1)))])]))],[])) (fun p3=>?_) fun p3=>?_
  ·refine At.c 8 ?_ ?_
   ·apply rt;exact At.jn 13
   ·apply rt;exact At.jn 0
  ·refine At.c 2 ?_ ?_
   ·apply rt;exact At.r 3
   ·refine At.b 9 (fun _ e=>cH hT aE.enc e) fun e4=>?_
    refine bi fun u5 hu5=>?_
    refine bi fun e6 he6=>?_
    refine bi fun u7 hu7=>?_
    refine bi fun e8 he8=>?_
    refine bi fun r9 hr9=>?_
    refine bi fun u10 hu10=>?_
    refine bi fun e11 he11=>?_
    refine bi fun u12 hu12=>?_
    refine bi fun e13 he13=>?_
    refine bi fun r14 hr14=>?_
    refine bi fun r15 hr15=>?_
    refine bi fun r16 hr16=>?_
    refine At.d 3 (dE1 1 (fun _=>bG hT (k:=3) 7 [0] 0 hu5) (dEL hT 2 (aC.enc e6) aC.enc 1 he6 (dE1 4 (fun _=>bG hT (k:=3) 7 [0] 0 hu7) (dEL hT 5 (aC.enc e8) aC.enc 1 he8 (dE2 6 (aC.enc r9) (fun _=>aO (rK hr9)) (dE1 8 (fun _=>bG hT (k:=3) 7 [0] 0 hu10) (dEL hT 9 (aC.enc e11) aC.enc 1 he11 (dE1 11 (fun _=>bG hT (k:=3) 7 [0] 0 hu12) (dEL hT 12 (aC.enc e13) aC.enc 1 he13 (dE2 13 (aC.enc r14) (fun _=>aO (rK hr14)) (dE2 14 (aC.enc r15) (fun _=>aO (xV hr15)) (dE2 15 (aB.enc r16) (fun _=>aO (lD hr16)) dE0)))))))))))) dF0 ?_
    refine At.J 0 0 [0,2,6,7] 9 (fun p17=>([],[(5,.var (aR.enc p17))],[])) (fun p17=>?_) fun p17=>?_
    ·refine bi fun r18 hr18=>?_
     refine bi fun r19 hr19=>?_
     refine bi fun e20 he20=>?_
     refine boI (fun hc37=>?_) (fun hc37=>?_)
     ·refine lx ?_;intro x21
      refine At.d 0 (dE2 12 (aC.enc r18) (fun _=>aO (xM hr18)) (dE2 19 (aB.enc r19) (fun _=>aO (rA hr19)) (dE1 30 (fun _=>cH hT aU.enc he20) (dE1 37 (fun _=>dM hc37 rfl (dC hT (im:=false) (by kernel_rfl))) dE0)))) dF0 ?_
      apply rt;exact At.jn 0
     ·refine At.d 0 (dE2 12 (aC.enc r18) (fun _=>aO (xM hr18)) (dE2 19 (aB.enc r19) (fun _=>aO (rA hr19)) (dE1 30 (fun _=>cH hT aU.enc he20) (dE1 37 (fun _=>dM hc37 rfl (dC hT (im:=false) (by kernel_rfl))) dE0)))) dF0 ?_
      apply rt;exact At.jn 0
    ·refine At.J 1 1 [0,2,6,7] 9 (fun p22=>([(9,(eL 2 aD.enc p22.2))],[(1,.var (.st 38 [(aG.enc a7),(aI.enc a8),(.ifc 91 (.ref 3 [] 0)),(eO 4 1 (eL 2 aD.enc) b4),(aB.enc a9),(.st 3 [(j64 a10.gK),(j64 p22.1),(j64 (I64 (a10.gL+1)))])]))],[])) (fun p22=>?_) fun p22=>?_
     ·refine At.c 3 ?_ ?_
      ·refine bi fun e23 he23=>?_
       refine At.d 0 (dE1 9 (fun _=>cH hT (eL 2 aD.enc) he23) dE0) dF0 ?_
       refine At.c 9 ?_ ?_
       ·apply rt;exact At.jn 13
       ·apply rt;exact At.jn 0
      ·apply rt;exact At.jn 0
     ·refine bi fun r24 hr24=>?_
      refine At.d 0 (dE2 11 (aB.enc r24) (fun _=>aO (aAO hr24)) dE0) dF0 ?_
      refine At.J 0 1 [2] 9 (fun p25=>([],[(0,.var (.st 26 [(aH.enc a1),(.ref 1 [] 0),(.ref 2 [] 0),(aB.enc a2),(aB.enc a3),(j64 a4),(eB a5),(aF.enc p25)]))],[])) (fun p25=>?_) fun p25=>?_
      ·refine lx ?_;intro x26
       refine At.c 12 ?_ ?_
       ·refine bi fun r27 hr27=>?_
        refine bi fun r28 hr28=>?_
        refine bi fun r29 hr29=>?_
        refine bi fun r30 hr30=>?_
        refine At.d 0 (dE2 3 (aB.enc r27) (fun _=>aO (qW hr27)) (dE2 9 (aB.enc r28) (fun _=>aO (qW hr28)) (dE2 10 (aB.enc r29) (fun _=>aO (aAr hr29)) (dE2 11 (j64 r30) (fun _=>aO (aCS hr30)) dE0)))) dF0 ?_
        refine At.c 2 ?_ ?_
        ·apply rt;exact At.jn 5
        ·apply rt;exact At.jn 0
       ·apply rt;exact At.jn 0
      ·apply rt;exact At.r 3
def iO (N:Nat) (b4:(List (List aD))) (a1:(List aB)) (a2:aH) (a3 a4:aB) (a5:Int) (a6:Bool) (a7:aF) (a8:aG) (a9:aI) (a10:aB) (a11:aJ) (a12:aA) (a13:aM):Option (aB):=
 cond (!a6) (
  Option.bind (zD 24 (([a3]:List aB)) a1) fun z1=>
  Option.bind (iE N z1) fun r2=>
  Option.bind (kZ N ([a4,r2])) fun r3=>
  some r3) (
  some a4)
theorem rZ {N b4 a1 a2 a3 a4 a5 a6 a7 a8 a9 a10 a11 a12 a13 r} (h:iO N b4 a1 a2 a3 a4 a5 a6 a7 a8 a9 a10 a11 a12 a13=some r):FnM Tryz.prog 86 [.var (.st 26 [(aH.enc a2),(.ref 1 [] 0),(.ref 2 [] 0),(aB.enc a3),(aB.enc a4),(j64 a5),(eB a6),(aF.enc a7)]),.var (.st 38 [(aG.enc a8),(aI.enc a9),(.ifc 91 (.ref 3 [] 0)),(eO 4 1 (eL 2 aD.enc) b4),(aB.enc a10),(aJ.enc a11)]),.var (aA.enc a12),.var (aM.enc a13),.tail (b4.length*1)] [(.ref 0 [] 0),(eL 3 aB.enc a1)] (.tup []) [.var (.st 26 [(aH.enc a2),(.ref 1 [] 0),(.ref 2 [] 0),(aB.enc a3),(aB.enc r),(j64 a5),(eB a6),(aF.enc a7)]),.var (.st 38 [(aG.enc a8),(aI.enc a9),(.ifc 91 (.ref 3 [] 0)),(eO 4 1 (eL 2 aD.enc) b4),(aB.enc a10),(aJ.enc a11)]),.var (aA.enc a12),.var (aM.enc a13),.tail (b4.length*1)]:=by
 unfold iO at h
 refine At.f dJ hT hmo Tryz.func86 rfl h ?_
 refine At.c 5 ?_ ?_
 ·refine bi fun z1 hz1=>?_
  refine bi fun r2 hr2=>?_
  refine bi fun r3 hr3=>?_
  refine At.d 0 (dE2 12 (aB.enc r2) (fun _=>aO (qE hr2)) (dE1 13 (fun _=>cT hT (x:=(.sl 3 2 [(aB.enc a4),(aB.enc r2)]))) (dE2 14 (aB.enc r3) (fun _=>aO (vR hr3)) dE0))) (dF 9 (eO 5 3 aB.enc (([a3]:List aB))) [] [.tail ((([a3]:List aB)).length*3)] (bS (yO hT aB.enc (k:=3) ([a3]:List aB) (by kernel_rfl) (by kernel_rfl))) (dF 11 (eO 5 3 aB.enc z1) [(5,.tail (z1.length*3))] [] (bS (sJ hT aB.enc (id:=5) (k:=3) hz1)) dF0)) ?_
  apply rt;exact At.z 0
 ·apply rt;exact At.z 0
def eT (N:Nat) (b4:(List (List aD))) (a1:Bool) (a2:aH) (a3 a4:aB) (a5:Int) (a6:Bool) (a7:aF) (a8:aG) (a9:aI) (a10:aB) (a11:aJ) (a12:aA) (a13:aM):Option (Unit):=
 some (())
theorem jD {N b4 a1 a2 a3 a4 a5 a6 a7 a8 a9 a10 a11 a12 a13 r} (h:eT N b4 a1 a2 a3 a4 a5 a6 a7 a8 a9 a10 a11 a12 a13=some r):FnM Tryz.prog 87 [.var (.st 26 [(aH.enc a2),(.ref 1 [] 0),(.ref 2 [] 0),(aB.enc a3),(aB.enc a4),(j64 a5),(eB a6),(aF.enc a7)]),.var (.st 38 [(aG.enc a8),(aI.enc a9),(.ifc 91 (.ref 3 [] 0)),(eO 4 1 (eL 2 aD.enc) b4),(aB.enc a10),(aJ.enc a11)]),.var (aA.enc a12),.var (aM.enc a13),.tail (b4.length*1)] [(.ref 0 [] 0),(eB a1)] (.tup []) [.var (.st 26 [(aH.enc a2),(.ref 1 [] 0),(.ref 2 [] 0),(aB.enc a3),(aB.enc a4),(j64 a5),(eB (cond a6 true a1)),(aF.enc a7)]),.var (.st 38 [(aG.enc a8),(aI.enc a9),(.ifc 91 (.ref 3 [] 0)),(eO 4 1 (eL 2 aD.enc) b4),(aB.enc a10),(aJ.enc a11)]),.var (aA.enc a12),.var (aM.enc a13),.tail (b4.length*1)]:=by
 unfold eT at h
 refine At.f dJ hT hmo Tryz.func87 rfl h ?_
 apply rt;exact At.z 11
def iM (N:Nat) (a0 a1 a2:Int) (a3:(Vector Int 2)):Option (Int):=
 Option.bind (idx a3.toList 0) fun e1=>
 Option.bind (iV N a1 (I64 e1) 4294967296) fun r2=>
 Option.bind (idx a3.toList 1) fun e3=>
 Option.bind (iV N a2 (I64 e3) 4294967296) fun r4=>
 aV (I64 ((I64 (a0+r2))+r4)) fun x5=>
 some x5
theorem rN {N a0 a1 a2 a3 r} (h:iM N a0 a1 a2 a3=some r):FnM Tryz.prog 260 [] [(j64 a0),(j64 a1),(j64 a2),(.im (eA 2 1 k32 a3))] (j64 r) []:=by
 unfold iM at h
 refine At.f dJ hT hmo Tryz.func260 rfl h ?_
 refine bi fun e1 he1=>?_
 refine bi fun r2 hr2=>?_
 refine bi fun e3 he3=>?_
 refine bi fun r4 hr4=>?_
 refine lx ?_;intro x5
 refine At.d 1 (dE1 2 (fun _=>dG hT (N:=2) (k:=1) k32 a3 he1) (dE2 5 (j64 r2) (fun _=>aO (sC hr2)) (dE1 8 (fun _=>dG hT (N:=2) (k:=1) k32 a3 he3) (dE2 11 (j64 r4) (fun _=>aO (sC hr4)) dE0)))) dF0 ?_
 apply rt;exact At.r 0
def aHf : Nat→Bool:=imL [2,3]
def vF (N:Nat) (a0:aS) (a1:(Vector Int 2)):Option (aC):=
 cond (a0.gI != 1) (
  some a0.gAt) (
  Option.bind (iM N a0.gAt.gX a0.gU.gX a0.gV.gX a1) fun r1=>
  Option.bind (iM N a0.gAt.gY a0.gU.gY a0.gV.gY a1) fun r2=>
  Option.bind (iM N a0.gAt.gZ a0.gU.gZ a0.gV.gZ a1) fun r3=>
  some (aC.mk r1 r2 r3))
theorem aGs {N a0 a1 r} (h:vF N a0 a1=some r):FnM Tryz.prog 230 [] [(aS.enc a0),(eA 2 1 k32 a1)] (aC.enc r) []:=by
 unfold vF at h
 refine At.f aHf hT hmo Tryz.func230 rfl h ?_
 refine At.c 6 ?_ ?_
 ·apply rt;exact At.r 3
 ·refine At.o 0 (qJ (x:=(.fn (.func 260) [] [(.im (eA 2 1 k32 a1))])) (by kernel_rfl) (by kernel_rfl)) ?_
  refine bi fun r1 hr1=>?_
  refine bi fun r2 hr2=>?_
  refine bi fun r3 hr3=>?_
  refine At.d 1 (dE2 10 (j64 r1) (fun _=>aO (rN hr1)) (dE2 21 (j64 r2) (fun _=>aO (rN hr2)) (dE2 32 (j64 r3) (fun _=>aO (rN hr3)) dE0))) dF0 ?_
  apply rt;exact At.r 0
def tO (N:Nat) (a0:Int):Option (Int):=
 aV (shr .u32 (U32 (a0*32769)) 16) fun x1=>
 some x1
theorem aBz {N a0 r} (h:tO N a0=some r):FnM Tryz.prog 232 [] [(k32 a0)] (k32 r) []:=by
 unfold tO at h
 refine At.f dJ hT hmo Tryz.func232 rfl h ?_
 refine lx ?_;intro x1
 apply rt;exact At.r 5
def nT (N:Nat) (a0:Int):Option (Int):=
 aV (I64 ((kE (I64 a0) 32768) - 16384)) fun x1=>
 some x1
theorem aAS {N a0 r} (h:nT N a0=some r):FnM Tryz.prog 261 [] [(k32 a0)] (j64 r) []:=by
 unfold nT at h
 refine At.f dJ hT hmo Tryz.func261 rfl h ?_
 refine lx ?_;intro x1
 apply rt;exact At.r 6
def lG (N:Nat) (a0:Int):Option (Int):=
 cond (decide (a0 < 0)) (some (I64 (0 - a0))) (some a0)
theorem tV {N a0 r} (h:lG N a0=some r):FnM Tryz.prog 262 [] [(j64 a0)] (j64 r) []:=by
 unfold lG at h
 refine At.f dJ hT hmo Tryz.func262 rfl h ?_
 refine At.c 3 ?_ ?_
 ·apply rt;exact At.r 3
 ·apply rt;exact At.r 2
def qX (N:Nat) (a0 a1:Int):Option (Int):=
 cond (decide (a1 < 0)) (some (I64 (0 - a0))) (some a0)
theorem aBf {N a0 a1 r} (h:qX N a0 a1=some r):FnM Tryz.prog 270 [] [(j64 a0),(j64 a1)] (j64 r) []:=by
 unfold qX at h
 refine At.f dJ hT hmo Tryz.func270 rfl h ?_
 refine At.c 3 ?_ ?_
 ·apply rt;exact At.r 3
 ·apply rt;exact At.r 2
def wT (N:Nat) (a0 a1:Int):Option (Int×Int):=
 Option.bind (lG N a1) fun r1=>
 Option.bind (qX N (I64 (16384 - r1)) a0) fun r2=>
 Option.bind (lG N a0) fun r3=>
 Option.bind (qX N (I64 (16384 - r3)) a1) fun r4=>
 some ((r2,r4))
theorem aHd {N a0 a1 r} (h:wT N a0 a1=some r):FnM Tryz.prog 263 [] [(j64 a0),(j64 a1)] (.tup [(j64 r.1),(j64 r.2)]) []:=by
 unfold wT at h
 refine At.f dJ hT hmo Tryz.func263 rfl h ?_
 refine At.b 5 (fun _ e=>aN [] (tV e)) fun r1=>?_
 refine At.b 2 (fun _ e=>aN [] (aBf e)) fun r2=>?_
 refine At.b 2 (fun _ e=>aN [] (tV e)) fun r3=>?_
 refine At.b 2 (fun _ e=>aN [] (aBf e)) fun r4=>?_
 apply rt;exact At.r 2
def tI (N:Nat) (a0:Int):Option (aC):=
 Option.bind (nT N (shr .u32 a0 16)) fun r1=>
 Option.bind (nT N (eZ .u32 a0 65535)) fun r2=>
 Option.bind (lG N r1) fun r3=>
 Option.bind (lG N r2) fun r4=>
 aV (I64 ((I64 (16384 - r3)) - r4)) fun x5=>
 Option.bind (cond (decide (x5 < 0)) (
  Option.bind (wT N r1 r2) fun r7=>
  some ((r7.1,r7.2))) (
  some ((r1,r2)))) fun p6=>
 some (aC.mk p6.1 p6.2 x5)
theorem aFd {N a0 r} (h:tI N a0=some r):FnM Tryz.prog 233 [] [(k32 a0)] (aC.enc r) []:=by
 unfold tI at h
 refine At.f dJ hT hmo Tryz.func233 rfl h ?_
 refine At.b 5 (fun _ e=>aN [] (aAS e)) fun r1=>?_
 refine At.b 3 (fun _ e=>aN [] (aAS e)) fun r2=>?_
 refine At.b 3 (fun _ e=>aN [] (tV e)) fun r3=>?_
 refine At.b 2 (fun _ e=>aN [] (tV e)) fun r4=>?_
 refine lx ?_;intro x5
 refine At.J 2 1 [2,6] 1 (fun p6=>([(4,(j64 p6.1)),(5,(j64 p6.2))],[],[])) (fun p6=>?_) fun p6=>?_
 ·refine At.c 2 ?_ ?_
  ·refine At.b 2 (fun _ e=>aN [] (aHd e)) fun r7=>?_
   apply rt;exact At.jn 5
  ·apply rt;exact At.jn 0
 ·apply rt;exact At.r 5
def rU (N:Nat) (a0:Int):Option (aC):=
 Option.bind (tO N (shr .u32 a0 16)) fun r1=>
 Option.bind (tO N (eZ .u32 a0 65535)) fun r2=>
 aV (bor .u32 (shl .u32 r1 16) r2) fun x3=>
 Option.bind (tI N x3) fun r4=>
 some r4
theorem aA9 {N a0 r} (h:rU N a0=some r):FnM Tryz.prog 169 [] [(k32 a0)] (aC.enc r) []:=by
 unfold rU at h
 refine At.f dJ hT hmo Tryz.func169 rfl h ?_
 refine At.b 5 (fun _ e=>aN [] (aBz e)) fun r1=>?_
 refine At.b 4 (fun _ e=>aN [] (aBz e)) fun r2=>?_
 refine lx ?_;intro x3
 refine At.b 1 (fun _ e=>aN [] (aFd e)) fun r4=>?_
 apply rt;exact At.r 1
def aDq : Nat→Bool:=imL [3,4,5]
def pB (N:Nat) (a0:uD) (a1:aC) (a2:aB):Option (aC×Int):=
 Option.bind (fI N a0.gE0) fun r1=>
 Option.bind (qT N a2 r1) fun r2=>
 cond (decide (r2 < 0)) (
  Option.bind (sL N r2) fun r3=>
  Option.bind (sL N r2) fun r4=>
  Option.bind (lY N ([r3,r4])) fun r5=>
  some ((aC.mk (I64 (0 - a0.gE0.gX)) (I64 (0 - a0.gE0.gY)) (I64 (0 - a0.gE0.gZ)),r5))) (
  Option.bind (lY N ([r2,r2])) fun r6=>
  some ((a0.gE0,r6)))
theorem aDG {N a0 a1 a2 r} (h:pB N a0 a1 a2=some r):FnM Tryz.prog 309 [] [(uD.enc a0),(aC.enc a1),(aB.enc a2)] (.tup [(aC.enc r.1),(j64 r.2)]) []:=by
 unfold pB at h
 refine At.f aDq hT hmo Tryz.func309 rfl h ?_
 refine bi fun r1 hr1=>?_
 refine bi fun r2 hr2=>?_
 refine At.d 5 (dE2 3 (aB.enc r1) (fun _=>aO (lD hr1)) (dE2 4 (j64 r2) (fun _=>aO (wF hr2)) dE0)) dF0 ?_
 refine At.c 2 ?_ ?_
 ·refine bi fun r3 hr3=>?_
  refine bi fun r4 hr4=>?_
  refine bi fun r5 hr5=>?_
  refine At.d 0 (dE2 14 (j64 r3) (fun _=>aO (aAt hr3)) (dE2 16 (j64 r4) (fun _=>aO (aAt hr4)) (dE1 17 (fun _=>cT hT (x:=(.sl 1 2 [(j64 r3),(j64 r4)]))) (dE2 18 (j64 r5) (fun _=>aO (tW hr5)) dE0)))) dF0 ?_
  apply rt;exact At.r 0
 ·refine bi fun r6 hr6=>?_
  refine At.d 0 (dE1 4 (fun _=>cT hT (x:=(.sl 1 2 [(j64 r2),(j64 r2)]))) (dE2 5 (j64 r6) (fun _=>aO (tW hr6)) dE0)) dF0 ?_
  apply rt;exact At.r 0
def aC9 : Nat→Bool:=imL [3,4,5]
def oG (N:Nat) (a0:uM) (a1:aC) (a2:aB):Option (aC×Int):=
 Option.bind (lA N a0.gE8 a1) fun r1=>
 Option.bind (fI N r1) fun r2=>
 Option.bind (qT N a2 r2) fun r3=>
 aV (aC.eq r1 (aC.mk 0 0 0)) fun x4=>
 aV (cond x4 true (decide (r3≤0))) fun x5=>
 cond x5 (
  some ((aC.mk 0 0 0,0))) (
  Option.bind (qP N r1 r1) fun r6=>
  Option.bind (iV N r3 1048576 r6) fun r7=>
  some ((r1,r7)))
theorem aCo {N a0 a1 a2 r} (h:oG N a0 a1 a2=some r):FnM Tryz.prog 308 [] [(uM.enc a0),(aC.enc a1),(aB.enc a2)] (.tup [(aC.enc r.1),(j64 r.2)]) []:=by
 unfold oG at h
 refine At.f aC9 hT hmo Tryz.func308 rfl h ?_
 refine At.b 8 (fun _ e=>aN [] (rK e)) fun r1=>?_
 refine bi fun r2 hr2=>?_
 refine bi fun r3 hr3=>?_
 refine At.d 1 (dE2 2 (aB.enc r2) (fun _=>aO (lD hr2)) (dE2 3 (j64 r3) (fun _=>aO (wF hr3)) dE0)) dF0 ?_
 refine At.o 2 (aDM aA8 (r1:aC) (aC.mk 0 0 0:aC) (by kernel_rfl) (by kernel_rfl) (fun _=>rfl) (fun _=>rfl) (by kernel_rfl) (by kernel_rfl)) ?_
 refine lx ?_;intro x4
 refine lx ?_;intro x5
 refine At.c 4 ?_ ?_
 ·apply rt;exact At.r 3
 ·refine bi fun r6 hr6=>?_
  refine bi fun r7 hr7=>?_
  refine At.d 0 (dE2 4 (j64 r6) (fun _=>aO (yK hr6)) (dE2 5 (j64 r7) (fun _=>aO (sC hr7)) dE0)) dF0 ?_
  apply rt;exact At.r 0
def aGr : Nat→Bool:=imL [4,5,6,7]
def mW (N:Nat) (a0:aS) (a1:aC) (a2:aB) (a3:(Vector Int 2)):Option (jB):=
 Option.bind (Option.bind (oS N a0) fun r2=>
 cond (r2 != 0) (
  some true) (
  Option.bind (pM N a1 (aC.mk 1 0 0)) fun r3=>
  some (!r3))) fun p1=>
 cond p1 (
  some (jB.mk (aC.mk 0 0 0) false true (aB.mk 0 0 0))) (
  Option.bind (vF N a0 a3) fun r4=>
  cond (a0.gI==2) (
   Option.bind (idx a3.toList 0) fun e5=>
   Option.bind (rU N e5) fun r6=>
   Option.bind (pB N (uD.mk r6) a1 a2) fun r7=>
   cond (r7.2==0) (
    some (jB.mk (aC.mk 0 0 0) false true (aB.mk 0 0 0))) (
    Option.bind (oR N a0) fun r8=>
    Option.bind (iC N r8 r7.2) fun r9=>
    some (jB.mk r7.1 true false r9))) (
   Option.bind (oG N (uM.mk r4) a1 a2) fun r10=>
   cond (aC.eq r10.1 (aC.mk 0 0 0)) (
    some (jB.mk (aC.mk 0 0 0) false true (aB.mk 0 0 0))) (
    Option.bind (oR N a0) fun r11=>
    Option.bind (iC N r11 r10.2) fun r12=>
    some (jB.mk r10.1 false false r12))))
theorem aBO {N a0 a1 a2 a3 r} (h:mW N a0 a1 a2 a3=some r):FnM Tryz.prog 166 [] [(aS.enc a0),(aC.enc a1),(aB.enc a2),(eA 2 1 k32 a3)] (jB.enc r) []:=by
 unfold mW at h
 refine At.f aGr hT hmo Tryz.func166 rfl h ?_
 refine At.J 8 0 [4,5,6,7,8,9] 2 (fun p1=>([(24,(eB p1))],[],[])) (fun p1=>?_) fun p1=>?_
 ·refine At.b 1 (fun _ e=>aN [] (aBi e)) fun r2=>?_
  refine At.s 19 2 ?_ ?_
  ·refine At.g [19] 5 ?_
   apply rt;exact At.jn 0
  ·refine At.g [19] 2 ?_
   refine At.b 0 (fun _ e=>aN [] (zA e)) fun r3=>?_
   refine At.g [19] 2 ?_
   apply rt;exact At.jn 0
 ·refine At.c 0 ?_ ?_
  ·apply rt;exact At.r 2
  ·refine At.b 2 (fun _ e=>aN [] (aGs e)) fun r4=>?_
   refine At.o 1 (aB3 hT (t:=309) (x:=(.st 3 [(aC.enc r4)])) (by kernel_rfl) (by kernel_rfl)) ?_
   refine At.c 4 ?_ ?_
   ·refine At.b 0 (fun _ e=>dG hT (N:=2) (k:=1) k32 a3 e) fun e5=>?_
    refine At.b 1 (fun _ e=>aN [] (aA9 e)) fun r6=>?_
    refine At.o 1 (aB3 hT (t:=313) (x:=(.st 3 [(aC.enc r6)])) (by kernel_rfl) (by kernel_rfl)) ?_
    refine At.b 4 (fun _ e=>aN [] (aDG e)) fun r7=>?_
    refine At.o 7 (aL9 hT (t:=313) (u:=313) (x:=(.st 3 [(aC.enc r6)])) (y:=(.tup [(.st 3 [(aC.enc r6)]),(eB true)])) (by kernel_rfl) (by kernel_rfl)) ?_
    refine At.c 10 ?_ ?_
    ·apply rt;exact At.r 2
    ·refine bi fun r8 hr8=>?_
     refine bi fun r9 hr9=>?_
     refine At.d 0 (dE2 2 (aB.enc r8) (fun _=>aO (yP hr8)) (dE2 4 (aB.enc r9) (fun _=>aO (jK hr9)) dE0)) dF0 ?_
     apply rt;exact At.r 0
   ·refine At.b 3 (fun _ e=>aN [] (aCo e)) fun r10=>?_
    refine At.o 7 (aL9 hT (t:=309) (u:=313) (x:=(.st 3 [(aC.enc r4)])) (y:=(.tup [(.st 3 [(.st 3 [(j64 0),(j64 0),(j64 0)])]),(eB false)])) (by kernel_rfl) (by kernel_rfl)) ?_
    refine At.o 10 (aDM aA8 (r10.1:aC) (aC.mk 0 0 0:aC) (by kernel_rfl) (by kernel_rfl) (fun _=>rfl) (fun _=>rfl) (by kernel_rfl) (by kernel_rfl)) ?_
    refine At.c 0 ?_ ?_
    ·apply rt;exact At.r 2
    ·refine bi fun r11 hr11=>?_
     refine bi fun r12 hr12=>?_
     refine At.d 0 (dE2 2 (aB.enc r11) (fun _=>aO (yP hr11)) (dE2 4 (aB.enc r12) (fun _=>aO (jK hr12)) dE0)) dF0 ?_
     apply rt;exact At.r 0
def aA5 : Nat→Bool:=imL [7,8]
def bW (N:Nat) (s17:(List Int)) (a0 a1:aC) (a2 a3:Int) (a5:aM) (a4:Bool):Nat→Int→Int→Option (Sum (Int) (Int×Bool))
 | 0,_,_=>none
 | k+1,s19,s20=>
  aV (decide (s20 < ((s17.length:Int)))) fun x21=>
  cond x21 (
   Option.bind (idx s17 s20) fun e22=>
   Option.bind (cE N a0 a1 a2 a3 e22 (aM.mk a5.gR a5.gA a5.gl (I64 (s19+1)))) fun r23=>
   Option.bind (cond r23.2 (
    aV (decide (r23.1.gT < r23.1.gM)) fun x25=>
    some (cond (!a4) true x25)) (
    some false)) fun p24=>
   cond p24 (
    some (Sum.inr ((I64 (s19+1),true)))) (
    bW N s17 a0 a1 a2 a3 a5 a4 k (I64 (s19+1)) (I64 (s20+1)))) (
   some (Sum.inl s19))
def cW (N:Nat) (a5:aM) (a0 a1:aC) (a2 a3:Int) (a4:Bool):Nat→(List Int)→Int→Nat→Option (Sum ((List Int)×Int) (Int×Bool))
 | 0,_,_,_=>none
 | k+1,s6,s7,s8=>
  aV (decide (((s8:Int)) > 0)) fun x9=>
  cond x9 (
   Option.bind (wU s6.length 0 s8 (I64 (((s8:Int)) - 1))) fun _=>
   Option.bind (s6[((I64 (((s8:Int)) - 1)).toNat)]?) fun e11=>
   Option.bind (idx a5.gR.gQ e11) fun e12=>
   Option.bind (aIE s6.length 0 s8 0 (I64 (((s8:Int)) - 1))) fun _=>
   Option.bind (oJ N e12.gLo e12.gHi a0 a1) fun r14=>
   cond (!r14.2) (
    cW N a5 a0 a1 a2 a3 a4 k s6 (I64 (s7+1)) ((I64 (((s8:Int)) - 1)).toNat)) (
    cond (decide (e12.gA6≥0)) (
     Option.bind (aJS 8 s6 ((I64 (((s8:Int)) - 1)).toNat) (([e12.gA7,e12.gA6]:List Int))) fun z15=>
     cW N a5 a0 a1 a2 a3 a4 k z15 (I64 (s7+1)) ((I64 (((s8:Int)) - 1)).toNat+2)) (
     aV (I64 (e12.gC2+e12.gC9)) fun x16=>
     Option.bind (wC a5.gR.gB9 e12.gC2 x16) fun s17=>
     Option.bind (bW N s17 a0 a1 a2 a3 a5 a4 N (I64 (s7+1)) 0) fun o=>lP o (fun p18=>
      cW N a5 a0 a1 a2 a3 a4 k s6 p18 ((I64 (((s8:Int)) - 1)).toNat)) (fun r=>some (Sum.inr r))))) (
   some (Sum.inl ((s6,s7))))
def dI (N:Nat) (a0 a1:aC) (a2 a3:Int) (a4:Bool) (a5:aM):Option (Int×Bool):=
 Option.bind (Option.bind (iG N a5) fun r2=>
 aV ((a5.gR.gQ.length:Int)) fun x3=>
 cond (cond r2 true (x3==0)) (
  some true) (
  Option.bind (pM N a0 a1) fun r4=>
  some (!r4))) fun p1=>
 cond p1 (
  some ((a5.gD8,false))) (
  Option.bind (cW N a5 a0 a1 a2 a3 a4 N (([0]:List Int)) a5.gD8 ((([0]:List Int)).length)) fun o=>lP o (fun p5=>
   some ((p5.2,false))) (fun r=>some r))
theorem mB {N a0 a1 a2 a3 a4 a5 r} (h:dI N a0 a1 a2 a3 a4 a5=some r):FnM Tryz.prog 301 [.var (aM.enc a5)] [(.ref 0 [] 0),(aC.enc a0),(aC.enc a1),(k8 a2),(j64 a3),(eB a4)] (eB r.2) [.var (.st 5 [(aY.enc a5.gR),(eB a5.gA),(eL 19 aE.enc a5.gl),(j64 r.1)])]:=by
 unfold dI at h
 refine At.f aA5 hT hmo Tryz.func301 rfl h ?_
 refine At.J 3 0 [0,3,4,5,7,8] 1 (fun p1=>([(37,(eB p1))],[],[])) (fun p1=>?_) fun p1=>?_
 ·refine At.b 1 (fun _ e=>aN [0] (xG e)) fun r2=>?_
  refine lx ?_;intro x3
  refine At.s 32 10 ?_ ?_
  ·refine At.g [32] 5 ?_
   apply rt;exact At.jn 0
  ·refine At.g [32] 2 ?_
   refine At.b 0 (fun _ e=>aN [] (zA e)) fun r4=>?_
   refine At.g [32] 2 ?_
   apply rt;exact At.jn 0
 ·refine At.c 0 ?_ ?_
  ·apply rt;exact At.r 1
  ·refine At.o 0 (aCw hT j64 (k:=1) ([0]:List Int) (by kernel_rfl) (by kernel_rfl)) ?_
   refine At.gsub 1 13 ?_
   refine At.LS 0 [] 2 (fun p5=>([],[(0,.var (.st 5 [(aY.enc a5.gR),(eB a5.gA),(eL 19 aE.enc a5.gl),(j64 p5.2)])),(1,.gro 1 (List.map j64 p5.1))],[])) (fun op5 J k=>∃ s6 s7 s8,cW N a5 a0 a1 a2 a3 a4 k s6 s7 s8=some op5∧J [0,3,4,5,7,8] 2 [(13,(.gro 1 1 s6.length (.sub 0 s8)))] [(0,.var (.st 5 [(aY.enc a5.gR),(eB a5.gA),(eL 19 aE.enc a5.gl),(j64 s7)])),(1,.gro 1 (List.map j64 s6))] []) N (fun _ h=>⟨_,_,_,h,jr⟩) (fun op5 g5 k s hI=>?_) fun p5=>?_
   ·obtain ⟨s6,s7,s8,h,hj⟩:=hI
    cases k with
    | zero=>cases h
    | succ k=>
     refine At.jr hj ?_ h
     refine lx ?_;intro x9
     refine At.c 3 ?_ ?_
     ·refine bi fun u10 hu10=>?_
      refine bi fun e11 he11=>?_
      refine bi fun e12 he12=>?_
      refine At.d 0 (dE1 9 (fun _=>jJ hT (id:=1) (k:=1) hu10 (by kernel_rfl) (by kernel_rfl)) (dET 10 (j64 e11) [[.var (.st 5 [(aY.enc a5.gR),(eB a5.gA),(eL 19 aE.enc a5.gl),(j64 s7)]),.gro 1 (List.map j64 s6)],[.var (.st 5 [(aY.enc a5.gR),(eB a5.gA),(eL 19 aE.enc a5.gl),(j64 s7)]),.gro 1 (List.map j64 s6),.var cv_8]] ⟨bS (oD hT j64 [] he11 rfl (by kernel_rfl) (by kernel_rfl)),bS (oD hT j64 [] he11 rfl (by kernel_rfl) (by kernel_rfl)),trivial⟩ (dE1 11 (fun _=>cH hT bC.enc he12) dE0))) dF0 ?_
      refine At.b 4 (fun _ e=>aFA hT (id:=1) (k:=1) (L:=s6.length) (lo0:=0) (m:=s8) e (by kernel_rfl) (by kernel_rfl)) fun s13=>?_
      refine At.b 15 (fun _ e=>aN [] (aDB e)) fun r14=>?_
      refine At.c 8 ?_ ?_
      ·exact fun h=>At.k 0 ⟨_,_,_,h,jr⟩
      ·refine At.c 3 ?_ ?_
       ·refine At.o 5 (cT hT (x:=(.sl 1 2 [(j64 e12.gA7),(j64 e12.gA6)]))) ?_
        refine At.b 0 (fun z15 e=>aED hT j64 (id:=1) (k:=1) e (by kernel_rfl) (by kernel_rfl) (H':=[.var (.st 5 [(aY.enc a5.gR),(eB a5.gA),(eL 19 aE.enc a5.gl),(j64 (I64 (s7+1)))]),.gro 1 (List.map j64 z15),.var (bC.enc e12),.var (aW.enc r14.1)]) (by kernel_rfl)) fun z15=>?_
        exact fun h=>At.k 1 ⟨_,_,_,h,jr⟩
       ·refine lx ?_;intro x16
        refine bi fun s17 hs17=>?_
        refine At.d 0 (dE1 12 (fun _=>zR hT (k:=1) j64 hs17) dE0) dF0 ?_
        refine At.LS 0 [0,3,4,5,7,8,13] 4 (fun p18=>([],[(0,.var (.st 5 [(aY.enc a5.gR),(eB a5.gA),(eL 19 aE.enc a5.gl),(j64 p18)]))],[])) (fun op18 J k=>∃ s19 s20,bW N s17 a0 a1 a2 a3 a5 a4 k s19 s20=some op18∧J [0,3,4,5,7,8,13,101,102] 4 [(103,(j64 s20))] [(0,.var (.st 5 [(aY.enc a5.gR),(eB a5.gA),(eL 19 aE.enc a5.gl),(j64 s19)]))] []) N (fun _ h=>⟨_,_,h,jr⟩) (fun op18 g18 k s hI=>?_) fun p18=>?_
        ·obtain ⟨s19,s20,h,hj⟩:=hI
         cases k with
         | zero=>cases h
         | succ k=>
          refine At.jr hj ?_ h
          refine lx ?_;intro x21
          refine At.c 1 ?_ ?_
          ·refine At.b 0 (fun _ e=>cH hT j64 e) fun e22=>?_
           refine At.b 16 (fun _ e=>aN [0] (tB e)) fun r23=>?_
           refine At.J 6 0 [0,3,4,5,7,8,13,101,102,103] 5 (fun p24=>([(135,(eB p24))],[],[])) (fun p24=>?_) fun p24=>?_
           ·refine At.s 125 2 ?_ ?_
            ·refine lx ?_;intro x25
             refine At.g [125] 10 ?_
             apply rt;exact At.jn 0
            ·refine At.g [125,128] 10 ?_
             apply rt;exact At.jn 0
           ·refine At.c 0 ?_ ?_
            ·intro e;apply rtS2 g18 g5 e;exact At.r 1
            ·exact fun h=>At.k 2 ⟨_,_,h,jr⟩
          ·apply rt;exact At.xs 0
        ·exact fun h=>At.k 0 ⟨_,_,_,h,jr⟩
     ·apply rt;exact At.xs 0
   ·apply rt;exact At.r 1
def aBI : Nat→Bool:=imL [3]
def fP (N:Nat) (x1:Int) (a8:aG) (b4:(List (List aD))) (a2:aH) (a3:aB) (a5:Int) (a6:Bool) (a7:aF) (a9:aI) (a10:aB) (a11:aJ) (a1:aR):Nat→aB→aA→aM→Int→Option (aB×aA×aM)
 | 0,_,_,_,_=>none
 | k+1,s3,s4,s5,s6=>
  cond (decide (s6 < x1)) (
   Option.bind (Option.bind (idx a8.gJ s6) fun e8=>
   aV (I64 (8+(I64 (2*s6)))) fun x9=>
   Option.bind (dS N b4 x9 a2 a3 s3 a5 a6 a7 a8 a9 a10 a11 s4 s5) fun r10=>
   aV (I64 (9+(I64 (2*s6)))) fun x11=>
   Option.bind (dS N b4 x11 a2 a3 s3 a5 a6 a7 a8 a9 a10 a11 (aA.mk r10.1 s4.gA s4.gC s4.gB s4.gD) s5) fun r12=>
   Option.bind (mW N e8 a1.gat a1.gn (#v[r10.2,r12.2])) fun r13=>
   aV (cond r13.gC0 (!a9.gA4) false) fun x14=>
   cond x14 (
    some ((s3,aA.mk r12.1 ((aA.mk r10.1 s4.gA s4.gC s4.gB s4.gD).gA) ((aA.mk r10.1 s4.gA s4.gC s4.gB s4.gD).gC) ((aA.mk r10.1 s4.gA s4.gC s4.gB s4.gD).gB) ((aA.mk r10.1 s4.gA s4.gC s4.gB s4.gD).gD),s5.gD8,e8,r13))) (
    Option.bind (Option.bind (dI N a1.gat r13.gC6 2 a1.gi (!r13.gC7) s5) fun r16=>
    cond (!r16.2) (
     cond (!r13.gC0) (
      some ((r16.1,a1.gF.gI==0))) (
      some ((r16.1,false)))) (
     some ((r16.1,false)))) fun p15=>
    cond p15.2 (
     Option.bind (iO N b4 ([a1.gc,r13.gC1]) a2 a3 s3 a5 a6 a7 a8 a9 a10 a11 (aA.mk r12.1 ((aA.mk r10.1 s4.gA s4.gC s4.gB s4.gD).gA) ((aA.mk r10.1 s4.gA s4.gC s4.gB s4.gD).gC) ((aA.mk r10.1 s4.gA s4.gC s4.gB s4.gD).gB) ((aA.mk r10.1 s4.gA s4.gC s4.gB s4.gD).gD)) (aM.mk s5.gR s5.gA s5.gl p15.1)) fun r17=>
     some ((r17,aA.mk r12.1 ((aA.mk r10.1 s4.gA s4.gC s4.gB s4.gD).gA) ((aA.mk r10.1 s4.gA s4.gC s4.gB s4.gD).gC) ((aA.mk r10.1 s4.gA s4.gC s4.gB s4.gD).gB) ((aA.mk r10.1 s4.gA s4.gC s4.gB s4.gD).gD),p15.1,e8,r13))) (
     some ((s3,aA.mk r12.1 ((aA.mk r10.1 s4.gA s4.gC s4.gB s4.gD).gA) ((aA.mk r10.1 s4.gA s4.gC s4.gB s4.gD).gC) ((aA.mk r10.1 s4.gA s4.gC s4.gB s4.gD).gB) ((aA.mk r10.1 s4.gA s4.gC s4.gB s4.gD).gD),p15.1,e8,r13))))) fun p7=>
   fP N x1 a8 b4 a2 a3 a5 a6 a7 a9 a10 a11 a1 k p7.1 p7.2.1 (aM.mk s5.gR s5.gA s5.gl p7.2.2.1) (I64 (s6+1))) (
   some ((s3,s4,s5)))
def oV (N:Nat) (r18:Int×Int) (x19:Int) (a1:aR):Nat→aM→Int→Option (aM)
 | 0,_,_=>none
 | k+1,s21,s22=>
  aV (decide (s22 < (I64 (r18.2 - x19)))) fun x23=>
  cond x23 (
   Option.bind (dI N a1.gat (aC.mk 0 0 0) 2 a1.gi false s21) fun r24=>
   oV N r18 x19 a1 k (aM.mk s21.gR s21.gA s21.gl r24.1) (I64 (s22+1))) (
   some s21)
def kJ (N:Nat) (b4:(List (List aD))) (a1:aR) (a2:aH) (a3 a4:aB) (a5:Int) (a6:Bool) (a7:aF) (a8:aG) (a9:aI) (a10:aB) (a11:aJ) (a12:aA) (a13:aM):Option (aB×aA×aM):=
 aV ((a8.gJ.length:Int)) fun x1=>
 Option.bind (fP N x1 a8 b4 a2 a3 a5 a6 a7 a9 a10 a11 a1 N a4 a12 a13 0) fun p2=>
 cond (!a9.gA4) (
  some ((p2.1,p2.2.1,p2.2.2))) (
  Option.bind (iW N a9.gS) fun r18=>
  aV ((a8.gJ.length:Int)) fun x19=>
  Option.bind (oV N r18 x19 a1 N p2.2.2 0) fun p20=>
  some ((p2.1,p2.2.1,p20)))
theorem aA1 {N b4 a1 a2 a3 a4 a5 a6 a7 a8 a9 a10 a11 a12 a13 r} (h:kJ N b4 a1 a2 a3 a4 a5 a6 a7 a8 a9 a10 a11 a12 a13=some r):FnM Tryz.prog 88 [.var (.st 26 [(aH.enc a2),(.ref 1 [] 0),(.ref 2 [] 0),(aB.enc a3),(aB.enc a4),(j64 a5),(eB a6),(aF.enc a7)]),.var (.st 38 [(aG.enc a8),(aI.enc a9),(.ifc 91 (.ref 3 [] 0)),(eO 4 1 (eL 2 aD.enc) b4),(aB.enc a10),(aJ.enc a11)]),.var (aA.enc a12),.var (aM.enc a13),.tail (b4.length*1)] [(.ref 0 [] 0),(aR.enc a1)] (.tup []) [.var (.st 26 [(aH.enc a2),(.ref 1 [] 0),(.ref 2 [] 0),(aB.enc a3),(aB.enc r.1),(j64 a5),(eB a6),(aF.enc a7)]),.var (.st 38 [(aG.enc a8),(aI.enc a9),(.ifc 91 (.ref 3 [] 0)),(eO 4 1 (eL 2 aD.enc) b4),(aB.enc a10),(aJ.enc a11)]),.var (aA.enc r.2.1),.var (aM.enc r.2.2),.tail (b4.length*1)]:=by
 unfold kJ at h
 refine At.f aBI hT hmo Tryz.func88 rfl h ?_
 refine lx ?_;intro x1
 refine At.L 11 [0,3] 5 (fun p2=>([],[(0,.var (.st 26 [(aH.enc a2),(.ref 1 [] 0),(.ref 2 [] 0),(aB.enc a3),(aB.enc p2.1),(j64 a5),(eB a6),(aF.enc a7)])),(2,.var (aA.enc p2.2.1)),(3,.var (aM.enc p2.2.2))],[])) (fun p2 J k=>∃ s3 s4 s5 s6,fP N x1 a8 b4 a2 a3 a5 a6 a7 a9 a10 a11 a1 k s3 s4 s5 s6=some p2∧J [0,3,16,17] 5 [(18,(j64 s6))] [(0,.var (.st 26 [(aH.enc a2),(.ref 1 [] 0),(.ref 2 [] 0),(aB.enc a3),(aB.enc s3),(j64 a5),(eB a6),(aF.enc a7)])),(2,.var (aA.enc s4)),(3,.var (aM.enc s5))] []) N (fun _ h=>⟨_,_,_,_,h,jr⟩) (fun p2 k s hI=>?_) fun p2=>?_
 ·obtain ⟨s3,s4,s5,s6,h,hj⟩:=hI
  cases k with
  | zero=>cases h
  | succ k=>
   refine At.jr hj ?_ h
   refine At.c 1 ?_ ?_
   ·refine At.J 0 2 [0,3,16,17,18] 5 (fun p7=>([],[(0,.var (.st 26 [(aH.enc a2),(.ref 1 [] 0),(.ref 2 [] 0),(aB.enc a3),(aB.enc p7.1),(j64 a5),(eB a6),(aF.enc a7)])),(2,.var (aA.enc p7.2.1)),(3,.var (.st 5 [(aY.enc s5.gR),(eB s5.gA),(eL 19 aE.enc s5.gl),(j64 p7.2.2.1)]))],[.var (aS.enc p7.2.2.2.1),.var (jB.enc p7.2.2.2.2)])) (fun p7=>?_) fun p7=>?_
    ·refine At.b 1 (fun _ e=>cH hT aS.enc e) fun e8=>?_
     refine lx ?_;intro x9
     refine bi fun r10 hr10=>?_
     refine lx ?_;intro x11
     refine bi fun r12 hr12=>?_
     refine bi fun r13 hr13=>?_
     refine At.d2 4 [false] (dC2 16 (jB.enc r13) (fun _=>aO (aBO hr13)) dC0) (dS1 9 ⟨(k32 r10.2),2,.var (.st 72 [(aT.enc r10.1),(eB s4.gA),(k64 s4.gC),(j64 s4.gB),(j64 s4.gD)]),.var (aA.enc s4)⟩ [[.var (.st 26 [(aH.enc a2),(.ref 1 [] 0),(.ref 2 [] 0),(aB.enc a3),(aB.enc s3),(j64 a5),(eB a6),(aF.enc a7)]),.var (.st 38 [(aG.enc a8),(aI.enc a9),(.ifc 91 (.ref 3 [] 0)),(eO 4 1 (eL 2 aD.enc) b4),(aB.enc a10),(aJ.enc a11)]),.var (aA.enc s4),.var (aM.enc s5),.tail (b4.length*1),.var (aS.enc e8),.dead],[.var (.st 26 [(aH.enc a2),(.ref 1 [] 0),(.ref 2 [] 0),(aB.enc a3),(aB.enc s3),(j64 a5),(eB a6),(aF.enc a7)]),.var (.st 38 [(aG.enc a8),(aI.enc a9),(.ifc 91 (.ref 3 [] 0)),(eO 4 1 (eL 2 aD.enc) b4),(aB.enc a10),(aJ.enc a11)]),.var (aA.enc s4),.var (aM.enc s5),.tail (b4.length*1),.var (aS.enc e8),.var aMp]] ⟨bS (aN [0,1,2,3,4] (cZ hr10)),bS (aN [0,1,2,3,4] (cZ hr10)),trivial⟩ (dS1 14 ⟨(k32 r12.2),2,.var (.st 72 [(aT.enc r12.1),(eB ((aA.mk r10.1 s4.gA s4.gC s4.gB s4.gD).gA)),(k64 ((aA.mk r10.1 s4.gA s4.gC s4.gB s4.gD).gC)),(j64 ((aA.mk r10.1 s4.gA s4.gC s4.gB s4.gD).gB)),(j64 ((aA.mk r10.1 s4.gA s4.gC s4.gB s4.gD).gD))]),.var (.st 72 [(aT.enc r10.1),(eB s4.gA),(k64 s4.gC),(j64 s4.gB),(j64 s4.gD)])⟩ [[.var (.st 26 [(aH.enc a2),(.ref 1 [] 0),(.ref 2 [] 0),(aB.enc a3),(aB.enc s3),(j64 a5),(eB a6),(aF.enc a7)]),.var (.st 38 [(aG.enc a8),(aI.enc a9),(.ifc 91 (.ref 3 [] 0)),(eO 4 1 (eL 2 aD.enc) b4),(aB.enc a10),(aJ.enc a11)]),.var (.st 72 [(aT.enc r10.1),(eB s4.gA),(k64 s4.gC),(j64 s4.gB),(j64 s4.gD)]),.var (aM.enc s5),.tail (b4.length*1),.var (aS.enc e8),.dead],[.var (.st 26 [(aH.enc a2),(.ref 1 [] 0),(.ref 2 [] 0),(aB.enc a3),(aB.enc s3),(j64 a5),(eB a6),(aF.enc a7)]),.var (.st 38 [(aG.enc a8),(aI.enc a9),(.ifc 91 (.ref 3 [] 0)),(eO 4 1 (eL 2 aD.enc) b4),(aB.enc a10),(aJ.enc a11)]),.var (.st 72 [(aT.enc r10.1),(eB s4.gA),(k64 s4.gC),(j64 s4.gB),(j64 s4.gD)]),.var (aM.enc s5),.tail (b4.length*1),.var (aS.enc e8),.var aMp]] ⟨bS (aN [0,1,2,3,4] (cZ hr12)),bS (aN [0,1,2,3,4] (cZ hr12)),trivial⟩ (dS1 17 ⟨(.ref 6 [] 0),6,.var aMp,.dead⟩ [[.var (.st 26 [(aH.enc a2),(.ref 1 [] 0),(.ref 2 [] 0),(aB.enc a3),(aB.enc s3),(j64 a5),(eB a6),(aF.enc a7)]),.var (.st 38 [(aG.enc a8),(aI.enc a9),(.ifc 91 (.ref 3 [] 0)),(eO 4 1 (eL 2 aD.enc) b4),(aB.enc a10),(aJ.enc a11)]),.var (aA.enc s4),.var (aM.enc s5),.tail (b4.length*1),.var (aS.enc e8),.dead],[.var (.st 26 [(aH.enc a2),(.ref 1 [] 0),(.ref 2 [] 0),(aB.enc a3),(aB.enc s3),(j64 a5),(eB a6),(aF.enc a7)]),.var (.st 38 [(aG.enc a8),(aI.enc a9),(.ifc 91 (.ref 3 [] 0)),(eO 4 1 (eL 2 aD.enc) b4),(aB.enc a10),(aJ.enc a11)]),.var (.st 72 [(aT.enc r12.1),(eB ((aA.mk r10.1 s4.gA s4.gC s4.gB s4.gD).gA)),(k64 ((aA.mk r10.1 s4.gA s4.gC s4.gB s4.gD).gC)),(j64 ((aA.mk r10.1 s4.gA s4.gC s4.gB s4.gD).gB)),(j64 ((aA.mk r10.1 s4.gA s4.gC s4.gB s4.gD).gD))]),.var (aM.enc s5),.tail (b4.length*1),.var (aS.enc e8),.dead],[.var (.st 26 [(aH.enc a2),(.ref 1 [] 0),(.ref 2 [] 0),(aB.enc a3),(aB.enc s3),(j64 a5),(eB a6),(aF.enc a7)]),.var (.st 38 [(aG.enc a8),(aI.enc a9),(.ifc 91 (.ref 3 [] 0)),(eO 4 1 (eL 2 aD.enc) b4),(aB.enc a10),(aJ.enc a11)]),.var (.st 72 [(aT.enc r10.1),(eB s4.gA),(k64 s4.gC),(j64 s4.gB),(j64 s4.gD)]),.var (aM.enc s5),.tail (b4.length*1),.var (aS.enc e8),.dead],[.var (.st 26 [(aH.enc a2),(.ref 1 [] 0),(.ref 2 [] 0),(aB.enc a3),(aB.enc s3),(j64 a5),(eB a6),(aF.enc a7)]),.var (.st 38 [(aG.enc a8),(aI.enc a9),(.ifc 91 (.ref 3 [] 0)),(eO 4 1 (eL 2 aD.enc) b4),(aB.enc a10),(aJ.enc a11)]),.var (.st 72 [(aT.enc r12.1),(eB ((aA.mk r10.1 s4.gA s4.gC s4.gB s4.gD).gA)),(k64 ((aA.mk r10.1 s4.gA s4.gC s4.gB s4.gD).gC)),(j64 ((aA.mk r10.1 s4.gA s4.gC s4.gB s4.gD).gB)),(j64 ((aA.mk r10.1 s4.gA s4.gC s4.gB s4.gD).gD))]),.var (aM.enc s5),.tail (b4.length*1),.var (aS.enc e8),.dead]] ⟨aX hT 6 (by kernel_rfl) (by kernel_rfl) (by kernel_rfl),aX hT 6 (by kernel_rfl) (by kernel_rfl) (by kernel_rfl),aX hT 6 (by kernel_rfl) (by kernel_rfl) (by kernel_rfl),aX hT 6 (by kernel_rfl) (by kernel_rfl) (by kernel_rfl),trivial⟩ dS0))) ?_
     refine lx ?_;intro x14
     refine At.c 13 ?_ ?_
     ·apply rt;exact At.jn 0
     ·refine At.J 0 0 [0,3,6,16,17,18] 7 (fun p15=>([(81,(eB p15.2))],[(3,.var (.st 5 [(aY.enc s5.gR),(eB s5.gA),(eL 19 aE.enc s5.gl),(j64 p15.1)]))],[])) (fun p15=>?_) fun p15=>?_
      ·refine bi fun r16 hr16=>?_
       refine boI (fun hc18=>?_) (fun hc18=>?_)
       ·refine boI (fun hc23=>?_) (fun hc23=>?_)
        ·refine At.d 0 (dE1 18 (fun _=>dM hc18 rfl (dC hT (im:=false) (by kernel_rfl))) (dE1 23 (fun _=>dM hc23 rfl (dC hT (im:=false) (by kernel_rfl))) dE0)) (dF 16 (eB r16.2) [(3,.var (.st 5 [(aY.enc s5.gR),(eB s5.gA),(eL 19 aE.enc s5.gl),(j64 r16.1)]))] [] (bS (aN [3] (mB hr16))) dF0) ?_
         apply rt;exact At.jn 0
        ·refine At.d 0 (dE1 18 (fun _=>dM hc18 rfl (dC hT (im:=false) (by kernel_rfl))) (dE1 23 (fun _=>dM hc23 rfl (dC hT (im:=false) (by kernel_rfl))) dE0)) (dF 16 (eB r16.2) [(3,.var (.st 5 [(aY.enc s5.gR),(eB s5.gA),(eL 19 aE.enc s5.gl),(j64 r16.1)]))] [] (bS (aN [3] (mB hr16))) dF0) ?_
         apply rt;exact At.jn 0
       ·refine At.d 0 (dE1 18 (fun _=>dM hc18 rfl (dC hT (im:=false) (by kernel_rfl))) dE0) (dF 16 (eB r16.2) [(3,.var (.st 5 [(aY.enc s5.gR),(eB s5.gA),(eL 19 aE.enc s5.gl),(j64 r16.1)]))] [] (bS (aN [3] (mB hr16))) dF0) ?_
        apply rt;exact At.jn 0
      ·refine At.c 0 ?_ ?_
       ·refine At.o 5 (cT hT (x:=(.sl 3 2 [(aB.enc a1.gc),(aB.enc r13.gC1)]))) ?_
        refine At.b 0 (fun _ e=>aN [0,1,2,3,4] (rZ e)) fun r17=>?_
        apply rt;exact At.jn 0
       ·apply rt;exact At.jn 0
    ·exact fun h=>At.k 2 ⟨_,_,_,_,h,jr⟩
   ·apply rt;exact At.x 0
 ·refine At.c 9 ?_ ?_
  ·apply rt;exact At.r 0
  ·refine At.b 8 (fun _ e=>aN [] (sN e)) fun r18=>?_
   refine lx ?_;intro x19
   refine At.L 17 [] 5 (fun p20=>([],[(3,.var (aM.enc p20))],[])) (fun p20 J k=>∃ s21 s22,oV N r18 x19 a1 k s21 s22=some p20∧J [0,3,121] 5 [(122,(j64 s22))] [(3,.var (aM.enc s21))] []) N (fun _ h=>⟨_,_,h,jr⟩) (fun p20 k s hI=>?_) fun p20=>?_
   ·obtain ⟨s21,s22,h,hj⟩:=hI
    cases k with
    | zero=>cases h
    | succ k=>
     refine At.jr hj ?_ h
     refine lx ?_;intro x23
     refine At.c 1 ?_ ?_
     ·refine bi fun r24 hr24=>?_
      refine At.d 0 dE0 (dF 12 (eB r24.2) [(3,.var (.st 5 [(aY.enc s21.gR),(eB s21.gA),(eL 19 aE.enc s21.gl),(j64 r24.1)]))] [] (bS (aN [3] (mB hr24))) dF0) ?_
      exact fun h=>At.k 2 ⟨_,_,h,jr⟩
     ·apply rt;exact At.x 0
   ·apply rt;exact At.z 0
def aDX : Nat→Bool:=imL [3,4]
def oA (N:Nat) (a0 a1:aB) (a2:Int):Option (cQ):=
 Option.bind (rU N a2) fun r1=>
 Option.bind (fI N r1) fun r2=>
 Option.bind (qT N a1 r2) fun r3=>
 Option.bind (cond (decide (r3 < 0)) (
  Option.bind (sL N r3) fun r5=>
  some ((aC.mk (I64 (0 - r1.gX)) (I64 (0 - r1.gY)) (I64 (0 - r1.gZ)),r5))) (
  some ((r1,r3)))) fun p4=>
 cond (p4.2==0) (
  some (cQ.mk (aC.mk 0 0 0) (aB.mk 0 0 0) true)) (
  Option.bind (lY N ([p4.2,p4.2])) fun r6=>
  Option.bind (iC N a0 r6) fun r7=>
  some (cQ.mk p4.1 r7 false))
theorem aCc {N a0 a1 a2 r} (h:oA N a0 a1 a2=some r):FnM Tryz.prog 167 [] [(aB.enc a0),(aB.enc a1),(k32 a2)] (cQ.enc r) []:=by
 unfold oA at h
 refine At.f aDX hT hmo Tryz.func167 rfl h ?_
 refine At.b 4 (fun _ e=>aN [] (aA9 e)) fun r1=>?_
 refine bi fun r2 hr2=>?_
 refine bi fun r3 hr3=>?_
 refine At.d 2 (dE2 2 (aB.enc r2) (fun _=>aO (lD hr2)) (dE2 3 (j64 r3) (fun _=>aO (wF hr3)) dE0)) dF0 ?_
 refine At.J 0 1 [3,6,7] 2 (fun p4=>([(8,(j64 p4.2))],[(1,.var (aC.enc p4.1))],[])) (fun p4=>?_) fun p4=>?_
 ·refine At.c 2 ?_ ?_
  ·refine bi fun r5 hr5=>?_
   refine At.d 0 (dE2 11 (j64 r5) (fun _=>aO (aAt hr5)) dE0) dF0 ?_
   apply rt;exact At.jn 0
  ·apply rt;exact At.jn 0
 ·refine At.c 2 ?_ ?_
  ·apply rt;exact At.r 2
  ·refine bi fun r6 hr6=>?_
   refine bi fun r7 hr7=>?_
   refine At.d 0 (dE1 4 (fun _=>cT hT (x:=(.sl 1 2 [(j64 p4.2),(j64 p4.2)]))) (dE2 5 (j64 r6) (fun _=>aO (tW hr6)) (dE2 6 (aB.enc r7) (fun _=>aO (jK hr7)) dE0))) dF0 ?_
   apply rt;exact At.r 0
def aEB : Nat→Bool:=imL [2,3]
def kT (N:Nat) (a0:aB) (a1:aC):Option (aB):=
 Option.bind (fI N a1) fun r1=>
 Option.bind (qT N a0 r1) fun r2=>
 Option.bind (lY N ([r2,r2])) fun r3=>
 Option.bind (iC N a0 r3) fun r4=>
 Option.bind (sV N r1 r4) fun r5=>
 some r5
theorem vA {N a0 a1 r} (h:kT N a0 a1=some r):FnM Tryz.prog 168 [] [(aB.enc a0),(aC.enc a1)] (aB.enc r) []:=by
 unfold kT at h
 refine At.f aEB hT hmo Tryz.func168 rfl h ?_
 refine At.b 4 (fun _ e=>aN [] (lD e)) fun r1=>?_
 refine At.b 4 (fun _ e=>aN [] (wF e)) fun r2=>?_
 refine bi fun r3 hr3=>?_
 refine bi fun r4 hr4=>?_
 refine bi fun r5 hr5=>?_
 refine At.d 1 (dE1 4 (fun _=>cT hT (x:=(.sl 1 2 [(j64 r2),(j64 r2)]))) (dE2 5 (j64 r3) (fun _=>aO (tW hr3)) (dE2 6 (aB.enc r4) (fun _=>aO (jK hr4)) (dE2 7 (aB.enc r5) (fun _=>aO (aAr hr5)) dE0)))) dF0 ?_
 apply rt;exact At.r 0
def aEt : Nat→Bool:=imL [2,3]
def kC (N:Nat) (a0 a1:aB):Option (cQ):=
 Option.bind (sO N a0) fun r1=>
 cond (r1.2 != 0) (
  some (cQ.mk (aC.mk 0 0 0) (aB.mk 0 0 0) true)) (
  some (cQ.mk r1.1 a1 false))
theorem sM {N a0 a1 r} (h:kC N a0 a1=some r):FnM Tryz.prog 171 [] [(aB.enc a0),(aB.enc a1)] (cQ.enc r) []:=by
 unfold kC at h
 refine At.f aEt hT hmo Tryz.func171 rfl h ?_
 refine At.b 4 (fun _ e=>aN [] (aCM e)) fun r1=>?_
 refine At.c 8 ?_ ?_
 ·apply rt;exact At.r 2
 ·apply rt;exact At.r 4
def aC5 : Nat→Bool:=imL [5,6,7,8,9]
def iR (N:Nat) (a0:aU) (a1 a2:aB) (a3:aC) (a4:(Vector Int 2)):Option (cQ):=
 cond (a0.gI==0) (
  Option.bind (idx a4.toList 0) fun e1=>
  Option.bind (oA N a1 a2 e1) fun r2=>
  some r2) (
  cond (a0.gI==2) (
   Option.bind (jU N a0.gD7) fun r3=>
   Option.bind (jU N 65535) fun r4=>
   Option.bind (pO N r3 r4) fun r5=>
   Option.bind (kT N a2 a3) fun r6=>
   Option.bind (idx a4.toList 0) fun e7=>
   Option.bind (rU N e7) fun r8=>
   Option.bind (fI N r8) fun r9=>
   Option.bind (iC N r9 r5) fun r10=>
   Option.bind (kZ N ([r6,r10])) fun r11=>
   Option.bind (qT N a2 r11) fun r12=>
   cond (decide (r12≤0)) (
    some (cQ.mk (aC.mk 0 0 0) (aB.mk 0 0 0) true)) (
    Option.bind (kC N r11 a1) fun r13=>
    some r13)) (
   cond (a0.gI==3) (
    Option.bind (idx a4.toList 1) fun e14=>
    Option.bind (pR N e14 65536) fun r15=>
    aV (decide (r15≥a0.gD7)) fun x16=>
    cond x16 (
     Option.bind (fI N a3) fun r17=>
     Option.bind (kC N r17 a1) fun r18=>
     some r18) (
     Option.bind (kT N a2 a3) fun r19=>
     Option.bind (kC N r19 a1) fun r20=>
     some r20)) (
    cond (a0.gI==1) (
     Option.bind (kT N a2 a3) fun r21=>
     Option.bind (kC N r21 a1) fun r22=>
     some r22) (
     some (cQ.mk (aC.mk 0 0 0) (aB.mk 0 0 0) true)))))
theorem yX {N a0 a1 a2 a3 a4 r} (h:iR N a0 a1 a2 a3 a4=some r):FnM Tryz.prog 89 [] [(aU.enc a0),(aB.enc a1),(aB.enc a2),(aC.enc a3),(eA 2 1 k32 a4)] (cQ.enc r) []:=by
 unfold iR at h
 refine At.f aC5 hT hmo Tryz.func89 rfl h ?_
 refine At.c 10 ?_ ?_
 ·refine At.b 2 (fun _ e=>dG hT (N:=2) (k:=1) k32 a4 e) fun e1=>?_
  refine At.b 1 (fun _ e=>aN [] (aCc e)) fun r2=>?_
  apply rt;exact At.r 1
 ·refine At.c 2 ?_ ?_
  ·refine At.b 2 (fun _ e=>aN [] (kX e)) fun r3=>?_
   refine At.b 0 (fun _ e=>aN [] (kX e)) fun r4=>?_
   refine At.b 0 (fun _ e=>aN [] (uH e)) fun r5=>?_
   refine bi fun r6 hr6=>?_
   refine bi fun e7 he7=>?_
   refine bi fun r8 hr8=>?_
   refine bi fun r9 hr9=>?_
   refine bi fun r10 hr10=>?_
   refine bi fun r11 hr11=>?_
   refine At.d 1 (dE2 2 (aB.enc r6) (fun _=>aO (vA hr6)) (dE1 3 (fun _=>dG hT (N:=2) (k:=1) k32 a4 he7) (dE2 5 (aC.enc r8) (fun _=>aO (aA9 hr8)) (dE2 6 (aB.enc r9) (fun _=>aO (lD hr9)) (dE2 8 (aB.enc r10) (fun _=>aO (jK hr10)) (dE1 9 (fun _=>cT hT (x:=(.sl 3 2 [(aB.enc r6),(aB.enc r10)]))) (dE2 10 (aB.enc r11) (fun _=>aO (vR hr11)) dE0))))))) dF0 ?_
   refine At.b 2 (fun _ e=>aN [] (wF e)) fun r12=>?_
   refine At.c 1 ?_ ?_
   ·apply rt;exact At.r 2
   ·refine At.b 2 (fun _ e=>aN [] (sM e)) fun r13=>?_
    apply rt;exact At.r 1
  ·refine At.c 2 ?_ ?_
   ·refine bi fun e14 he14=>?_
    refine bi fun r15 hr15=>?_
    refine lx ?_;intro x16
    refine At.d 0 (dE1 0 (fun _=>dG hT (N:=2) (k:=1) k32 a4 he14) (dE2 2 (j64 r15) (fun _=>aO (aBC hr15)) dE0)) dF0 ?_
    refine At.c 0 ?_ ?_
    ·refine bi fun r17 hr17=>?_
     refine bi fun r18 hr18=>?_
     refine At.d 0 (dE2 1 (aB.enc r17) (fun _=>aO (lD hr17)) (dE2 3 (cQ.enc r18) (fun _=>aO (sM hr18)) dE0)) dF0 ?_
     apply rt;exact At.r 0
    ·refine bi fun r19 hr19=>?_
     refine bi fun r20 hr20=>?_
     refine At.d 0 (dE2 2 (aB.enc r19) (fun _=>aO (vA hr19)) (dE2 4 (cQ.enc r20) (fun _=>aO (sM hr20)) dE0)) dF0 ?_
     apply rt;exact At.r 0
   ·refine At.c 2 ?_ ?_
    ·refine bi fun r21 hr21=>?_
     refine bi fun r22 hr22=>?_
     refine At.d 0 (dE2 2 (aB.enc r21) (fun _=>aO (vA hr21)) (dE2 4 (cQ.enc r22) (fun _=>aO (sM hr22)) dE0)) dF0 ?_
     apply rt;exact At.r 0
    ·apply rt;exact At.r 2
def zV (N:Nat) (a0 a1 a2:Int):Option (Int):=
 some (kE (jH a0 a1) a2)
theorem aHk {N a0 a1 a2 r} (h:zV N a0 a1 a2=some r):FnM Tryz.prog 174 [] [(j64 a0),(j64 a1),(j64 a2)] (j64 r) []:=by
 unfold zV at h
 refine At.f dJ hT hmo Tryz.func174 rfl h ?_
 apply rt;exact At.r 7
def hS (N:Nat) (a0 a1:Int):Option (Int):=
 Option.bind (pO N a0 a1) fun r1=>
 some r1
theorem oO {N a0 a1 r} (h:hS N a0 a1=some r):FnM Tryz.prog 175 [] [(j64 a0),(.im (j64 a1))] (j64 r) []:=by
 unfold hS at h
 refine At.f dJ hT hmo Tryz.func175 rfl h ?_
 refine At.b 3 (fun _ e=>aN [] (uH e)) fun r1=>?_
 apply rt;exact At.r 1
def aCT : Nat→Bool:=imL [2]
def eM (N:Nat) (a0:aB) (a1:Int):Option (aB×Bool):=
 Option.bind (vV N a0) fun r1=>
 Option.bind (zV N r1 268435456 4294967296) fun r2=>
 Option.bind (oT N a1) fun r3=>
 cond (decide (r3≥r2)) (
  some ((aB.mk 0 0 0,false))) (
  Option.bind (hS N a0.gX r2) fun r4=>
  Option.bind (hS N a0.gY r2) fun r5=>
  Option.bind (hS N a0.gZ r2) fun r6=>
  some ((aB.mk r4 r5 r6,true)))
theorem xF {N a0 a1 r} (h:eM N a0 a1=some r):FnM Tryz.prog 91 [] [(aB.enc a0),(k32 a1)] (.tup [(aB.enc r.1),(eB r.2)]) []:=by
 unfold eM at h
 refine At.f aCT hT hmo Tryz.func91 rfl h ?_
 refine At.b 4 (fun _ e=>aN [] (aEK e)) fun r1=>?_
 refine At.b 0 (fun _ e=>aN [] (aHk e)) fun r2=>?_
 refine bi fun r3 hr3=>?_
 refine At.d 2 (dE2 1 (j64 r3) (fun _=>aO (yE hr3)) dE0) dF0 ?_
 refine At.c 0 ?_ ?_
 ·apply rt;exact At.r 3
 ·refine At.gz 0 1 ((j64 r2)) ?_
  refine At.o 0 (qJ (x:=(.fn (.func 175) [] [(.im (j64 r2))])) (by kernel_rfl) (by kernel_rfl)) ?_
  refine bi fun r4 hr4=>?_
  refine bi fun r5 hr5=>?_
  refine bi fun r6 hr6=>?_
  refine At.d 1 (dE2 3 (j64 r4) (fun _=>aO (oO hr4)) (dE2 7 (j64 r5) (fun _=>aO (oO hr5)) (dE2 11 (j64 r6) (fun _=>aO (oO hr6)) dE0))) dF0 ?_
  apply rt;exact At.r 0
def mL (N:Nat) (b4:(List (List aD))) (a1:aH) (a2 a3:aB) (a4:Int) (a5:Bool) (a6:aF) (a7:aG) (a8:aI) (a9:aB) (a10:aJ) (a11:aA) (a12:aM):Option (aH×aB×aB×Bool×aF×Int×aA×aM):=
 Option.bind (mI N b4 a1 a2 a3 a4 a5 a6 a7 a8 a9 a10 a11 a12) fun r1=>
 Option.bind (cond (!r1.2.2.2.2) (
  Option.bind (iO N b4 ([a9]) a1 a2 a3 a4 a5 r1.1 a7 a8 a9 (aJ.mk a10.gK r1.2.1 (I64 (a10.gL+1))) a11 (aM.mk a12.gR a12.gA a12.gl r1.2.2.1)) fun r3=>
  Option.bind (eT N b4 true a1 a2 r3 a4 a5 r1.1 a7 a8 a9 (aJ.mk a10.gK r1.2.1 (I64 (a10.gL+1))) a11 (aM.mk a12.gR a12.gA a12.gl r1.2.2.1)) fun r4=>
  some ((r3,cond a5 true true))) (
  some ((a3,a5)))) fun p2=>
 Option.bind (eT N b4 r1.2.2.2.1.gA8 a1 a2 p2.1 a4 p2.2 r1.1 a7 a8 a9 (aJ.mk a10.gK r1.2.1 (I64 (a10.gL+1))) a11 (aM.mk a12.gR a12.gA a12.gl r1.2.2.1)) fun r5=>
 Option.bind (aV (r1.2.2.2.1.gF.gI==4) fun x7=>
 cond x7 (
  Option.bind (iO N b4 ([r1.2.2.2.1.gc]) a1 a2 p2.1 a4 (cond p2.2 true r1.2.2.2.1.gA8) r1.1 a7 a8 a9 (aJ.mk a10.gK r1.2.1 (I64 (a10.gL+1))) a11 (aM.mk a12.gR a12.gA a12.gl r1.2.2.1)) fun r8=>
  Option.bind (eT N b4 true a1 a2 r8 a4 ((cond p2.2 true r1.2.2.2.1.gA8)) r1.1 a7 a8 a9 (aJ.mk a10.gK r1.2.1 (I64 (a10.gL+1))) a11 (aM.mk a12.gR a12.gA a12.gl r1.2.2.1)) fun r9=>
  some ((r8,cond ((cond p2.2 true r1.2.2.2.1.gA8)) true true))) (
  some ((p2.1,cond p2.2 true r1.2.2.2.1.gA8)))) fun p6=>
 Option.bind (Option.bind (cond a8.gA4 (
  some true) (
  aV (r1.2.2.2.1.gF.gI==0) fun x12=>
  some (cond (!p6.2) x12 false))) fun p11=>
 cond p11 (
  Option.bind (kJ N b4 r1.2.2.2.1 a1 a2 p6.1 a4 p6.2 r1.1 a7 a8 a9 (aJ.mk a10.gK r1.2.1 (I64 (a10.gL+1))) a11 (aM.mk a12.gR a12.gA a12.gl r1.2.2.1)) fun r13=>
  some ((r13.1,r13.2.1,r13.2.2))) (
  some ((p6.1,a11,aM.mk a12.gR a12.gA a12.gl r1.2.2.1)))) fun p10=>
 Option.bind (cond p6.2 (
  some true) (
  some (a4==a8.gN))) fun p14=>
 cond p14 (
  Option.bind (eT N b4 true a1 a2 p10.1 a4 p6.2 r1.1 a7 a8 a9 (aJ.mk a10.gK r1.2.1 (I64 (a10.gL+1))) p10.2.1 p10.2.2) fun r15=>
  some ((a1,a2,p10.1,cond p6.2 true true,r1.1,r1.2.1,p10.2.1,p10.2.2))) (
  Option.bind (dS N b4 4 a1 a2 p10.1 a4 p6.2 r1.1 a7 a8 a9 (aJ.mk a10.gK r1.2.1 (I64 (a10.gL+1))) p10.2.1 p10.2.2) fun r16=>
  Option.bind (dS N b4 5 a1 a2 p10.1 a4 p6.2 r1.1 a7 a8 a9 (aJ.mk a10.gK r1.2.1 (I64 (a10.gL+1))) (aA.mk r16.1 p10.2.1.gA p10.2.1.gC p10.2.1.gB p10.2.1.gD) p10.2.2) fun r17=>
  Option.bind (iR N r1.2.2.2.1.gF r1.2.2.2.1.gc r1.2.2.2.1.gn a1.gd (#v[r16.2,r17.2])) fun r18=>
  Option.bind (iE N ([a2,r18.gC1])) fun r19=>
  Option.bind (eT N b4 r18.gB3 a1 r19 p10.1 a4 p6.2 r1.1 a7 a8 a9 (aJ.mk a10.gK r1.2.1 (I64 (a10.gL+1))) (aA.mk r17.1 ((aA.mk r16.1 p10.2.1.gA p10.2.1.gC p10.2.1.gB p10.2.1.gD).gA) ((aA.mk r16.1 p10.2.1.gA p10.2.1.gC p10.2.1.gB p10.2.1.gD).gC) ((aA.mk r16.1 p10.2.1.gA p10.2.1.gC p10.2.1.gB p10.2.1.gD).gB) ((aA.mk r16.1 p10.2.1.gA p10.2.1.gC p10.2.1.gB p10.2.1.gD).gD)) p10.2.2) fun r20=>
  Option.bind (cond (decide (a4≥2)) (
   Option.bind (dS N b4 7 a1 r19 p10.1 a4 (cond p6.2 true r18.gB3) r1.1 a7 a8 a9 (aJ.mk a10.gK r1.2.1 (I64 (a10.gL+1))) (aA.mk r17.1 ((aA.mk r16.1 p10.2.1.gA p10.2.1.gC p10.2.1.gB p10.2.1.gD).gA) ((aA.mk r16.1 p10.2.1.gA p10.2.1.gC p10.2.1.gB p10.2.1.gD).gC) ((aA.mk r16.1 p10.2.1.gA p10.2.1.gC p10.2.1.gB p10.2.1.gD).gB) ((aA.mk r16.1 p10.2.1.gA p10.2.1.gC p10.2.1.gB p10.2.1.gD).gD)) p10.2.2) fun r22=>
   Option.bind (eM N r19 r22.2) fun r23=>
   Option.bind (eT N b4 (!r23.2) a1 r23.1 p10.1 a4 (cond p6.2 true r18.gB3) r1.1 a7 a8 a9 (aJ.mk a10.gK r1.2.1 (I64 (a10.gL+1))) (aA.mk r22.1 ((aA.mk r17.1 ((aA.mk r16.1 p10.2.1.gA p10.2.1.gC p10.2.1.gB p10.2.1.gD).gA) ((aA.mk r16.1 p10.2.1.gA p10.2.1.gC p10.2.1.gB p10.2.1.gD).gC) ((aA.mk r16.1 p10.2.1.gA p10.2.1.gC p10.2.1.gB p10.2.1.gD).gB) ((aA.mk r16.1 p10.2.1.gA p10.2.1.gC p10.2.1.gB p10.2.1.gD).gD)).gA) ((aA.mk r17.1 ((aA.mk r16.1 p10.2.1.gA p10.2.1.gC p10.2.1.gB p10.2.1.gD).gA) ((aA.mk r16.1 p10.2.1.gA p10.2.1.gC p10.2.1.gB p10.2.1.gD).gC) ((aA.mk r16.1 p10.2.1.gA p10.2.1.gC p10.2.1.gB p10.2.1.gD).gB) ((aA.mk r16.1 p10.2.1.gA p10.2.1.gC p10.2.1.gB p10.2.1.gD).gD)).gC) ((aA.mk r17.1 ((aA.mk r16.1 p10.2.1.gA p10.2.1.gC p10.2.1.gB p10.2.1.gD).gA) ((aA.mk r16.1 p10.2.1.gA p10.2.1.gC p10.2.1.gB p10.2.1.gD).gC) ((aA.mk r16.1 p10.2.1.gA p10.2.1.gC p10.2.1.gB p10.2.1.gD).gB) ((aA.mk r16.1 p10.2.1.gA p10.2.1.gC p10.2.1.gB p10.2.1.gD).gD)).gB) ((aA.mk r17.1 ((aA.mk r16.1 p10.2.1.gA p10.2.1.gC p10.2.1.gB p10.2.1.gD).gA) ((aA.mk r16.1 p10.2.1.gA p10.2.1.gC p10.2.1.gB p10.2.1.gD).gC) ((aA.mk r16.1 p10.2.1.gA p10.2.1.gC p10.2.1.gB p10.2.1.gD).gB) ((aA.mk r16.1 p10.2.1.gA p10.2.1.gC p10.2.1.gB p10.2.1.gD).gD)).gD)) p10.2.2) fun r24=>
   some ((r23.1,cond (cond p6.2 true r18.gB3) true (!r23.2),aA.mk r22.1 ((aA.mk r17.1 ((aA.mk r16.1 p10.2.1.gA p10.2.1.gC p10.2.1.gB p10.2.1.gD).gA) ((aA.mk r16.1 p10.2.1.gA p10.2.1.gC p10.2.1.gB p10.2.1.gD).gC) ((aA.mk r16.1 p10.2.1.gA p10.2.1.gC p10.2.1.gB p10.2.1.gD).gB) ((aA.mk r16.1 p10.2.1.gA p10.2.1.gC p10.2.1.gB p10.2.1.gD).gD)).gA) ((aA.mk r17.1 ((aA.mk r16.1 p10.2.1.gA p10.2.1.gC p10.2.1.gB p10.2.1.gD).gA) ((aA.mk r16.1 p10.2.1.gA p10.2.1.gC p10.2.1.gB p10.2.1.gD).gC) ((aA.mk r16.1 p10.2.1.gA p10.2.1.gC p10.2.1.gB p10.2.1.gD).gB) ((aA.mk r16.1 p10.2.1.gA p10.2.1.gC p10.2.1.gB p10.2.1.gD).gD)).gC) ((aA.mk r17.1 ((aA.mk r16.1 p10.2.1.gA p10.2.1.gC p10.2.1.gB p10.2.1.gD).gA) ((aA.mk r16.1 p10.2.1.gA p10.2.1.gC p10.2.1.gB p10.2.1.gD).gC) ((aA.mk r16.1 p10.2.1.gA p10.2.1.gC p10.2.1.gB p10.2.1.gD).gB) ((aA.mk r16.1 p10.2.1.gA p10.2.1.gC p10.2.1.gB p10.2.1.gD).gD)).gB) ((aA.mk r17.1 ((aA.mk r16.1 p10.2.1.gA p10.2.1.gC p10.2.1.gB p10.2.1.gD).gA) ((aA.mk r16.1 p10.2.1.gA p10.2.1.gC p10.2.1.gB p10.2.1.gD).gC) ((aA.mk r16.1 p10.2.1.gA p10.2.1.gC p10.2.1.gB p10.2.1.gD).gB) ((aA.mk r16.1 p10.2.1.gA p10.2.1.gC p10.2.1.gB p10.2.1.gD).gD)).gD)))) (
   some ((r19,cond p6.2 true r18.gB3,aA.mk r17.1 ((aA.mk r16.1 p10.2.1.gA p10.2.1.gC p10.2.1.gB p10.2.1.gD).gA) ((aA.mk r16.1 p10.2.1.gA p10.2.1.gC p10.2.1.gB p10.2.1.gD).gC) ((aA.mk r16.1 p10.2.1.gA p10.2.1.gC p10.2.1.gB p10.2.1.gD).gB) ((aA.mk r16.1 p10.2.1.gA p10.2.1.gC p10.2.1.gB p10.2.1.gD).gD))))) fun p21=>
  some ((aH.mk r1.2.2.2.1.gat r18.gD6 r1.2.2.2.1.gi,p21.1,p10.1,p21.2.1,r1.1,r1.2.1,p21.2.2,p10.2.2)))
theorem aBQ {N b4 a1 a2 a3 a4 a5 a6 a7 a8 a9 a10 a11 a12 r} (h:mL N b4 a1 a2 a3 a4 a5 a6 a7 a8 a9 a10 a11 a12=some r):FnM Tryz.prog 34 [.var (.st 26 [(aH.enc a1),(.ref 1 [] 0),(.ref 2 [] 0),(aB.enc a2),(aB.enc a3),(j64 a4),(eB a5),(aF.enc a6)]),.var (.st 38 [(aG.enc a7),(aI.enc a8),(.ifc 91 (.ref 3 [] 0)),(eO 4 1 (eL 2 aD.enc) b4),(aB.enc a9),(aJ.enc a10)]),.var (aA.enc a11),.var (aM.enc a12),.tail (b4.length*1)] [(.ref 0 [] 0)] (.tup []) [.var (.st 26 [(aH.enc r.1),(.ref 1 [] 0),(.ref 2 [] 0),(aB.enc r.2.1),(aB.enc r.2.2.1),(j64 a4),(eB r.2.2.2.1),(aF.enc r.2.2.2.2.1)]),.var (.st 38 [(aG.enc a7),(aI.enc a8),(.ifc 91 (.ref 3 [] 0)),(eO 4 1 (eL 2 aD.enc) b4),(aB.enc a9),(.st 3 [(j64 a10.gK),(j64 r.2.2.2.2.2.1),(j64 (I64 (a10.gL+1)))])]),.var (aA.enc r.2.2.2.2.2.2.1),.var (aM.enc r.2.2.2.2.2.2.2),.tail (b4.length*1)]:=by
 unfold mL at h
 refine At.f dJ hT hmo Tryz.func34 rfl h ?_
 refine At.b 1 (fun _ e=>aN [0,1,2,3,4] (aBq e)) fun r1=>?_
 refine At.J 6 1 [0,2] 6 (fun p2=>([],[(0,.var (.st 26 [(aH.enc a1),(.ref 1 [] 0),(.ref 2 [] 0),(aB.enc a2),(aB.enc p2.1),(j64 a4),(eB p2.2),(aF.enc r1.1)]))],[])) (fun p2=>?_) fun p2=>?_
 ·refine At.c 2 ?_ ?_
  ·refine At.o 8 (cT hT (x:=(.sl 3 1 [(aB.enc a9)]))) ?_
   refine At.b 0 (fun _ e=>aN [0,1,2,3,4] (rZ e)) fun r3=>?_
   refine At.b 1 (fun _ e=>aN [0,1,2,3,4] (jD e)) fun r4=>?_
   apply rt;exact At.jn 0
  ·apply rt;exact At.jn 0
 ·refine At.b 3 (fun _ e=>aN [0,1,2,3,4] (jD e)) fun r5=>?_
  refine At.J 0 1 [0,2] 6 (fun p6=>([],[(0,.var (.st 26 [(aH.enc a1),(.ref 1 [] 0),(.ref 2 [] 0),(aB.enc a2),(aB.enc p6.1),(j64 a4),(eB p6.2),(aF.enc r1.1)]))],[])) (fun p6=>?_) fun p6=>?_
  ·refine lx ?_;intro x7
   refine At.c 4 ?_ ?_
   ·refine At.o 3 (cT hT (x:=(.sl 3 1 [(aB.enc r1.2.2.2.1.gc)]))) ?_
    refine At.b 0 (fun _ e=>aN [0,1,2,3,4] (rZ e)) fun r8=>?_
    refine At.b 1 (fun _ e=>aN [0,1,2,3,4] (jD e)) fun r9=>?_
    apply rt;exact At.jn 0
   ·apply rt;exact At.jn 0
  ·refine At.J 0 1 [0,2] 6 (fun p10=>([],[(0,.var (.st 26 [(aH.enc a1),(.ref 1 [] 0),(.ref 2 [] 0),(aB.enc a2),(aB.enc p10.1),(j64 a4),(eB p6.2),(aF.enc r1.1)])),(2,.var (aA.enc p10.2.1)),(3,.var (aM.enc p10.2.2))],[])) (fun p10=>?_) fun p10=>?_
   ·refine At.J 0 0 [0,2] 6 (fun p11=>([(61,(eB p11))],[],[])) (fun p11=>?_) fun p11=>?_
    ·refine At.s 49 9 ?_ ?_
     ·refine At.g [49,55] 12 ?_
      apply rt;exact At.jn 0
     ·refine lx ?_;intro x12
      refine At.g [49] 12 ?_
      apply rt;exact At.jn 0
    ·refine At.c 0 ?_ ?_
     ·refine At.b 2 (fun _ e=>aN [0,1,2,3,4] (aA1 e)) fun r13=>?_
      apply rt;exact At.jn 0
     ·apply rt;exact At.jn 0
   ·refine At.J 0 0 [0,2] 6 (fun p14=>([(83,(eB p14))],[],[])) (fun p14=>?_) fun p14=>?_
    ·refine boI (fun hc4=>?_) (fun hc4=>?_)
     ·refine At.d 0 (dE1 4 (fun _=>dM hc4 rfl (dC hT (im:=false) (by kernel_rfl))) dE0) dF0 ?_
      apply rt;exact At.jn 0
     ·refine At.d 0 (dE1 4 (fun _=>dM hc4 rfl (dC hT (im:=false) (by kernel_rfl))) dE0) dF0 ?_
      apply rt;exact At.jn 0
    ·refine At.c 0 ?_ ?_
     ·refine At.b 1 (fun _ e=>aN [0,1,2,3,4] (jD e)) fun r15=>?_
      apply rt;exact At.r 0
     ·refine bi fun r16 hr16=>?_
      refine bi fun r17 hr17=>?_
      refine bi fun r18 hr18=>?_
      refine At.d2 0 [false] (dC2 16 (cQ.enc r18) (fun _=>aO (yX hr18)) dC0) (dS1 12 ⟨(k32 r16.2),2,.var (.st 72 [(aT.enc r16.1),(eB p10.2.1.gA),(k64 p10.2.1.gC),(j64 p10.2.1.gB),(j64 p10.2.1.gD)]),.var (aA.enc p10.2.1)⟩ [[.var (.st 26 [(aH.enc a1),(.ref 1 [] 0),(.ref 2 [] 0),(aB.enc a2),(aB.enc p10.1),(j64 a4),(eB p6.2),(aF.enc r1.1)]),.var (.st 38 [(aG.enc a7),(aI.enc a8),(.ifc 91 (.ref 3 [] 0)),(eO 4 1 (eL 2 aD.enc) b4),(aB.enc a9),(.st 3 [(j64 a10.gK),(j64 r1.2.1),(j64 (I64 (a10.gL+1)))])]),.var (aA.enc p10.2.1),.var (aM.enc p10.2.2),.tail (b4.length*1),.var (aR.enc r1.2.2.2.1),.dead],[.var (.st 26 [(aH.enc a1),(.ref 1 [] 0),(.ref 2 [] 0),(aB.enc a2),(aB.enc p10.1),(j64 a4),(eB p6.2),(aF.enc r1.1)]),.var (.st 38 [(aG.enc a7),(aI.enc a8),(.ifc 91 (.ref 3 [] 0)),(eO 4 1 (eL 2 aD.enc) b4),(aB.enc a9),(.st 3 [(j64 a10.gK),(j64 r1.2.1),(j64 (I64 (a10.gL+1)))])]),.var (aA.enc p10.2.1),.var (aM.enc p10.2.2),.tail (b4.length*1),.var (aR.enc r1.2.2.2.1),.var aMO]] ⟨bS (aN [0,1,2,3,4] (cZ hr16)),bS (aN [0,1,2,3,4] (cZ hr16)),trivial⟩ (dS1 14 ⟨(k32 r17.2),2,.var (.st 72 [(aT.enc r17.1),(eB ((aA.mk r16.1 p10.2.1.gA p10.2.1.gC p10.2.1.gB p10.2.1.gD).gA)),(k64 ((aA.mk r16.1 p10.2.1.gA p10.2.1.gC p10.2.1.gB p10.2.1.gD).gC)),(j64 ((aA.mk r16.1 p10.2.1.gA p10.2.1.gC p10.2.1.gB p10.2.1.gD).gB)),(j64 ((aA.mk r16.1 p10.2.1.gA p10.2.1.gC p10.2.1.gB p10.2.1.gD).gD))]),.var (.st 72 [(aT.enc r16.1),(eB p10.2.1.gA),(k64 p10.2.1.gC),(j64 p10.2.1.gB),(j64 p10.2.1.gD)])⟩ [[.var (.st 26 [(aH.enc a1),(.ref 1 [] 0),(.ref 2 [] 0),(aB.enc a2),(aB.enc p10.1),(j64 a4),(eB p6.2),(aF.enc r1.1)]),.var (.st 38 [(aG.enc a7),(aI.enc a8),(.ifc 91 (.ref 3 [] 0)),(eO 4 1 (eL 2 aD.enc) b4),(aB.enc a9),(.st 3 [(j64 a10.gK),(j64 r1.2.1),(j64 (I64 (a10.gL+1)))])]),.var (.st 72 [(aT.enc r16.1),(eB p10.2.1.gA),(k64 p10.2.1.gC),(j64 p10.2.1.gB),(j64 p10.2.1.gD)]),.var (aM.enc p10.2.2),.tail (b4.length*1),.var (aR.enc r1.2.2.2.1),.dead],[.var (.st 26 [(aH.enc a1),(.ref 1 [] 0),(.ref 2 [] 0),(aB.enc a2),(aB.enc p10.1),(j64 a4),(eB p6.2),(aF.enc r1.1)]),.var (.st 38 [(aG.enc a7),(aI.enc a8),(.ifc 91 (.ref 3 [] 0)),(eO 4 1 (eL 2 aD.enc) b4),(aB.enc a9),(.st 3 [(j64 a10.gK),(j64 r1.2.1),(j64 (I64 (a10.gL+1)))])]),.var (.st 72 [(aT.enc r16.1),(eB p10.2.1.gA),(k64 p10.2.1.gC),(j64 p10.2.1.gB),(j64 p10.2.1.gD)]),.var (aM.enc p10.2.2),.tail (b4.length*1),.var (aR.enc r1.2.2.2.1),.var aMO]] ⟨bS (aN [0,1,2,3,4] (cZ hr17)),bS (aN [0,1,2,3,4] (cZ hr17)),trivial⟩ (dS1 17 ⟨(.ref 6 [] 0),6,.var aMO,.dead⟩ [[.var (.st 26 [(aH.enc a1),(.ref 1 [] 0),(.ref 2 [] 0),(aB.enc a2),(aB.enc p10.1),(j64 a4),(eB p6.2),(aF.enc r1.1)]),.var (.st 38 [(aG.enc a7),(aI.enc a8),(.ifc 91 (.ref 3 [] 0)),(eO 4 1 (eL 2 aD.enc) b4),(aB.enc a9),(.st 3 [(j64 a10.gK),(j64 r1.2.1),(j64 (I64 (a10.gL+1)))])]),.var (aA.enc p10.2.1),.var (aM.enc p10.2.2),.tail (b4.length*1),.var (aR.enc r1.2.2.2.1),.dead],[.var (.st 26 [(aH.enc a1),(.ref 1 [] 0),(.ref 2 [] 0),(aB.enc a2),(aB.enc p10.1),(j64 a4),(eB p6.2),(aF.enc r1.1)]),.var (.st 38 [(aG.enc a7),(aI.enc a8),(.ifc 91 (.ref 3 [] 0)),(eO 4 1 (eL 2 aD.enc) b4),(aB.enc a9),(.st 3 [(j64 a10.gK),(j64 r1.2.1),(j64 (I64 (a10.gL+1)))])]),.var (.st 72 [(aT.enc r17.1),(eB ((aA.mk r16.1 p10.2.1.gA p10.2.1.gC p10.2.1.gB p10.2.1.gD).gA)),(k64 ((aA.mk r16.1 p10.2.1.gA p10.2.1.gC p10.2.1.gB p10.2.1.gD).gC)),(j64 ((aA.mk r16.1 p10.2.1.gA p10.2.1.gC p10.2.1.gB p10.2.1.gD).gB)),(j64 ((aA.mk r16.1 p10.2.1.gA p10.2.1.gC p10.2.1.gB p10.2.1.gD).gD))]),.var (aM.enc p10.2.2),.tail (b4.length*1),.var (aR.enc r1.2.2.2.1),.dead],[.var (.st 26 [(aH.enc a1),(.ref 1 [] 0),(.ref 2 [] 0),(aB.enc a2),(aB.enc p10.1),(j64 a4),(eB p6.2),(aF.enc r1.1)]),.var (.st 38 [(aG.enc a7),(aI.enc a8),(.ifc 91 (.ref 3 [] 0)),(eO 4 1 (eL 2 aD.enc) b4),(aB.enc a9),(.st 3 [(j64 a10.gK),(j64 r1.2.1),(j64 (I64 (a10.gL+1)))])]),.var (.st 72 [(aT.enc r16.1),(eB p10.2.1.gA),(k64 p10.2.1.gC),(j64 p10.2.1.gB),(j64 p10.2.1.gD)]),.var (aM.enc p10.2.2),.tail (b4.length*1),.var (aR.enc r1.2.2.2.1),.dead],[.var (.st 26 [(aH.enc a1),(.ref 1 [] 0),(.ref 2 [] 0),(aB.enc a2),(aB.enc p10.1),(j64 a4),(eB p6.2),(aF.enc r1.1)]),.var (.st 38 [(aG.enc a7),(aI.enc a8),(.ifc 91 (.ref 3 [] 0)),(eO 4 1 (eL 2 aD.enc) b4),(aB.enc a9),(.st 3 [(j64 a10.gK),(j64 r1.2.1),(j64 (I64 (a10.gL+1)))])]),.var (.st 72 [(aT.enc r17.1),(eB ((aA.mk r16.1 p10.2.1.gA p10.2.1.gC p10.2.1.gB p10.2.1.gD).gA)),(k64 ((aA.mk r16.1 p10.2.1.gA p10.2.1.gC p10.2.1.gB p10.2.1.gD).gC)),(j64 ((aA.mk r16.1 p10.2.1.gA p10.2.1.gC p10.2.1.gB p10.2.1.gD).gB)),(j64 ((aA.mk r16.1 p10.2.1.gA p10.2.1.gC p10.2.1.gB p10.2.1.gD).gD))]),.var (aM.enc p10.2.2),.tail (b4.length*1),.var (aR.enc r1.2.2.2.1),.dead]] ⟨aX hT 6 (by kernel_rfl) (by kernel_rfl) (by kernel_rfl),aX hT 6 (by kernel_rfl) (by kernel_rfl) (by kernel_rfl),aX hT 6 (by kernel_rfl) (by kernel_rfl) (by kernel_rfl),aX hT 6 (by kernel_rfl) (by kernel_rfl) (by kernel_rfl),trivial⟩ dS0))) ?_
      refine bi fun r19 hr19=>?_
      refine At.d 0 (dE1 7 (fun _=>cT hT (x:=(.sl 3 2 [(aB.enc a2),(aB.enc r18.gC1)]))) (dE2 8 (aB.enc r19) (fun _=>aO (qE hr19)) dE0)) dF0 ?_
      refine At.b 3 (fun _ e=>aN [0,1,2,3,4] (jD e)) fun r20=>?_
      refine At.J 0 1 [0,2,4] 7 (fun p21=>([],[(0,.var (.st 26 [(aH.enc a1),(.ref 1 [] 0),(.ref 2 [] 0),(aB.enc p21.1),(aB.enc p10.1),(j64 a4),(eB p21.2.1),(aF.enc r1.1)])),(2,.var (aA.enc p21.2.2))],[])) (fun p21=>?_) fun p21=>?_
      ·refine At.c 5 ?_ ?_
       ·refine bi fun r22 hr22=>?_
        refine bi fun r23 hr23=>?_
        refine At.d2 0 [false] (dC2 6 (.tup [(aB.enc r23.1),(eB r23.2)]) (fun _=>aO (xF hr23)) dC0) (dS1 5 ⟨(k32 r22.2),2,.var (.st 72 [(aT.enc r22.1),(eB ((aA.mk r17.1 ((aA.mk r16.1 p10.2.1.gA p10.2.1.gC p10.2.1.gB p10.2.1.gD).gA) ((aA.mk r16.1 p10.2.1.gA p10.2.1.gC p10.2.1.gB p10.2.1.gD).gC) ((aA.mk r16.1 p10.2.1.gA p10.2.1.gC p10.2.1.gB p10.2.1.gD).gB) ((aA.mk r16.1 p10.2.1.gA p10.2.1.gC p10.2.1.gB p10.2.1.gD).gD)).gA)),(k64 ((aA.mk r17.1 ((aA.mk r16.1 p10.2.1.gA p10.2.1.gC p10.2.1.gB p10.2.1.gD).gA) ((aA.mk r16.1 p10.2.1.gA p10.2.1.gC p10.2.1.gB p10.2.1.gD).gC) ((aA.mk r16.1 p10.2.1.gA p10.2.1.gC p10.2.1.gB p10.2.1.gD).gB) ((aA.mk r16.1 p10.2.1.gA p10.2.1.gC p10.2.1.gB p10.2.1.gD).gD)).gC)),(j64 ((aA.mk r17.1 ((aA.mk r16.1 p10.2.1.gA p10.2.1.gC p10.2.1.gB p10.2.1.gD).gA) ((aA.mk r16.1 p10.2.1.gA p10.2.1.gC p10.2.1.gB p10.2.1.gD).gC) ((aA.mk r16.1 p10.2.1.gA p10.2.1.gC p10.2.1.gB p10.2.1.gD).gB) ((aA.mk r16.1 p10.2.1.gA p10.2.1.gC p10.2.1.gB p10.2.1.gD).gD)).gB)),(j64 ((aA.mk r17.1 ((aA.mk r16.1 p10.2.1.gA p10.2.1.gC p10.2.1.gB p10.2.1.gD).gA) ((aA.mk r16.1 p10.2.1.gA p10.2.1.gC p10.2.1.gB p10.2.1.gD).gC) ((aA.mk r16.1 p10.2.1.gA p10.2.1.gC p10.2.1.gB p10.2.1.gD).gB) ((aA.mk r16.1 p10.2.1.gA p10.2.1.gC p10.2.1.gB p10.2.1.gD).gD)).gD))]),.var (.st 72 [(aT.enc r17.1),(eB ((aA.mk r16.1 p10.2.1.gA p10.2.1.gC p10.2.1.gB p10.2.1.gD).gA)),(k64 ((aA.mk r16.1 p10.2.1.gA p10.2.1.gC p10.2.1.gB p10.2.1.gD).gC)),(j64 ((aA.mk r16.1 p10.2.1.gA p10.2.1.gC p10.2.1.gB p10.2.1.gD).gB)),(j64 ((aA.mk r16.1 p10.2.1.gA p10.2.1.gC p10.2.1.gB p10.2.1.gD).gD))])⟩ [[.var (.st 26 [(aH.enc a1),(.ref 1 [] 0),(.ref 2 [] 0),(aB.enc r19),(aB.enc p10.1),(j64 a4),(eB (cond p6.2 true r18.gB3)),(aF.enc r1.1)]),.var (.st 38 [(aG.enc a7),(aI.enc a8),(.ifc 91 (.ref 3 [] 0)),(eO 4 1 (eL 2 aD.enc) b4),(aB.enc a9),(.st 3 [(j64 a10.gK),(j64 r1.2.1),(j64 (I64 (a10.gL+1)))])]),.var (.st 72 [(aT.enc r17.1),(eB ((aA.mk r16.1 p10.2.1.gA p10.2.1.gC p10.2.1.gB p10.2.1.gD).gA)),(k64 ((aA.mk r16.1 p10.2.1.gA p10.2.1.gC p10.2.1.gB p10.2.1.gD).gC)),(j64 ((aA.mk r16.1 p10.2.1.gA p10.2.1.gC p10.2.1.gB p10.2.1.gD).gB)),(j64 ((aA.mk r16.1 p10.2.1.gA p10.2.1.gC p10.2.1.gB p10.2.1.gD).gD))]),.var (aM.enc p10.2.2),.tail (b4.length*1),.var (aR.enc r1.2.2.2.1),.var (cQ.enc r18),.dead],[.var (.st 26 [(aH.enc a1),(.ref 1 [] 0),(.ref 2 [] 0),(aB.enc r19),(aB.enc p10.1),(j64 a4),(eB (cond p6.2 true r18.gB3)),(aF.enc r1.1)]),.var (.st 38 [(aG.enc a7),(aI.enc a8),(.ifc 91 (.ref 3 [] 0)),(eO 4 1 (eL 2 aD.enc) b4),(aB.enc a9),(.st 3 [(j64 a10.gK),(j64 r1.2.1),(j64 (I64 (a10.gL+1)))])]),.var (.st 72 [(aT.enc r17.1),(eB ((aA.mk r16.1 p10.2.1.gA p10.2.1.gC p10.2.1.gB p10.2.1.gD).gA)),(k64 ((aA.mk r16.1 p10.2.1.gA p10.2.1.gC p10.2.1.gB p10.2.1.gD).gC)),(j64 ((aA.mk r16.1 p10.2.1.gA p10.2.1.gC p10.2.1.gB p10.2.1.gD).gB)),(j64 ((aA.mk r16.1 p10.2.1.gA p10.2.1.gC p10.2.1.gB p10.2.1.gD).gD))]),.var (aM.enc p10.2.2),.tail (b4.length*1),.var (aR.enc r1.2.2.2.1),.var (cQ.enc r18),.var (.st 3 [(j64 0),(j64 0),(j64 0)])]] ⟨bS (aN [0,1,2,3,4] (cZ hr22)),bS (aN [0,1,2,3,4] (cZ hr22)),trivial⟩ (dS1 10 ⟨(.ref 7 [] 0),7,.var (.st 3 [(j64 0),(j64 0),(j64 0)]),.dead⟩ [[.var (.st 26 [(aH.enc a1),(.ref 1 [] 0),(.ref 2 [] 0),(aB.enc r19),(aB.enc p10.1),(j64 a4),(eB (cond p6.2 true r18.gB3)),(aF.enc r1.1)]),.var (.st 38 [(aG.enc a7),(aI.enc a8),(.ifc 91 (.ref 3 [] 0)),(eO 4 1 (eL 2 aD.enc) b4),(aB.enc a9),(.st 3 [(j64 a10.gK),(j64 r1.2.1),(j64 (I64 (a10.gL+1)))])]),.var (.st 72 [(aT.enc r17.1),(eB ((aA.mk r16.1 p10.2.1.gA p10.2.1.gC p10.2.1.gB p10.2.1.gD).gA)),(k64 ((aA.mk r16.1 p10.2.1.gA p10.2.1.gC p10.2.1.gB p10.2.1.gD).gC)),(j64 ((aA.mk r16.1 p10.2.1.gA p10.2.1.gC p10.2.1.gB p10.2.1.gD).gB)),(j64 ((aA.mk r16.1 p10.2.1.gA p10.2.1.gC p10.2.1.gB p10.2.1.gD).gD))]),.var (aM.enc p10.2.2),.tail (b4.length*1),.var (aR.enc r1.2.2.2.1),.var (cQ.enc r18),.dead],[.var (.st 26 [(aH.enc a1),(.ref 1 [] 0),(.ref 2 [] 0),(aB.enc r19),(aB.enc p10.1),(j64 a4),(eB (cond p6.2 true r18.gB3)),(aF.enc r1.1)]),.var (.st 38 [(aG.enc a7),(aI.enc a8),(.ifc 91 (.ref 3 [] 0)),(eO 4 1 (eL 2 aD.enc) b4),(aB.enc a9),(.st 3 [(j64 a10.gK),(j64 r1.2.1),(j64 (I64 (a10.gL+1)))])]),.var (.st 72 [(aT.enc r22.1),(eB ((aA.mk r17.1 ((aA.mk r16.1 p10.2.1.gA p10.2.1.gC p10.2.1.gB p10.2.1.gD).gA) ((aA.mk r16.1 p10.2.1.gA p10.2.1.gC p10.2.1.gB p10.2.1.gD).gC) ((aA.mk r16.1 p10.2.1.gA p10.2.1.gC p10.2.1.gB p10.2.1.gD).gB) ((aA.mk r16.1 p10.2.1.gA p10.2.1.gC p10.2.1.gB p10.2.1.gD).gD)).gA)),(k64 ((aA.mk r17.1 ((aA.mk r16.1 p10.2.1.gA p10.2.1.gC p10.2.1.gB p10.2.1.gD).gA) ((aA.mk r16.1 p10.2.1.gA p10.2.1.gC p10.2.1.gB p10.2.1.gD).gC) ((aA.mk r16.1 p10.2.1.gA p10.2.1.gC p10.2.1.gB p10.2.1.gD).gB) ((aA.mk r16.1 p10.2.1.gA p10.2.1.gC p10.2.1.gB p10.2.1.gD).gD)).gC)),(j64 ((aA.mk r17.1 ((aA.mk r16.1 p10.2.1.gA p10.2.1.gC p10.2.1.gB p10.2.1.gD).gA) ((aA.mk r16.1 p10.2.1.gA p10.2.1.gC p10.2.1.gB p10.2.1.gD).gC) ((aA.mk r16.1 p10.2.1.gA p10.2.1.gC p10.2.1.gB p10.2.1.gD).gB) ((aA.mk r16.1 p10.2.1.gA p10.2.1.gC p10.2.1.gB p10.2.1.gD).gD)).gB)),(j64 ((aA.mk r17.1 ((aA.mk r16.1 p10.2.1.gA p10.2.1.gC p10.2.1.gB p10.2.1.gD).gA) ((aA.mk r16.1 p10.2.1.gA p10.2.1.gC p10.2.1.gB p10.2.1.gD).gC) ((aA.mk r16.1 p10.2.1.gA p10.2.1.gC p10.2.1.gB p10.2.1.gD).gB) ((aA.mk r16.1 p10.2.1.gA p10.2.1.gC p10.2.1.gB p10.2.1.gD).gD)).gD))]),.var (aM.enc p10.2.2),.tail (b4.length*1),.var (aR.enc r1.2.2.2.1),.var (cQ.enc r18),.dead]] ⟨aX hT 7 (by kernel_rfl) (by kernel_rfl) (by kernel_rfl),aX hT 7 (by kernel_rfl) (by kernel_rfl) (by kernel_rfl),trivial⟩ dS0)) ?_
        refine At.b 8 (fun _ e=>aN [0,1,2,3,4] (jD e)) fun r24=>?_
        apply rt;exact At.jn 0
       ·apply rt;exact At.jn 0
      ·apply rt;exact At.z 11
def hK (N:Nat) (b2:(List (List aD))) (a4:aG) (a5:aI) (a6:aB) (a7:aJ) (a8:aM):Nat→aA→(Vector Int 4)→Int→Option (aA×(Vector Int 4))
 | 0,_,_,_=>none
 | k+1,s9,s10,s11=>
  cond (decide (s11 < 4)) (
   Option.bind (dS N b2 s11 (aH.mk (aC.mk 0 0 0) (aC.mk 0 0 0) 0) (aB.mk 4294967296 4294967296 4294967296) (aB.mk 0 0 0) 0 false (aF.mk (aB.mk 0 0 0) 0 0 (aB.mk 0 0 0) (-1)) a4 a5 a6 a7 s9 a8) fun r12=>
   Option.bind (fD s11 4) fun _=>
   Option.bind (s10.toList[s11.toNat]?) fun e14=>
   hK N b2 a4 a5 a6 a7 a8 k (aA.mk r12.1 s9.gA s9.gC s9.gB s9.gD) (s10.setIfInBounds s11.toNat r12.2) (I64 (s11+1))) (
   some ((s9,s10)))
def eP (N:Nat) (a5:aI) (b2:(List (List aD))) (a4:aG) (a6:aB):Nat→aJ→aM→aA→aH→aB→aB→Int→Bool→aF→Option (aJ×aM×aA×aH×aB×aB×Int×Bool×aF)
 | 0,_,_,_,_,_,_,_,_,_=>none
 | k+1,s17,s18,s19,s20,s21,s22,s23,s24,s25=>
  Option.bind (aV (decide (s23≤a5.gN)) fun x27=>
  cond x27 (
   cond (!s24) (
    some true) (
    some a5.gA4)) (
   some false)) fun p26=>
  cond p26 (
   Option.bind (mL N b2 s20 s21 s22 s23 s24 s25 a4 a5 a6 s17 s19 s18) fun r28=>
   eP N a5 b2 a4 a6 k (aJ.mk s17.gK r28.2.2.2.2.2.1 (I64 (s17.gL+1))) r28.2.2.2.2.2.2.2 r28.2.2.2.2.2.2.1 r28.1 r28.2.1 r28.2.2.1 (I64 (s23+1)) r28.2.2.2.1 r28.2.2.2.2.1) (
   some ((s17,s18,s19,s20,s21,s22,s23,s24,s25)))
def fN (N:Nat) (b2:(List (List aD))) (a1 a2 a3:Int) (a4:aG) (a5:aI) (a6:aB) (a7:aJ) (a8:aM):Option (aJ×aM×aF×Int):=
 aV (cond (decide (a1 < 0)) true (decide (a1≥a5.gW))) fun x1=>
 aV (cond x1 true (decide (a2 < 0))) fun x2=>
 aV (cond x2 true (decide (a2≥a5.gH))) fun x3=>
 aV (cond x3 true (decide (a3 < 0))) fun x4=>
 aV (decide (a3≥a5.gB8)) fun x5=>
 cond (cond x4 true x5) (
  some ((a7,a8,aF.mk (aB.mk 0 0 0) 0 0 (aB.mk 0 0 0) 0,2))) (
  aV (I64 ((I64 (a2*a5.gW))+a1)) fun x6=>
  Option.bind (sZ N a5.gO x6 a3) fun r7=>
  Option.bind (hK N b2 a4 a5 a6 a7 a8 N (aA.mk (aT.mk (bK.mk 0 0 0) false (Vector.replicate 64 0)) true a5.gO x6 a3) (#v[0,0,0,0]) 0) fun p8=>
  Option.bind (rX N a5.gC5 a5.gW a5.gH a1 a2 p8.2) fun r15=>
  Option.bind (eP N a5 b2 a4 a6 N a7 a8 p8.1 (aH.mk r15.1 r15.2.1 (-1)) (aB.mk 4294967296 4294967296 4294967296) (aB.mk 0 0 0) 0 false (aF.mk (aB.mk 0 0 0) 0 0 (aB.mk 0 0 0) (-1))) fun p16=>
  some ((p16.1,p16.2.1,aF.mk p16.2.2.2.2.2.1 p16.2.2.2.2.2.2.2.2.gD3 p16.2.2.2.2.2.2.2.2.gN p16.2.2.2.2.2.2.2.2.gD4 p16.2.2.2.2.2.2.2.2.gB5,0)))
theorem tC {N b2 a1 a2 a3 a4 a5 a6 a7 a8 r} (h:fN N b2 a1 a2 a3 a4 a5 a6 a7 a8=some r):FnM Tryz.prog 13 [.var (.st 38 [(aG.enc a4),(aI.enc a5),(.ifc 91 (.ref 1 [] 0)),(eO 2 1 (eL 2 aD.enc) b2),(aB.enc a6),(aJ.enc a7)]),.var (aM.enc a8),.tail (b2.length*1)] [(.ref 0 [] 0),(j64 a1),(j64 a2),(j64 a3)] (.tup [(aF.enc r.2.2.1),(j64 r.2.2.2)]) [.var (.st 38 [(aG.enc a4),(aI.enc a5),(.ifc 91 (.ref 1 [] 0)),(eO 2 1 (eL 2 aD.enc) b2),(aB.enc a6),(aJ.enc r.1)]),.var (aM.enc r.2.1),.tail (b2.length*1)]:=by
 unfold fN at h
 refine At.f dJ hT hmo Tryz.func13 rfl h ?_
 refine At.o 3 (nY hT (t:=40) (x:=(.ref 0 [] 0)) (b:=true) (by kernel_rfl) rfl rfl (by kernel_rfl)) ?_
 refine At.g [16] 5 ?_
 refine At.o 0 (aLY (t:=75) (u:=91) (x:=(.ref 1 [] 0)) (by kernel_rfl) rfl rfl .eql false (by decide) (by kernel_rfl)) ?_
 refine lx ?_;intro x1
 refine lx ?_;intro x2
 refine lx ?_;intro x3
 refine lx ?_;intro x4
 refine lx ?_;intro x5
 refine At.g [16] 41 ?_
 refine At.c 0 ?_ ?_
 ·apply rt;exact At.r 3
 ·refine lx ?_;intro x6
  refine bi fun r7 hr7=>?_
  refine At.d 0 dE0 (dF 16 (.ref 4 [] 0) [] [.var (.st 72 [cv_5,(eB true),(k64 a5.gO),(j64 x6),(j64 a3)])] (bS (aN [] (aCR hr7))) dF0) ?_
  refine At.L 2 [0,1,2,8,10,11] 7 (fun p8=>([],[(4,.var (aA.enc p8.1)),(6,.var (eA 4 1 k32 p8.2))],[])) (fun p8 J k=>∃ s9 s10 s11,hK N b2 a4 a5 a6 a7 a8 k s9 s10 s11=some p8∧J [0,1,2,8,10,11] 7 [(84,(j64 s11))] [(4,.var (aA.enc s9)),(6,.var (eA 4 1 k32 s10))] []) N (fun _ h=>⟨_,_,_,h,jr⟩) (fun p8 k s hI=>?_) fun p8=>?_
  ·obtain ⟨s9,s10,s11,h,hj⟩:=hI
   cases k with
   | zero=>cases h
   | succ k=>
    refine At.jr hj ?_ h
    refine At.c 1 ?_ ?_
    ·refine At.b 5 (fun _ e=>aN [5,0,4,1,2] (cZ e)) fun r12=>?_
     refine At.b 0 (fun _ e=>bG hT (k:=1) 6 [] 0 e) fun u13=>?_
     refine At.b 0 (fun _ e=>nM hT k32 0 s10 e r12.2 (by kernel_rfl) (by kernel_rfl) (H':=[.var (.st 38 [(aG.enc a4),(aI.enc a5),(.ifc 91 (.ref 1 [] 0)),(eO 2 1 (eL 2 aD.enc) b2),(aB.enc a6),(aJ.enc a7)]),.var (aM.enc a8),.tail (b2.length*1),.var cv_6,.var (.st 72 [(aT.enc r12.1),(eB s9.gA),(k64 s9.gC),(j64 s9.gB),(j64 s9.gD)]),.var cv_7,.var (eA 4 1 k32 (s10.setIfInBounds s11.toNat r12.2))])) fun e14=>?_
     exact fun h=>At.k 2 ⟨_,_,_,h,jr⟩
    ·apply rt;exact At.x 0
  ·refine bi fun r15 hr15=>?_
   refine At.d 5 (dE2 20 (.tup [(aC.enc r15.1),(aC.enc r15.2.1),(j64 r15.2.2)]) (fun _=>aO (aEj hr15)) dE0) dF0 ?_
   refine At.L 0 [8,10] 7 (fun p16=>([],[(0,.var (.st 38 [(aG.enc a4),(aI.enc a5),(.ifc 91 (.ref 1 [] 0)),(eO 2 1 (eL 2 aD.enc) b2),(aB.enc a6),(aJ.enc p16.1)])),(1,.var (aM.enc p16.2.1)),(4,.var (aA.enc p16.2.2.1)),(5,.var (.st 26 [(aH.enc p16.2.2.2.1),(.ref 0 [] 0),(.ref 4 [] 0),(aB.enc p16.2.2.2.2.1),(aB.enc p16.2.2.2.2.2.1),(j64 p16.2.2.2.2.2.2.1),(eB p16.2.2.2.2.2.2.2.1),(aF.enc p16.2.2.2.2.2.2.2.2)]))],[])) (fun p16 J k=>∃ s17 s18 s19 s20 s21 s22 s23 s24 s25,eP N a5 b2 a4 a6 k s17 s18 s19 s20 s21 s22 s23 s24 s25=some p16∧J [0,8,10] 7 [] [(0,.var (.st 38 [(aG.enc a4),(aI.enc a5),(.ifc 91 (.ref 1 [] 0)),(eO 2 1 (eL 2 aD.enc) b2),(aB.enc a6),(aJ.enc s17)])),(1,.var (aM.enc s18)),(4,.var (aA.enc s19)),(5,.var (.st 26 [(aH.enc s20),(.ref 0 [] 0),(.ref 4 [] 0),(aB.enc s21),(aB.enc s22),(j64 s23),(eB s24),(aF.enc s25)]))] []) N (fun _ h=>⟨_,_,_,_,_,_,_,_,_,h,jr⟩) (fun p16 k s hI=>?_) fun p16=>?_
   ·obtain ⟨s17,s18,s19,s20,s21,s22,s23,s24,s25,h,hj⟩:=hI
    cases k with
    | zero=>cases h
    | succ k=>
     refine At.jr hj ?_ h
     refine At.J 0 0 [0,8,10] 7 (fun p26=>([(151,(eB p26))],[],[])) (fun p26=>?_) fun p26=>?_
     ·refine lx ?_;intro x27
      refine boI (fun hc10=>?_) (fun hc10=>?_)
      ·refine boI (fun hc16=>?_) (fun hc16=>?_)
       ·refine At.d 0 (dE1 10 (fun _=>dM hc10 rfl (dC hT (im:=false) (by kernel_rfl))) (dE1 16 (fun _=>dM hc16 rfl (dC hT (im:=false) (by kernel_rfl))) dE0)) dF0 ?_
        apply rt;exact At.jn 0
       ·refine At.d 0 (dE1 10 (fun _=>dM hc10 rfl (dC hT (im:=false) (by kernel_rfl))) (dE1 16 (fun _=>dM hc16 rfl (dC hT (im:=false) (by kernel_rfl))) dE0)) dF0 ?_
        apply rt;exact At.jn 0
      ·refine At.d 0 (dE1 10 (fun _=>dM hc10 rfl (dC hT (im:=false) (by kernel_rfl))) dE0) dF0 ?_
       apply rt;exact At.jn 0
     ·refine At.c 0 ?_ ?_
      ·refine At.b 1 (fun _ e=>aN [5,0,4,1,2] (aBQ e)) fun r28=>?_
       exact fun h=>At.k 8 ⟨_,_,_,_,_,_,_,_,_,h,jr⟩
      ·apply rt;exact At.x 0
   ·apply rt;exact At.r 15
def kS (N:Nat):Option (Bool):=
 Option.bind (Option.bind (tZ N ) fun r2=>
 Option.bind (lH N (aG.mk [] [] [] [] [] [] 0 0 0) r2) fun q=>
 lP q (fun r3=>
  none) (fun q=>
 lP q (fun r4=>
  none) (fun q=>
 lP q (fun r5=>
  none) (fun q=>
 lP q (fun r6=>
  none) (fun r7=>
  some ((r7.1,r7.2.1,r7.2.2.1,r7.2.2.2.1,r2,r7.2.2.2.2.1,r7.2.2.2.2.2.1,r7.2.2.2.2.2.2.1,r7.2.2.2.2.2.2.2))))))) fun p1=>
 Option.bind (fN N p1.2.2.2.1 0 0 0 (aG.mk p1.1 p1.2.1 ((aG.mk [] [] [] [] [] [] 0 0 0).gA2) p1.2.2.1 ((aG.mk [] [] [] [] [] [] 0 0 0).gB6) ((aG.mk [] [] [] [] [] [] 0 0 0).gB7) ((aG.mk [] [] [] [] [] [] 0 0 0).gC3) ((aG.mk [] [] [] [] [] [] 0 0 0).gC4) ((aG.mk [] [] [] [] [] [] 0 0 0).gTo)) p1.2.2.2.2.1 p1.2.2.2.2.2.1 (aJ.mk 0 0 0) p1.2.2.2.2.2.2.2.1) fun r8=>
 Option.bind (aV (p1.2.2.2.2.2.2.2.2==0) fun x10=>
 aV (cond x10 (r8.2.2.2==0) false) fun x11=>
 cond x11 (
  aV (aF.eq r8.2.2.1 (aF.mk (aB.mk 0 0 0) 0 0 (aB.mk 0 0 0) (-1))) fun x12=>
  some x12) (
  some false)) fun p9=>
 some p9
theorem xD {N r} (h:kS N=some r):FnM Tryz.prog 12 [] [] (eB r) []:=by
 unfold kS at h
 refine At.f dJ hT hmo Tryz.func12 rfl h ?_
 refine At.J 1 0 [] 0 (fun p1=>([(1,(.ref 0 [] 0)),(2,(j64 p1.2.2.2.2.2.2.2.2))],[],[.var (.st 38 [(.st 9 [(eO 1 19 aE.enc p1.1),(eO 2 5 aU.enc p1.2.1),(eL 2 aD.enc ((aG.mk [] [] [] [] [] [] 0 0 0).gA2)),(eO 3 13 aS.enc p1.2.2.1),(eL 1 k64 ((aG.mk [] [] [] [] [] [] 0 0 0).gB6)),(eL 1 k32 ((aG.mk [] [] [] [] [] [] 0 0 0).gB7)),(k32 ((aG.mk [] [] [] [] [] [] 0 0 0).gC3)),(k32 ((aG.mk [] [] [] [] [] [] 0 0 0).gC4)),(k32 ((aG.mk [] [] [] [] [] [] 0 0 0).gTo))]),(aI.enc p1.2.2.2.2.1),(.ifc 91 (.ref 6 [] 0)),(eO 4 1 (eL 2 aD.enc) p1.2.2.2.1),(aB.enc p1.2.2.2.2.2.1),(.st 3 [(j64 0),(j64 0),(j64 0)])]),.tail (p1.1.length*19),.tail (p1.2.1.length*5),.tail (p1.2.2.1.length*13),.tail (p1.2.2.2.1.length*1),.var (aY.enc p1.2.2.2.2.2.2.1),.var (aM.enc p1.2.2.2.2.2.2.2.1)])) (fun p1=>?_) fun p1=>?_
 ·refine At.b 1 (fun _ e=>aN [] (aCE e)) fun r2=>?_
  refine aMU (fun r3 hr3=>?_) (fun q hq=>?_)
  ·exact nn
  ·refine aEn (fun r4 e=>?_) (fun q e=>?_)
   ·subst e
    have hr4:=hq
    exact nn
   ·subst e
    have hq:=hq
    refine aEn (fun r5 e=>?_) (fun q e=>?_)
    ·subst e
     have hr5:=hq
     exact nn
    ·subst e
     have hq:=hq
     refine aEn (fun r6 e=>?_) (fun r7 e=>?_)
     ·subst e
      have hr6:=hq
      exact nn
     ·subst e
      have hr7:=hq
      refine At.o 0 (aN [] (aBe hr7)) ?_
      apply rt;exact At.jn 5
 ·refine At.b 1 (fun _ e=>aN [0,6,4] (tC e)) fun r8=>?_
  refine At.J 6 0 [] 8 (fun p9=>([(0,(eB p9))],[],[])) (fun p9=>?_) fun p9=>?_
  ·refine lx ?_;intro x10
   refine lx ?_;intro x11
   refine At.s 22 7 ?_ ?_
   ·refine At.g [22] 2 ?_
    refine At.o 0 (aDM aNP (r8.2.2.1:aF) (aF.mk (aB.mk 0 0 0) 0 0 (aB.mk 0 0 0) (-1):aF) (by kernel_rfl) (by kernel_rfl) (fun _=>rfl) (fun _=>rfl) (by kernel_rfl) (by kernel_rfl)) ?_
    refine lx ?_;intro x12
    refine At.g [22] 2 ?_
    apply rt;exact At.jn 0
   ·refine At.g [22] 5 ?_
    apply rt;exact At.jn 0
  ·apply rt;exact At.r 0
def dH (N:Nat) (b4:(List (List aD))) (a1:Int) (a2:aH) (a3 a4:aB) (a5:Int) (a6:Bool) (a7:aF) (a8:aG) (a9:aI) (a10:aB) (a11:aJ) (a12:aA) (a13:aK):Option (aT×Int):=
 Option.bind (fO N a5 a1 a12) fun r1=>
 some ((r1.1,r1.2))
theorem cI {N b4 a1 a2 a3 a4 a5 a6 a7 a8 a9 a10 a11 a12 a13 r} (h:dH N b4 a1 a2 a3 a4 a5 a6 a7 a8 a9 a10 a11 a12 a13=some r):FnM Tryz.prog 32 [.var (.st 26 [(aH.enc a2),(.ref 1 [] 0),(.ref 2 [] 0),(aB.enc a3),(aB.enc a4),(j64 a5),(eB a6),(aF.enc a7)]),.var (.st 38 [(aG.enc a8),(aI.enc a9),(.ifc 88 (.ref 3 [] 0)),(eO 4 1 (eL 2 aD.enc) b4),(aB.enc a10),(aJ.enc a11)]),.var (aA.enc a12),.var (aK.enc a13),.tail (b4.length*1)] [(.ref 0 [] 0),(j64 a1)] (k32 r.2) [.var (.st 26 [(aH.enc a2),(.ref 1 [] 0),(.ref 2 [] 0),(aB.enc a3),(aB.enc a4),(j64 a5),(eB a6),(aF.enc a7)]),.var (.st 38 [(aG.enc a8),(aI.enc a9),(.ifc 88 (.ref 3 [] 0)),(eO 4 1 (eL 2 aD.enc) b4),(aB.enc a10),(aJ.enc a11)]),.var (.st 72 [(aT.enc r.1),(eB a12.gA),(k64 a12.gC),(j64 a12.gB),(j64 a12.gD)]),.var (aK.enc a13),.tail (b4.length*1)]:=by
 unfold dH at h
 refine At.f dJ hT hmo Tryz.func32 rfl h ?_
 refine bi fun r1 hr1=>?_
 refine At.d 1 dE0 (dF 9 (k32 r1.2) [(2,.var (.st 72 [(aT.enc r1.1),(eB a12.gA),(k64 a12.gC),(j64 a12.gB),(j64 a12.gD)]))] [] (bS (aN [2] (tA hr1))) dF0) ?_
 apply rt;exact At.r 0
def fE (N:Nat) (a0:aK):Option (Bool):=
 some (!a0.gA)
theorem vJ {N a0 r} (h:fE N a0=some r):FnM Tryz.prog 293 [.var (aK.enc a0)] [(.ref 0 [] 0)] (eB r) [.var (aK.enc a0)]:=by
 unfold fE at h
 refine At.f dJ hT hmo Tryz.func293 rfl h ?_
 refine At.o 2 (nY hT (t:=88) (x:=(.ref 0 [] 0)) (b:=true) (by kernel_rfl) rfl rfl (by kernel_rfl)) ?_
 refine At.g [5] 8 ?_
 apply rt;exact At.r 0
def lN (N:Nat) (a0:aK):Option (Unit):=
 some (())
theorem aBL {N a0 r} (h:lN N a0=some r):FnM Tryz.prog 292 [.var (aK.enc a0)] [(.ref 0 [0] 0)] (.tup []) [.var (.st 3 [(.st 1 [(j64 (I64 (a0.gE1.gn+1)))]),(eB a0.gA),(eL 19 aE.enc a0.gl)])]:=by
 unfold lN at h
 refine At.f dJ hT hmo Tryz.func292 rfl h ?_
 apply rt;exact At.z 8
def yF : Nat→Bool:=imL [7,8]
def cR (N:Nat) (a0 a1:aC) (a2 a3 a4:Int) (a5:aK):Option (aL×Bool):=
 Option.bind (lN N a5) fun r1=>
 Option.bind (idx a5.gl a4) fun e2=>
 Option.bind (pG N a0 a1 e2.gP) fun r3=>
 Option.bind (cond r3.2 (
  Option.bind (idx a5.gl a4) fun e5=>
  aV ((eZ .u8 e5.gB4 a2) != 0) fun x6=>
  cond x6 (
   some (a4 != a3)) (
   some false)) (
  some false)) fun p4=>
 some ((r3.1,p4))
theorem qZ {N a0 a1 a2 a3 a4 a5 r} (h:cR N a0 a1 a2 a3 a4 a5=some r):FnM Tryz.prog 294 [.var (aK.enc a5)] [(.ref 0 [] 0),(aC.enc a0),(aC.enc a1),(k8 a2),(j64 a3),(j64 a4)] (.tup [(aL.enc r.1),(eB r.2)]) [.var (.st 3 [(.st 1 [(j64 (I64 (a5.gE1.gn+1)))]),(eB a5.gA),(eL 19 aE.enc a5.gl)])]:=by
 unfold cR at h
 refine At.f yF hT hmo Tryz.func294 rfl h ?_
 refine At.b 7 (fun _ e=>aN [0] (aBL e)) fun r1=>?_
 refine bi fun e2 he2=>?_
 refine bi fun r3 hr3=>?_
 refine At.d 0 (dE1 7 (fun _=>cH hT aE.enc he2) (dE2 10 (.tup [(aL.enc r3.1),(eB r3.2)]) (fun _=>aO (aFX hr3)) dE0)) dF0 ?_
 refine At.J 0 0 [12] 3 (fun p4=>([(13,(eB p4))],[(1,.var (aL.enc r3.1))],[])) (fun p4=>?_) fun p4=>?_
 ·refine boI (fun hc2=>?_) (fun hc2=>?_)
  ·refine bi fun e5 he5=>?_
   refine lx ?_;intro x6
   refine boI (fun hc15=>?_) (fun hc15=>?_)
   ·refine At.d 0 (dE1 2 (fun _=>dM hc2 rfl (dC hT (im:=false) (by kernel_rfl))) (dE1 8 (fun _=>cH hT aE.enc he5) (dE1 15 (fun _=>dM hc15 rfl (dC hT (im:=false) (by kernel_rfl))) dE0))) dF0 ?_
    apply rt;exact At.jn 0
   ·refine At.d 0 (dE1 2 (fun _=>dM hc2 rfl (dC hT (im:=false) (by kernel_rfl))) (dE1 8 (fun _=>cH hT aE.enc he5) (dE1 15 (fun _=>dM hc15 rfl (dC hT (im:=false) (by kernel_rfl))) dE0))) dF0 ?_
    apply rt;exact At.jn 0
  ·refine At.d 0 (dE1 2 (fun _=>dM hc2 rfl (dC hT (im:=false) (by kernel_rfl))) dE0) dF0 ?_
   apply rt;exact At.jn 0
 ·apply rt;exact At.r 0
def xR : Nat→Bool:=imL [6,7]
def bU (N:Nat) (a4:aK) (a0 a1:aC) (a2 a3:Int):Nat→aK→aL→Int→Int→Option (aK×aL×Int)
 | 0,_,_,_,_=>none
 | k+1,s3,s4,s5,s6=>
  aV (decide (s6 < ((a4.gl.length:Int)))) fun x7=>
  cond x7 (
   Option.bind (Option.bind (cR N a0 a1 a2 a3 s6 s3) fun r9=>
   Option.bind (cond (decide (s5 < 0)) (
    some true) (
    Option.bind (qH N r9.1 s4) fun r11=>
    some r11)) fun p10=>
   cond (cond r9.2 p10 false) (some ((r9.1,r9.1,s6))) (some ((s4,r9.1,s5)))) fun p8=>
   bU N a4 a0 a1 a2 a3 k (aK.mk (lE.mk (I64 (s3.gE1.gn+1))) s3.gA s3.gl) p8.1 p8.2.2 (I64 (s6+1))) (
   some ((s3,s4,s5)))
def bX (N:Nat) (a0 a1:aC) (a2 a3:Int) (a4:aK):Option (aK×Int×aL):=
 Option.bind (fE N a4) fun r1=>
 cond r1 (
  some ((a4,-1,aL.mk 0 0 0 0))) (
  Option.bind (bU N a4 a0 a1 a2 a3 N a4 (aL.mk 0 0 0 0) (-1) 0) fun p2=>
  some ((p2.1,p2.2.2,p2.2.1)))
theorem qK {N a0 a1 a2 a3 a4 r} (h:bX N a0 a1 a2 a3 a4=some r):FnM Tryz.prog 290 [.var (aK.enc a4)] [(.ref 0 [] 0),(aC.enc a0),(aC.enc a1),(k8 a2),(j64 a3)] (.tup [(j64 r.2.1),(aL.enc r.2.2)]) [.var (aK.enc r.1)]:=by
 unfold bX at h
 refine At.f xR hT hmo Tryz.func290 rfl h ?_
 refine At.b 6 (fun _ e=>aN [0] (vJ e)) fun r1=>?_
 refine At.c 0 ?_ ?_
 ·refine At.d 0 dE0 dF0 ?_
  apply rt;exact At.r 0
 ·refine At.L 6 [11] 2 (fun p2=>([(10,(j64 p2.2.2))],[(0,.var (aK.enc p2.1)),(1,.var (aL.enc p2.2.1))],[])) (fun p2 J k=>∃ s3 s4 s5 s6,bU N a4 a0 a1 a2 a3 k s3 s4 s5 s6=some p2∧J [0,3,4,6,7,11,24] 2 [(10,(j64 s5)),(25,(j64 s6))] [(0,.var (aK.enc s3)),(1,.var (aL.enc s4))] []) N (fun _ h=>⟨_,_,_,_,h,jr⟩) (fun p2 k s hI=>?_) fun p2=>?_
  ·obtain ⟨s3,s4,s5,s6,h,hj⟩:=hI
   cases k with
   | zero=>cases h
   | succ k=>
    refine At.jr hj ?_ h
    refine lx ?_;intro x7
    refine At.c 1 ?_ ?_
    ·refine At.J 0 2 [0,3,4,6,7,11,24,25] 2 (fun p8=>([(10,(j64 p8.2.2))],[(0,.var (.st 3 [(.st 1 [(j64 (I64 (s3.gE1.gn+1)))]),(eB s3.gA),(eL 19 aE.enc s3.gl)])),(1,.var (aL.enc p8.1))],[.var (aL.enc p8.2.1)])) (fun p8=>?_) fun p8=>?_
     ·refine At.b 8 (fun _ e=>aN [0] (qZ e)) fun r9=>?_
      refine At.J 6 0 [0,3,4,6,7,10,11,12,13,14,24,25] 3 (fun p10=>([(15,(eB p10))],[],[])) (fun p10=>?_) fun p10=>?_
      ·refine At.s 40 3 ?_ ?_
       ·refine At.g [40] 5 ?_
        apply rt;exact At.jn 0
       ·refine At.g [40] 2 ?_
        refine At.b 0 (fun _ e=>aN [] (aBu e)) fun r11=>?_
        refine At.g [40] 2 ?_
        apply rt;exact At.jn 0
      ·refine At.c 4 ?_ ?_
       ·refine At.d 0 dE0 dF0 ?_
        apply rt;exact At.jn 0
       ·apply rt;exact At.jn 0
     ·exact fun h=>At.k 2 ⟨_,_,_,_,h,jr⟩
    ·apply rt;exact At.x 0
  ·refine At.d 0 dE0 dF0 ?_
   apply rt;exact At.r 0
def kM (N:Nat) (b4:(List (List aD))) (a1:aH) (a2 a3:aB) (a4:Int) (a5:Bool) (a6:aF) (a7:aG) (a8:aI) (a9:aB) (a10:aJ) (a11:aA) (a12:aK):Option (aF×Int×aK×aR×Bool):=
 Option.bind (cond (a4==0) (some 9) (some 4)) fun p1=>
 Option.bind (bX N a1.go a1.gd p1 a1.gD1 a12) fun r2=>
 Option.bind (cond a8.gA4 (some (I64 (a10.gB2+4))) (some a10.gB2)) fun p3=>
 cond (decide (r2.2.1 < 0)) (
  some ((a6,p3,r2.1,aR.mk 0 (aC.mk 0 0 0) (aB.mk 0 0 0) (aB.mk 0 0 0) (aU.mk 0 (#v[0,0,0]) 0) false,false))) (
  Option.bind (idx a7.gG r2.2.1) fun e4=>
  Option.bind (fD 1 3) fun _=>
  Option.bind (e4.gP.toList[(Int.toNat 1)]?) fun e6=>
  Option.bind (fD 0 3) fun _=>
  Option.bind (e4.gP.toList[(Int.toNat 0)]?) fun e8=>
  Option.bind (lA N e6 e8) fun r9=>
  Option.bind (fD 2 3) fun _=>
  Option.bind (e4.gP.toList[(Int.toNat 2)]?) fun e11=>
  Option.bind (fD 0 3) fun _=>
  Option.bind (e4.gP.toList[(Int.toNat 0)]?) fun e13=>
  Option.bind (lA N e11 e13) fun r14=>
  Option.bind (mT N r9 r14) fun r15=>
  Option.bind (fI N r15) fun r16=>
  Option.bind (Option.bind (qC N a1.go a1.gd r2.2.2) fun r18=>
  Option.bind (jC N r16 a1.gd) fun r19=>
  Option.bind (idx a7.gB1 e4.gC8) fun e20=>
  cond (a4==0) (
   aV ((eZ .u8 e4.gB4 8) != 0) fun x21=>
   some (aR.mk r2.2.1 r18 r19 (aB.mk 0 0 0) e20 x21)) (
   some (aR.mk r2.2.1 r18 r19 (aB.mk 0 0 0) e20 false))) fun p17=>
  Option.bind (cond (decide (e4.gA9≥0)) (
   Option.bind (idx b4 e4.gA9) fun e23=>
   cond (!a8.gA4) (some ((I64 (p3+4),e23))) (some ((p3,e23)))) (
   some ((p3,[])))) fun p22=>
  Option.bind (kB N p17.gF.gB0 p22.2 e4.gUv r2.2.2 a4) fun r24=>
  Option.bind (aV (cond (a4==0) (!a5) false) fun x26=>
  cond x26 (
   Option.bind (mF N p17.gat) fun r27=>
   Option.bind (mF N a1.go) fun r28=>
   Option.bind (sV N r27 r28) fun r29=>
   Option.bind (oI N r29) fun r30=>
   cond p17.gA8 (
    some (aF.mk (aB.mk 0 0 0) 0 r30 p17.gn e4.gB5)) (
    some (aF.mk (aB.mk 0 0 0) 1 r30 p17.gn e4.gB5))) (
   some a6)) fun p25=>
  some ((p25,p22.1,r2.1,aR.mk p17.gi p17.gat p17.gn r24 p17.gF p17.gA8,true)))
theorem aAk {N b4 a1 a2 a3 a4 a5 a6 a7 a8 a9 a10 a11 a12 r} (h:kM N b4 a1 a2 a3 a4 a5 a6 a7 a8 a9 a10 a11 a12=some r):FnM Tryz.prog 85 [.var (.st 26 [(aH.enc a1),(.ref 1 [] 0),(.ref 2 [] 0),(aB.enc a2),(aB.enc a3),(j64 a4),(eB a5),(aF.enc a6)]),.var (.st 38 [(aG.enc a7),(aI.enc a8),(.ifc 88 (.ref 3 [] 0)),(eO 4 1 (eL 2 aD.enc) b4),(aB.enc a9),(aJ.enc a10)]),.var (aA.enc a11),.var (aK.enc a12),.tail (b4.length*1)] [(.ref 0 [] 0)] (.tup [(aR.enc r.2.2.2.1),(eB r.2.2.2.2)]) [.var (.st 26 [(aH.enc a1),(.ref 1 [] 0),(.ref 2 [] 0),(aB.enc a2),(aB.enc a3),(j64 a4),(eB a5),(aF.enc r.1)]),.var (.st 38 [(aG.enc a7),(aI.enc a8),(.ifc 88 (.ref 3 [] 0)),(eO 4 1 (eL 2 aD.enc) b4),(aB.enc a9),(.st 3 [(j64 a10.gK),(j64 r.2.1),(j64 (I64 (a10.gL+1)))])]),.var (aA.enc a11),.var (aK.enc r.2.2.1),.tail (b4.length*1)]:=by
 unfold kM at h
 refine At.f dJ hT hmo Tryz.func85 rfl h ?_
 refine At.J 3 1 [0,2] 6 (fun p1=>([(4,(k8 p1))],[],[])) (fun p1=>?_) fun p1=>?_
 ·refine At.c 5 ?_ ?_
  ·apply rt;exact At.jn 1
  ·apply rt;exact At.jn 0
 ·refine bi fun r2 hr2=>?_
  refine At.d2 0 [false] dC0 (dS1 25 ⟨(.tup [(j64 r2.2.1),(aL.enc r2.2.2)]),3,.var (aK.enc r2.1),.var (aK.enc a12)⟩ [[.var (.st 26 [(aH.enc a1),(.ref 1 [] 0),(.ref 2 [] 0),(aB.enc a2),(aB.enc a3),(j64 a4),(eB a5),(aF.enc a6)]),.var (.st 38 [(aG.enc a7),(aI.enc a8),(.ifc 88 (.ref 3 [] 0)),(eO 4 1 (eL 2 aD.enc) b4),(aB.enc a9),(aJ.enc a10)]),.var (aA.enc a11),.var (aK.enc a12),.tail (b4.length*1),.var aJW,.dead],[.var (.st 26 [(aH.enc a1),(.ref 1 [] 0),(.ref 2 [] 0),(aB.enc a2),(aB.enc a3),(j64 a4),(eB a5),(aF.enc a6)]),.var (.st 38 [(aG.enc a7),(aI.enc a8),(.ifc 88 (.ref 3 [] 0)),(eO 4 1 (eL 2 aD.enc) b4),(aB.enc a9),(aJ.enc a10)]),.var (aA.enc a11),.var (aK.enc a12),.tail (b4.length*1),.var aJW,.var (.st 4 [(j64 0),(j64 0),(j64 0),(j64 0)])]] ⟨bS (aN [3] (qK hr2)),bS (aN [3] (qK hr2)),trivial⟩ (dS1 29 ⟨(.ref 6 [] 0),6,.var (.st 4 [(j64 0),(j64 0),(j64 0),(j64 0)]),.dead⟩ [[.var (.st 26 [(aH.enc a1),(.ref 1 [] 0),(.ref 2 [] 0),(aB.enc a2),(aB.enc a3),(j64 a4),(eB a5),(aF.enc a6)]),.var (.st 38 [(aG.enc a7),(aI.enc a8),(.ifc 88 (.ref 3 [] 0)),(eO 4 1 (eL 2 aD.enc) b4),(aB.enc a9),(aJ.enc a10)]),.var (aA.enc a11),.var (aK.enc a12),.tail (b4.length*1),.var aJW,.dead],[.var (.st 26 [(aH.enc a1),(.ref 1 [] 0),(.ref 2 [] 0),(aB.enc a2),(aB.enc a3),(j64 a4),(eB a5),(aF.enc a6)]),.var (.st 38 [(aG.enc a7),(aI.enc a8),(.ifc 88 (.ref 3 [] 0)),(eO 4 1 (eL 2 aD.enc) b4),(aB.enc a9),(aJ.enc a10)]),.var (aA.enc a11),.var (aK.enc r2.1),.tail (b4.length*1),.var aJW,.dead]] ⟨aX hT 6 (by kernel_rfl) (by kernel_rfl) (by kernel_rfl),aX hT 6 (by kernel_rfl) (by kernel_rfl) (by kernel_rfl),trivial⟩ dS0)) ?_
  refine At.J 13 1 [0,2,5,6] 7 (fun p3=>([],[(1,.var (.st 38 [(aG.enc a7),(aI.enc a8),(.ifc 88 (.ref 3 [] 0)),(eO 4 1 (eL 2 aD.enc) b4),(aB.enc a9),(.st 3 [(j64 a10.gK),(j64 p3),(j64 (I64 (a10.gL+1)))])]))],[])) (fun p3=>?_) fun p3=>?_
  ·refine At.c 8 ?_ ?_
   ·apply rt;exact At.jn 13
   ·apply rt;exact At.jn 0
  ·refine At.c 2 ?_ ?_
   ·apply rt;exact At.r 3
   ·refine At.b 9 (fun _ e=>cH hT aE.enc e) fun e4=>?_
    refine bi fun u5 hu5=>?_
    refine bi fun e6 he6=>?_
    refine bi fun u7 hu7=>?_
    refine bi fun e8 he8=>?_
    refine bi fun r9 hr9=>?_
    refine bi fun u10 hu10=>?_
    refine bi fun e11 he11=>?_
    refine bi fun u12 hu12=>?_
    refine bi fun e13 he13=>?_
    refine bi fun r14 hr14=>?_
    refine bi fun r15 hr15=>?_
    refine bi fun r16 hr16=>?_
    refine At.d 3 (dE1 1 (fun _=>bG hT (k:=3) 7 [0] 0 hu5) (dEL hT 2 (aC.enc e6) aC.enc 1 he6 (dE1 4 (fun _=>bG hT (k:=3) 7 [0] 0 hu7) (dEL hT 5 (aC.enc e8) aC.enc 1 he8 (dE2 6 (aC.enc r9) (fun _=>aO (rK hr9)) (dE1 8 (fun _=>bG hT (k:=3) 7 [0] 0 hu10) (dEL hT 9 (aC.enc e11) aC.enc 1 he11 (dE1 11 (fun _=>bG hT (k:=3) 7 [0] 0 hu12) (dEL hT 12 (aC.enc e13) aC.enc 1 he13 (dE2 13 (aC.enc r14) (fun _=>aO (rK hr14)) (dE2 14 (aC.enc r15) (fun _=>aO (xV hr15)) (dE2 15 (aB.enc r16) (fun _=>aO (lD hr16)) dE0)))))))))))) dF0 ?_
    refine At.J 0 0 [0,2,6,7] 9 (fun p17=>([],[(5,.var (aR.enc p17))],[])) (fun p17=>?_) fun p17=>?_
    ·refine bi fun r18 hr18=>?_
     refine bi fun r19 hr19=>?_
     refine bi fun e20 he20=>?_
     refine boI (fun hc37=>?_) (fun hc37=>?_)
     ·refine lx ?_;intro x21
      refine At.d 0 (dE2 12 (aC.enc r18) (fun _=>aO (xM hr18)) (dE2 19 (aB.enc r19) (fun _=>aO (rA hr19)) (dE1 30 (fun _=>cH hT aU.enc he20) (dE1 37 (fun _=>dM hc37 rfl (dC hT (im:=false) (by kernel_rfl))) dE0)))) dF0 ?_
      apply rt;exact At.jn 0
     ·refine At.d 0 (dE2 12 (aC.enc r18) (fun _=>aO (xM hr18)) (dE2 19 (aB.enc r19) (fun _=>aO (rA hr19)) (dE1 30 (fun _=>cH hT aU.enc he20) (dE1 37 (fun _=>dM hc37 rfl (dC hT (im:=false) (by kernel_rfl))) dE0)))) dF0 ?_
      apply rt;exact At.jn 0
    ·refine At.J 1 1 [0,2,6,7] 9 (fun p22=>([(9,(eL 2 aD.enc p22.2))],[(1,.var (.st 38 [(aG.enc a7),(aI.enc a8),(.ifc 88 (.ref 3 [] 0)),(eO 4 1 (eL 2 aD.enc) b4),(aB.enc a9),(.st 3 [(j64 a10.gK),(j64 p22.1),(j64 (I64 (a10.gL+1)))])]))],[])) (fun p22=>?_) fun p22=>?_
     ·refine At.c 3 ?_ ?_
      ·refine bi fun e23 he23=>?_
       refine At.d 0 (dE1 9 (fun _=>cH hT (eL 2 aD.enc) he23) dE0) dF0 ?_
       refine At.c 9 ?_ ?_
       ·apply rt;exact At.jn 13
       ·apply rt;exact At.jn 0
      ·apply rt;exact At.jn 0
     ·refine bi fun r24 hr24=>?_
      refine At.d 0 (dE2 11 (aB.enc r24) (fun _=>aO (aAO hr24)) dE0) dF0 ?_
      refine At.J 0 1 [2] 9 (fun p25=>([],[(0,.var (.st 26 [(aH.enc a1),(.ref 1 [] 0),(.ref 2 [] 0),(aB.enc a2),(aB.enc a3),(j64 a4),(eB a5),(aF.enc p25)]))],[])) (fun p25=>?_) fun p25=>?_
      ·refine lx ?_;intro x26
       refine At.c 12 ?_ ?_
       ·refine bi fun r27 hr27=>?_
        refine bi fun r28 hr28=>?_
        refine bi fun r29 hr29=>?_
        refine bi fun r30 hr30=>?_
        refine At.d 0 (dE2 3 (aB.enc r27) (fun _=>aO (qW hr27)) (dE2 9 (aB.enc r28) (fun _=>aO (qW hr28)) (dE2 10 (aB.enc r29) (fun _=>aO (aAr hr29)) (dE2 11 (j64 r30) (fun _=>aO (aCS hr30)) dE0)))) dF0 ?_
        refine At.c 2 ?_ ?_
        ·apply rt;exact At.jn 5
        ·apply rt;exact At.jn 0
       ·apply rt;exact At.jn 0
      ·apply rt;exact At.r 3
def fX (N:Nat) (b4:(List (List aD))) (a1:(List aB)) (a2:aH) (a3 a4:aB) (a5:Int) (a6:Bool) (a7:aF) (a8:aG) (a9:aI) (a10:aB) (a11:aJ) (a12:aA) (a13:aK):Option (aB):=
 cond (!a6) (
  Option.bind (zD 24 (([a3]:List aB)) a1) fun z1=>
  Option.bind (iE N z1) fun r2=>
  Option.bind (kZ N ([a4,r2])) fun r3=>
  some r3) (
  some a4)
theorem qG {N b4 a1 a2 a3 a4 a5 a6 a7 a8 a9 a10 a11 a12 a13 r} (h:fX N b4 a1 a2 a3 a4 a5 a6 a7 a8 a9 a10 a11 a12 a13=some r):FnM Tryz.prog 86 [.var (.st 26 [(aH.enc a2),(.ref 1 [] 0),(.ref 2 [] 0),(aB.enc a3),(aB.enc a4),(j64 a5),(eB a6),(aF.enc a7)]),.var (.st 38 [(aG.enc a8),(aI.enc a9),(.ifc 88 (.ref 3 [] 0)),(eO 4 1 (eL 2 aD.enc) b4),(aB.enc a10),(aJ.enc a11)]),.var (aA.enc a12),.var (aK.enc a13),.tail (b4.length*1)] [(.ref 0 [] 0),(eL 3 aB.enc a1)] (.tup []) [.var (.st 26 [(aH.enc a2),(.ref 1 [] 0),(.ref 2 [] 0),(aB.enc a3),(aB.enc r),(j64 a5),(eB a6),(aF.enc a7)]),.var (.st 38 [(aG.enc a8),(aI.enc a9),(.ifc 88 (.ref 3 [] 0)),(eO 4 1 (eL 2 aD.enc) b4),(aB.enc a10),(aJ.enc a11)]),.var (aA.enc a12),.var (aK.enc a13),.tail (b4.length*1)]:=by
 unfold fX at h
 refine At.f dJ hT hmo Tryz.func86 rfl h ?_
 refine At.c 5 ?_ ?_
 ·refine bi fun z1 hz1=>?_
  refine bi fun r2 hr2=>?_
  refine bi fun r3 hr3=>?_
  refine At.d 0 (dE2 12 (aB.enc r2) (fun _=>aO (qE hr2)) (dE1 13 (fun _=>cT hT (x:=(.sl 3 2 [(aB.enc a4),(aB.enc r2)]))) (dE2 14 (aB.enc r3) (fun _=>aO (vR hr3)) dE0))) (dF 9 (eO 5 3 aB.enc (([a3]:List aB))) [] [.tail ((([a3]:List aB)).length*3)] (bS (yO hT aB.enc (k:=3) ([a3]:List aB) (by kernel_rfl) (by kernel_rfl))) (dF 11 (eO 5 3 aB.enc z1) [(5,.tail (z1.length*3))] [] (bS (sJ hT aB.enc (id:=5) (k:=3) hz1)) dF0)) ?_
  apply rt;exact At.z 0
 ·apply rt;exact At.z 0
def dX (N:Nat) (b4:(List (List aD))) (a1:Bool) (a2:aH) (a3 a4:aB) (a5:Int) (a6:Bool) (a7:aF) (a8:aG) (a9:aI) (a10:aB) (a11:aJ) (a12:aA) (a13:aK):Option (Unit):=
 some (())
theorem iJ {N b4 a1 a2 a3 a4 a5 a6 a7 a8 a9 a10 a11 a12 a13 r} (h:dX N b4 a1 a2 a3 a4 a5 a6 a7 a8 a9 a10 a11 a12 a13=some r):FnM Tryz.prog 87 [.var (.st 26 [(aH.enc a2),(.ref 1 [] 0),(.ref 2 [] 0),(aB.enc a3),(aB.enc a4),(j64 a5),(eB a6),(aF.enc a7)]),.var (.st 38 [(aG.enc a8),(aI.enc a9),(.ifc 88 (.ref 3 [] 0)),(eO 4 1 (eL 2 aD.enc) b4),(aB.enc a10),(aJ.enc a11)]),.var (aA.enc a12),.var (aK.enc a13),.tail (b4.length*1)] [(.ref 0 [] 0),(eB a1)] (.tup []) [.var (.st 26 [(aH.enc a2),(.ref 1 [] 0),(.ref 2 [] 0),(aB.enc a3),(aB.enc a4),(j64 a5),(eB (cond a6 true a1)),(aF.enc a7)]),.var (.st 38 [(aG.enc a8),(aI.enc a9),(.ifc 88 (.ref 3 [] 0)),(eO 4 1 (eL 2 aD.enc) b4),(aB.enc a10),(aJ.enc a11)]),.var (aA.enc a12),.var (aK.enc a13),.tail (b4.length*1)]:=by
 unfold dX at h
 refine At.f dJ hT hmo Tryz.func87 rfl h ?_
 apply rt;exact At.z 11
def aAL : Nat→Bool:=imL [7,8]
def bY (N:Nat) (a5:aK) (a0 a1:aC) (a2 a3:Int) (a4:Bool):Nat→aK→Bool→Int→Option (aK×Bool)
 | 0,_,_,_=>none
 | k+1,s3,s4,s5=>
  aV (decide (s5 < ((a5.gl.length:Int)))) fun x6=>
  cond x6 (
   Option.bind (cR N a0 a1 a2 a3 s5 s3) fun r7=>
   cond r7.2 (
    aV (decide (r7.1.gT < r7.1.gM)) fun x8=>
    aV (cond (cond (!a4) true x8) true s4) fun x9=>
    bY N a5 a0 a1 a2 a3 a4 k (aK.mk (lE.mk (I64 (s3.gE1.gn+1))) s3.gA s3.gl) x9 (I64 (s5+1))) (
    bY N a5 a0 a1 a2 a3 a4 k (aK.mk (lE.mk (I64 (s3.gE1.gn+1))) s3.gA s3.gl) s4 (I64 (s5+1)))) (
   some ((s3,s4)))
def cD (N:Nat) (a0 a1:aC) (a2 a3:Int) (a4:Bool) (a5:aK):Option (aK×Bool):=
 Option.bind (fE N a5) fun r1=>
 cond r1 (
  some ((a5,false))) (
  Option.bind (bY N a5 a0 a1 a2 a3 a4 N a5 false 0) fun p2=>
  some ((p2.1,p2.2)))
theorem kH {N a0 a1 a2 a3 a4 a5 r} (h:cD N a0 a1 a2 a3 a4 a5=some r):FnM Tryz.prog 289 [.var (aK.enc a5)] [(.ref 0 [] 0),(aC.enc a0),(aC.enc a1),(k8 a2),(j64 a3),(eB a4)] (eB r.2) [.var (aK.enc r.1)]:=by
 unfold cD at h
 refine At.f aAL hT hmo Tryz.func289 rfl h ?_
 refine At.b 4 (fun _ e=>aN [0] (vJ e)) fun r1=>?_
 refine At.c 0 ?_ ?_
 ·apply rt;exact At.r 1
 ·refine At.L 7 [] 1 (fun p2=>([(13,(eB p2.2))],[(0,.var (aK.enc p2.1))],[])) (fun p2 J k=>∃ s3 s4 s5,bY N a5 a0 a1 a2 a3 a4 k s3 s4 s5=some p2∧J [0,3,4,5,7,8,23] 1 [(13,(eB s4)),(24,(j64 s5))] [(0,.var (aK.enc s3))] []) N (fun _ h=>⟨_,_,_,h,jr⟩) (fun p2 k s hI=>?_) fun p2=>?_
  ·obtain ⟨s3,s4,s5,h,hj⟩:=hI
   cases k with
   | zero=>cases h
   | succ k=>
    refine At.jr hj ?_ h
    refine lx ?_;intro x6
    refine At.c 1 ?_ ?_
    ·refine At.b 8 (fun _ e=>aN [0] (qZ e)) fun r7=>?_
     refine At.s 38 8 ?_ ?_
     ·refine lx ?_;intro x8
      refine lx ?_;intro x9
      refine At.g [38] 16 ?_
      exact fun h=>At.k 0 ⟨_,_,_,h,jr⟩
     ·refine At.g [38,41,49] 16 ?_
      exact fun h=>At.k 0 ⟨_,_,_,h,jr⟩
    ·apply rt;exact At.x 0
  ·apply rt;exact At.r 2
def aAV : Nat→Bool:=imL [3]
def eY (N:Nat) (x1:Int) (a8:aG) (b4:(List (List aD))) (a2:aH) (a3:aB) (a5:Int) (a6:Bool) (a7:aF) (a9:aI) (a10:aB) (a11:aJ) (a1:aR):Nat→aB→aA→aK→Int→Option (aB×aA×aK)
 | 0,_,_,_,_=>none
 | k+1,s3,s4,s5,s6=>
  cond (decide (s6 < x1)) (
   Option.bind (Option.bind (idx a8.gJ s6) fun e8=>
   aV (I64 (8+(I64 (2*s6)))) fun x9=>
   Option.bind (dH N b4 x9 a2 a3 s3 a5 a6 a7 a8 a9 a10 a11 s4 s5) fun r10=>
   aV (I64 (9+(I64 (2*s6)))) fun x11=>
   Option.bind (dH N b4 x11 a2 a3 s3 a5 a6 a7 a8 a9 a10 a11 (aA.mk r10.1 s4.gA s4.gC s4.gB s4.gD) s5) fun r12=>
   Option.bind (mW N e8 a1.gat a1.gn (#v[r10.2,r12.2])) fun r13=>
   aV (cond r13.gC0 (!a9.gA4) false) fun x14=>
   cond x14 (
    some ((s3,aA.mk r12.1 ((aA.mk r10.1 s4.gA s4.gC s4.gB s4.gD).gA) ((aA.mk r10.1 s4.gA s4.gC s4.gB s4.gD).gC) ((aA.mk r10.1 s4.gA s4.gC s4.gB s4.gD).gB) ((aA.mk r10.1 s4.gA s4.gC s4.gB s4.gD).gD),s5,e8,r13))) (
    Option.bind (Option.bind (cD N a1.gat r13.gC6 2 a1.gi (!r13.gC7) s5) fun r16=>
    cond (!r16.2) (
     cond (!r13.gC0) (
      some ((r16.1,a1.gF.gI==0))) (
      some ((r16.1,false)))) (
     some ((r16.1,false)))) fun p15=>
    cond p15.2 (
     Option.bind (fX N b4 ([a1.gc,r13.gC1]) a2 a3 s3 a5 a6 a7 a8 a9 a10 a11 (aA.mk r12.1 ((aA.mk r10.1 s4.gA s4.gC s4.gB s4.gD).gA) ((aA.mk r10.1 s4.gA s4.gC s4.gB s4.gD).gC) ((aA.mk r10.1 s4.gA s4.gC s4.gB s4.gD).gB) ((aA.mk r10.1 s4.gA s4.gC s4.gB s4.gD).gD)) p15.1) fun r17=>
     some ((r17,aA.mk r12.1 ((aA.mk r10.1 s4.gA s4.gC s4.gB s4.gD).gA) ((aA.mk r10.1 s4.gA s4.gC s4.gB s4.gD).gC) ((aA.mk r10.1 s4.gA s4.gC s4.gB s4.gD).gB) ((aA.mk r10.1 s4.gA s4.gC s4.gB s4.gD).gD),p15.1,e8,r13))) (
     some ((s3,aA.mk r12.1 ((aA.mk r10.1 s4.gA s4.gC s4.gB s4.gD).gA) ((aA.mk r10.1 s4.gA s4.gC s4.gB s4.gD).gC) ((aA.mk r10.1 s4.gA s4.gC s4.gB s4.gD).gB) ((aA.mk r10.1 s4.gA s4.gC s4.gB s4.gD).gD),p15.1,e8,r13))))) fun p7=>
   eY N x1 a8 b4 a2 a3 a5 a6 a7 a9 a10 a11 a1 k p7.1 p7.2.1 p7.2.2.1 (I64 (s6+1))) (
   some ((s3,s4,s5)))
def eU (N:Nat) (r18:Int×Int) (x19:Int) (a1:aR):Nat→aK→Int→Option (aK)
 | 0,_,_=>none
 | k+1,s21,s22=>
  aV (decide (s22 < (I64 (r18.2 - x19)))) fun x23=>
  cond x23 (
   Option.bind (cD N a1.gat (aC.mk 0 0 0) 2 a1.gi false s21) fun r24=>
   eU N r18 x19 a1 k r24.1 (I64 (s22+1))) (
   some s21)
def jE (N:Nat) (b4:(List (List aD))) (a1:aR) (a2:aH) (a3 a4:aB) (a5:Int) (a6:Bool) (a7:aF) (a8:aG) (a9:aI) (a10:aB) (a11:aJ) (a12:aA) (a13:aK):Option (aB×aA×aK):=
 aV ((a8.gJ.length:Int)) fun x1=>
 Option.bind (eY N x1 a8 b4 a2 a3 a5 a6 a7 a9 a10 a11 a1 N a4 a12 a13 0) fun p2=>
 cond (!a9.gA4) (
  some ((p2.1,p2.2.1,p2.2.2))) (
  Option.bind (iW N a9.gS) fun r18=>
  aV ((a8.gJ.length:Int)) fun x19=>
  Option.bind (eU N r18 x19 a1 N p2.2.2 0) fun p20=>
  some ((p2.1,p2.2.1,p20)))
theorem aAK {N b4 a1 a2 a3 a4 a5 a6 a7 a8 a9 a10 a11 a12 a13 r} (h:jE N b4 a1 a2 a3 a4 a5 a6 a7 a8 a9 a10 a11 a12 a13=some r):FnM Tryz.prog 88 [.var (.st 26 [(aH.enc a2),(.ref 1 [] 0),(.ref 2 [] 0),(aB.enc a3),(aB.enc a4),(j64 a5),(eB a6),(aF.enc a7)]),.var (.st 38 [(aG.enc a8),(aI.enc a9),(.ifc 88 (.ref 3 [] 0)),(eO 4 1 (eL 2 aD.enc) b4),(aB.enc a10),(aJ.enc a11)]),.var (aA.enc a12),.var (aK.enc a13),.tail (b4.length*1)] [(.ref 0 [] 0),(aR.enc a1)] (.tup []) [.var (.st 26 [(aH.enc a2),(.ref 1 [] 0),(.ref 2 [] 0),(aB.enc a3),(aB.enc r.1),(j64 a5),(eB a6),(aF.enc a7)]),.var (.st 38 [(aG.enc a8),(aI.enc a9),(.ifc 88 (.ref 3 [] 0)),(eO 4 1 (eL 2 aD.enc) b4),(aB.enc a10),(aJ.enc a11)]),.var (aA.enc r.2.1),.var (aK.enc r.2.2),.tail (b4.length*1)]:=by
 unfold jE at h
 refine At.f aAV hT hmo Tryz.func88 rfl h ?_
 refine lx ?_;intro x1
 refine At.L 11 [0,3] 5 (fun p2=>([],[(0,.var (.st 26 [(aH.enc a2),(.ref 1 [] 0),(.ref 2 [] 0),(aB.enc a3),(aB.enc p2.1),(j64 a5),(eB a6),(aF.enc a7)])),(2,.var (aA.enc p2.2.1)),(3,.var (aK.enc p2.2.2))],[])) (fun p2 J k=>∃ s3 s4 s5 s6,eY N x1 a8 b4 a2 a3 a5 a6 a7 a9 a10 a11 a1 k s3 s4 s5 s6=some p2∧J [0,3,16,17] 5 [(18,(j64 s6))] [(0,.var (.st 26 [(aH.enc a2),(.ref 1 [] 0),(.ref 2 [] 0),(aB.enc a3),(aB.enc s3),(j64 a5),(eB a6),(aF.enc a7)])),(2,.var (aA.enc s4)),(3,.var (aK.enc s5))] []) N (fun _ h=>⟨_,_,_,_,h,jr⟩) (fun p2 k s hI=>?_) fun p2=>?_
 ·obtain ⟨s3,s4,s5,s6,h,hj⟩:=hI
  cases k with
  | zero=>cases h
  | succ k=>
   refine At.jr hj ?_ h
   refine At.c 1 ?_ ?_
   ·refine At.J 0 2 [0,3,16,17,18] 5 (fun p7=>([],[(0,.var (.st 26 [(aH.enc a2),(.ref 1 [] 0),(.ref 2 [] 0),(aB.enc a3),(aB.enc p7.1),(j64 a5),(eB a6),(aF.enc a7)])),(2,.var (aA.enc p7.2.1)),(3,.var (aK.enc p7.2.2.1))],[.var (aS.enc p7.2.2.2.1),.var (jB.enc p7.2.2.2.2)])) (fun p7=>?_) fun p7=>?_
    ·refine At.b 1 (fun _ e=>cH hT aS.enc e) fun e8=>?_
     refine lx ?_;intro x9
     refine bi fun r10 hr10=>?_
     refine lx ?_;intro x11
     refine bi fun r12 hr12=>?_
     refine bi fun r13 hr13=>?_
     refine At.d2 4 [false] (dC2 16 (jB.enc r13) (fun _=>aO (aBO hr13)) dC0) (dS1 9 ⟨(k32 r10.2),2,.var (.st 72 [(aT.enc r10.1),(eB s4.gA),(k64 s4.gC),(j64 s4.gB),(j64 s4.gD)]),.var (aA.enc s4)⟩ [[.var (.st 26 [(aH.enc a2),(.ref 1 [] 0),(.ref 2 [] 0),(aB.enc a3),(aB.enc s3),(j64 a5),(eB a6),(aF.enc a7)]),.var (.st 38 [(aG.enc a8),(aI.enc a9),(.ifc 88 (.ref 3 [] 0)),(eO 4 1 (eL 2 aD.enc) b4),(aB.enc a10),(aJ.enc a11)]),.var (aA.enc s4),.var (aK.enc s5),.tail (b4.length*1),.var (aS.enc e8),.dead],[.var (.st 26 [(aH.enc a2),(.ref 1 [] 0),(.ref 2 [] 0),(aB.enc a3),(aB.enc s3),(j64 a5),(eB a6),(aF.enc a7)]),.var (.st 38 [(aG.enc a8),(aI.enc a9),(.ifc 88 (.ref 3 [] 0)),(eO 4 1 (eL 2 aD.enc) b4),(aB.enc a10),(aJ.enc a11)]),.var (aA.enc s4),.var (aK.enc s5),.tail (b4.length*1),.var (aS.enc e8),.var aMp]] ⟨bS (aN [0,1,2,3,4] (cI hr10)),bS (aN [0,1,2,3,4] (cI hr10)),trivial⟩ (dS1 14 ⟨(k32 r12.2),2,.var (.st 72 [(aT.enc r12.1),(eB ((aA.mk r10.1 s4.gA s4.gC s4.gB s4.gD).gA)),(k64 ((aA.mk r10.1 s4.gA s4.gC s4.gB s4.gD).gC)),(j64 ((aA.mk r10.1 s4.gA s4.gC s4.gB s4.gD).gB)),(j64 ((aA.mk r10.1 s4.gA s4.gC s4.gB s4.gD).gD))]),.var (.st 72 [(aT.enc r10.1),(eB s4.gA),(k64 s4.gC),(j64 s4.gB),(j64 s4.gD)])⟩ [[.var (.st 26 [(aH.enc a2),(.ref 1 [] 0),(.ref 2 [] 0),(aB.enc a3),(aB.enc s3),(j64 a5),(eB a6),(aF.enc a7)]),.var (.st 38 [(aG.enc a8),(aI.enc a9),(.ifc 88 (.ref 3 [] 0)),(eO 4 1 (eL 2 aD.enc) b4),(aB.enc a10),(aJ.enc a11)]),.var (.st 72 [(aT.enc r10.1),(eB s4.gA),(k64 s4.gC),(j64 s4.gB),(j64 s4.gD)]),.var (aK.enc s5),.tail (b4.length*1),.var (aS.enc e8),.dead],[.var (.st 26 [(aH.enc a2),(.ref 1 [] 0),(.ref 2 [] 0),(aB.enc a3),(aB.enc s3),(j64 a5),(eB a6),(aF.enc a7)]),.var (.st 38 [(aG.enc a8),(aI.enc a9),(.ifc 88 (.ref 3 [] 0)),(eO 4 1 (eL 2 aD.enc) b4),(aB.enc a10),(aJ.enc a11)]),.var (.st 72 [(aT.enc r10.1),(eB s4.gA),(k64 s4.gC),(j64 s4.gB),(j64 s4.gD)]),.var (aK.enc s5),.tail (b4.length*1),.var (aS.enc e8),.var aMp]] ⟨bS (aN [0,1,2,3,4] (cI hr12)),bS (aN [0,1,2,3,4] (cI hr12)),trivial⟩ (dS1 17 ⟨(.ref 6 [] 0),6,.var aMp,.dead⟩ [[.var (.st 26 [(aH.enc a2),(.ref 1 [] 0),(.ref 2 [] 0),(aB.enc a3),(aB.enc s3),(j64 a5),(eB a6),(aF.enc a7)]),.var (.st 38 [(aG.enc a8),(aI.enc a9),(.ifc 88 (.ref 3 [] 0)),(eO 4 1 (eL 2 aD.enc) b4),(aB.enc a10),(aJ.enc a11)]),.var (aA.enc s4),.var (aK.enc s5),.tail (b4.length*1),.var (aS.enc e8),.dead],[.var (.st 26 [(aH.enc a2),(.ref 1 [] 0),(.ref 2 [] 0),(aB.enc a3),(aB.enc s3),(j64 a5),(eB a6),(aF.enc a7)]),.var (.st 38 [(aG.enc a8),(aI.enc a9),(.ifc 88 (.ref 3 [] 0)),(eO 4 1 (eL 2 aD.enc) b4),(aB.enc a10),(aJ.enc a11)]),.var (.st 72 [(aT.enc r12.1),(eB ((aA.mk r10.1 s4.gA s4.gC s4.gB s4.gD).gA)),(k64 ((aA.mk r10.1 s4.gA s4.gC s4.gB s4.gD).gC)),(j64 ((aA.mk r10.1 s4.gA s4.gC s4.gB s4.gD).gB)),(j64 ((aA.mk r10.1 s4.gA s4.gC s4.gB s4.gD).gD))]),.var (aK.enc s5),.tail (b4.length*1),.var (aS.enc e8),.dead],[.var (.st 26 [(aH.enc a2),(.ref 1 [] 0),(.ref 2 [] 0),(aB.enc a3),(aB.enc s3),(j64 a5),(eB a6),(aF.enc a7)]),.var (.st 38 [(aG.enc a8),(aI.enc a9),(.ifc 88 (.ref 3 [] 0)),(eO 4 1 (eL 2 aD.enc) b4),(aB.enc a10),(aJ.enc a11)]),.var (.st 72 [(aT.enc r10.1),(eB s4.gA),(k64 s4.gC),(j64 s4.gB),(j64 s4.gD)]),.var (aK.enc s5),.tail (b4.length*1),.var (aS.enc e8),.dead],[.var (.st 26 [(aH.enc a2),(.ref 1 [] 0),(.ref 2 [] 0),(aB.enc a3),(aB.enc s3),(j64 a5),(eB a6),(aF.enc a7)]),.var (.st 38 [(aG.enc a8),(aI.enc a9),(.ifc 88 (.ref 3 [] 0)),(eO 4 1 (eL 2 aD.enc) b4),(aB.enc a10),(aJ.enc a11)]),.var (.st 72 [(aT.enc r12.1),(eB ((aA.mk r10.1 s4.gA s4.gC s4.gB s4.gD).gA)),(k64 ((aA.mk r10.1 s4.gA s4.gC s4.gB s4.gD).gC)),(j64 ((aA.mk r10.1 s4.gA s4.gC s4.gB s4.gD).gB)),(j64 ((aA.mk r10.1 s4.gA s4.gC s4.gB s4.gD).gD))]),.var (aK.enc s5),.tail (b4.length*1),.var (aS.enc e8),.dead]] ⟨aX hT 6 (by kernel_rfl) (by kernel_rfl) (by kernel_rfl),aX hT 6 (by kernel_rfl) (by kernel_rfl) (by kernel_rfl),aX hT 6 (by kernel_rfl) (by kernel_rfl) (by kernel_rfl),aX hT 6 (by kernel_rfl) (by kernel_rfl) (by kernel_rfl),trivial⟩ dS0))) ?_
     refine lx ?_;intro x14
     refine At.c 13 ?_ ?_
     ·apply rt;exact At.jn 0
     ·refine At.J 0 0 [0,3,6,16,17,18] 7 (fun p15=>([(81,(eB p15.2))],[(3,.var (aK.enc p15.1))],[])) (fun p15=>?_) fun p15=>?_
      ·refine bi fun r16 hr16=>?_
       refine boI (fun hc18=>?_) (fun hc18=>?_)
       ·refine boI (fun hc23=>?_) (fun hc23=>?_)
        ·refine At.d 0 (dE1 18 (fun _=>dM hc18 rfl (dC hT (im:=false) (by kernel_rfl))) (dE1 23 (fun _=>dM hc23 rfl (dC hT (im:=false) (by kernel_rfl))) dE0)) (dF 16 (eB r16.2) [(3,.var (aK.enc r16.1))] [] (bS (aN [3] (kH hr16))) dF0) ?_
         apply rt;exact At.jn 0
        ·refine At.d 0 (dE1 18 (fun _=>dM hc18 rfl (dC hT (im:=false) (by kernel_rfl))) (dE1 23 (fun _=>dM hc23 rfl (dC hT (im:=false) (by kernel_rfl))) dE0)) (dF 16 (eB r16.2) [(3,.var (aK.enc r16.1))] [] (bS (aN [3] (kH hr16))) dF0) ?_
         apply rt;exact At.jn 0
       ·refine At.d 0 (dE1 18 (fun _=>dM hc18 rfl (dC hT (im:=false) (by kernel_rfl))) dE0) (dF 16 (eB r16.2) [(3,.var (aK.enc r16.1))] [] (bS (aN [3] (kH hr16))) dF0) ?_
        apply rt;exact At.jn 0
      ·refine At.c 0 ?_ ?_
       ·refine At.o 5 (cT hT (x:=(.sl 3 2 [(aB.enc a1.gc),(aB.enc r13.gC1)]))) ?_
        refine At.b 0 (fun _ e=>aN [0,1,2,3,4] (qG e)) fun r17=>?_
        apply rt;exact At.jn 0
       ·apply rt;exact At.jn 0
    ·exact fun h=>At.k 2 ⟨_,_,_,_,h,jr⟩
   ·apply rt;exact At.x 0
 ·refine At.c 9 ?_ ?_
  ·apply rt;exact At.r 0
  ·refine At.b 8 (fun _ e=>aN [] (sN e)) fun r18=>?_
   refine lx ?_;intro x19
   refine At.L 17 [] 5 (fun p20=>([],[(3,.var (aK.enc p20))],[])) (fun p20 J k=>∃ s21 s22,eU N r18 x19 a1 k s21 s22=some p20∧J [0,3,121] 5 [(122,(j64 s22))] [(3,.var (aK.enc s21))] []) N (fun _ h=>⟨_,_,h,jr⟩) (fun p20 k s hI=>?_) fun p20=>?_
   ·obtain ⟨s21,s22,h,hj⟩:=hI
    cases k with
    | zero=>cases h
    | succ k=>
     refine At.jr hj ?_ h
     refine lx ?_;intro x23
     refine At.c 1 ?_ ?_
     ·refine bi fun r24 hr24=>?_
      refine At.d 0 dE0 (dF 12 (eB r24.2) [(3,.var (aK.enc r24.1))] [] (bS (aN [3] (kH hr24))) dF0) ?_
      exact fun h=>At.k 2 ⟨_,_,h,jr⟩
     ·apply rt;exact At.x 0
   ·apply rt;exact At.z 0
def kK (N:Nat) (b4:(List (List aD))) (a1:aH) (a2 a3:aB) (a4:Int) (a5:Bool) (a6:aF) (a7:aG) (a8:aI) (a9:aB) (a10:aJ) (a11:aA) (a12:aK):Option (aH×aB×aB×Bool×aF×Int×aA×aK):=
 Option.bind (kM N b4 a1 a2 a3 a4 a5 a6 a7 a8 a9 a10 a11 a12) fun r1=>
 Option.bind (cond (!r1.2.2.2.2) (
  Option.bind (fX N b4 ([a9]) a1 a2 a3 a4 a5 r1.1 a7 a8 a9 (aJ.mk a10.gK r1.2.1 (I64 (a10.gL+1))) a11 r1.2.2.1) fun r3=>
  Option.bind (dX N b4 true a1 a2 r3 a4 a5 r1.1 a7 a8 a9 (aJ.mk a10.gK r1.2.1 (I64 (a10.gL+1))) a11 r1.2.2.1) fun r4=>
  some ((r3,cond a5 true true))) (
  some ((a3,a5)))) fun p2=>
 Option.bind (dX N b4 r1.2.2.2.1.gA8 a1 a2 p2.1 a4 p2.2 r1.1 a7 a8 a9 (aJ.mk a10.gK r1.2.1 (I64 (a10.gL+1))) a11 r1.2.2.1) fun r5=>
 Option.bind (aV (r1.2.2.2.1.gF.gI==4) fun x7=>
 cond x7 (
  Option.bind (fX N b4 ([r1.2.2.2.1.gc]) a1 a2 p2.1 a4 (cond p2.2 true r1.2.2.2.1.gA8) r1.1 a7 a8 a9 (aJ.mk a10.gK r1.2.1 (I64 (a10.gL+1))) a11 r1.2.2.1) fun r8=>
  Option.bind (dX N b4 true a1 a2 r8 a4 ((cond p2.2 true r1.2.2.2.1.gA8)) r1.1 a7 a8 a9 (aJ.mk a10.gK r1.2.1 (I64 (a10.gL+1))) a11 r1.2.2.1) fun r9=>
  some ((r8,cond ((cond p2.2 true r1.2.2.2.1.gA8)) true true))) (
  some ((p2.1,cond p2.2 true r1.2.2.2.1.gA8)))) fun p6=>
 Option.bind (Option.bind (cond a8.gA4 (
  some true) (
  aV (r1.2.2.2.1.gF.gI==0) fun x12=>
  some (cond (!p6.2) x12 false))) fun p11=>
 cond p11 (
  Option.bind (jE N b4 r1.2.2.2.1 a1 a2 p6.1 a4 p6.2 r1.1 a7 a8 a9 (aJ.mk a10.gK r1.2.1 (I64 (a10.gL+1))) a11 r1.2.2.1) fun r13=>
  some ((r13.1,r13.2.1,r13.2.2))) (
  some ((p6.1,a11,r1.2.2.1)))) fun p10=>
 Option.bind (cond p6.2 (
  some true) (
  some (a4==a8.gN))) fun p14=>
 cond p14 (
  Option.bind (dX N b4 true a1 a2 p10.1 a4 p6.2 r1.1 a7 a8 a9 (aJ.mk a10.gK r1.2.1 (I64 (a10.gL+1))) p10.2.1 p10.2.2) fun r15=>
  some ((a1,a2,p10.1,cond p6.2 true true,r1.1,r1.2.1,p10.2.1,p10.2.2))) (
  Option.bind (dH N b4 4 a1 a2 p10.1 a4 p6.2 r1.1 a7 a8 a9 (aJ.mk a10.gK r1.2.1 (I64 (a10.gL+1))) p10.2.1 p10.2.2) fun r16=>
  Option.bind (dH N b4 5 a1 a2 p10.1 a4 p6.2 r1.1 a7 a8 a9 (aJ.mk a10.gK r1.2.1 (I64 (a10.gL+1))) (aA.mk r16.1 p10.2.1.gA p10.2.1.gC p10.2.1.gB p10.2.1.gD) p10.2.2) fun r17=>
  Option.bind (iR N r1.2.2.2.1.gF r1.2.2.2.1.gc r1.2.2.2.1.gn a1.gd (#v[r16.2,r17.2])) fun r18=>
  Option.bind (iE N ([a2,r18.gC1])) fun r19=>
  Option.bind (dX N b4 r18.gB3 a1 r19 p10.1 a4 p6.2 r1.1 a7 a8 a9 (aJ.mk a10.gK r1.2.1 (I64 (a10.gL+1))) (aA.mk r17.1 ((aA.mk r16.1 p10.2.1.gA p10.2.1.gC p10.2.1.gB p10.2.1.gD).gA) ((aA.mk r16.1 p10.2.1.gA p10.2.1.gC p10.2.1.gB p10.2.1.gD).gC) ((aA.mk r16.1 p10.2.1.gA p10.2.1.gC p10.2.1.gB p10.2.1.gD).gB) ((aA.mk r16.1 p10.2.1.gA p10.2.1.gC p10.2.1.gB p10.2.1.gD).gD)) p10.2.2) fun r20=>
  Option.bind (cond (decide (a4≥2)) (
   Option.bind (dH N b4 7 a1 r19 p10.1 a4 (cond p6.2 true r18.gB3) r1.1 a7 a8 a9 (aJ.mk a10.gK r1.2.1 (I64 (a10.gL+1))) (aA.mk r17.1 ((aA.mk r16.1 p10.2.1.gA p10.2.1.gC p10.2.1.gB p10.2.1.gD).gA) ((aA.mk r16.1 p10.2.1.gA p10.2.1.gC p10.2.1.gB p10.2.1.gD).gC) ((aA.mk r16.1 p10.2.1.gA p10.2.1.gC p10.2.1.gB p10.2.1.gD).gB) ((aA.mk r16.1 p10.2.1.gA p10.2.1.gC p10.2.1.gB p10.2.1.gD).gD)) p10.2.2) fun r22=>
   Option.bind (eM N r19 r22.2) fun r23=>
   Option.bind (dX N b4 (!r23.2) a1 r23.1 p10.1 a4 (cond p6.2 true r18.gB3) r1.1 a7 a8 a9 (aJ.mk a10.gK r1.2.1 (I64 (a10.gL+1))) (aA.mk r22.1 ((aA.mk r17.1 ((aA.mk r16.1 p10.2.1.gA p10.2.1.gC p10.2.1.gB p10.2.1.gD).gA) ((aA.mk r16.1 p10.2.1.gA p10.2.1.gC p10.2.1.gB p10.2.1.gD).gC) ((aA.mk r16.1 p10.2.1.gA p10.2.1.gC p10.2.1.gB p10.2.1.gD).gB) ((aA.mk r16.1 p10.2.1.gA p10.2.1.gC p10.2.1.gB p10.2.1.gD).gD)).gA) ((aA.mk r17.1 ((aA.mk r16.1 p10.2.1.gA p10.2.1.gC p10.2.1.gB p10.2.1.gD).gA) ((aA.mk r16.1 p10.2.1.gA p10.2.1.gC p10.2.1.gB p10.2.1.gD).gC) ((aA.mk r16.1 p10.2.1.gA p10.2.1.gC p10.2.1.gB p10.2.1.gD).gB) ((aA.mk r16.1 p10.2.1.gA p10.2.1.gC p10.2.1.gB p10.2.1.gD).gD)).gC) ((aA.mk r17.1 ((aA.mk r16.1 p10.2.1.gA p10.2.1.gC p10.2.1.gB p10.2.1.gD).gA) ((aA.mk r16.1 p10.2.1.gA p10.2.1.gC p10.2.1.gB p10.2.1.gD).gC) ((aA.mk r16.1 p10.2.1.gA p10.2.1.gC p10.2.1.gB p10.2.1.gD).gB) ((aA.mk r16.1 p10.2.1.gA p10.2.1.gC p10.2.1.gB p10.2.1.gD).gD)).gB) ((aA.mk r17.1 ((aA.mk r16.1 p10.2.1.gA p10.2.1.gC p10.2.1.gB p10.2.1.gD).gA) ((aA.mk r16.1 p10.2.1.gA p10.2.1.gC p10.2.1.gB p10.2.1.gD).gC) ((aA.mk r16.1 p10.2.1.gA p10.2.1.gC p10.2.1.gB p10.2.1.gD).gB) ((aA.mk r16.1 p10.2.1.gA p10.2.1.gC p10.2.1.gB p10.2.1.gD).gD)).gD)) p10.2.2) fun r24=>
   some ((r23.1,cond (cond p6.2 true r18.gB3) true (!r23.2),aA.mk r22.1 ((aA.mk r17.1 ((aA.mk r16.1 p10.2.1.gA p10.2.1.gC p10.2.1.gB p10.2.1.gD).gA) ((aA.mk r16.1 p10.2.1.gA p10.2.1.gC p10.2.1.gB p10.2.1.gD).gC) ((aA.mk r16.1 p10.2.1.gA p10.2.1.gC p10.2.1.gB p10.2.1.gD).gB) ((aA.mk r16.1 p10.2.1.gA p10.2.1.gC p10.2.1.gB p10.2.1.gD).gD)).gA) ((aA.mk r17.1 ((aA.mk r16.1 p10.2.1.gA p10.2.1.gC p10.2.1.gB p10.2.1.gD).gA) ((aA.mk r16.1 p10.2.1.gA p10.2.1.gC p10.2.1.gB p10.2.1.gD).gC) ((aA.mk r16.1 p10.2.1.gA p10.2.1.gC p10.2.1.gB p10.2.1.gD).gB) ((aA.mk r16.1 p10.2.1.gA p10.2.1.gC p10.2.1.gB p10.2.1.gD).gD)).gC) ((aA.mk r17.1 ((aA.mk r16.1 p10.2.1.gA p10.2.1.gC p10.2.1.gB p10.2.1.gD).gA) ((aA.mk r16.1 p10.2.1.gA p10.2.1.gC p10.2.1.gB p10.2.1.gD).gC) ((aA.mk r16.1 p10.2.1.gA p10.2.1.gC p10.2.1.gB p10.2.1.gD).gB) ((aA.mk r16.1 p10.2.1.gA p10.2.1.gC p10.2.1.gB p10.2.1.gD).gD)).gB) ((aA.mk r17.1 ((aA.mk r16.1 p10.2.1.gA p10.2.1.gC p10.2.1.gB p10.2.1.gD).gA) ((aA.mk r16.1 p10.2.1.gA p10.2.1.gC p10.2.1.gB p10.2.1.gD).gC) ((aA.mk r16.1 p10.2.1.gA p10.2.1.gC p10.2.1.gB p10.2.1.gD).gB) ((aA.mk r16.1 p10.2.1.gA p10.2.1.gC p10.2.1.gB p10.2.1.gD).gD)).gD)))) (
   some ((r19,cond p6.2 true r18.gB3,aA.mk r17.1 ((aA.mk r16.1 p10.2.1.gA p10.2.1.gC p10.2.1.gB p10.2.1.gD).gA) ((aA.mk r16.1 p10.2.1.gA p10.2.1.gC p10.2.1.gB p10.2.1.gD).gC) ((aA.mk r16.1 p10.2.1.gA p10.2.1.gC p10.2.1.gB p10.2.1.gD).gB) ((aA.mk r16.1 p10.2.1.gA p10.2.1.gC p10.2.1.gB p10.2.1.gD).gD))))) fun p21=>
  some ((aH.mk r1.2.2.2.1.gat r18.gD6 r1.2.2.2.1.gi,p21.1,p10.1,p21.2.1,r1.1,r1.2.1,p21.2.2,p10.2.2)))
theorem aA6 {N b4 a1 a2 a3 a4 a5 a6 a7 a8 a9 a10 a11 a12 r} (h:kK N b4 a1 a2 a3 a4 a5 a6 a7 a8 a9 a10 a11 a12=some r):FnM Tryz.prog 34 [.var (.st 26 [(aH.enc a1),(.ref 1 [] 0),(.ref 2 [] 0),(aB.enc a2),(aB.enc a3),(j64 a4),(eB a5),(aF.enc a6)]),.var (.st 38 [(aG.enc a7),(aI.enc a8),(.ifc 88 (.ref 3 [] 0)),(eO 4 1 (eL 2 aD.enc) b4),(aB.enc a9),(aJ.enc a10)]),.var (aA.enc a11),.var (aK.enc a12),.tail (b4.length*1)] [(.ref 0 [] 0)] (.tup []) [.var (.st 26 [(aH.enc r.1),(.ref 1 [] 0),(.ref 2 [] 0),(aB.enc r.2.1),(aB.enc r.2.2.1),(j64 a4),(eB r.2.2.2.1),(aF.enc r.2.2.2.2.1)]),.var (.st 38 [(aG.enc a7),(aI.enc a8),(.ifc 88 (.ref 3 [] 0)),(eO 4 1 (eL 2 aD.enc) b4),(aB.enc a9),(.st 3 [(j64 a10.gK),(j64 r.2.2.2.2.2.1),(j64 (I64 (a10.gL+1)))])]),.var (aA.enc r.2.2.2.2.2.2.1),.var (aK.enc r.2.2.2.2.2.2.2),.tail (b4.length*1)]:=by
 unfold kK at h
 refine At.f dJ hT hmo Tryz.func34 rfl h ?_
 refine At.b 1 (fun _ e=>aN [0,1,2,3,4] (aAk e)) fun r1=>?_
 refine At.J 6 1 [0,2] 6 (fun p2=>([],[(0,.var (.st 26 [(aH.enc a1),(.ref 1 [] 0),(.ref 2 [] 0),(aB.enc a2),(aB.enc p2.1),(j64 a4),(eB p2.2),(aF.enc r1.1)]))],[])) (fun p2=>?_) fun p2=>?_
 ·refine At.c 2 ?_ ?_
  ·refine At.o 8 (cT hT (x:=(.sl 3 1 [(aB.enc a9)]))) ?_
   refine At.b 0 (fun _ e=>aN [0,1,2,3,4] (qG e)) fun r3=>?_
   refine At.b 1 (fun _ e=>aN [0,1,2,3,4] (iJ e)) fun r4=>?_
   apply rt;exact At.jn 0
  ·apply rt;exact At.jn 0
 ·refine At.b 3 (fun _ e=>aN [0,1,2,3,4] (iJ e)) fun r5=>?_
  refine At.J 0 1 [0,2] 6 (fun p6=>([],[(0,.var (.st 26 [(aH.enc a1),(.ref 1 [] 0),(.ref 2 [] 0),(aB.enc a2),(aB.enc p6.1),(j64 a4),(eB p6.2),(aF.enc r1.1)]))],[])) (fun p6=>?_) fun p6=>?_
  ·refine lx ?_;intro x7
   refine At.c 4 ?_ ?_
   ·refine At.o 3 (cT hT (x:=(.sl 3 1 [(aB.enc r1.2.2.2.1.gc)]))) ?_
    refine At.b 0 (fun _ e=>aN [0,1,2,3,4] (qG e)) fun r8=>?_
    refine At.b 1 (fun _ e=>aN [0,1,2,3,4] (iJ e)) fun r9=>?_
    apply rt;exact At.jn 0
   ·apply rt;exact At.jn 0
  ·refine At.J 0 1 [0,2] 6 (fun p10=>([],[(0,.var (.st 26 [(aH.enc a1),(.ref 1 [] 0),(.ref 2 [] 0),(aB.enc a2),(aB.enc p10.1),(j64 a4),(eB p6.2),(aF.enc r1.1)])),(2,.var (aA.enc p10.2.1)),(3,.var (aK.enc p10.2.2))],[])) (fun p10=>?_) fun p10=>?_
   ·refine At.J 0 0 [0,2] 6 (fun p11=>([(61,(eB p11))],[],[])) (fun p11=>?_) fun p11=>?_
    ·refine At.s 49 9 ?_ ?_
     ·refine At.g [49,55] 12 ?_
      apply rt;exact At.jn 0
     ·refine lx ?_;intro x12
      refine At.g [49] 12 ?_
      apply rt;exact At.jn 0
    ·refine At.c 0 ?_ ?_
     ·refine At.b 2 (fun _ e=>aN [0,1,2,3,4] (aAK e)) fun r13=>?_
      apply rt;exact At.jn 0
     ·apply rt;exact At.jn 0
   ·refine At.J 0 0 [0,2] 6 (fun p14=>([(83,(eB p14))],[],[])) (fun p14=>?_) fun p14=>?_
    ·refine boI (fun hc4=>?_) (fun hc4=>?_)
     ·refine At.d 0 (dE1 4 (fun _=>dM hc4 rfl (dC hT (im:=false) (by kernel_rfl))) dE0) dF0 ?_
      apply rt;exact At.jn 0
     ·refine At.d 0 (dE1 4 (fun _=>dM hc4 rfl (dC hT (im:=false) (by kernel_rfl))) dE0) dF0 ?_
      apply rt;exact At.jn 0
    ·refine At.c 0 ?_ ?_
     ·refine At.b 1 (fun _ e=>aN [0,1,2,3,4] (iJ e)) fun r15=>?_
      apply rt;exact At.r 0
     ·refine bi fun r16 hr16=>?_
      refine bi fun r17 hr17=>?_
      refine bi fun r18 hr18=>?_
      refine At.d2 0 [false] (dC2 16 (cQ.enc r18) (fun _=>aO (yX hr18)) dC0) (dS1 12 ⟨(k32 r16.2),2,.var (.st 72 [(aT.enc r16.1),(eB p10.2.1.gA),(k64 p10.2.1.gC),(j64 p10.2.1.gB),(j64 p10.2.1.gD)]),.var (aA.enc p10.2.1)⟩ [[.var (.st 26 [(aH.enc a1),(.ref 1 [] 0),(.ref 2 [] 0),(aB.enc a2),(aB.enc p10.1),(j64 a4),(eB p6.2),(aF.enc r1.1)]),.var (.st 38 [(aG.enc a7),(aI.enc a8),(.ifc 88 (.ref 3 [] 0)),(eO 4 1 (eL 2 aD.enc) b4),(aB.enc a9),(.st 3 [(j64 a10.gK),(j64 r1.2.1),(j64 (I64 (a10.gL+1)))])]),.var (aA.enc p10.2.1),.var (aK.enc p10.2.2),.tail (b4.length*1),.var (aR.enc r1.2.2.2.1),.dead],[.var (.st 26 [(aH.enc a1),(.ref 1 [] 0),(.ref 2 [] 0),(aB.enc a2),(aB.enc p10.1),(j64 a4),(eB p6.2),(aF.enc r1.1)]),.var (.st 38 [(aG.enc a7),(aI.enc a8),(.ifc 88 (.ref 3 [] 0)),(eO 4 1 (eL 2 aD.enc) b4),(aB.enc a9),(.st 3 [(j64 a10.gK),(j64 r1.2.1),(j64 (I64 (a10.gL+1)))])]),.var (aA.enc p10.2.1),.var (aK.enc p10.2.2),.tail (b4.length*1),.var (aR.enc r1.2.2.2.1),.var aMO]] ⟨bS (aN [0,1,2,3,4] (cI hr16)),bS (aN [0,1,2,3,4] (cI hr16)),trivial⟩ (dS1 14 ⟨(k32 r17.2),2,.var (.st 72 [(aT.enc r17.1),(eB ((aA.mk r16.1 p10.2.1.gA p10.2.1.gC p10.2.1.gB p10.2.1.gD).gA)),(k64 ((aA.mk r16.1 p10.2.1.gA p10.2.1.gC p10.2.1.gB p10.2.1.gD).gC)),(j64 ((aA.mk r16.1 p10.2.1.gA p10.2.1.gC p10.2.1.gB p10.2.1.gD).gB)),(j64 ((aA.mk r16.1 p10.2.1.gA p10.2.1.gC p10.2.1.gB p10.2.1.gD).gD))]),.var (.st 72 [(aT.enc r16.1),(eB p10.2.1.gA),(k64 p10.2.1.gC),(j64 p10.2.1.gB),(j64 p10.2.1.gD)])⟩ [[.var (.st 26 [(aH.enc a1),(.ref 1 [] 0),(.ref 2 [] 0),(aB.enc a2),(aB.enc p10.1),(j64 a4),(eB p6.2),(aF.enc r1.1)]),.var (.st 38 [(aG.enc a7),(aI.enc a8),(.ifc 88 (.ref 3 [] 0)),(eO 4 1 (eL 2 aD.enc) b4),(aB.enc a9),(.st 3 [(j64 a10.gK),(j64 r1.2.1),(j64 (I64 (a10.gL+1)))])]),.var (.st 72 [(aT.enc r16.1),(eB p10.2.1.gA),(k64 p10.2.1.gC),(j64 p10.2.1.gB),(j64 p10.2.1.gD)]),.var (aK.enc p10.2.2),.tail (b4.length*1),.var (aR.enc r1.2.2.2.1),.dead],[.var (.st 26 [(aH.enc a1),(.ref 1 [] 0),(.ref 2 [] 0),(aB.enc a2),(aB.enc p10.1),(j64 a4),(eB p6.2),(aF.enc r1.1)]),.var (.st 38 [(aG.enc a7),(aI.enc a8),(.ifc 88 (.ref 3 [] 0)),(eO 4 1 (eL 2 aD.enc) b4),(aB.enc a9),(.st 3 [(j64 a10.gK),(j64 r1.2.1),(j64 (I64 (a10.gL+1)))])]),.var (.st 72 [(aT.enc r16.1),(eB p10.2.1.gA),(k64 p10.2.1.gC),(j64 p10.2.1.gB),(j64 p10.2.1.gD)]),.var (aK.enc p10.2.2),.tail (b4.length*1),.var (aR.enc r1.2.2.2.1),.var aMO]] ⟨bS (aN [0,1,2,3,4] (cI hr17)),bS (aN [0,1,2,3,4] (cI hr17)),trivial⟩ (dS1 17 ⟨(.ref 6 [] 0),6,.var aMO,.dead⟩ [[.var (.st 26 [(aH.enc a1),(.ref 1 [] 0),(.ref 2 [] 0),(aB.enc a2),(aB.enc p10.1),(j64 a4),(eB p6.2),(aF.enc r1.1)]),.var (.st 38 [(aG.enc a7),(aI.enc a8),(.ifc 88 (.ref 3 [] 0)),(eO 4 1 (eL 2 aD.enc) b4),(aB.enc a9),(.st 3 [(j64 a10.gK),(j64 r1.2.1),(j64 (I64 (a10.gL+1)))])]),.var (aA.enc p10.2.1),.var (aK.enc p10.2.2),.tail (b4.length*1),.var (aR.enc r1.2.2.2.1),.dead],[.var (.st 26 [(aH.enc a1),(.ref 1 [] 0),(.ref 2 [] 0),(aB.enc a2),(aB.enc p10.1),(j64 a4),(eB p6.2),(aF.enc r1.1)]),.var (.st 38 [(aG.enc a7),(aI.enc a8),(.ifc 88 (.ref 3 [] 0)),(eO 4 1 (eL 2 aD.enc) b4),(aB.enc a9),(.st 3 [(j64 a10.gK),(j64 r1.2.1),(j64 (I64 (a10.gL+1)))])]),.var (.st 72 [(aT.enc r17.1),(eB ((aA.mk r16.1 p10.2.1.gA p10.2.1.gC p10.2.1.gB p10.2.1.gD).gA)),(k64 ((aA.mk r16.1 p10.2.1.gA p10.2.1.gC p10.2.1.gB p10.2.1.gD).gC)),(j64 ((aA.mk r16.1 p10.2.1.gA p10.2.1.gC p10.2.1.gB p10.2.1.gD).gB)),(j64 ((aA.mk r16.1 p10.2.1.gA p10.2.1.gC p10.2.1.gB p10.2.1.gD).gD))]),.var (aK.enc p10.2.2),.tail (b4.length*1),.var (aR.enc r1.2.2.2.1),.dead],[.var (.st 26 [(aH.enc a1),(.ref 1 [] 0),(.ref 2 [] 0),(aB.enc a2),(aB.enc p10.1),(j64 a4),(eB p6.2),(aF.enc r1.1)]),.var (.st 38 [(aG.enc a7),(aI.enc a8),(.ifc 88 (.ref 3 [] 0)),(eO 4 1 (eL 2 aD.enc) b4),(aB.enc a9),(.st 3 [(j64 a10.gK),(j64 r1.2.1),(j64 (I64 (a10.gL+1)))])]),.var (.st 72 [(aT.enc r16.1),(eB p10.2.1.gA),(k64 p10.2.1.gC),(j64 p10.2.1.gB),(j64 p10.2.1.gD)]),.var (aK.enc p10.2.2),.tail (b4.length*1),.var (aR.enc r1.2.2.2.1),.dead],[.var (.st 26 [(aH.enc a1),(.ref 1 [] 0),(.ref 2 [] 0),(aB.enc a2),(aB.enc p10.1),(j64 a4),(eB p6.2),(aF.enc r1.1)]),.var (.st 38 [(aG.enc a7),(aI.enc a8),(.ifc 88 (.ref 3 [] 0)),(eO 4 1 (eL 2 aD.enc) b4),(aB.enc a9),(.st 3 [(j64 a10.gK),(j64 r1.2.1),(j64 (I64 (a10.gL+1)))])]),.var (.st 72 [(aT.enc r17.1),(eB ((aA.mk r16.1 p10.2.1.gA p10.2.1.gC p10.2.1.gB p10.2.1.gD).gA)),(k64 ((aA.mk r16.1 p10.2.1.gA p10.2.1.gC p10.2.1.gB p10.2.1.gD).gC)),(j64 ((aA.mk r16.1 p10.2.1.gA p10.2.1.gC p10.2.1.gB p10.2.1.gD).gB)),(j64 ((aA.mk r16.1 p10.2.1.gA p10.2.1.gC p10.2.1.gB p10.2.1.gD).gD))]),.var (aK.enc p10.2.2),.tail (b4.length*1),.var (aR.enc r1.2.2.2.1),.dead]] ⟨aX hT 6 (by kernel_rfl) (by kernel_rfl) (by kernel_rfl),aX hT 6 (by kernel_rfl) (by kernel_rfl) (by kernel_rfl),aX hT 6 (by kernel_rfl) (by kernel_rfl) (by kernel_rfl),aX hT 6 (by kernel_rfl) (by kernel_rfl) (by kernel_rfl),trivial⟩ dS0))) ?_
      refine bi fun r19 hr19=>?_
      refine At.d 0 (dE1 7 (fun _=>cT hT (x:=(.sl 3 2 [(aB.enc a2),(aB.enc r18.gC1)]))) (dE2 8 (aB.enc r19) (fun _=>aO (qE hr19)) dE0)) dF0 ?_
      refine At.b 3 (fun _ e=>aN [0,1,2,3,4] (iJ e)) fun r20=>?_
      refine At.J 0 1 [0,2,4] 7 (fun p21=>([],[(0,.var (.st 26 [(aH.enc a1),(.ref 1 [] 0),(.ref 2 [] 0),(aB.enc p21.1),(aB.enc p10.1),(j64 a4),(eB p21.2.1),(aF.enc r1.1)])),(2,.var (aA.enc p21.2.2))],[])) (fun p21=>?_) fun p21=>?_
      ·refine At.c 5 ?_ ?_
       ·refine bi fun r22 hr22=>?_
        refine bi fun r23 hr23=>?_
        refine At.d2 0 [false] (dC2 6 (.tup [(aB.enc r23.1),(eB r23.2)]) (fun _=>aO (xF hr23)) dC0) (dS1 5 ⟨(k32 r22.2),2,.var (.st 72 [(aT.enc r22.1),(eB ((aA.mk r17.1 ((aA.mk r16.1 p10.2.1.gA p10.2.1.gC p10.2.1.gB p10.2.1.gD).gA) ((aA.mk r16.1 p10.2.1.gA p10.2.1.gC p10.2.1.gB p10.2.1.gD).gC) ((aA.mk r16.1 p10.2.1.gA p10.2.1.gC p10.2.1.gB p10.2.1.gD).gB) ((aA.mk r16.1 p10.2.1.gA p10.2.1.gC p10.2.1.gB p10.2.1.gD).gD)).gA)),(k64 ((aA.mk r17.1 ((aA.mk r16.1 p10.2.1.gA p10.2.1.gC p10.2.1.gB p10.2.1.gD).gA) ((aA.mk r16.1 p10.2.1.gA p10.2.1.gC p10.2.1.gB p10.2.1.gD).gC) ((aA.mk r16.1 p10.2.1.gA p10.2.1.gC p10.2.1.gB p10.2.1.gD).gB) ((aA.mk r16.1 p10.2.1.gA p10.2.1.gC p10.2.1.gB p10.2.1.gD).gD)).gC)),(j64 ((aA.mk r17.1 ((aA.mk r16.1 p10.2.1.gA p10.2.1.gC p10.2.1.gB p10.2.1.gD).gA) ((aA.mk r16.1 p10.2.1.gA p10.2.1.gC p10.2.1.gB p10.2.1.gD).gC) ((aA.mk r16.1 p10.2.1.gA p10.2.1.gC p10.2.1.gB p10.2.1.gD).gB) ((aA.mk r16.1 p10.2.1.gA p10.2.1.gC p10.2.1.gB p10.2.1.gD).gD)).gB)),(j64 ((aA.mk r17.1 ((aA.mk r16.1 p10.2.1.gA p10.2.1.gC p10.2.1.gB p10.2.1.gD).gA) ((aA.mk r16.1 p10.2.1.gA p10.2.1.gC p10.2.1.gB p10.2.1.gD).gC) ((aA.mk r16.1 p10.2.1.gA p10.2.1.gC p10.2.1.gB p10.2.1.gD).gB) ((aA.mk r16.1 p10.2.1.gA p10.2.1.gC p10.2.1.gB p10.2.1.gD).gD)).gD))]),.var (.st 72 [(aT.enc r17.1),(eB ((aA.mk r16.1 p10.2.1.gA p10.2.1.gC p10.2.1.gB p10.2.1.gD).gA)),(k64 ((aA.mk r16.1 p10.2.1.gA p10.2.1.gC p10.2.1.gB p10.2.1.gD).gC)),(j64 ((aA.mk r16.1 p10.2.1.gA p10.2.1.gC p10.2.1.gB p10.2.1.gD).gB)),(j64 ((aA.mk r16.1 p10.2.1.gA p10.2.1.gC p10.2.1.gB p10.2.1.gD).gD))])⟩ [[.var (.st 26 [(aH.enc a1),(.ref 1 [] 0),(.ref 2 [] 0),(aB.enc r19),(aB.enc p10.1),(j64 a4),(eB (cond p6.2 true r18.gB3)),(aF.enc r1.1)]),.var (.st 38 [(aG.enc a7),(aI.enc a8),(.ifc 88 (.ref 3 [] 0)),(eO 4 1 (eL 2 aD.enc) b4),(aB.enc a9),(.st 3 [(j64 a10.gK),(j64 r1.2.1),(j64 (I64 (a10.gL+1)))])]),.var (.st 72 [(aT.enc r17.1),(eB ((aA.mk r16.1 p10.2.1.gA p10.2.1.gC p10.2.1.gB p10.2.1.gD).gA)),(k64 ((aA.mk r16.1 p10.2.1.gA p10.2.1.gC p10.2.1.gB p10.2.1.gD).gC)),(j64 ((aA.mk r16.1 p10.2.1.gA p10.2.1.gC p10.2.1.gB p10.2.1.gD).gB)),(j64 ((aA.mk r16.1 p10.2.1.gA p10.2.1.gC p10.2.1.gB p10.2.1.gD).gD))]),.var (aK.enc p10.2.2),.tail (b4.length*1),.var (aR.enc r1.2.2.2.1),.var (cQ.enc r18),.dead],[.var (.st 26 [(aH.enc a1),(.ref 1 [] 0),(.ref 2 [] 0),(aB.enc r19),(aB.enc p10.1),(j64 a4),(eB (cond p6.2 true r18.gB3)),(aF.enc r1.1)]),.var (.st 38 [(aG.enc a7),(aI.enc a8),(.ifc 88 (.ref 3 [] 0)),(eO 4 1 (eL 2 aD.enc) b4),(aB.enc a9),(.st 3 [(j64 a10.gK),(j64 r1.2.1),(j64 (I64 (a10.gL+1)))])]),.var (.st 72 [(aT.enc r17.1),(eB ((aA.mk r16.1 p10.2.1.gA p10.2.1.gC p10.2.1.gB p10.2.1.gD).gA)),(k64 ((aA.mk r16.1 p10.2.1.gA p10.2.1.gC p10.2.1.gB p10.2.1.gD).gC)),(j64 ((aA.mk r16.1 p10.2.1.gA p10.2.1.gC p10.2.1.gB p10.2.1.gD).gB)),(j64 ((aA.mk r16.1 p10.2.1.gA p10.2.1.gC p10.2.1.gB p10.2.1.gD).gD))]),.var (aK.enc p10.2.2),.tail (b4.length*1),.var (aR.enc r1.2.2.2.1),.var (cQ.enc r18),.var (.st 3 [(j64 0),(j64 0),(j64 0)])]] ⟨bS (aN [0,1,2,3,4] (cI hr22)),bS (aN [0,1,2,3,4] (cI hr22)),trivial⟩ (dS1 10 ⟨(.ref 7 [] 0),7,.var (.st 3 [(j64 0),(j64 0),(j64 0)]),.dead⟩ [[.var (.st 26 [(aH.enc a1),(.ref 1 [] 0),(.ref 2 [] 0),(aB.enc r19),(aB.enc p10.1),(j64 a4),(eB (cond p6.2 true r18.gB3)),(aF.enc r1.1)]),.var (.st 38 [(aG.enc a7),(aI.enc a8),(.ifc 88 (.ref 3 [] 0)),(eO 4 1 (eL 2 aD.enc) b4),(aB.enc a9),(.st 3 [(j64 a10.gK),(j64 r1.2.1),(j64 (I64 (a10.gL+1)))])]),.var (.st 72 [(aT.enc r17.1),(eB ((aA.mk r16.1 p10.2.1.gA p10.2.1.gC p10.2.1.gB p10.2.1.gD).gA)),(k64 ((aA.mk r16.1 p10.2.1.gA p10.2.1.gC p10.2.1.gB p10.2.1.gD).gC)),(j64 ((aA.mk r16.1 p10.2.1.gA p10.2.1.gC p10.2.1.gB p10.2.1.gD).gB)),(j64 ((aA.mk r16.1 p10.2.1.gA p10.2.1.gC p10.2.1.gB p10.2.1.gD).gD))]),.var (aK.enc p10.2.2),.tail (b4.length*1),.var (aR.enc r1.2.2.2.1),.var (cQ.enc r18),.dead],[.var (.st 26 [(aH.enc a1),(.ref 1 [] 0),(.ref 2 [] 0),(aB.enc r19),(aB.enc p10.1),(j64 a4),(eB (cond p6.2 true r18.gB3)),(aF.enc r1.1)]),.var (.st 38 [(aG.enc a7),(aI.enc a8),(.ifc 88 (.ref 3 [] 0)),(eO 4 1 (eL 2 aD.enc) b4),(aB.enc a9),(.st 3 [(j64 a10.gK),(j64 r1.2.1),(j64 (I64 (a10.gL+1)))])]),.var (.st 72 [(aT.enc r22.1),(eB ((aA.mk r17.1 ((aA.mk r16.1 p10.2.1.gA p10.2.1.gC p10.2.1.gB p10.2.1.gD).gA) ((aA.mk r16.1 p10.2.1.gA p10.2.1.gC p10.2.1.gB p10.2.1.gD).gC) ((aA.mk r16.1 p10.2.1.gA p10.2.1.gC p10.2.1.gB p10.2.1.gD).gB) ((aA.mk r16.1 p10.2.1.gA p10.2.1.gC p10.2.1.gB p10.2.1.gD).gD)).gA)),(k64 ((aA.mk r17.1 ((aA.mk r16.1 p10.2.1.gA p10.2.1.gC p10.2.1.gB p10.2.1.gD).gA) ((aA.mk r16.1 p10.2.1.gA p10.2.1.gC p10.2.1.gB p10.2.1.gD).gC) ((aA.mk r16.1 p10.2.1.gA p10.2.1.gC p10.2.1.gB p10.2.1.gD).gB) ((aA.mk r16.1 p10.2.1.gA p10.2.1.gC p10.2.1.gB p10.2.1.gD).gD)).gC)),(j64 ((aA.mk r17.1 ((aA.mk r16.1 p10.2.1.gA p10.2.1.gC p10.2.1.gB p10.2.1.gD).gA) ((aA.mk r16.1 p10.2.1.gA p10.2.1.gC p10.2.1.gB p10.2.1.gD).gC) ((aA.mk r16.1 p10.2.1.gA p10.2.1.gC p10.2.1.gB p10.2.1.gD).gB) ((aA.mk r16.1 p10.2.1.gA p10.2.1.gC p10.2.1.gB p10.2.1.gD).gD)).gB)),(j64 ((aA.mk r17.1 ((aA.mk r16.1 p10.2.1.gA p10.2.1.gC p10.2.1.gB p10.2.1.gD).gA) ((aA.mk r16.1 p10.2.1.gA p10.2.1.gC p10.2.1.gB p10.2.1.gD).gC) ((aA.mk r16.1 p10.2.1.gA p10.2.1.gC p10.2.1.gB p10.2.1.gD).gB) ((aA.mk r16.1 p10.2.1.gA p10.2.1.gC p10.2.1.gB p10.2.1.gD).gD)).gD))]),.var (aK.enc p10.2.2),.tail (b4.length*1),.var (aR.enc r1.2.2.2.1),.var (cQ.enc r18),.dead]] ⟨aX hT 7 (by kernel_rfl) (by kernel_rfl) (by kernel_rfl),aX hT 7 (by kernel_rfl) (by kernel_rfl) (by kernel_rfl),trivial⟩ dS0)) ?_
        refine At.b 8 (fun _ e=>aN [0,1,2,3,4] (iJ e)) fun r24=>?_
        apply rt;exact At.jn 0
       ·apply rt;exact At.jn 0
      ·apply rt;exact At.z 11
def fB (N:Nat) (b2:(List (List aD))) (a4:aG) (a5:aI) (a6:aB) (a7:aJ) (a8:aK):Nat→aA→(Vector Int 4)→Int→Option (aA×(Vector Int 4))
 | 0,_,_,_=>none
 | k+1,s9,s10,s11=>
  cond (decide (s11 < 4)) (
   Option.bind (dH N b2 s11 (aH.mk (aC.mk 0 0 0) (aC.mk 0 0 0) 0) (aB.mk 4294967296 4294967296 4294967296) (aB.mk 0 0 0) 0 false (aF.mk (aB.mk 0 0 0) 0 0 (aB.mk 0 0 0) (-1)) a4 a5 a6 a7 s9 a8) fun r12=>
   Option.bind (fD s11 4) fun _=>
   Option.bind (s10.toList[s11.toNat]?) fun e14=>
   fB N b2 a4 a5 a6 a7 a8 k (aA.mk r12.1 s9.gA s9.gC s9.gB s9.gD) (s10.setIfInBounds s11.toNat r12.2) (I64 (s11+1))) (
   some ((s9,s10)))
def dZ (N:Nat) (a5:aI) (b2:(List (List aD))) (a4:aG) (a6:aB):Nat→aJ→aK→aA→aH→aB→aB→Int→Bool→aF→Option (aJ×aK×aA×aH×aB×aB×Int×Bool×aF)
 | 0,_,_,_,_,_,_,_,_,_=>none
 | k+1,s17,s18,s19,s20,s21,s22,s23,s24,s25=>
  Option.bind (aV (decide (s23≤a5.gN)) fun x27=>
  cond x27 (
   cond (!s24) (
    some true) (
    some a5.gA4)) (
   some false)) fun p26=>
  cond p26 (
   Option.bind (kK N b2 s20 s21 s22 s23 s24 s25 a4 a5 a6 s17 s19 s18) fun r28=>
   dZ N a5 b2 a4 a6 k (aJ.mk s17.gK r28.2.2.2.2.2.1 (I64 (s17.gL+1))) r28.2.2.2.2.2.2.2 r28.2.2.2.2.2.2.1 r28.1 r28.2.1 r28.2.2.1 (I64 (s23+1)) r28.2.2.2.1 r28.2.2.2.2.1) (
   some ((s17,s18,s19,s20,s21,s22,s23,s24,s25)))
def iH (N:Nat) (b2:(List (List aD))) (a1 a2 a3:Int) (a4:aG) (a5:aI) (a6:aB) (a7:aJ) (a8:aK):Option (aJ×aK×aF×Int):=
 aV (cond (decide (a1 < 0)) true (decide (a1≥a5.gW))) fun x1=>
 aV (cond x1 true (decide (a2 < 0))) fun x2=>
 aV (cond x2 true (decide (a2≥a5.gH))) fun x3=>
 aV (cond x3 true (decide (a3 < 0))) fun x4=>
 aV (decide (a3≥a5.gB8)) fun x5=>
 cond (cond x4 true x5) (
  some ((a7,a8,aF.mk (aB.mk 0 0 0) 0 0 (aB.mk 0 0 0) 0,2))) (
  aV (I64 ((I64 (a2*a5.gW))+a1)) fun x6=>
  Option.bind (sZ N a5.gO x6 a3) fun r7=>
  Option.bind (fB N b2 a4 a5 a6 a7 a8 N (aA.mk (aT.mk (bK.mk 0 0 0) false (Vector.replicate 64 0)) true a5.gO x6 a3) (#v[0,0,0,0]) 0) fun p8=>
  Option.bind (rX N a5.gC5 a5.gW a5.gH a1 a2 p8.2) fun r15=>
  Option.bind (dZ N a5 b2 a4 a6 N a7 a8 p8.1 (aH.mk r15.1 r15.2.1 (-1)) (aB.mk 4294967296 4294967296 4294967296) (aB.mk 0 0 0) 0 false (aF.mk (aB.mk 0 0 0) 0 0 (aB.mk 0 0 0) (-1))) fun p16=>
  some ((p16.1,p16.2.1,aF.mk p16.2.2.2.2.2.1 p16.2.2.2.2.2.2.2.2.gD3 p16.2.2.2.2.2.2.2.2.gN p16.2.2.2.2.2.2.2.2.gD4 p16.2.2.2.2.2.2.2.2.gB5,0)))
theorem xL {N b2 a1 a2 a3 a4 a5 a6 a7 a8 r} (h:iH N b2 a1 a2 a3 a4 a5 a6 a7 a8=some r):FnM Tryz.prog 13 [.var (.st 38 [(aG.enc a4),(aI.enc a5),(.ifc 88 (.ref 1 [] 0)),(eO 2 1 (eL 2 aD.enc) b2),(aB.enc a6),(aJ.enc a7)]),.var (aK.enc a8),.tail (b2.length*1)] [(.ref 0 [] 0),(j64 a1),(j64 a2),(j64 a3)] (.tup [(aF.enc r.2.2.1),(j64 r.2.2.2)]) [.var (.st 38 [(aG.enc a4),(aI.enc a5),(.ifc 88 (.ref 1 [] 0)),(eO 2 1 (eL 2 aD.enc) b2),(aB.enc a6),(aJ.enc r.1)]),.var (aK.enc r.2.1),.tail (b2.length*1)]:=by
 unfold iH at h
 refine At.f dJ hT hmo Tryz.func13 rfl h ?_
 refine At.o 3 (nY hT (t:=40) (x:=(.ref 0 [] 0)) (b:=true) (by kernel_rfl) rfl rfl (by kernel_rfl)) ?_
 refine At.g [16] 5 ?_
 refine At.o 0 (aLY (t:=75) (u:=88) (x:=(.ref 1 [] 0)) (by kernel_rfl) rfl rfl .eql false (by decide) (by kernel_rfl)) ?_
 refine lx ?_;intro x1
 refine lx ?_;intro x2
 refine lx ?_;intro x3
 refine lx ?_;intro x4
 refine lx ?_;intro x5
 refine At.g [16] 41 ?_
 refine At.c 0 ?_ ?_
 ·apply rt;exact At.r 3
 ·refine lx ?_;intro x6
  refine bi fun r7 hr7=>?_
  refine At.d 0 dE0 (dF 16 (.ref 4 [] 0) [] [.var (.st 72 [cv_5,(eB true),(k64 a5.gO),(j64 x6),(j64 a3)])] (bS (aN [] (aCR hr7))) dF0) ?_
  refine At.L 2 [0,1,2,8,10,11] 7 (fun p8=>([],[(4,.var (aA.enc p8.1)),(6,.var (eA 4 1 k32 p8.2))],[])) (fun p8 J k=>∃ s9 s10 s11,fB N b2 a4 a5 a6 a7 a8 k s9 s10 s11=some p8∧J [0,1,2,8,10,11] 7 [(84,(j64 s11))] [(4,.var (aA.enc s9)),(6,.var (eA 4 1 k32 s10))] []) N (fun _ h=>⟨_,_,_,h,jr⟩) (fun p8 k s hI=>?_) fun p8=>?_
  ·obtain ⟨s9,s10,s11,h,hj⟩:=hI
   cases k with
   | zero=>cases h
   | succ k=>
    refine At.jr hj ?_ h
    refine At.c 1 ?_ ?_
    ·refine At.b 5 (fun _ e=>aN [5,0,4,1,2] (cI e)) fun r12=>?_
     refine At.b 0 (fun _ e=>bG hT (k:=1) 6 [] 0 e) fun u13=>?_
     refine At.b 0 (fun _ e=>nM hT k32 0 s10 e r12.2 (by kernel_rfl) (by kernel_rfl) (H':=[.var (.st 38 [(aG.enc a4),(aI.enc a5),(.ifc 88 (.ref 1 [] 0)),(eO 2 1 (eL 2 aD.enc) b2),(aB.enc a6),(aJ.enc a7)]),.var (aK.enc a8),.tail (b2.length*1),.var cv_6,.var (.st 72 [(aT.enc r12.1),(eB s9.gA),(k64 s9.gC),(j64 s9.gB),(j64 s9.gD)]),.var cv_7,.var (eA 4 1 k32 (s10.setIfInBounds s11.toNat r12.2))])) fun e14=>?_
     exact fun h=>At.k 2 ⟨_,_,_,h,jr⟩
    ·apply rt;exact At.x 0
  ·refine bi fun r15 hr15=>?_
   refine At.d 5 (dE2 20 (.tup [(aC.enc r15.1),(aC.enc r15.2.1),(j64 r15.2.2)]) (fun _=>aO (aEj hr15)) dE0) dF0 ?_
   refine At.L 0 [8,10] 7 (fun p16=>([],[(0,.var (.st 38 [(aG.enc a4),(aI.enc a5),(.ifc 88 (.ref 1 [] 0)),(eO 2 1 (eL 2 aD.enc) b2),(aB.enc a6),(aJ.enc p16.1)])),(1,.var (aK.enc p16.2.1)),(4,.var (aA.enc p16.2.2.1)),(5,.var (.st 26 [(aH.enc p16.2.2.2.1),(.ref 0 [] 0),(.ref 4 [] 0),(aB.enc p16.2.2.2.2.1),(aB.enc p16.2.2.2.2.2.1),(j64 p16.2.2.2.2.2.2.1),(eB p16.2.2.2.2.2.2.2.1),(aF.enc p16.2.2.2.2.2.2.2.2)]))],[])) (fun p16 J k=>∃ s17 s18 s19 s20 s21 s22 s23 s24 s25,dZ N a5 b2 a4 a6 k s17 s18 s19 s20 s21 s22 s23 s24 s25=some p16∧J [0,8,10] 7 [] [(0,.var (.st 38 [(aG.enc a4),(aI.enc a5),(.ifc 88 (.ref 1 [] 0)),(eO 2 1 (eL 2 aD.enc) b2),(aB.enc a6),(aJ.enc s17)])),(1,.var (aK.enc s18)),(4,.var (aA.enc s19)),(5,.var (.st 26 [(aH.enc s20),(.ref 0 [] 0),(.ref 4 [] 0),(aB.enc s21),(aB.enc s22),(j64 s23),(eB s24),(aF.enc s25)]))] []) N (fun _ h=>⟨_,_,_,_,_,_,_,_,_,h,jr⟩) (fun p16 k s hI=>?_) fun p16=>?_
   ·obtain ⟨s17,s18,s19,s20,s21,s22,s23,s24,s25,h,hj⟩:=hI
    cases k with
    | zero=>cases h
    | succ k=>
     refine At.jr hj ?_ h
     refine At.J 0 0 [0,8,10] 7 (fun p26=>([(151,(eB p26))],[],[])) (fun p26=>?_) fun p26=>?_
     ·refine lx ?_;intro x27
      refine boI (fun hc10=>?_) (fun hc10=>?_)
      ·refine boI (fun hc16=>?_) (fun hc16=>?_)
       ·refine At.d 0 (dE1 10 (fun _=>dM hc10 rfl (dC hT (im:=false) (by kernel_rfl))) (dE1 16 (fun _=>dM hc16 rfl (dC hT (im:=false) (by kernel_rfl))) dE0)) dF0 ?_
        apply rt;exact At.jn 0
       ·refine At.d 0 (dE1 10 (fun _=>dM hc10 rfl (dC hT (im:=false) (by kernel_rfl))) (dE1 16 (fun _=>dM hc16 rfl (dC hT (im:=false) (by kernel_rfl))) dE0)) dF0 ?_
        apply rt;exact At.jn 0
      ·refine At.d 0 (dE1 10 (fun _=>dM hc10 rfl (dC hT (im:=false) (by kernel_rfl))) dE0) dF0 ?_
       apply rt;exact At.jn 0
     ·refine At.c 0 ?_ ?_
      ·refine At.b 1 (fun _ e=>aN [5,0,4,1,2] (aA6 e)) fun r28=>?_
       exact fun h=>At.k 8 ⟨_,_,_,_,_,_,_,_,_,h,jr⟩
      ·apply rt;exact At.x 0
   ·apply rt;exact At.r 15
def yH : Nat→Bool:=imL [5]
def iB (N:Nat) (a0:aG) (a1:aI) (a2:(Vector Int 3)):Option (Bool):=
 Option.bind (pC N a0) fun r1=>
 Option.bind (lH N r1 (aI.mk a1.gW a1.gH a1.gB8 a1.gN a1.gS a1.gO a1.gC5 false)) fun q=>
 lP q (fun r3=>
  Option.bind (lH N r1 (aI.mk a1.gW a1.gH a1.gB8 a1.gN a1.gS a1.gO a1.gC5 true)) fun q=>
  lP q (fun r9=>
   Option.bind (aV (cond (r3 != 0) true (r9 != 0)) fun x15=>
   cond x15 (
    some (())) (
    some (()))) fun p14=>
   Option.bind (cond (r3==r9) (
    Option.bind (kS N ) fun r17=>
    some r17) (
    some false)) fun p16=>
   some p16) (fun q=>
  lP q (fun r10=>
   none) (fun q=>
  lP q (fun r11=>
   Option.bind (aV (cond (r3 != 0) true (r11.2.2.2.2.2.2 != 0)) fun x19=>
   cond x19 (
    some (())) (
    some (()))) fun p18=>
   Option.bind (cond (r3==r11.2.2.2.2.2.2) (
    some (())) (
    some (()))) fun p20=>
   some false) (fun q=>
  lP q (fun r12=>
   none) (fun r13=>
   none))))) (fun q=>
 lP q (fun r4=>
  none) (fun q=>
 lP q (fun r5=>
  none) (fun q=>
 lP q (fun r6=>
  none) (fun r7=>
  Option.bind (lH N r1 (aI.mk a1.gW a1.gH a1.gB8 a1.gN a1.gS a1.gO a1.gC5 true)) fun q=>
  lP q (fun r22=>
   Option.bind (aV (cond (r7.2.2.2.2.2.2.2 != 0) true (r22 != 0)) fun x28=>
   cond x28 (
    some (())) (
    some (()))) fun p27=>
   Option.bind (aV (r7.2.2.2.2.2.2.2==r22) fun x30=>
   cond x30 (
    some (())) (
    some (()))) fun p29=>
   some false) (fun q=>
  lP q (fun r23=>
   none) (fun q=>
  lP q (fun r24=>
   Option.bind (aV (cond (r7.2.2.2.2.2.2.2 != 0) true (r24.2.2.2.2.2.2 != 0)) fun x32=>
   cond x32 (
    some true) (
    some false)) fun p31=>
   cond p31 (
    Option.bind (aV (r7.2.2.2.2.2.2.2==r24.2.2.2.2.2.2) fun x34=>
    cond x34 (
     some (())) (
     some (()))) fun p33=>
    some false) (
    Option.bind (idx a2.toList 0) fun e35=>
    Option.bind (idx a2.toList 1) fun e36=>
    Option.bind (idx a2.toList 2) fun e37=>
    Option.bind (fN N r7.2.2.2.1 e35 e36 e37 (aG.mk r7.1 r7.2.1 r1.gA2 r7.2.2.1 r1.gB6 r1.gB7 r1.gC3 r1.gC4 r1.gTo) ((aI.mk a1.gW a1.gH a1.gB8 a1.gN a1.gS a1.gO a1.gC5 false)) r7.2.2.2.2.1 (aJ.mk 0 0 0) r7.2.2.2.2.2.2.1) fun r38=>
    Option.bind (idx a2.toList 0) fun e39=>
    Option.bind (idx a2.toList 1) fun e40=>
    Option.bind (idx a2.toList 2) fun e41=>
    Option.bind (iH N r24.2.2.2.1 e39 e40 e41 (aG.mk r24.1 r24.2.1 r1.gA2 r24.2.2.1 r1.gB6 r1.gB7 r1.gC3 r1.gC4 r1.gTo) ((aI.mk a1.gW a1.gH a1.gB8 a1.gN a1.gS a1.gO a1.gC5 true)) r24.2.2.2.2.1 (aJ.mk 0 0 0) (aK.mk (lE.mk 0) true r24.2.2.2.2.2.1)) fun r42=>
    Option.bind (aV (aF.eq r38.2.2.1 r42.2.2.1) fun x44=>
    aV (cond x44 (r38.2.2.2==r42.2.2.2) false) fun x45=>
    cond x45 (
     Option.bind (kS N ) fun r46=>
     some r46) (
     some false)) fun p43=>
    some p43)) (fun q=>
  lP q (fun r25=>
   none) (fun r26=>
   none))))))))
theorem xW {N a0 a1 a2 r} (h:iB N a0 a1 a2=some r):FnM Tryz.prog 3 [] [(aG.enc a0),(aI.enc a1),(eA 3 1 j64 a2)] (eB r) []:=by
 unfold iB at h
 refine At.f yH hT hmo Tryz.func3 rfl h ?_
 refine At.b 5 (fun _ e=>aN [] (aDg e)) fun r1=>?_
 refine aMU (fun r3 hr3=>?_) (fun q hq=>?_)
 ·refine At.o 10 (aN [] (yJ hr3)) ?_
  refine aMU (fun r9 hr9=>?_) (fun q hq=>?_)
  ·refine At.o 7 (aN [] (yJ hr9)) ?_
   refine At.J 5 0 [5,8,9,10,11] 3 (fun p14=>([(46,(eB true))],[],[])) (fun p14=>?_) fun p14=>?_
   ·refine lx ?_;intro x15
    refine At.s 39 7 ?_ ?_
    ·refine At.g [39,43] 7 ?_
     apply rt;exact At.jn 0
    ·refine At.g [39] 1 ?_
     refine At.o 0 (nY hT (t:=40) (x:=(.v (.pointer none))) (b:=false) (by kernel_rfl) rfl rfl (by kernel_rfl)) ?_
     refine At.g [39,43] 5 ?_
     apply rt;exact At.jn 0
   ·refine At.J 1 0 [] 3 (fun p16=>([(6,(eB p16))],[],[])) (fun p16=>?_) fun p16=>?_
    ·refine At.s 50 4 ?_ ?_
     ·refine At.g [50] 1 ?_
      refine At.o 0 (nY hT (t:=40) (x:=(.v (.pointer none))) (b:=false) (by kernel_rfl) rfl rfl (by kernel_rfl)) ?_
      refine At.g [50,54] 3 ?_
      refine At.o 0 (nY hT (t:=40) (x:=(.v (.pointer none))) (b:=false) (by kernel_rfl) rfl rfl (by kernel_rfl)) ?_
      refine At.g [54] 2 ?_
      refine At.b 0 (fun _ e=>aN [] (xD e)) fun r17=>?_
      refine At.g [58] 2 ?_
      apply rt;exact At.jn 0
     ·refine At.g [50,54,58] 11 ?_
      apply rt;exact At.jn 0
    ·apply rt;exact At.r 0
  ·refine aEn (fun r10 e=>?_) (fun q e=>?_)
   ·subst e
    have hr10:=hq
    exact nn
   ·subst e
    have hq:=hq
    refine aEn (fun r11 e=>?_) (fun q e=>?_)
    ·subst e
     have hr11:=hq
     refine At.o 7 (aN [] (aBR hr11)) ?_
     refine At.J 5 0 [5,8,9,10,11] 10 (fun p18=>([(46,(eB true))],[],[])) (fun p18=>?_) fun p18=>?_
     ·refine lx ?_;intro x19
      refine At.s 39 7 ?_ ?_
      ·refine At.g [39,43] 7 ?_
       apply rt;exact At.jn 0
      ·refine At.g [39] 1 ?_
       refine At.o 0 (nY hT (t:=40) (x:=(.v (.pointer none))) (b:=false) (by kernel_rfl) rfl rfl (by kernel_rfl)) ?_
       refine At.g [39,43] 5 ?_
       apply rt;exact At.jn 0
     ·refine At.J 1 0 [] 10 (fun p20=>([(6,(eB false))],[],[])) (fun p20=>?_) fun p20=>?_
      ·refine At.s 50 4 ?_ ?_
       ·refine At.g [50] 1 ?_
        refine At.o 0 (nY hT (t:=40) (x:=(.v (.pointer none))) (b:=false) (by kernel_rfl) rfl rfl (by kernel_rfl)) ?_
        refine At.g [50,54] 3 ?_
        refine At.o 0 (nY hT (t:=40) (x:=(.ref 3 [] 0)) (b:=true) (by kernel_rfl) rfl rfl (by kernel_rfl)) ?_
        refine At.g [54,58] 5 ?_
        apply rt;exact At.jn 0
       ·refine At.g [50,54,58] 11 ?_
        apply rt;exact At.jn 0
      ·apply rt;exact At.r 0
    ·subst e
     have hq:=hq
     refine aEn (fun r12 e=>?_) (fun r13 e=>?_)
     ·subst e
      have hr12:=hq
      exact nn
     ·subst e
      have hr13:=hq
      exact nn
 ·refine aEn (fun r4 e=>?_) (fun q e=>?_)
  ·subst e
   have hr4:=hq
   exact nn
  ·subst e
   have hq:=hq
   refine aEn (fun r5 e=>?_) (fun q e=>?_)
   ·subst e
    have hr5:=hq
    exact nn
   ·subst e
    have hq:=hq
    refine aEn (fun r6 e=>?_) (fun r7 e=>?_)
    ·subst e
     have hr6:=hq
     exact nn
    ·subst e
     have hr7:=hq
     refine At.o 10 (aN [] (aBe hr7)) ?_
     refine aMU (fun r22 hr22=>?_) (fun q hq=>?_)
     ·refine At.o 7 (aN [] (yJ hr22)) ?_
      refine At.J 5 0 [5,8,9,10,11] 10 (fun p27=>([(46,(eB true))],[],[])) (fun p27=>?_) fun p27=>?_
      ·refine lx ?_;intro x28
       refine At.s 39 7 ?_ ?_
       ·refine At.g [39,43] 7 ?_
        apply rt;exact At.jn 0
       ·refine At.g [39] 1 ?_
        refine At.o 0 (nY hT (t:=40) (x:=(.ref 3 [] 0)) (b:=true) (by kernel_rfl) rfl rfl (by kernel_rfl)) ?_
        refine At.g [39,43] 3 ?_
        refine At.o 0 (nY hT (t:=40) (x:=(.v (.pointer none))) (b:=false) (by kernel_rfl) rfl rfl (by kernel_rfl)) ?_
        refine At.g [43] 1 ?_
        apply rt;exact At.jn 0
      ·refine At.J 1 0 [] 10 (fun p29=>([(6,(eB false))],[],[])) (fun p29=>?_) fun p29=>?_
       ·refine lx ?_;intro x30
        refine At.s 50 4 ?_ ?_
        ·refine At.g [50] 1 ?_
         refine At.o 0 (nY hT (t:=40) (x:=(.ref 3 [] 0)) (b:=true) (by kernel_rfl) rfl rfl (by kernel_rfl)) ?_
         refine At.g [50,54,58] 9 ?_
         apply rt;exact At.jn 0
        ·refine At.g [50,54,58] 11 ?_
         apply rt;exact At.jn 0
       ·apply rt;exact At.r 0
     ·refine aEn (fun r23 e=>?_) (fun q e=>?_)
      ·subst e
       have hr23:=hq
       exact nn
      ·subst e
       have hq:=hq
       refine aEn (fun r24 e=>?_) (fun q e=>?_)
       ·subst e
        have hr24:=hq
        refine At.o 7 (aN [] (aBR hr24)) ?_
        refine At.J 5 0 [5,8,9,10,11] 17 (fun p31=>([(46,(eB p31))],[],[])) (fun p31=>?_) fun p31=>?_
        ·refine lx ?_;intro x32
         refine At.s 39 7 ?_ ?_
         ·refine At.g [39,43] 7 ?_
          apply rt;exact At.jn 0
         ·refine At.g [39] 1 ?_
          refine At.o 0 (nY hT (t:=40) (x:=(.ref 3 [] 0)) (b:=true) (by kernel_rfl) rfl rfl (by kernel_rfl)) ?_
          refine At.g [39,43] 3 ?_
          refine At.o 0 (nY hT (t:=40) (x:=(.ref 10 [] 0)) (b:=true) (by kernel_rfl) rfl rfl (by kernel_rfl)) ?_
          refine At.g [43] 1 ?_
          apply rt;exact At.jn 0
        ·refine At.c 0 ?_ ?_
         ·refine At.J 0 0 [] 17 (fun p33=>([(6,(eB false))],[],[])) (fun p33=>?_) fun p33=>?_
          ·refine lx ?_;intro x34
           refine At.s 50 4 ?_ ?_
           ·refine At.g [50] 1 ?_
            refine At.o 0 (nY hT (t:=40) (x:=(.ref 3 [] 0)) (b:=true) (by kernel_rfl) rfl rfl (by kernel_rfl)) ?_
            refine At.g [50,54,58] 9 ?_
            apply rt;exact At.jn 0
           ·refine At.g [50,54,58] 11 ?_
            apply rt;exact At.jn 0
          ·apply rt;exact At.r 0
         ·refine At.b 1 (fun _ e=>dG hT (N:=3) (k:=1) j64 a2 e) fun e35=>?_
          refine At.b 1 (fun _ e=>dG hT (N:=3) (k:=1) j64 a2 e) fun e36=>?_
          refine At.b 1 (fun _ e=>dG hT (N:=3) (k:=1) j64 a2 e) fun e37=>?_
          refine At.b 1 (fun _ e=>aN [3,9,7] (tC e)) fun r38=>?_
          refine At.b 7 (fun _ e=>dG hT (N:=3) (k:=1) j64 a2 e) fun e39=>?_
          refine At.b 1 (fun _ e=>dG hT (N:=3) (k:=1) j64 a2 e) fun e40=>?_
          refine At.b 1 (fun _ e=>dG hT (N:=3) (k:=1) j64 a2 e) fun e41=>?_
          refine At.b 1 (fun _ e=>aN [10,16,14] (xL e)) fun r42=>?_
          refine At.J 6 0 [] 19 (fun p43=>([(6,(eB p43))],[],[])) (fun p43=>?_) fun p43=>?_
          ·refine At.o 2 (aDM aNP (r38.2.2.1:aF) (r42.2.2.1:aF) (by kernel_rfl) (by kernel_rfl) (fun _=>rfl) (fun _=>rfl) (by kernel_rfl) (by kernel_rfl)) ?_
           refine lx ?_;intro x44
           refine lx ?_;intro x45
           refine At.s 91 6 ?_ ?_
           ·refine At.b 0 (fun _ e=>aN [] (xD e)) fun r46=>?_
            refine At.g [91] 2 ?_
            apply rt;exact At.jn 0
           ·refine At.g [91] 3 ?_
            apply rt;exact At.jn 0
          ·apply rt;exact At.r 0
       ·subst e
        have hq:=hq
        refine aEn (fun r25 e=>?_) (fun r26 e=>?_)
        ·subst e
         have hr25:=hq
         exact nn
        ·subst e
         have hr26:=hq
         exact nn
end Go.UK
