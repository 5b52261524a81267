/- A part of the proof: what the functions of the program compute. -/
import Derived.Test.YtmfanigkgeohiaaGreatAJ1
namespace Go.UK
open Go Go.Proofs
set_option maxRecDepth 20000
set_option maxHeartbeats 40000000
set_option linter.all false
attribute [local irreducible] adv aJN aI3 aAd brPt aL1 aGO pL aAc aMN eR oI fY aJG aIq lPt owp awl aw FnM aFr opS Stab TOK Big
def aJS : Nat→Bool:=imL [1]
def uT (N:Nat) (a0:aC):Option (Bool):=
 Option.bind (qN N a0 65536) fun r1=>
 some (!r1)
theorem aIj {N a0 r} (h:uT N a0=some r):FnM Tryz.prog 297 [] [(aC.enc a0)] (eB r) []:=by
 unfold uT at h
 refine At.f aJS hT hmo Tryz.func297 rfl h ?_
 refine At.b 3 (fun _ e=>aN [] (aAP e)) fun r1=>?_
 apply rt;exact At.r 2
def dD (N:Nat) (a0:(List aC)):Nat→Int→Option (Sum (Unit) (Int))
 | 0,_=>none
 | k+1,s2=>
  aV (decide (s2 < ((a0.length:Int)))) fun x3=>
  cond x3 (
   Option.bind (idx a0 s2) fun e4=>
   Option.bind (uT N e4) fun r5=>
   cond r5 (
    some (Sum.inr s2)) (
    dD N a0 k (I64 (s2+1)))) (
   some (Sum.inl (())))
def dQ (N:Nat) (a0:(List aC)):Option (Int):=
 Option.bind (dD N a0 N 0) fun o=>kK o (fun p1=>
  some (-1)) (fun r=>some r)
theorem pD {N a0 r} (h:dQ N a0=some r):FnM Tryz.prog 300 [] [(eL 3 aC.enc a0),(.fn (.func 297) [] [])] (j64 r) []:=by
 unfold dQ at h
 refine At.f dM hT hmo Tryz.func300 rfl h ?_
 refine At.LS 4 [] 0 (fun p1=>([],[],[])) (fun op1 J k=>∃ s2,dD N a0 k s2=some op1∧J [0,1,7] 0 [(8,(j64 s2))] [] []) N (fun _ h=>⟨_,h,jr⟩) (fun op1 g1 k s hI=>?_) fun p1=>?_
 ·obtain ⟨s2,h,hj⟩:=hI
  cases k with
  | zero=>cases h
  | succ k=>
   refine At.jr hj ?_ h
   refine lx ?_;intro x3
   refine At.c 1 ?_ ?_
   ·refine At.b 5 (fun _ e=>cF hT aC.enc e) fun e4=>?_
    refine At.b 1 (fun _ e=>aN [] (aIj e)) fun r5=>?_
    refine At.c 0 ?_ ?_
    ·intro e;apply aCM g1 e;exact At.r 2
    ·exact fun h=>At.k 2 ⟨_,h,jr⟩
   ·apply rt;exact At.xs 0
 ·apply rt;exact At.r 1
def cA (N:Nat) (a0:(List aC)):Option (Bool):=
 Option.bind (dQ N a0) fun r1=>
 some (decide (r1≥0))
theorem nW {N a0 r} (h:cA N a0=some r):FnM Tryz.prog 298 [] [(eL 3 aC.enc a0),(.fn (.func 297) [] [])] (eB r) []:=by
 unfold cA at h
 refine At.f dM hT hmo Tryz.func298 rfl h ?_
 refine At.b 3 (fun _ e=>aN [] (pD e)) fun r1=>?_
 apply rt;exact At.r 2
def aNH : Nat→Bool:=imL [2,3]
def kY (N:Nat) (a0 a1:aC):Option (aC):=
 some (aC.mk (I64 (a0.gX - a1.gX)) (I64 (a0.gY - a1.gY)) (I64 (a0.gZ - a1.gZ)))
theorem rO {N a0 a1 r} (h:kY N a0 a1=some r):FnM Tryz.prog 161 [] [(aC.enc a0),(aC.enc a1)] (aC.enc r) []:=by
 unfold kY at h
 refine At.f aNH hT hmo Tryz.func161 rfl h ?_
 apply rt;exact At.r 20
def aJx : Nat→Bool:=imL [2,3]
def nA (N:Nat) (a0 a1:aC):Option (aC):=
 aV (I64 ((I64 (a0.gY*a1.gZ)) - (I64 (a0.gZ*a1.gY)))) fun x1=>
 aV (I64 ((I64 (a0.gZ*a1.gX)) - (I64 (a0.gX*a1.gZ)))) fun x2=>
 aV (I64 ((I64 (a0.gX*a1.gY)) - (I64 (a0.gY*a1.gX)))) fun x3=>
 some (aC.mk ((I64 ((I64 (a0.gY*a1.gZ)) - (I64 (a0.gZ*a1.gY))))) ((I64 ((I64 (a0.gZ*a1.gX)) - (I64 (a0.gX*a1.gZ))))) ((I64 ((I64 (a0.gX*a1.gY)) - (I64 (a0.gY*a1.gX))))))
theorem xX {N a0 a1 r} (h:nA N a0 a1=some r):FnM Tryz.prog 160 [] [(aC.enc a0),(aC.enc a1)] (aC.enc r) []:=by
 unfold nA at h
 refine At.f aJx hT hmo Tryz.func160 rfl h ?_
 refine lx ?_;intro x1
 refine lx ?_;intro x2
 refine lx ?_;intro x3
 apply rt;exact At.r 38
def aM2 : Nat→Bool:=imL [2,3]
def rD (N:Nat) (a0 a1:aC):Option (Int):=
 aV (I64 ((I64 (a0.gX*a1.gX))+(I64 (a0.gY*a1.gY)))) fun x1=>
 aV (I64 (x1+(I64 (a0.gZ*a1.gZ)))) fun x2=>
 some x2
theorem zF {N a0 a1 r} (h:rD N a0 a1=some r):FnM Tryz.prog 299 [] [(aC.enc a0),(aC.enc a1)] (j64 r) []:=by
 unfold rD at h
 refine At.f aM2 hT hmo Tryz.func299 rfl h ?_
 refine lx ?_;intro x1
 refine lx ?_;intro x2
 apply rt;exact At.r 21
def aMx : Nat→Bool:=imL [3,4,5]
def pR (N:Nat) (a0 a1:aC) (a2:(Vector aC 3)):Option (aL×Bool):=
 Option.bind (Option.bind (pU N a0 a1) fun r2=>
 cond (!r2) (
  some true) (
  Option.bind (wG a2.toList 0 3) fun s3=>
  Option.bind (cA N s3) fun r4=>
  some r4)) fun p1=>
 cond p1 (
  some ((aL.mk 0 0 0 0,false))) (
  Option.bind (idx a2.toList 1) fun e5=>
  Option.bind (idx a2.toList 0) fun e6=>
  Option.bind (kY N e5 e6) fun r7=>
  Option.bind (idx a2.toList 2) fun e8=>
  Option.bind (idx a2.toList 0) fun e9=>
  Option.bind (kY N e8 e9) fun r10=>
  Option.bind (nA N a1 r10) fun r11=>
  Option.bind (idx a2.toList 0) fun e12=>
  Option.bind (kY N a0 e12) fun r13=>
  Option.bind (nA N r13 r7) fun r14=>
  Option.bind (rD N r10 r14) fun r15=>
  Option.bind (rD N r7 r11) fun r16=>
  Option.bind (rD N r13 r11) fun r17=>
  Option.bind (rD N a1 r14) fun r18=>
  Option.bind (cond (decide (r16 < 0)) (
   some (aL.mk (I64 (0 - r15)) (I64 (0 - r16)) (I64 (0 - r17)) (I64 (0 - r18)))) (
   some (aL.mk r15 r16 r17 r18))) fun p19=>
  aV (cond (p19.gM==0) true (decide (p19.gU < 0))) fun x20=>
  aV (cond x20 true (decide (p19.gV < 0))) fun x21=>
  aV (decide ((I64 (p19.gU+p19.gV)) > p19.gM)) fun x22=>
  aV (cond (cond x21 true x22) true (decide (p19.gT≤0))) fun x23=>
  cond x23 (some ((aL.mk 0 0 0 0,false))) (some ((p19,true))))
theorem aFz {N a0 a1 a2 r} (h:pR N a0 a1 a2=some r):FnM Tryz.prog 296 [] [(aC.enc a0),(aC.enc a1),(eA 9 3 aC.enc a2)] (.tup [(aL.enc r.1),(eB r.2)]) []:=by
 unfold pR at h
 refine At.f aMx hT hmo Tryz.func296 rfl h ?_
 refine At.J 6 0 [3,4,5,6] 1 (fun p1=>([(22,(eB p1))],[],[])) (fun p1=>?_) fun p1=>?_
 ·refine At.b 2 (fun _ e=>aN [] (yR e)) fun r2=>?_
  refine At.s 18 2 ?_ ?_
  ·refine At.g [18] 4 ?_
   apply rt;exact At.jn 0
  ·refine At.b 0 (fun _ e=>aAz hT (N:=9) (k:=3) aC.enc a2 e) fun s3=>?_
   refine At.g [18] 1 ?_
   refine At.b 0 (fun _ e=>aN [] (nW e)) fun r4=>?_
   refine At.g [18] 1 ?_
   apply rt;exact At.jn 0
 ·refine At.c 0 ?_ ?_
  ·apply rt;exact At.r 3
  ·refine bi fun e5 he5=>?_
   refine bi fun e6 he6=>?_
   refine bi fun r7 hr7=>?_
   refine bi fun e8 he8=>?_
   refine bi fun e9 he9=>?_
   refine bi fun r10 hr10=>?_
   refine At.d2 0 [false,false] (dC1 0 (fun _=>cL hT (N:=9) (k:=3) aC.enc a2 he5) (dC1 2 (fun _=>cL hT (N:=9) (k:=3) aC.enc a2 he6) (dC2 4 (aC.enc r7) (fun _=>aO (rO hr7)) (dC1 5 (fun _=>cL hT (N:=9) (k:=3) aC.enc a2 he8) (dC1 7 (fun _=>cL hT (N:=9) (k:=3) aC.enc a2 he9) (dC2 9 (aC.enc r10) (fun _=>aO (rO hr10)) dC0)))))) (dS1 10 ⟨(.ref 1 [] 0),1,.var (.st 3 [(j64 0),(j64 0),(j64 0)]),.dead⟩ [[.var (.st 4 [(j64 0),(j64 0),(j64 0),(j64 0)]),.dead,.dead],[.var (.st 4 [(j64 0),(j64 0),(j64 0),(j64 0)]),.dead,.var (.st 3 [(j64 0),(j64 0),(j64 0)])]] ⟨aX hT 1 (by kernel_rfl) (by kernel_rfl) (by kernel_rfl),aX hT 1 (by kernel_rfl) (by kernel_rfl) (by kernel_rfl),trivial⟩ (dS1 11 ⟨(.ref 2 [] 0),2,.var (.st 3 [(j64 0),(j64 0),(j64 0)]),.dead⟩ [[.var (.st 4 [(j64 0),(j64 0),(j64 0),(j64 0)]),.dead,.dead],[.var (.st 4 [(j64 0),(j64 0),(j64 0),(j64 0)]),.var (.st 3 [(j64 0),(j64 0),(j64 0)]),.dead]] ⟨aX hT 2 (by kernel_rfl) (by kernel_rfl) (by kernel_rfl),aX hT 2 (by kernel_rfl) (by kernel_rfl) (by kernel_rfl),trivial⟩ dS0)) ?_
   refine At.b 2 (fun _ e=>aN [] (xX e)) fun r11=>?_
   refine At.b 3 (fun _ e=>cL hT (N:=9) (k:=3) aC.enc a2 e) fun e12=>?_
   refine At.b 1 (fun _ e=>aN [] (rO e)) fun r13=>?_
   refine At.b 4 (fun _ e=>aN [] (xX e)) fun r14=>?_
   refine bi fun r15 hr15=>?_
   refine bi fun r16 hr16=>?_
   refine bi fun r17 hr17=>?_
   refine bi fun r18 hr18=>?_
   refine At.d 2 (dE2 2 (j64 r15) (fun _=>aO (zF hr15)) (dE2 5 (j64 r16) (fun _=>aO (zF hr16)) (dE2 8 (j64 r17) (fun _=>aO (zF hr17)) (dE2 11 (j64 r18) (fun _=>aO (zF hr18)) dE0)))) dF0 ?_
   refine At.J 0 1 [6] 6 (fun p19=>([],[(0,.var (aL.enc p19))],[])) (fun p19=>?_) fun p19=>?_
   ·refine At.c 3 ?_ ?_
    ·apply rt;exact At.jn 14
    ·apply rt;exact At.jn 0
   ·refine lx ?_;intro x20
    refine lx ?_;intro x21
    refine lx ?_;intro x22
    refine lx ?_;intro x23
    refine At.c 28 ?_ ?_
    ·apply rt;exact At.r 3
    ·apply rt;exact At.r 3
def aAS : Nat→Bool:=imL [7,8]
def cD (N:Nat) (a0 a1:aC) (a2 a3 a4:Int) (a5:aM):Option (aL×Bool):=
 Option.bind (idx a5.gl a4) fun e1=>
 aV ((eK .u8 e1.gB1 a2)==0) fun x2=>
 aV (cond x2 true (a4==a3)) fun x3=>
 cond x3 (
  some ((aL.mk 0 0 0 0,false))) (
  Option.bind (idx a5.gl a4) fun e4=>
  Option.bind (pR N a0 a1 e4.gP) fun r5=>
  some ((r5.1,r5.2)))
theorem tJ {N a0 a1 a2 a3 a4 a5 r} (h:cD N a0 a1 a2 a3 a4 a5=some r):FnM Tryz.prog 306 [.var (aM.enc a5)] [(.ref 0 [] 0),(aC.enc a0),(aC.enc a1),(k8 a2),(j64 a3),(j64 a4)] (.tup [(aL.enc r.1),(eB r.2)]) [.var (aM.enc a5)]:=by
 unfold cD at h
 refine At.f aAS hT hmo Tryz.func306 rfl h ?_
 refine At.b 9 (fun _ e=>cF hT aE.enc e) fun e1=>?_
 refine lx ?_;intro x2
 refine lx ?_;intro x3
 refine At.c 10 ?_ ?_
 ·apply rt;exact At.r 3
 ·refine bi fun e4 he4=>?_
  refine bi fun r5 hr5=>?_
  refine At.d 0 (dE1 7 (fun _=>cF hT aE.enc he4) (dE2 10 (.tup [(aL.enc r5.1),(eB r5.2)]) (fun _=>aO (aFz hr5)) dE0)) dF0 ?_
  apply rt;exact At.r 0
def aLA : Nat→Bool:=imL [2,3]
def qO (N:Nat) (a0 a1:aL):Option (Bool):=
 aV (cond (decide (a0.gM < 1)) true (decide (a1.gM < 1))) fun x1=>
 cond x1 (
  some false) (
  Option.bind (fN N a0.gT a1.gM) fun r2=>
  Option.bind (fN N a1.gT a0.gM) fun r3=>
  Option.bind (nK N r2 r3) fun r4=>
  some (decide (r4 < 0)))
theorem aBf {N a0 a1 r} (h:qO N a0 a1=some r):FnM Tryz.prog 295 [] [(aL.enc a0),(aL.enc a1)] (eB r) []:=by
 unfold qO at h
 refine At.f aLA hT hmo Tryz.func295 rfl h ?_
 refine lx ?_;intro x1
 refine At.c 11 ?_ ?_
 ·apply rt;exact At.r 1
 ·refine bi fun r2 hr2=>?_
  refine bi fun r3 hr3=>?_
  refine bi fun r4 hr4=>?_
  refine At.d 0 (dE2 4 (aP.enc r2) (fun _=>aO (kH hr2)) (dE2 9 (aP.enc r3) (fun _=>aO (kH hr3)) (dE2 10 (j64 r4) (fun _=>aO (zW hr4)) dE0))) dF0 ?_
  apply rt;exact At.r 0
def zK : Nat→Bool:=imL [6,7]
def bO (N:Nat) (s23:(List Int)) (a0 a1:aC) (a2 a3:Int) (a4:aM):Nat→Int→aL→Int→Int→Option (Int×aL×Int)
 | 0,_,_,_,_=>none
 | k+1,s25,s26,s27,s28=>
  aV (decide (s28 < ((s23.length:Int)))) fun x29=>
  cond x29 (
   Option.bind (Option.bind (idx s23 s28) fun e31=>
   Option.bind (cD N a0 a1 a2 a3 e31 (aM.mk a4.gQ a4.gA a4.gl (I64 (s25+1)))) fun r32=>
   Option.bind (cond r32.2 (
    cond (decide (s27 < 0)) (
     some true) (
     Option.bind (qO N r32.1 s26) fun r34=>
     cond r34 (
      some true) (
      cond (decide (e31 < s27)) (
       Option.bind (qO N s26 r32.1) fun r35=>
       some (!r35)) (
       some false)))) (
    some false)) fun p33=>
   cond p33 (some ((r32.1,r32.1,e31))) (some ((s26,r32.1,s27)))) fun p30=>
   bO N s23 a0 a1 a2 a3 a4 k (I64 (s25+1)) p30.1 p30.2.2 (I64 (s28+1))) (
   some ((s25,s26,s27)))
def cG (N:Nat) (a4:aM) (a0 a1:aC) (a2 a3:Int):Nat→(List Int)→Int→aL→Int→Nat→Option ((List Int)×Int×aL×Int)
 | 0,_,_,_,_,_=>none
 | k+1,s6,s7,s8,s9,s10=>
  aV (decide (((s10:Int)) > 0)) fun x11=>
  cond x11 (
   aV (I64 (((s10:Int)) - 1)) fun x12=>
   Option.bind (xN s6.length 0 s10 x12) fun _=>
   Option.bind (s6[x12.toNat]?) fun e14=>
   Option.bind (idx a4.gQ.gO e14) fun e15=>
   aV (I64 (((s10:Int)) - 1)) fun x16=>
   Option.bind (aI2 s6.length 0 s10 0 x16) fun _=>
   Option.bind (oF N e15.gLo e15.gHi a0 a1) fun r18=>
   Option.bind (cond (!r18.2) (
    some true) (
    cond (decide (s9≥0)) (
     Option.bind (dZ N (aW.mk s8.gT s8.gM) r18.1) fun r20=>
     some r20) (
     some false))) fun p19=>
   cond p19 (
    cG N a4 a0 a1 a2 a3 k s6 (I64 (s7+1)) s8 s9 x16.toNat) (
    cond (decide (e15.gB3≥0)) (
     Option.bind (aJq 8 s6 x16.toNat (([e15.gB4,e15.gB3]:List Int))) fun z21=>
     cG N a4 a0 a1 a2 a3 k z21 (I64 (s7+1)) s8 s9 (x16.toNat+2)) (
     aV (I64 (e15.gC4+e15.gC8)) fun x22=>
     Option.bind (wG a4.gQ.gC0 e15.gC4 x22) fun s23=>
     Option.bind (bO N s23 a0 a1 a2 a3 a4 N (I64 (s7+1)) s8 s9 0) fun p24=>
     cG N a4 a0 a1 a2 a3 k s6 p24.1 p24.2.1 p24.2.2 x16.toNat))) (
   some ((s6,s7,s8,s9)))
def cX (N:Nat) (a0 a1:aC) (a2 a3:Int) (a4:aM):Option (Int×Int×aL):=
 Option.bind (Option.bind (iH N a4) fun r2=>
 aV ((a4.gQ.gO.length:Int)) fun x3=>
 cond (cond r2 true (x3==0)) (
  some true) (
  Option.bind (pU N a0 a1) fun r4=>
  some (!r4))) fun p1=>
 cond p1 (
  some ((a4.gD7,-1,aL.mk 0 0 0 0))) (
  Option.bind (cG N a4 a0 a1 a2 a3 N (([0]:List Int)) a4.gD7 (aL.mk 0 0 0 0) (-1) ((([0]:List Int)).length)) fun p5=>
  some ((p5.2.1,p5.2.2.2,p5.2.2.1)))
theorem rQ {N a0 a1 a2 a3 a4 r} (h:cX N a0 a1 a2 a3 a4=some r):FnM Tryz.prog 302 [.var (aM.enc a4)] [(.ref 0 [] 0),(aC.enc a0),(aC.enc a1),(k8 a2),(j64 a3)] (.tup [(j64 r.2.1),(aL.enc r.2.2)]) [.var (.st 5 [(aY.enc a4.gQ),(eB a4.gA),(eL 19 aE.enc a4.gl),(j64 r.1)])]:=by
 unfold cX at h
 refine At.f zK hT hmo Tryz.func302 rfl h ?_
 refine At.J 5 0 [0,3,4,6,7,10,11] 2 (fun p1=>([(36,(eB p1))],[],[])) (fun p1=>?_) fun p1=>?_
 ·refine At.b 1 (fun _ e=>aN [0] (xP e)) fun r2=>?_
  refine lx ?_;intro x3
  refine At.s 31 10 ?_ ?_
  ·refine At.g [31] 5 ?_
   apply rt;exact At.jn 0
  ·refine At.g [31] 2 ?_
   refine At.b 0 (fun _ e=>aN [] (yR e)) fun r4=>?_
   refine At.g [31] 2 ?_
   apply rt;exact At.jn 0
 ·refine At.c 0 ?_ ?_
  ·refine At.d 0 dE0 dF0 ?_
   apply rt;exact At.r 0
  ·refine At.o 0 (aDg hT j64 (k:=1) ([0]:List Int) (by kernel_rfl) (by kernel_rfl)) ?_
   refine At.gsub 1 12 ?_
   refine At.L 0 [11] 3 (fun p5=>([(10,(j64 p5.2.2.2))],[(0,.var (.st 5 [(aY.enc a4.gQ),(eB a4.gA),(eL 19 aE.enc a4.gl),(j64 p5.2.1)])),(1,.var (aL.enc p5.2.2.1)),(2,.gro 1 (List.map j64 p5.1))],[])) (fun p5 J k=>∃ s6 s7 s8 s9 s10,cG N a4 a0 a1 a2 a3 k s6 s7 s8 s9 s10=some p5∧J [0,3,4,6,7,11] 3 [(10,(j64 s9)),(12,(.gro 2 1 s6.length (.sub 0 s10)))] [(0,.var (.st 5 [(aY.enc a4.gQ),(eB a4.gA),(eL 19 aE.enc a4.gl),(j64 s7)])),(1,.var (aL.enc s8)),(2,.gro 1 (List.map j64 s6))] []) N (fun _ h=>⟨_,_,_,_,_,h,jr⟩) (fun p5 k s hI=>?_) fun p5=>?_
   ·obtain ⟨s6,s7,s8,s9,s10,h,hj⟩:=hI
    cases k with
    | zero=>cases h
    | succ k=>
     refine At.jr hj ?_ h
     refine lx ?_;intro x11
     refine At.c 3 ?_ ?_
     ·refine lx ?_;intro x12
      refine bi fun u13 hu13=>?_
      refine bi fun e14 he14=>?_
      refine bi fun e15 he15=>?_
      refine At.d 0 (dE1 9 (fun _=>jS hT (id:=2) (k:=1) hu13 (by kernel_rfl) (by kernel_rfl)) (dET 10 (j64 e14) [[.var (.st 5 [(aY.enc a4.gQ),(eB a4.gA),(eL 19 aE.enc a4.gl),(j64 s7)]),.var (aL.enc s8),.gro 1 (List.map j64 s6)],[.var (.st 5 [(aY.enc a4.gQ),(eB a4.gA),(eL 19 aE.enc a4.gl),(j64 s7)]),.var (aL.enc s8),.gro 1 (List.map j64 s6),.var cv_8]] ⟨bS (oL hT j64 [] he14 rfl (by kernel_rfl) (by kernel_rfl)),bS (oL hT j64 [] he14 rfl (by kernel_rfl) (by kernel_rfl)),trivial⟩ (dE1 11 (fun _=>cF hT bC.enc he15) dE0))) dF0 ?_
      refine lx ?_;intro x16
      refine At.b 4 (fun _ e=>aFD hT (id:=2) (k:=1) (L:=s6.length) (lo0:=0) (m:=s10) e (by kernel_rfl) (by kernel_rfl)) fun s17=>?_
      refine At.b 15 (fun _ e=>aN [] (aDn e)) fun r18=>?_
      refine At.J 6 0 [0,3,4,6,7,10,11,12,13] 5 (fun p19=>([(92,(eB p19))],[],[])) (fun p19=>?_) fun p19=>?_
      ·refine At.s 80 3 ?_ ?_
       ·refine At.g [80,83] 12 ?_
        apply rt;exact At.jn 0
       ·refine At.g [80] 3 ?_
        refine At.s 83 0 ?_ ?_
        ·refine At.g [83] 6 ?_
         refine At.b 0 (fun _ e=>aN [] (kV e)) fun r20=>?_
         refine At.g [80,83] 2 ?_
         apply rt;exact At.jn 0
        ·refine At.g [83,80] 9 ?_
         apply rt;exact At.jn 0
      ·refine At.c 0 ?_ ?_
       ·exact fun h=>At.k 0 ⟨_,_,_,_,_,h,jr⟩
       ·refine At.c 3 ?_ ?_
        ·refine At.o 5 (cI hT (x:=(.sl 1 2 [(j64 e15.gB4),(j64 e15.gB3)]))) ?_
         refine At.b 0 (fun z21 e=>aEK hT j64 (id:=2) (k:=1) e (by kernel_rfl) (by kernel_rfl) (H':=[.var (.st 5 [(aY.enc a4.gQ),(eB a4.gA),(eL 19 aE.enc a4.gl),(j64 (I64 (s7+1)))]),.var (aL.enc s8),.gro 1 (List.map j64 z21),.var (bC.enc e15),.var (aW.enc r18.1)]) (by kernel_rfl)) fun z21=>?_
         exact fun h=>At.k 1 ⟨_,_,_,_,_,h,jr⟩
        ·refine lx ?_;intro x22
         refine bi fun s23 hs23=>?_
         refine At.d 0 (dE1 12 (fun _=>zN hT (k:=1) j64 hs23) dE0) dF0 ?_
         refine At.L 0 [0,3,4,6,7,11,12] 5 (fun p24=>([(10,(j64 p24.2.2))],[(0,.var (.st 5 [(aY.enc a4.gQ),(eB a4.gA),(eL 19 aE.enc a4.gl),(j64 p24.1)])),(1,.var (aL.enc p24.2.1))],[])) (fun p24 J k=>∃ s25 s26 s27 s28,bO N s23 a0 a1 a2 a3 a4 k s25 s26 s27 s28=some p24∧J [0,3,4,6,7,11,12,115,116] 5 [(10,(j64 s27)),(117,(j64 s28))] [(0,.var (.st 5 [(aY.enc a4.gQ),(eB a4.gA),(eL 19 aE.enc a4.gl),(j64 s25)])),(1,.var (aL.enc s26))] []) N (fun _ h=>⟨_,_,_,_,h,jr⟩) (fun p24 k s hI=>?_) fun p24=>?_
         ·obtain ⟨s25,s26,s27,s28,h,hj⟩:=hI
          cases k with
          | zero=>cases h
          | succ k=>
           refine At.jr hj ?_ h
           refine lx ?_;intro x29
           refine At.c 1 ?_ ?_
           ·refine At.J 0 2 [0,3,4,6,7,11,12,115,116,117] 5 (fun p30=>([(10,(j64 p30.2.2))],[(0,.var (.st 5 [(aY.enc a4.gQ),(eB a4.gA),(eL 19 aE.enc a4.gl),(j64 (I64 (s25+1)))])),(1,.var (aL.enc p30.1))],[.var (aL.enc p30.2.1)])) (fun p30=>?_) fun p30=>?_
            ·refine At.b 0 (fun _ e=>cF hT j64 e) fun e31=>?_
             refine At.b 16 (fun _ e=>aN [0] (tJ e)) fun r32=>?_
             refine At.J 6 0 [0,3,4,6,7,10,11,12,17,18,115,116,117] 6 (fun p33=>([(158,(eB p33))],[],[])) (fun p33=>?_) fun p33=>?_
             ·refine At.s 139 2 ?_ ?_
              ·refine At.g [139] 3 ?_
               refine At.s 142 0 ?_ ?_
               ·refine At.g [142,139,147,151] 16 ?_
                apply rt;exact At.jn 0
               ·refine At.g [142] 2 ?_
                refine At.b 0 (fun _ e=>aN [] (aBf e)) fun r34=>?_
                refine At.g [139,142] 2 ?_
                refine At.s 147 0 ?_ ?_
                ·refine At.g [147,151,139] 11 ?_
                 apply rt;exact At.jn 0
                ·refine At.g [147] 4 ?_
                 refine At.s 151 0 ?_ ?_
                 ·refine At.g [151] 2 ?_
                  refine At.b 0 (fun _ e=>aN [] (aBf e)) fun r35=>?_
                  refine At.g [151,147,139] 4 ?_
                  apply rt;exact At.jn 0
                 ·refine At.g [151,147,139] 7 ?_
                  apply rt;exact At.jn 0
              ·refine At.g [139,142,147,151] 19 ?_
               apply rt;exact At.jn 0
             ·refine At.c 0 ?_ ?_
              ·refine At.d 0 dE0 dF0 ?_
               apply rt;exact At.jn 0
              ·apply rt;exact At.jn 0
            ·exact fun h=>At.k 2 ⟨_,_,_,_,h,jr⟩
           ·apply rt;exact At.x 0
         ·exact fun h=>At.k 0 ⟨_,_,_,_,_,h,jr⟩
     ·apply rt;exact At.x 0
   ·refine At.d 0 dE0 dF0 ?_
    apply rt;exact At.r 0
def nL (N:Nat) (a0:Int):Option (Int):=
 aV (kL (jL a0 (-1073741824)) 1073741824) fun x1=>
 some x1
theorem xF {N a0 r} (h:nL N a0=some r):FnM Tryz.prog 220 [] [(j64 a0)] (j64 r) []:=by
 unfold nL at h
 refine At.f dM hT hmo Tryz.func220 rfl h ?_
 refine lx ?_;intro x1
 apply rt;exact At.r 5
def aJE : Nat→Bool:=imL [1]
def pT (N:Nat) (a0:aP):Nat→Int→Int→Option (Int)
 | 0,_,_=>none
 | k+1,s2,s3=>
  cond (decide (s3 < 64)) (
   Option.bind (Option.bind (aI4 .u64 1 (I64 (63 - s3))) fun x5=>
   Option.bind (jR N (bor .u64 s2 x5) (bor .u64 s2 x5)) fun r6=>
   Option.bind (aV (decide (r6.1 < (U64 a0.gHi))) fun x8=>
   cond x8 (
    some ((bor .u64 s2 x5,true))) (
    aV (cond (r6.1==(U64 a0.gHi)) (decide (r6.2≤a0.gLo)) false) fun x9=>
    some ((bor .u64 s2 x5,x9)))) fun p7=>
   cond p7.2 (some p7.1) (some s2)) fun p4=>
   pT N a0 k p4 (I64 (s3+1))) (
   some s2)
def rY (N:Nat) (a0:aP):Option (Int):=
 cond (decide (a0.gHi < 0)) (
  some 0) (
  Option.bind (pT N a0 N 0 0) fun p1=>
  some p1)
theorem aC4 {N a0 r} (h:rY N a0=some r):FnM Tryz.prog 221 [] [(aP.enc a0)] (k64 r) []:=by
 unfold rY at h
 refine At.f aJE hT hmo Tryz.func221 rfl h ?_
 refine At.c 5 ?_ ?_
 ·apply rt;exact At.r 1
 ·refine At.L 2 [] 0 (fun p1=>([(3,(k64 p1))],[],[])) (fun p1 J k=>∃ s2 s3,pT N a0 k s2 s3=some p1∧J [1] 0 [(3,(k64 s2)),(11,(j64 s3))] [] []) N (fun _ h=>⟨_,_,h,jr⟩) (fun p1 k s hI=>?_) fun p1=>?_
  ·obtain ⟨s2,s3,h,hj⟩:=hI
   cases k with
   | zero=>cases h
   | succ k=>
    refine At.jr hj ?_ h
    refine At.c 1 ?_ ?_
    ·refine At.J 0 2 [1,11] 0 (fun p4=>([(3,(k64 p4))],[],[])) (fun p4=>?_) fun p4=>?_
     ·refine At.b 5 (fun _ e=>aCG hT (k' := .i64) e (by kernel_rfl) (by kernel_rfl)) fun x5=>?_
      refine At.b 4 (fun _ e=>aN [] (zH e)) fun r6=>?_
      refine At.J 5 0 [1,3,11] 0 (fun p7=>([(5,(k64 p7.1)),(42,(eB p7.2))],[],[])) (fun p7=>?_) fun p7=>?_
      ·refine lx ?_;intro x8
       refine At.s 30 6 ?_ ?_
       ·refine At.g [30,36] 12 ?_
        apply rt;exact At.jn 0
       ·refine lx ?_;intro x9
        refine At.g [30] 12 ?_
        apply rt;exact At.jn 0
      ·refine At.c 0 ?_ ?_
       ·apply rt;exact At.jn 2
       ·apply rt;exact At.jn 0
     ·exact fun h=>At.k 2 ⟨_,_,h,jr⟩
    ·apply rt;exact At.x 0
  ·apply rt;exact At.r 2
def jV (N:Nat) (a0 a1:Int):Option (Int):=
 Option.bind (oX N (aP.mk a0 0) a1) fun r1=>
 Option.bind (pA N r1.1) fun r2=>
 some r2.1
theorem uO {N a0 a1 r} (h:jV N a0 a1=some r):FnM Tryz.prog 222 [] [(j64 a0),(.im (j64 a1))] (j64 r) []:=by
 unfold jV at h
 refine At.f dM hT hmo Tryz.func222 rfl h ?_
 refine At.b 4 (fun _ e=>aN [] (zU e)) fun r1=>?_
 refine At.b 9 (fun _ e=>aN [] (xD e)) fun r2=>?_
 apply rt;exact At.r 7
def aIb : Nat→Bool:=imL [1]
def fM (N:Nat) (a0:aC):Option (aB):=
 Option.bind (nL N a0.gX) fun r1=>
 Option.bind (nL N a0.gY) fun r2=>
 Option.bind (nL N a0.gZ) fun r3=>
 aV (I64 ((I64 (r1*r1))+(I64 (r2*r2)))) fun x4=>
 aV (I64 (x4+(I64 (r3*r3)))) fun x5=>
 Option.bind (rY N (aP.mk x5 0)) fun r6=>
 cond ((I64 r6)==0) (
  some (aB.mk 0 0 0)) (
  Option.bind (jV N r1 (I64 r6)) fun r7=>
  Option.bind (jV N r2 (I64 r6)) fun r8=>
  Option.bind (jV N r3 (I64 r6)) fun r9=>
  some (aB.mk r7 r8 r9))
theorem lJ {N a0 r} (h:fM N a0=some r):FnM Tryz.prog 159 [] [(aC.enc a0)] (aB.enc r) []:=by
 unfold fM at h
 refine At.f aIb hT hmo Tryz.func159 rfl h ?_
 refine bi fun r1 hr1=>?_
 refine bi fun r2 hr2=>?_
 refine bi fun r3 hr3=>?_
 refine At.d 3 (dE2 3 (j64 r1) (fun _=>aO (xF hr1)) (dE2 7 (j64 r2) (fun _=>aO (xF hr2)) (dE2 11 (j64 r3) (fun _=>aO (xF hr3)) dE0))) dF0 ?_
 refine lx ?_;intro x4
 refine lx ?_;intro x5
 refine At.b 12 (fun _ e=>aN [] (aC4 e)) fun r6=>?_
 refine At.c 5 ?_ ?_
 ·apply rt;exact At.r 2
 ·refine At.gz 0 1 ((j64 (I64 r6))) ?_
  refine At.o 0 (qL (x:=(.fn (.func 222) [] [(.im (j64 (I64 r6)))])) (by kernel_rfl) (by kernel_rfl)) ?_
  refine At.b 3 (fun _ e=>aN [] (uO e)) fun r7=>?_
  refine At.b 2 (fun _ e=>aN [] (uO e)) fun r8=>?_
  refine At.b 2 (fun _ e=>aN [] (uO e)) fun r9=>?_
  apply rt;exact At.r 2
def qT (N:Nat) (a0:(List aP)):Nat→aP→Int→Option (Sum (aP) (aP×Bool))
 | 0,_,_=>none
 | k+1,s2,s3=>
  aV (decide (s3 < ((a0.length:Int)))) fun x4=>
  cond x4 (
   Option.bind (idx a0 s3) fun e5=>
   Option.bind (yE s2.gLo e5.gLo 0) fun r6=>
   Option.bind (yE (U64 s2.gHi) (U64 e5.gHi) r6.2) fun r7=>
   aV ((decide (s2.gHi < 0))==(decide (e5.gHi < 0))) fun x8=>
   aV (decide ((I64 r7.1) < 0)) fun x9=>
   aV (!(x9==(decide (e5.gHi < 0)))) fun x10=>
   cond (cond x8 x10 false) (
    some (Sum.inr ((aP.mk 0 0,false)))) (
    qT N a0 k (aP.mk (I64 r7.1) r6.1) (I64 (s3+1)))) (
   some (Sum.inl s2))
def uJ (N:Nat) (a0:(List aP)):Option (aP×Bool):=
 Option.bind (qT N a0 N (aP.mk 0 0) 0) fun o=>kK o (fun p1=>
  some ((p1,true))) (fun r=>some r)
theorem aBq {N a0 r} (h:uJ N a0=some r):FnM Tryz.prog 229 [] [(eL 2 aP.enc a0)] (.tup [(aP.enc r.1),(eB r.2)]) []:=by
 unfold uJ at h
 refine At.f dM hT hmo Tryz.func229 rfl h ?_
 refine At.LS 5 [2] 1 (fun p1=>([],[(0,.var (aP.enc p1))],[])) (fun op1 J k=>∃ s2 s3,qT N a0 k s2 s3=some op1∧J [2,11,12] 1 [(13,(j64 s3))] [(0,.var (aP.enc s2))] []) N (fun _ h=>⟨_,_,h,jr⟩) (fun op1 g1 k s hI=>?_) fun p1=>?_
 ·obtain ⟨s2,s3,h,hj⟩:=hI
  cases k with
  | zero=>cases h
  | succ k=>
   refine At.jr hj ?_ h
   refine lx ?_;intro x4
   refine At.c 1 ?_ ?_
   ·refine At.b 0 (fun _ e=>cF hT aP.enc e) fun e5=>?_
    refine At.b 7 (fun _ e=>aC7 (aH1 e) (fun _=>aDG)) fun r6=>?_
    refine At.b 12 (fun _ e=>aC7 (aH1 e) (fun _=>aDG)) fun r7=>?_
    refine lx ?_;intro x8
    refine lx ?_;intro x9
    refine lx ?_;intro x10
    refine At.c 23 ?_ ?_
    ·intro e;apply aCM g1 e;exact At.r 3
    ·exact fun h=>At.k 6 ⟨_,_,h,jr⟩
   ·apply rt;exact At.xs 0
 ·apply rt;exact At.r 3
def wO (N:Nat) (a0 a1:Int):Option (Int):=
 Option.bind (sZ N a0) fun r1=>
 Option.bind (sZ N a1) fun r2=>
 Option.bind (uJ N ([r1,r2])) fun r3=>
 Option.bind (sZ N (-65536)) fun r4=>
 Option.bind (sZ N 65536) fun r5=>
 Option.bind (nK N r3.1 r4) fun r6=>
 cond (decide (r6 < 0)) (
  some (-65536)) (
  Option.bind (nK N r3.1 r5) fun r7=>
  cond (decide (r7 > 0)) (
   some 65536) (
   Option.bind (pA N r3.1) fun r8=>
   some r8.1))
theorem aEX {N a0 a1 r} (h:wO N a0 a1=some r):FnM Tryz.prog 224 [] [(j64 a0),(j64 a1)] (j64 r) []:=by
 unfold wO at h
 refine At.f dM hT hmo Tryz.func224 rfl h ?_
 refine At.b 2 (fun _ e=>aN [] (yS e)) fun r1=>?_
 refine At.b 1 (fun _ e=>aN [] (yS e)) fun r2=>?_
 refine At.o 0 (cI hT (x:=(.sl 2 2 [(aP.enc r1),(aP.enc r2)]))) ?_
 refine At.b 0 (fun _ e=>aN [] (aBq e)) fun r3=>?_
 refine At.b 6 (fun _ e=>aN [] (yS e)) fun r4=>?_
 refine At.b 0 (fun _ e=>aN [] (yS e)) fun r5=>?_
 refine At.b 6 (fun _ e=>aN [] (zW e)) fun r6=>?_
 refine At.c 2 ?_ ?_
 ·apply rt;exact At.r 1
 ·refine At.b 2 (fun _ e=>aN [] (zW e)) fun r7=>?_
  refine At.c 2 ?_ ?_
  ·apply rt;exact At.r 1
  ·refine At.b 1 (fun _ e=>aN [] (xD e)) fun r8=>?_
   apply rt;exact At.r 7
def jT (N:Nat) (a0 a1:Int) (a2:aL):Option (Int):=
 cond (decide (a2.gM < 1)) (
  Option.bind (wO N a0 0) fun r1=>
  some r1) (
  Option.bind (iY N a1 a2.gT a2.gM) fun r2=>
  Option.bind (wO N a0 r2) fun r3=>
  some r3)
theorem uE {N a0 a1 a2 r} (h:jT N a0 a1 a2=some r):FnM Tryz.prog 223 [] [(j64 a0),(j64 a1),(.im (aL.enc a2))] (j64 r) []:=by
 unfold jT at h
 refine At.f dM hT hmo Tryz.func223 rfl h ?_
 refine At.c 4 ?_ ?_
 ·refine At.b 1 (fun _ e=>aN [] (aEX e)) fun r1=>?_
  apply rt;exact At.r 1
 ·refine At.b 6 (fun _ e=>aN [] (sL e)) fun r2=>?_
  refine At.b 0 (fun _ e=>aN [] (aEX e)) fun r3=>?_
  apply rt;exact At.r 1
def aJo : Nat→Bool:=imL [3,4,5]
def qH (N:Nat) (a0 a1:aC) (a2:aL):Option (aC):=
 Option.bind (jT N a0.gX a1.gX a2) fun r1=>
 Option.bind (jT N a0.gY a1.gY a2) fun r2=>
 Option.bind (jT N a0.gZ a1.gZ a2) fun r3=>
 some (aC.mk r1 r2 r3)
theorem xW {N a0 a1 a2 r} (h:qH N a0 a1 a2=some r):FnM Tryz.prog 162 [] [(aC.enc a0),(aC.enc a1),(aL.enc a2)] (aC.enc r) []:=by
 unfold qH at h
 refine At.f aJo hT hmo Tryz.func162 rfl h ?_
 refine At.o 4 (qL (x:=(.fn (.func 223) [] [(.im (aL.enc a2))])) (by kernel_rfl) (by kernel_rfl)) ?_
 refine bi fun r1 hr1=>?_
 refine bi fun r2 hr2=>?_
 refine bi fun r3 hr3=>?_
 refine At.d 1 (dE2 5 (j64 r1) (fun _=>aO (uE hr1)) (dE2 11 (j64 r2) (fun _=>aO (uE hr2)) (dE2 17 (j64 r3) (fun _=>aO (uE hr3)) dE0))) dF0 ?_
 apply rt;exact At.r 0
def aNJ : Nat→Bool:=imL [2,3]
def rA (N:Nat) (a0 a1:aB):Option (Int):=
 Option.bind (iL N ([a0,a1])) fun r1=>
 Option.bind (mF N ([r1.gX,r1.gY,r1.gZ])) fun r2=>
 some r2
theorem wC {N a0 a1 r} (h:rA N a0 a1=some r):FnM Tryz.prog 170 [] [(aB.enc a0),(aB.enc a1)] (j64 r) []:=by
 unfold rA at h
 refine At.f aNJ hT hmo Tryz.func170 rfl h ?_
 refine At.o 5 (cI hT (x:=(.sl 3 2 [(aB.enc a0),(aB.enc a1)]))) ?_
 refine At.b 0 (fun _ e=>aN [] (qK e)) fun r1=>?_
 refine At.o 8 (cI hT (x:=(.sl 1 3 [(j64 r1.gX),(j64 r1.gY),(j64 r1.gZ)]))) ?_
 refine At.b 0 (fun _ e=>aN [] (uC e)) fun r2=>?_
 apply rt;exact At.r 1
def aEO : Nat→Bool:=imL [2,3]
def jK (N:Nat) (a0:aB) (a1:aC):Option (aB):=
 Option.bind (fM N a1) fun r1=>
 Option.bind (rA N a0 r1) fun r2=>
 cond (decide (r2≤0)) (
  some a0) (
  Option.bind (iJ N a0 (-4294967296)) fun r3=>
  some r3)
theorem rH {N a0 a1 r} (h:jK N a0 a1=some r):FnM Tryz.prog 163 [] [(aB.enc a0),(aC.enc a1)] (aB.enc r) []:=by
 unfold jK at h
 refine At.f aEO hT hmo Tryz.func163 rfl h ?_
 refine bi fun r1 hr1=>?_
 refine bi fun r2 hr2=>?_
 refine At.d 3 (dE2 2 (aB.enc r1) (fun _=>aO (lJ hr1)) (dE2 3 (j64 r2) (fun _=>aO (wC hr2)) dE0)) dF0 ?_
 refine At.c 0 ?_ ?_
 ·apply rt;exact At.r 2
 ·refine At.b 1 (fun _ e=>aN [] (jW e)) fun r3=>?_
  apply rt;exact At.r 1
def vP (N:Nat) (a0:(List aD)) (a1:Int):Option (aD×Bool):=
 aV (((a0.length:Int))==0) fun x1=>
 cond x1 (
  some ((aD.mk 0 [],false))) (
  aV (I64 (((a0.length:Int)) - 1)) fun x2=>
  Option.bind (idx a0 (kL (jL a1 0) x2)) fun e3=>
  some ((e3,true)))
theorem aGv {N a0 a1 r} (h:vP N a0 a1=some r):FnM Tryz.prog 225 [] [(eL 2 aD.enc a0),(j64 a1)] (.tup [(aD.enc r.1),(eB r.2)]) []:=by
 unfold vP at h
 refine At.f dM hT hmo Tryz.func225 rfl h ?_
 refine lx ?_;intro x1
 refine At.c 5 ?_ ?_
 ·apply rt;exact At.r 3
 ·refine lx ?_;intro x2
  refine At.b 7 (fun _ e=>cF hT aD.enc e) fun e3=>?_
  apply rt;exact At.r 3
def kX (N:Nat) (a0:Int) (a1:aL) (a2:(Vector (Vector Int 2) 3)):Option (Int):=
 aV (I64 ((I64 (a1.gM - a1.gU)) - a1.gV)) fun x1=>
 Option.bind (idx a2.toList 0) fun e2=>
 Option.bind (idx e2.toList a0) fun e3=>
 Option.bind (fN N x1 e3) fun r4=>
 Option.bind (idx a2.toList 1) fun e5=>
 Option.bind (idx e5.toList a0) fun e6=>
 Option.bind (fN N a1.gU e6) fun r7=>
 Option.bind (idx a2.toList 2) fun e8=>
 Option.bind (idx e8.toList a0) fun e9=>
 Option.bind (fN N a1.gV e9) fun r10=>
 Option.bind (uJ N ([r4,r7,r10])) fun r11=>
 cond (!r11.2) (
  some 0) (
  Option.bind (oX N r11.1 a1.gM) fun r12=>
  Option.bind (pA N r12.1) fun r13=>
  aV (cond (!r13.2) (decide (r12.1.gHi < 0)) false) fun x14=>
  cond x14 (
   some (-2147483648)) (
   cond (!r13.2) (
    some 2147483647) (
    aV (jL r13.1 (-2147483648)) fun x15=>
    some (kL x15 2147483647))))
theorem xQ {N a0 a1 a2 r} (h:kX N a0 a1 a2=some r):FnM Tryz.prog 257 [] [(j64 a0),(.im (aL.enc a1)),(.im (eA 6 2 (eA 2 1 j64) a2))] (j64 r) []:=by
 unfold kX at h
 refine At.f dM hT hmo Tryz.func257 rfl h ?_
 refine lx ?_;intro x1
 refine bi fun e2 he2=>?_
 refine bi fun e3 he3=>?_
 refine bi fun r4 hr4=>?_
 refine bi fun e5 he5=>?_
 refine bi fun e6 he6=>?_
 refine bi fun r7 hr7=>?_
 refine bi fun e8 he8=>?_
 refine bi fun e9 he9=>?_
 refine bi fun r10 hr10=>?_
 refine bi fun r11 hr11=>?_
 refine At.d 10 (dE1 2 (fun _=>cL hT (N:=6) (k:=2) (eA 2 1 j64) a2 he2) (dE1 3 (fun _=>cL hT (N:=2) (k:=1) j64 e2 he3) (dE2 5 (aP.enc r4) (fun _=>aO (kH hr4)) (dE1 9 (fun _=>cL hT (N:=6) (k:=2) (eA 2 1 j64) a2 he5) (dE1 10 (fun _=>cL hT (N:=2) (k:=1) j64 e5 he6) (dE2 12 (aP.enc r7) (fun _=>aO (kH hr7)) (dE1 16 (fun _=>cL hT (N:=6) (k:=2) (eA 2 1 j64) a2 he8) (dE1 17 (fun _=>cL hT (N:=2) (k:=1) j64 e8 he9) (dE2 19 (aP.enc r10) (fun _=>aO (kH hr10)) (dE1 20 (fun _=>cI hT (x:=(.sl 2 3 [(aP.enc r4),(aP.enc r7),(aP.enc r10)]))) (dE2 21 (.tup [(aP.enc r11.1),(eB r11.2)]) (fun _=>aO (aBq hr11)) dE0))))))))))) dF0 ?_
 refine At.c 2 ?_ ?_
 ·apply rt;exact At.r 1
 ·refine At.b 3 (fun _ e=>aN [] (zU e)) fun r12=>?_
  refine At.b 9 (fun _ e=>aN [] (xD e)) fun r13=>?_
  refine lx ?_;intro x14
  refine At.c 13 ?_ ?_
  ·apply rt;exact At.r 1
  ·refine At.c 3 ?_ ?_
   ·apply rt;exact At.r 1
   ·refine lx ?_;intro x15
    apply rt;exact At.r 4
def aIA : Nat→Bool:=imL [2,3]
def vL (N:Nat) (a0:aL) (a1:(Vector (Vector Int 2) 3)):Option (Int×Int):=
 Option.bind (cond (decide (a0.gM < 1)) (
  some true) (
  aV (decide ((jL (jL (jL a0.gT a0.gM) a0.gU) a0.gV) > 1152921504606846976)) fun x2=>
  cond x2 (
   some true) (
   aV (decide ((kL (kL a0.gT a0.gU) a0.gV) < (-1152921504606846976))) fun x3=>
   some x3))) fun p1=>
 cond p1 (
  some ((0,0))) (
  Option.bind (kX N 0 a0 a1) fun r4=>
  Option.bind (kX N 1 a0 a1) fun r5=>
  some ((r4,r5)))
theorem aG4 {N a0 a1 r} (h:vL N a0 a1=some r):FnM Tryz.prog 226 [] [(aL.enc a0),(eA 6 2 (eA 2 1 j64) a1)] (.tup [(j64 r.1),(j64 r.2)]) []:=by
 unfold vL at h
 refine At.f aIA hT hmo Tryz.func226 rfl h ?_
 refine At.J 4 0 [2,3] 0 (fun p1=>([(31,(eB p1))],[],[])) (fun p1=>?_) fun p1=>?_
 ·refine At.s 10 4 ?_ ?_
  ·refine At.g [10,22] 21 ?_
   apply rt;exact At.jn 0
  ·refine At.g [10] 8 ?_
   refine At.o 0 (aNi (k := .i64) (i:=a0.gT) (j:=a0.gM) (l:=a0.gU) (m:=a0.gV) (by kernel_rfl) (by kernel_rfl)) ?_
   refine lx ?_;intro x2
   refine At.g [10] 3 ?_
   refine At.s 22 0 ?_ ?_
   ·refine At.g [22] 9 ?_
    apply rt;exact At.jn 0
   ·refine At.g [22] 6 ?_
    refine At.o 0 (yN (k := .i64) (i:=a0.gT) (j:=a0.gU) (l:=a0.gV) (by kernel_rfl) (by kernel_rfl)) ?_
    refine lx ?_;intro x3
    refine At.g [22] 2 ?_
    apply rt;exact At.jn 0
 ·refine At.c 0 ?_ ?_
  ·apply rt;exact At.r 2
  ·refine At.o 0 (qL (x:=(.fn (.func 257) [] [(.im (aL.enc a0)),(.im (eA 6 2 (eA 2 1 j64) a1))])) (by kernel_rfl) (by kernel_rfl)) ?_
   refine At.b 2 (fun _ e=>aN [] (xQ e)) fun r4=>?_
   refine At.b 1 (fun _ e=>aN [] (xQ e)) fun r5=>?_
   apply rt;exact At.r 2
def aIz : Nat→Bool:=imL [3]
def vC (N:Nat) (a0:aD) (a1 a2:Int):Option ((Vector Int 3)×Int):=
 Option.bind (jC N a0) fun r1=>
 cond (r1 != 0) (
  some ((#v[0,0,0],r1))) (
  Option.bind (mT N a0 a1 a2) fun r2=>
  some ((r2,0)))
theorem aGt {N a0 a1 a2 r} (h:vC N a0 a1 a2=some r):FnM Tryz.prog 259 [] [(aD.enc a0),(j64 a1),(j64 a2)] (.tup [(eA 3 1 j64 r.1),(j64 r.2)]) []:=by
 unfold vC at h
 refine At.f aIz hT hmo Tryz.func259 rfl h ?_
 refine At.b 4 (fun _ e=>aN [] (tD e)) fun r1=>?_
 refine At.c 3 ?_ ?_
 ·apply rt;exact At.r 4
 ·refine At.b 3 (fun _ e=>aN [] (tO e)) fun r2=>?_
  apply rt;exact At.r 2
def eM (N:Nat) (a0 a1:Int) (a2:aD) (a3 a4:Int):Option ((Vector Int 3)):=
 aV (I64 ((shr .i64 a3 16)+a0)) fun x1=>
 aV (I64 ((shr .i64 a4 16)+a1)) fun x2=>
 Option.bind (vC N a2 x1 x2) fun r3=>
 some r3.1
theorem lY {N a0 a1 a2 a3 a4 r} (h:eM N a0 a1 a2 a3 a4=some r):FnM Tryz.prog 258 [] [(j64 a0),(j64 a1),(.im (aD.enc a2)),(.im (j64 a3)),(.im (j64 a4))] (eA 3 1 j64 r) []:=by
 unfold eM at h
 refine At.f dM hT hmo Tryz.func258 rfl h ?_
 refine lx ?_;intro x1
 refine lx ?_;intro x2
 refine At.b 10 (fun _ e=>aN [] (aGt e)) fun r3=>?_
 apply rt;exact At.r 8
def aGd : Nat→Bool:=imL [3]
def lW (N:Nat) (e20:(Vector Int 3)) (s19 x4 x5:Int):Nat→(Vector Int 3)→Int→Option ((Vector Int 3))
 | 0,_,_=>none
 | k+1,s22,s23=>
  cond (decide (s23 < 3)) (
   Option.bind (fH s23 3) fun _=>
   Option.bind (s22.toList[s23.toNat]?) fun e25=>
   Option.bind (fH s23 3) fun _=>
   Option.bind (e20.toList[s23.toNat]?) fun e27=>
   Option.bind (fH s19 4) fun _=>
   Option.bind ((#v[I64 ((I64 (65536 - (eK .i64 x4 65535)))*(I64 (65536 - (eK .i64 x5 65535)))),(I64 ((eK .i64 x4 65535)*(I64 (65536 - (eK .i64 x5 65535))))),(I64 ((I64 (65536 - (eK .i64 x4 65535)))*(eK .i64 x5 65535))),(I64 ((eK .i64 x4 65535)*(eK .i64 x5 65535)))]).toList[s19.toNat]?) fun e29=>
   aV (I64 (e25+(I64 (e27*e29)))) fun x30=>
   Option.bind (fH s23 3) fun _=>
   Option.bind (s22.toList[s23.toNat]?) fun e32=>
   lW N e20 s19 x4 x5 k (s22.setIfInBounds s23.toNat x30) (I64 (s23+1))) (
   some s22)
def lV (N:Nat) (r13 r14 r15 r16:(Vector Int 3)) (x4 x5:Int):Nat→(Vector Int 3)→Int→Option ((Vector Int 3))
 | 0,_,_=>none
 | k+1,s18,s19=>
  cond (decide (s19 < 4)) (
   Option.bind (idx (#v[r13,r14,r15,r16]).toList s19) fun e20=>
   Option.bind (lW N e20 s19 x4 x5 N s18 0) fun p21=>
   lV N r13 r14 r15 r16 x4 x5 k p21 (I64 (s19+1))) (
   some s18)
def rK (N:Nat) (a0:aD) (a1 a2:Int):Option (aB×Int):=
 Option.bind (jC N a0) fun r1=>
 cond (r1 != 0) (
  some ((aB.mk 0 0 0,r1))) (
  aV (decide ((kL a1 a2) < 0)) fun x2=>
  aV (decide ((jL a1 a2) > 65535)) fun x3=>
  cond (cond x2 true x3) (
   some ((aB.mk 0 0 0,2))) (
   aV (I64 ((I64 (a1*a0.gG)) - 32768)) fun x4=>
   aV (I64 ((I64 (a2*a0.gG)) - 32768)) fun x5=>
   aV (I64 (65536 - (eK .i64 x4 65535))) fun x6=>
   aV (I64 (65536 - (eK .i64 x5 65535))) fun x7=>
   aV (I64 (65536 - (eK .i64 x5 65535))) fun x8=>
   aV (I64 ((eK .i64 x4 65535)*x8)) fun x9=>
   aV (I64 (65536 - (eK .i64 x4 65535))) fun x10=>
   aV (I64 (x10*(eK .i64 x5 65535))) fun x11=>
   aV (I64 ((eK .i64 x4 65535)*(eK .i64 x5 65535))) fun x12=>
   Option.bind (eM N 0 0 a0 x4 x5) fun r13=>
   Option.bind (eM N 1 0 a0 x4 x5) fun r14=>
   Option.bind (eM N 0 1 a0 x4 x5) fun r15=>
   Option.bind (eM N 1 1 a0 x4 x5) fun r16=>
   Option.bind (lV N r13 r14 r15 r16 x4 x5 N (#v[0,0,0]) 0) fun p17=>
   Option.bind (fH 0 3) fun _=>
   Option.bind (p17.toList[(Int.toNat 0)]?) fun e34=>
   Option.bind (fH 1 3) fun _=>
   Option.bind (p17.toList[(Int.toNat 1)]?) fun e36=>
   Option.bind (fH 2 3) fun _=>
   Option.bind (p17.toList[(Int.toNat 2)]?) fun e38=>
   some ((aB.mk (I64 (Int.tdiv e34 255)) (I64 (Int.tdiv e36 255)) (I64 (Int.tdiv e38 255)),0))))
theorem aEw {N a0 a1 a2 r} (h:rK N a0 a1 a2=some r):FnM Tryz.prog 227 [] [(aD.enc a0),(j64 a1),(j64 a2)] (.tup [(aB.enc r.1),(j64 r.2)]) []:=by
 unfold rK at h
 refine At.f aGd hT hmo Tryz.func227 rfl h ?_
 refine At.b 4 (fun _ e=>aN [] (tD e)) fun r1=>?_
 refine At.c 3 ?_ ?_
 ·apply rt;exact At.r 4
 ·refine lx ?_;intro x2
  refine lx ?_;intro x3
  refine At.c 10 ?_ ?_
  ·apply rt;exact At.r 3
  ·refine lx ?_;intro x4
   refine lx ?_;intro x5
   refine At.d2 0 [false,false] dC0 (dS1 10 ⟨(.ref 1 [] 0),1,.var (j64 0),.dead⟩ [[.var (.st 3 [(j64 0),(j64 0),(j64 0)]),.dead,.dead],[.var (.st 3 [(j64 0),(j64 0),(j64 0)]),.dead,.var (j64 0)]] ⟨aX hT 1 (by kernel_rfl) (by kernel_rfl) (by kernel_rfl),aX hT 1 (by kernel_rfl) (by kernel_rfl) (by kernel_rfl),trivial⟩ (dS1 11 ⟨(.ref 2 [] 0),2,.var (j64 0),.dead⟩ [[.var (.st 3 [(j64 0),(j64 0),(j64 0)]),.dead,.dead],[.var (.st 3 [(j64 0),(j64 0),(j64 0)]),.var (j64 0),.dead]] ⟨aX hT 2 (by kernel_rfl) (by kernel_rfl) (by kernel_rfl),aX hT 2 (by kernel_rfl) (by kernel_rfl) (by kernel_rfl),trivial⟩ dS0)) ?_
   refine At.d 0 dE0 dF0 ?_
   refine At.gz 0 1 ((j64 x4)) ?_
   refine At.gz 0 2 ((j64 x5)) ?_
   refine At.o 0 (qL (x:=(.fn (.func 258) [] [(.im (aD.enc a0)),(.im (j64 x4)),(.im (j64 x5))])) (by kernel_rfl) (by kernel_rfl)) ?_
   refine lx ?_;intro x6
   refine lx ?_;intro x7
   refine lx ?_;intro x8
   refine lx ?_;intro x9
   refine lx ?_;intro x10
   refine lx ?_;intro x11
   refine lx ?_;intro x12
   refine At.b 21 (fun _ e=>aN [] (lY e)) fun r13=>?_
   refine At.b 1 (fun _ e=>aN [] (lY e)) fun r14=>?_
   refine At.b 1 (fun _ e=>aN [] (lY e)) fun r15=>?_
   refine At.b 1 (fun _ e=>aN [] (lY e)) fun r16=>?_
   refine At.L 6 [6,16] 6 (fun p17=>([],[(5,.var (eA 3 1 j64 p17))],[])) (fun p17 J k=>∃ s18 s19,lV N r13 r14 r15 r16 x4 x5 k s18 s19=some p17∧J [6,14,16,78] 6 [(79,(j64 s19))] [(5,.var (eA 3 1 j64 s18))] []) N (fun _ h=>⟨_,_,h,jr⟩) (fun p17 k s hI=>?_) fun p17=>?_
   ·obtain ⟨s18,s19,h,hj⟩:=hI
    cases k with
    | zero=>cases h
    | succ k=>
     refine At.jr hj ?_ h
     refine At.c 1 ?_ ?_
     ·refine At.b 1 (fun _ e=>zX hT (eA 3 1 j64) (#v[r13,r14,r15,r16]) e (by kernel_rfl) (by kernel_rfl)) fun e20=>?_
      refine At.L 4 [6,14,16,78,79] 7 (fun p21=>([],[(5,.var (eA 3 1 j64 p21))],[])) (fun p21 J k=>∃ s22 s23,lW N e20 s19 x4 x5 k s22 s23=some p21∧J [6,14,16,17,18,78,79] 7 [(83,(j64 s23))] [(5,.var (eA 3 1 j64 s22))] []) N (fun _ h=>⟨_,_,h,jr⟩) (fun p21 k s hI=>?_) fun p21=>?_
      ·obtain ⟨s22,s23,h,hj⟩:=hI
       cases k with
       | zero=>cases h
       | succ k=>
        refine At.jr hj ?_ h
        refine At.c 1 ?_ ?_
        ·refine bi fun u24 hu24=>?_
         refine bi fun e25 he25=>?_
         refine bi fun u26 hu26=>?_
         refine bi fun e27 he27=>?_
         refine bi fun u28 hu28=>?_
         refine bi fun e29 he29=>?_
         refine lx ?_;intro x30
         refine bi fun u31 hu31=>?_
         refine bi fun e32 he32=>?_
         refine At.d 2 (dE1 1 (fun _=>bG hT (k:=1) 5 [] 0 hu24) (dEL hT 2 (j64 e25) j64 0 he25 (dE1 4 (fun _=>bG hT (k:=1) 6 [] 0 hu26) (dEL hT 5 (j64 e27) j64 0 he27 (dE1 7 (fun _=>bG hT (k:=1) 3 [] 0 hu28) (dEL hT 8 (j64 e29) j64 0 he29 (dE1 11 (fun _=>bG hT (k:=1) 5 [] 0 hu31) dE0))))))) (dF 12 (.v (.bool false)) [(5,.var (eA 3 1 j64 (s22.setIfInBounds s23.toNat x30)))] [] (bS (nS hT j64 0 s22 he32 x30 (by kernel_rfl) (by kernel_rfl) (H':=[.var (.st 3 [(j64 0),(j64 0),(j64 0)]),.dead,.dead,.var (.arr 4 1 [(j64 (I64 ((I64 (65536 - (eK .i64 x4 65535)))*(I64 (65536 - (eK .i64 x5 65535)))))),(j64 ((I64 ((eK .i64 x4 65535)*(I64 (65536 - (eK .i64 x5 65535))))))),(j64 ((I64 ((I64 (65536 - (eK .i64 x4 65535)))*(eK .i64 x5 65535))))),(j64 ((I64 ((eK .i64 x4 65535)*(eK .i64 x5 65535)))))]),.var (.arr 12 3 [(eA 3 1 j64 r13),(eA 3 1 j64 r14),(eA 3 1 j64 r15),(eA 3 1 j64 r16)]),.var (eA 3 1 j64 (s22.setIfInBounds s23.toNat x30)),.var (eA 3 1 j64 e20)]))) dF0) ?_
         exact fun h=>At.k 2 ⟨_,_,h,jr⟩
        ·apply rt;exact At.x 0
      ·exact fun h=>At.k 2 ⟨_,_,h,jr⟩
     ·apply rt;exact At.x 0
   ·refine At.b 0 (fun _ e=>bG hT (k:=1) 5 [] 0 e) fun u33=>?_
    refine At.b 0 (fun _ e=>pE hT j64 0 e) fun e34=>?_
    refine At.b 1 (fun _ e=>bG hT (k:=1) 5 [] 0 e) fun u35=>?_
    refine At.b 0 (fun _ e=>pE hT j64 0 e) fun e36=>?_
    refine At.b 1 (fun _ e=>bG hT (k:=1) 5 [] 0 e) fun u37=>?_
    refine At.b 0 (fun _ e=>pE hT j64 0 e) fun e38=>?_
    apply rt;exact At.r 4
def aE6 : Nat→Bool:=imL [5,7,8]
def kJ (N:Nat) (a0:(Vector Int 3)) (a1:(List aD)) (a2:(Vector (Vector Int 2) 3)) (a3:aL) (a4:Int):Option (aB):=
 Option.bind (rB N a0 65535) fun r1=>
 Option.bind (vP N a1 a4) fun r2=>
 cond (!r2.2) (
  some r1) (
  Option.bind (vL N a3 a2) fun r3=>
  aV (kL (jL r3.1 0) 65535) fun x4=>
  aV (kL (jL r3.2 0) 65535) fun x5=>
  Option.bind (rK N r2.1 x4 x5) fun r6=>
  cond (r6.2 != 0) (
   some r1) (
   Option.bind (iL N ([r1,r6.1])) fun r7=>
   some r7))
theorem aAm {N a0 a1 a2 a3 a4 r} (h:kJ N a0 a1 a2 a3 a4=some r):FnM Tryz.prog 164 [] [(eA 3 1 j64 a0),(eL 2 aD.enc a1),(eA 6 2 (eA 2 1 j64) a2),(aL.enc a3),(j64 a4)] (aB.enc r) []:=by
 unfold kJ at h
 refine At.f aE6 hT hmo Tryz.func164 rfl h ?_
 refine At.b 5 (fun _ e=>aN [] (aBw e)) fun r1=>?_
 refine At.b 4 (fun _ e=>aN [] (aGv e)) fun r2=>?_
 refine At.c 8 ?_ ?_
 ·apply rt;exact At.r 2
 ·refine At.b 2 (fun _ e=>aN [] (aG4 e)) fun r3=>?_
  refine lx ?_;intro x4
  refine lx ?_;intro x5
  refine At.b 12 (fun _ e=>aN [] (aEw e)) fun r6=>?_
  refine At.c 8 ?_ ?_
  ·apply rt;exact At.r 2
  ·refine At.o 2 (cI hT (x:=(.sl 3 2 [(aB.enc r1),(aB.enc r6.1)]))) ?_
   refine At.b 0 (fun _ e=>aN [] (qK e)) fun r7=>?_
   apply rt;exact At.r 1
def nH (N:Nat) (a0:Int):Option (aP):=
 Option.bind (fN N a0 a0) fun r1=>
 some r1
theorem xK {N a0 r} (h:nH N a0=some r):FnM Tryz.prog 228 [] [(j64 a0)] (aP.enc r) []:=by
 unfold nH at h
 refine At.f dM hT hmo Tryz.func228 rfl h ?_
 refine At.b 3 (fun _ e=>aN [] (kH e)) fun r1=>?_
 apply rt;exact At.r 1
def aIV : Nat→Bool:=imL [1]
def oH (N:Nat) (a0:aB):Option (Int):=
 Option.bind (nH N a0.gX) fun r1=>
 Option.bind (nH N a0.gY) fun r2=>
 Option.bind (nH N a0.gZ) fun r3=>
 Option.bind (uJ N ([r1,r2,r3])) fun r4=>
 cond (!r4.2) (
  some 9223372036854775807) (
  Option.bind (rY N r4.1) fun r5=>
  aV (kL r5 9223372036854775807) fun x6=>
  some (I64 x6))
theorem aCR {N a0 r} (h:oH N a0=some r):FnM Tryz.prog 165 [] [(aB.enc a0)] (j64 r) []:=by
 unfold oH at h
 refine At.f aIV hT hmo Tryz.func165 rfl h ?_
 refine bi fun r1 hr1=>?_
 refine bi fun r2 hr2=>?_
 refine bi fun r3 hr3=>?_
 refine bi fun r4 hr4=>?_
 refine At.d 3 (dE2 3 (aP.enc r1) (fun _=>aO (xK hr1)) (dE2 7 (aP.enc r2) (fun _=>aO (xK hr2)) (dE2 11 (aP.enc r3) (fun _=>aO (xK hr3)) (dE1 12 (fun _=>cI hT (x:=(.sl 2 3 [(aP.enc r1),(aP.enc r2),(aP.enc r3)]))) (dE2 13 (.tup [(aP.enc r4.1),(eB r4.2)]) (fun _=>aO (aBq hr4)) dE0))))) dF0 ?_
 refine At.c 2 ?_ ?_
 ·apply rt;exact At.r 1
 ·refine At.b 1 (fun _ e=>aN [] (aC4 e)) fun r5=>?_
  refine lx ?_;intro x6
  apply rt;exact At.r 3
def mO (N:Nat) (b4:(List (List aD))) (a1:aH) (a2 a3:aB) (a4:Int) (a5:Bool) (a6:aG) (a7:aF) (a8:aI) (a9:aB) (a10:aJ) (a11:aA) (a12:aM):Option (aG×Int×Int×aR×Bool):=
 Option.bind (cond (a4==0) (some 9) (some 4)) fun p1=>
 Option.bind (cX N a1.go a1.gd p1 a1.gC5 a12) fun r2=>
 Option.bind (cond a8.gB2 (some (I64 (a10.gB7+4))) (some a10.gB7)) fun p3=>
 cond (decide (r2.2.1 < 0)) (
  some ((a6,p3,r2.1,aR.mk 0 (aC.mk 0 0 0) (aB.mk 0 0 0) (aB.mk 0 0 0) (aQ.mk 0 (#v[0,0,0]) 0) false,false))) (
  Option.bind (idx a7.gE r2.2.1) fun e4=>
  Option.bind (fH 1 3) fun _=>
  Option.bind (e4.gP.toList[(Int.toNat 1)]?) fun e6=>
  Option.bind (fH 0 3) fun _=>
  Option.bind (e4.gP.toList[(Int.toNat 0)]?) fun e8=>
  Option.bind (kY N e6 e8) fun r9=>
  Option.bind (fH 2 3) fun _=>
  Option.bind (e4.gP.toList[(Int.toNat 2)]?) fun e11=>
  Option.bind (fH 0 3) fun _=>
  Option.bind (e4.gP.toList[(Int.toNat 0)]?) fun e13=>
  Option.bind (kY N e11 e13) fun r14=>
  Option.bind (nA N r9 r14) fun r15=>
  Option.bind (fM N r15) fun r16=>
  Option.bind (Option.bind (qH N a1.go a1.gd r2.2.2) fun r18=>
  Option.bind (jK N r16 a1.gd) fun r19=>
  Option.bind (idx a7.gA5 e4.gC1) fun e20=>
  cond (a4==0) (
   aV ((eK .u8 e4.gB1 8) != 0) fun x21=>
   some (aR.mk r2.2.1 r18 r19 (aB.mk 0 0 0) e20 x21)) (
   some (aR.mk r2.2.1 r18 r19 (aB.mk 0 0 0) e20 false))) fun p17=>
  Option.bind (cond (decide (e4.gA6≥0)) (
   Option.bind (idx b4 e4.gA6) fun e23=>
   cond (!a8.gB2) (some ((I64 (p3+4),e23))) (some ((p3,e23)))) (
   some ((p3,[])))) fun p22=>
  Option.bind (kJ N p17.gI.gB6 p22.2 e4.gUv r2.2.2 a4) fun r24=>
  Option.bind (aV (cond (a4==0) (!a5) false) fun x26=>
  cond x26 (
   Option.bind (mP N p17.gat) fun r27=>
   Option.bind (mP N a1.go) fun r28=>
   Option.bind (tA N r27 r28) fun r29=>
   Option.bind (oH N r29) fun r30=>
   cond p17.gB5 (
    some (aG.mk (aB.mk 0 0 0) 0 r30 p17.gn e4.gB9)) (
    some (aG.mk (aB.mk 0 0 0) 1 r30 p17.gn e4.gB9))) (
   some a6)) fun p25=>
  some ((p25,p22.1,r2.1,aR.mk p17.gi p17.gat p17.gn r24 p17.gI p17.gB5,true)))
theorem aBk {N b4 a1 a2 a3 a4 a5 a6 a7 a8 a9 a10 a11 a12 r} (h:mO N b4 a1 a2 a3 a4 a5 a6 a7 a8 a9 a10 a11 a12=some r):FnM Tryz.prog 85 [.var (.st 26 [(aH.enc a1),(.ref 1 [] 0),(.ref 2 [] 0),(aB.enc a2),(aB.enc a3),(j64 a4),(eB a5),(aG.enc a6)]),.var (.st 38 [(aF.enc a7),(aI.enc a8),(.ifc 91 (.ref 3 [] 0)),(eO 4 1 (eL 2 aD.enc) b4),(aB.enc a9),(aJ.enc a10)]),.var (aA.enc a11),.var (aM.enc a12),.tail (b4.length*1)] [(.ref 0 [] 0)] (.tup [(aR.enc r.2.2.2.1),(eB r.2.2.2.2)]) [.var (.st 26 [(aH.enc a1),(.ref 1 [] 0),(.ref 2 [] 0),(aB.enc a2),(aB.enc a3),(j64 a4),(eB a5),(aG.enc r.1)]),.var (.st 38 [(aF.enc a7),(aI.enc a8),(.ifc 91 (.ref 3 [] 0)),(eO 4 1 (eL 2 aD.enc) b4),(aB.enc a9),(.st 3 [(j64 a10.gK),(j64 r.2.1),(j64 (I64 (a10.gL+1)))])]),.var (aA.enc a11),.var (.st 5 [(aY.enc a12.gQ),(eB a12.gA),(eL 19 aE.enc a12.gl),(j64 r.2.2.1)]),.tail (b4.length*1)]:=by
 unfold mO at h
 refine At.f dM hT hmo Tryz.func85 rfl h ?_
 refine At.J 3 1 [0,2] 6 (fun p1=>([(4,(k8 p1))],[],[])) (fun p1=>?_) fun p1=>?_
 ·refine At.c 5 ?_ ?_
  ·apply rt;exact At.jn 1
  ·apply rt;exact At.jn 0
 ·refine bi fun r2 hr2=>?_
  refine At.d2 0 [false] dC0 (dS1 25 ⟨(.tup [(j64 r2.2.1),(aL.enc r2.2.2)]),3,.var (.st 5 [(aY.enc a12.gQ),(eB a12.gA),(eL 19 aE.enc a12.gl),(j64 r2.1)]),.var (aM.enc a12)⟩ [[.var (.st 26 [(aH.enc a1),(.ref 1 [] 0),(.ref 2 [] 0),(aB.enc a2),(aB.enc a3),(j64 a4),(eB a5),(aG.enc a6)]),.var (.st 38 [(aF.enc a7),(aI.enc a8),(.ifc 91 (.ref 3 [] 0)),(eO 4 1 (eL 2 aD.enc) b4),(aB.enc a9),(aJ.enc a10)]),.var (aA.enc a11),.var (aM.enc a12),.tail (b4.length*1),.var aJz,.dead],[.var (.st 26 [(aH.enc a1),(.ref 1 [] 0),(.ref 2 [] 0),(aB.enc a2),(aB.enc a3),(j64 a4),(eB a5),(aG.enc a6)]),.var (.st 38 [(aF.enc a7),(aI.enc a8),(.ifc 91 (.ref 3 [] 0)),(eO 4 1 (eL 2 aD.enc) b4),(aB.enc a9),(aJ.enc a10)]),.var (aA.enc a11),.var (aM.enc a12),.tail (b4.length*1),.var aJz,.var (.st 4 [(j64 0),(j64 0),(j64 0),(j64 0)])]] ⟨bS (aN [3] (rQ hr2)),bS (aN [3] (rQ hr2)),trivial⟩ (dS1 29 ⟨(.ref 6 [] 0),6,.var (.st 4 [(j64 0),(j64 0),(j64 0),(j64 0)]),.dead⟩ [[.var (.st 26 [(aH.enc a1),(.ref 1 [] 0),(.ref 2 [] 0),(aB.enc a2),(aB.enc a3),(j64 a4),(eB a5),(aG.enc a6)]),.var (.st 38 [(aF.enc a7),(aI.enc a8),(.ifc 91 (.ref 3 [] 0)),(eO 4 1 (eL 2 aD.enc) b4),(aB.enc a9),(aJ.enc a10)]),.var (aA.enc a11),.var (aM.enc a12),.tail (b4.length*1),.var aJz,.dead],[.var (.st 26 [(aH.enc a1),(.ref 1 [] 0),(.ref 2 [] 0),(aB.enc a2),(aB.enc a3),(j64 a4),(eB a5),(aG.enc a6)]),.var (.st 38 [(aF.enc a7),(aI.enc a8),(.ifc 91 (.ref 3 [] 0)),(eO 4 1 (eL 2 aD.enc) b4),(aB.enc a9),(aJ.enc a10)]),.var (aA.enc a11),.var (.st 5 [(aY.enc a12.gQ),(eB a12.gA),(eL 19 aE.enc a12.gl),(j64 r2.1)]),.tail (b4.length*1),.var aJz,.dead]] ⟨aX hT 6 (by kernel_rfl) (by kernel_rfl) (by kernel_rfl),aX hT 6 (by kernel_rfl) (by kernel_rfl) (by kernel_rfl),trivial⟩ dS0)) ?_
  refine At.J 13 1 [0,2,5,6] 7 (fun p3=>([],[(1,.var (.st 38 [(aF.enc a7),(aI.enc a8),(.ifc 91 (.ref 3 [] 0)),(eO 4 1 (eL 2 aD.enc) b4),(aB.enc a9),(.st 3 [(j64 a10.gK),(j64 p3),(j64 (I64 (a10.gL+1)))])]))],[])) (fun p3=>?_) fun p3=>?_
  ·refine At.c 8 ?_ ?_
   ·apply rt;exact At.jn 13
   ·apply rt;exact At.jn 0
  ·refine At.c 2 ?_ ?_
   ·apply rt;exact At.r 3
   ·refine At.b 9 (fun _ e=>cF hT aE.enc e) fun e4=>?_
    refine bi fun u5 hu5=>?_
    refine bi fun e6 he6=>?_
    refine bi fun u7 hu7=>?_
    refine bi fun e8 he8=>?_
    refine bi fun r9 hr9=>?_
    refine bi fun u10 hu10=>?_
    refine bi fun e11 he11=>?_
    refine bi fun u12 hu12=>?_
    refine bi fun e13 he13=>?_
    refine bi fun r14 hr14=>?_
    refine bi fun r15 hr15=>?_
    refine bi fun r16 hr16=>?_
    refine At.d 3 (dE1 1 (fun _=>bG hT (k:=3) 7 [0] 0 hu5) (dEL hT 2 (aC.enc e6) aC.enc 1 he6 (dE1 4 (fun _=>bG hT (k:=3) 7 [0] 0 hu7) (dEL hT 5 (aC.enc e8) aC.enc 1 he8 (dE2 6 (aC.enc r9) (fun _=>aO (rO hr9)) (dE1 8 (fun _=>bG hT (k:=3) 7 [0] 0 hu10) (dEL hT 9 (aC.enc e11) aC.enc 1 he11 (dE1 11 (fun _=>bG hT (k:=3) 7 [0] 0 hu12) (dEL hT 12 (aC.enc e13) aC.enc 1 he13 (dE2 13 (aC.enc r14) (fun _=>aO (rO hr14)) (dE2 14 (aC.enc r15) (fun _=>aO (xX hr15)) (dE2 15 (aB.enc r16) (fun _=>aO (lJ hr16)) dE0)))))))))))) dF0 ?_
    refine At.J 0 0 [0,2,6,7] 9 (fun p17=>([],[(5,.var (aR.enc p17))],[])) (fun p17=>?_) fun p17=>?_
    ·refine bi fun r18 hr18=>?_
     refine bi fun r19 hr19=>?_
     refine bi fun e20 he20=>?_
     refine boI (fun hc37=>?_) (fun hc37=>?_)
     ·refine lx ?_;intro x21
      refine At.d 0 (dE2 12 (aC.enc r18) (fun _=>aO (xW hr18)) (dE2 19 (aB.enc r19) (fun _=>aO (rH hr19)) (dE1 30 (fun _=>cF hT aQ.enc he20) (dE1 37 (fun _=>dO hc37 rfl (dC hT (im:=false) (by kernel_rfl))) dE0)))) dF0 ?_
      apply rt;exact At.jn 0
     ·refine At.d 0 (dE2 12 (aC.enc r18) (fun _=>aO (xW hr18)) (dE2 19 (aB.enc r19) (fun _=>aO (rH hr19)) (dE1 30 (fun _=>cF hT aQ.enc he20) (dE1 37 (fun _=>dO hc37 rfl (dC hT (im:=false) (by kernel_rfl))) dE0)))) dF0 ?_
      apply rt;exact At.jn 0
    ·refine At.J 1 1 [0,2,6,7] 9 (fun p22=>([(9,(eL 2 aD.enc p22.2))],[(1,.var (.st 38 [(aF.enc a7),(aI.enc a8),(.ifc 91 (.ref 3 [] 0)),(eO 4 1 (eL 2 aD.enc) b4),(aB.enc a9),(.st 3 [(j64 a10.gK),(j64 p22.1),(j64 (I64 (a10.gL+1)))])]))],[])) (fun p22=>?_) fun p22=>?_
     ·refine At.c 3 ?_ ?_
      ·refine bi fun e23 he23=>?_
       refine At.d 0 (dE1 9 (fun _=>cF hT (eL 2 aD.enc) he23) dE0) dF0 ?_
       refine At.c 9 ?_ ?_
       ·apply rt;exact At.jn 13
       ·apply rt;exact At.jn 0
      ·apply rt;exact At.jn 0
     ·refine bi fun r24 hr24=>?_
      refine At.d 0 (dE2 11 (aB.enc r24) (fun _=>aO (aAm hr24)) dE0) dF0 ?_
      refine At.J 0 1 [2] 9 (fun p25=>([],[(0,.var (.st 26 [(aH.enc a1),(.ref 1 [] 0),(.ref 2 [] 0),(aB.enc a2),(aB.enc a3),(j64 a4),(eB a5),(aG.enc p25)]))],[])) (fun p25=>?_) fun p25=>?_
      ·refine lx ?_;intro x26
       refine At.c 12 ?_ ?_
       ·refine bi fun r27 hr27=>?_
        refine bi fun r28 hr28=>?_
        refine bi fun r29 hr29=>?_
        refine bi fun r30 hr30=>?_
        refine At.d 0 (dE2 3 (aB.enc r27) (fun _=>aO (qW hr27)) (dE2 9 (aB.enc r28) (fun _=>aO (qW hr28)) (dE2 10 (aB.enc r29) (fun _=>aO (aBF hr29)) (dE2 11 (j64 r30) (fun _=>aO (aCR hr30)) dE0)))) dF0 ?_
        refine At.c 2 ?_ ?_
        ·apply rt;exact At.jn 5
        ·apply rt;exact At.jn 0
       ·apply rt;exact At.jn 0
      ·apply rt;exact At.r 3
def iQ (N:Nat) (b4:(List (List aD))) (a1:(List aB)) (a2:aH) (a3 a4:aB) (a5:Int) (a6:Bool) (a7:aG) (a8:aF) (a9:aI) (a10:aB) (a11:aJ) (a12:aA) (a13:aM):Option (aB):=
 cond (!a6) (
  Option.bind (wF 24 (([a3]:List aB)) a1) fun z1=>
  Option.bind (iL N z1) fun r2=>
  Option.bind (kZ N ([a4,r2])) fun r3=>
  some r3) (
  some a4)
theorem rU {N b4 a1 a2 a3 a4 a5 a6 a7 a8 a9 a10 a11 a12 a13 r} (h:iQ N b4 a1 a2 a3 a4 a5 a6 a7 a8 a9 a10 a11 a12 a13=some r):FnM Tryz.prog 86 [.var (.st 26 [(aH.enc a2),(.ref 1 [] 0),(.ref 2 [] 0),(aB.enc a3),(aB.enc a4),(j64 a5),(eB a6),(aG.enc a7)]),.var (.st 38 [(aF.enc a8),(aI.enc a9),(.ifc 91 (.ref 3 [] 0)),(eO 4 1 (eL 2 aD.enc) b4),(aB.enc a10),(aJ.enc a11)]),.var (aA.enc a12),.var (aM.enc a13),.tail (b4.length*1)] [(.ref 0 [] 0),(eL 3 aB.enc a1)] (.tup []) [.var (.st 26 [(aH.enc a2),(.ref 1 [] 0),(.ref 2 [] 0),(aB.enc a3),(aB.enc r),(j64 a5),(eB a6),(aG.enc a7)]),.var (.st 38 [(aF.enc a8),(aI.enc a9),(.ifc 91 (.ref 3 [] 0)),(eO 4 1 (eL 2 aD.enc) b4),(aB.enc a10),(aJ.enc a11)]),.var (aA.enc a12),.var (aM.enc a13),.tail (b4.length*1)]:=by
 unfold iQ at h
 refine At.f dM hT hmo Tryz.func86 rfl h ?_
 refine At.c 5 ?_ ?_
 ·refine bi fun z1 hz1=>?_
  refine bi fun r2 hr2=>?_
  refine bi fun r3 hr3=>?_
  refine At.d 0 (dE2 12 (aB.enc r2) (fun _=>aO (qK hr2)) (dE1 13 (fun _=>cI hT (x:=(.sl 3 2 [(aB.enc a4),(aB.enc r2)]))) (dE2 14 (aB.enc r3) (fun _=>aO (wJ hr3)) dE0))) (dF 9 (eO 5 3 aB.enc (([a3]:List aB))) [] [.tail ((([a3]:List aB)).length*3)] (bS (vI hT aB.enc (k:=3) ([a3]:List aB) (by kernel_rfl) (by kernel_rfl))) (dF 11 (eO 5 3 aB.enc z1) [(5,.tail (z1.length*3))] [] (bS (nR hT aB.enc (id:=5) (k:=3) hz1)) dF0)) ?_
  apply rt;exact At.z 0
 ·apply rt;exact At.z 0
def fA (N:Nat) (b4:(List (List aD))) (a1:Bool) (a2:aH) (a3 a4:aB) (a5:Int) (a6:Bool) (a7:aG) (a8:aF) (a9:aI) (a10:aB) (a11:aJ) (a12:aA) (a13:aM):Option (Unit):=
 some (())
theorem jH {N b4 a1 a2 a3 a4 a5 a6 a7 a8 a9 a10 a11 a12 a13 r} (h:fA N b4 a1 a2 a3 a4 a5 a6 a7 a8 a9 a10 a11 a12 a13=some r):FnM Tryz.prog 87 [.var (.st 26 [(aH.enc a2),(.ref 1 [] 0),(.ref 2 [] 0),(aB.enc a3),(aB.enc a4),(j64 a5),(eB a6),(aG.enc a7)]),.var (.st 38 [(aF.enc a8),(aI.enc a9),(.ifc 91 (.ref 3 [] 0)),(eO 4 1 (eL 2 aD.enc) b4),(aB.enc a10),(aJ.enc a11)]),.var (aA.enc a12),.var (aM.enc a13),.tail (b4.length*1)] [(.ref 0 [] 0),(eB a1)] (.tup []) [.var (.st 26 [(aH.enc a2),(.ref 1 [] 0),(.ref 2 [] 0),(aB.enc a3),(aB.enc a4),(j64 a5),(eB (cond a6 true a1)),(aG.enc a7)]),.var (.st 38 [(aF.enc a8),(aI.enc a9),(.ifc 91 (.ref 3 [] 0)),(eO 4 1 (eL 2 aD.enc) b4),(aB.enc a10),(aJ.enc a11)]),.var (aA.enc a12),.var (aM.enc a13),.tail (b4.length*1)]:=by
 unfold fA at h
 refine At.f dM hT hmo Tryz.func87 rfl h ?_
 apply rt;exact At.z 11
def iP (N:Nat) (a0 a1 a2:Int) (a3:(Vector Int 2)):Option (Int):=
 Option.bind (idx a3.toList 0) fun e1=>
 Option.bind (iY N a1 (I64 e1) 4294967296) fun r2=>
 Option.bind (idx a3.toList 1) fun e3=>
 Option.bind (iY N a2 (I64 e3) 4294967296) fun r4=>
 aV (I64 ((I64 (a0+r2))+r4)) fun x5=>
 some x5
theorem rX {N a0 a1 a2 a3 r} (h:iP N a0 a1 a2 a3=some r):FnM Tryz.prog 260 [] [(j64 a0),(j64 a1),(j64 a2),(.im (eA 2 1 k32 a3))] (j64 r) []:=by
 unfold iP at h
 refine At.f dM hT hmo Tryz.func260 rfl h ?_
 refine bi fun e1 he1=>?_
 refine bi fun r2 hr2=>?_
 refine bi fun e3 he3=>?_
 refine bi fun r4 hr4=>?_
 refine lx ?_;intro x5
 refine At.d 1 (dE1 2 (fun _=>cL hT (N:=2) (k:=1) k32 a3 he1) (dE2 5 (j64 r2) (fun _=>aO (sL hr2)) (dE1 8 (fun _=>cL hT (N:=2) (k:=1) k32 a3 he3) (dE2 11 (j64 r4) (fun _=>aO (sL hr4)) dE0)))) dF0 ?_
 apply rt;exact At.r 0
def aIr : Nat→Bool:=imL [2,3]
def uZ (N:Nat) (a0:aT) (a1:(Vector Int 2)):Option (aC):=
 cond (a0.gJ != 1) (
  some a0.gAt) (
  Option.bind (iP N a0.gAt.gX a0.gU.gX a0.gV.gX a1) fun r1=>
  Option.bind (iP N a0.gAt.gY a0.gU.gY a0.gV.gY a1) fun r2=>
  Option.bind (iP N a0.gAt.gZ a0.gU.gZ a0.gV.gZ a1) fun r3=>
  some (aC.mk r1 r2 r3))
theorem aG0 {N a0 a1 r} (h:uZ N a0 a1=some r):FnM Tryz.prog 230 [] [(aT.enc a0),(eA 2 1 k32 a1)] (aC.enc r) []:=by
 unfold uZ at h
 refine At.f aIr hT hmo Tryz.func230 rfl h ?_
 refine At.c 6 ?_ ?_
 ·apply rt;exact At.r 3
 ·refine At.o 0 (qL (x:=(.fn (.func 260) [] [(.im (eA 2 1 k32 a1))])) (by kernel_rfl) (by kernel_rfl)) ?_
  refine bi fun r1 hr1=>?_
  refine bi fun r2 hr2=>?_
  refine bi fun r3 hr3=>?_
  refine At.d 1 (dE2 10 (j64 r1) (fun _=>aO (rX hr1)) (dE2 21 (j64 r2) (fun _=>aO (rX hr2)) (dE2 32 (j64 r3) (fun _=>aO (rX hr3)) dE0))) dF0 ?_
  apply rt;exact At.r 0
def tT (N:Nat) (a0:Int):Option (Int):=
 aV (shr .u32 (U32 (a0*32769)) 16) fun x1=>
 some x1
theorem aB2 {N a0 r} (h:tT N a0=some r):FnM Tryz.prog 232 [] [(k32 a0)] (k32 r) []:=by
 unfold tT at h
 refine At.f dM hT hmo Tryz.func232 rfl h ?_
 refine lx ?_;intro x1
 apply rt;exact At.r 5
def nX (N:Nat) (a0:Int):Option (Int):=
 aV (I64 ((kL (I64 a0) 32768) - 16384)) fun x1=>
 some x1
theorem aAb {N a0 r} (h:nX N a0=some r):FnM Tryz.prog 261 [] [(k32 a0)] (j64 r) []:=by
 unfold nX at h
 refine At.f dM hT hmo Tryz.func261 rfl h ?_
 refine lx ?_;intro x1
 apply rt;exact At.r 6
def lQ (N:Nat) (a0:Int):Option (Int):=
 cond (decide (a0 < 0)) (some (I64 (0 - a0))) (some a0)
theorem tZ {N a0 r} (h:lQ N a0=some r):FnM Tryz.prog 262 [] [(j64 a0)] (j64 r) []:=by
 unfold lQ at h
 refine At.f dM hT hmo Tryz.func262 rfl h ?_
 refine At.c 3 ?_ ?_
 ·apply rt;exact At.r 3
 ·apply rt;exact At.r 2
def qY (N:Nat) (a0 a1:Int):Option (Int):=
 cond (decide (a1 < 0)) (some (I64 (0 - a0))) (some a0)
theorem aBm {N a0 a1 r} (h:qY N a0 a1=some r):FnM Tryz.prog 270 [] [(j64 a0),(j64 a1)] (j64 r) []:=by
 unfold qY at h
 refine At.f dM hT hmo Tryz.func270 rfl h ?_
 refine At.c 3 ?_ ?_
 ·apply rt;exact At.r 3
 ·apply rt;exact At.r 2
def wU (N:Nat) (a0 a1:Int):Option (Int×Int):=
 Option.bind (lQ N a1) fun r1=>
 Option.bind (qY N (I64 (16384 - r1)) a0) fun r2=>
 Option.bind (lQ N a0) fun r3=>
 Option.bind (qY N (I64 (16384 - r3)) a1) fun r4=>
 some ((r2,r4))
theorem aH9 {N a0 a1 r} (h:wU N a0 a1=some r):FnM Tryz.prog 263 [] [(j64 a0),(j64 a1)] (.tup [(j64 r.1),(j64 r.2)]) []:=by
 unfold wU at h
 refine At.f dM hT hmo Tryz.func263 rfl h ?_
 refine At.b 5 (fun _ e=>aN [] (tZ e)) fun r1=>?_
 refine At.b 2 (fun _ e=>aN [] (aBm e)) fun r2=>?_
 refine At.b 2 (fun _ e=>aN [] (tZ e)) fun r3=>?_
 refine At.b 2 (fun _ e=>aN [] (aBm e)) fun r4=>?_
 apply rt;exact At.r 2
def tV (N:Nat) (a0:Int):Option (aC):=
 Option.bind (nX N (shr .u32 a0 16)) fun r1=>
 Option.bind (nX N (eK .u32 a0 65535)) fun r2=>
 Option.bind (lQ N r1) fun r3=>
 Option.bind (lQ N r2) fun r4=>
 aV (I64 ((I64 (16384 - r3)) - r4)) fun x5=>
 Option.bind (cond (decide (x5 < 0)) (
  Option.bind (wU N r1 r2) fun r7=>
  some ((r7.1,r7.2))) (
  some ((r1,r2)))) fun p6=>
 some (aC.mk p6.1 p6.2 x5)
theorem aGG {N a0 r} (h:tV N a0=some r):FnM Tryz.prog 233 [] [(k32 a0)] (aC.enc r) []:=by
 unfold tV at h
 refine At.f dM hT hmo Tryz.func233 rfl h ?_
 refine At.b 5 (fun _ e=>aN [] (aAb e)) fun r1=>?_
 refine At.b 3 (fun _ e=>aN [] (aAb e)) fun r2=>?_
 refine At.b 3 (fun _ e=>aN [] (tZ e)) fun r3=>?_
 refine At.b 2 (fun _ e=>aN [] (tZ e)) fun r4=>?_
 refine lx ?_;intro x5
 refine At.J 2 1 [2,6] 1 (fun p6=>([(4,(j64 p6.1)),(5,(j64 p6.2))],[],[])) (fun p6=>?_) fun p6=>?_
 ·refine At.c 2 ?_ ?_
  ·refine At.b 2 (fun _ e=>aN [] (aH9 e)) fun r7=>?_
   apply rt;exact At.jn 5
  ·apply rt;exact At.jn 0
 ·apply rt;exact At.r 5
def rT (N:Nat) (a0:Int):Option (aC):=
 Option.bind (tT N (shr .u32 a0 16)) fun r1=>
 Option.bind (tT N (eK .u32 a0 65535)) fun r2=>
 aV (bor .u32 (shl .u32 r1 16) r2) fun x3=>
 Option.bind (tV N x3) fun r4=>
 some r4
theorem aAx {N a0 r} (h:rT N a0=some r):FnM Tryz.prog 169 [] [(k32 a0)] (aC.enc r) []:=by
 unfold rT at h
 refine At.f dM hT hmo Tryz.func169 rfl h ?_
 refine At.b 5 (fun _ e=>aN [] (aB2 e)) fun r1=>?_
 refine At.b 4 (fun _ e=>aN [] (aB2 e)) fun r2=>?_
 refine lx ?_;intro x3
 refine At.b 1 (fun _ e=>aN [] (aGG e)) fun r4=>?_
 apply rt;exact At.r 1
def aDy : Nat→Bool:=imL [3,4,5]
def pN (N:Nat) (a0:uG) (a1:aC) (a2:aB):Option (aC×Int):=
 Option.bind (fM N a0.gE0) fun r1=>
 Option.bind (rA N a2 r1) fun r2=>
 cond (decide (r2 < 0)) (
  Option.bind (tB N r2) fun r3=>
  Option.bind (tB N r2) fun r4=>
  Option.bind (mF N ([r3,r4])) fun r5=>
  some ((aC.mk (I64 (0 - a0.gE0.gX)) (I64 (0 - a0.gE0.gY)) (I64 (0 - a0.gE0.gZ)),r5))) (
  Option.bind (mF N ([r2,r2])) fun r6=>
  some ((a0.gE0,r6)))
theorem aDY {N a0 a1 a2 r} (h:pN N a0 a1 a2=some r):FnM Tryz.prog 309 [] [(uG.enc a0),(aC.enc a1),(aB.enc a2)] (.tup [(aC.enc r.1),(j64 r.2)]) []:=by
 unfold pN at h
 refine At.f aDy hT hmo Tryz.func309 rfl h ?_
 refine bi fun r1 hr1=>?_
 refine bi fun r2 hr2=>?_
 refine At.d 5 (dE2 3 (aB.enc r1) (fun _=>aO (lJ hr1)) (dE2 4 (j64 r2) (fun _=>aO (wC hr2)) dE0)) dF0 ?_
 refine At.c 2 ?_ ?_
 ·refine bi fun r3 hr3=>?_
  refine bi fun r4 hr4=>?_
  refine bi fun r5 hr5=>?_
  refine At.d 0 (dE2 14 (j64 r3) (fun _=>aO (aBB hr3)) (dE2 16 (j64 r4) (fun _=>aO (aBB hr4)) (dE1 17 (fun _=>cI hT (x:=(.sl 1 2 [(j64 r3),(j64 r4)]))) (dE2 18 (j64 r5) (fun _=>aO (uC hr5)) dE0)))) dF0 ?_
  apply rt;exact At.r 0
 ·refine bi fun r6 hr6=>?_
  refine At.d 0 (dE1 4 (fun _=>cI hT (x:=(.sl 1 2 [(j64 r2),(j64 r2)]))) (dE2 5 (j64 r6) (fun _=>aO (uC hr6)) dE0)) dF0 ?_
  apply rt;exact At.r 0
def aC8 : Nat→Bool:=imL [3,4,5]
def oK (N:Nat) (a0:uS) (a1:aC) (a2:aB):Option (aC×Int):=
 Option.bind (kY N a0.gE8 a1) fun r1=>
 Option.bind (fM N r1) fun r2=>
 Option.bind (rA N a2 r2) fun r3=>
 aV (aC.eq r1 (aC.mk 0 0 0)) fun x4=>
 aV (cond x4 true (decide (r3≤0))) fun x5=>
 cond x5 (
  some ((aC.mk 0 0 0,0))) (
  Option.bind (rD N r1 r1) fun r6=>
  Option.bind (iY N r3 1048576 r6) fun r7=>
  some ((r1,r7)))
theorem aCd {N a0 a1 a2 r} (h:oK N a0 a1 a2=some r):FnM Tryz.prog 308 [] [(uS.enc a0),(aC.enc a1),(aB.enc a2)] (.tup [(aC.enc r.1),(j64 r.2)]) []:=by
 unfold oK at h
 refine At.f aC8 hT hmo Tryz.func308 rfl h ?_
 refine At.b 8 (fun _ e=>aN [] (rO e)) fun r1=>?_
 refine bi fun r2 hr2=>?_
 refine bi fun r3 hr3=>?_
 refine At.d 1 (dE2 2 (aB.enc r2) (fun _=>aO (lJ hr2)) (dE2 3 (j64 r3) (fun _=>aO (wC hr3)) dE0)) dF0 ?_
 refine At.o 2 (aCB aAr (r1:aC) (aC.mk 0 0 0:aC) (by kernel_rfl) (by kernel_rfl) (fun _=>rfl) (fun _=>rfl) (by kernel_rfl) (by kernel_rfl)) ?_
 refine lx ?_;intro x4
 refine lx ?_;intro x5
 refine At.c 4 ?_ ?_
 ·apply rt;exact At.r 3
 ·refine bi fun r6 hr6=>?_
  refine bi fun r7 hr7=>?_
  refine At.d 0 (dE2 4 (j64 r6) (fun _=>aO (zF hr6)) (dE2 5 (j64 r7) (fun _=>aO (sL hr7)) dE0)) dF0 ?_
  apply rt;exact At.r 0
def aGw : Nat→Bool:=imL [4,5,6,7]
def mY (N:Nat) (a0:aT) (a1:aC) (a2:aB) (a3:(Vector Int 2)):Option (jF):=
 Option.bind (Option.bind (oY N a0) fun r2=>
 cond (r2 != 0) (
  some true) (
  Option.bind (pU N a1 (aC.mk 1 0 0)) fun r3=>
  some (!r3))) fun p1=>
 cond p1 (
  some (jF.mk (aC.mk 0 0 0) false true (aB.mk 0 0 0))) (
  Option.bind (uZ N a0 a3) fun r4=>
  cond (a0.gJ==2) (
   Option.bind (idx a3.toList 0) fun e5=>
   Option.bind (rT N e5) fun r6=>
   Option.bind (pN N (uG.mk r6) a1 a2) fun r7=>
   cond (r7.2==0) (
    some (jF.mk (aC.mk 0 0 0) false true (aB.mk 0 0 0))) (
    Option.bind (oT N a0) fun r8=>
    Option.bind (iJ N r8 r7.2) fun r9=>
    some (jF.mk r7.1 true false r9))) (
   Option.bind (oK N (uS.mk r4) a1 a2) fun r10=>
   cond (aC.eq r10.1 (aC.mk 0 0 0)) (
    some (jF.mk (aC.mk 0 0 0) false true (aB.mk 0 0 0))) (
    Option.bind (oT N a0) fun r11=>
    Option.bind (iJ N r11 r10.2) fun r12=>
    some (jF.mk r10.1 false false r12))))
theorem aB5 {N a0 a1 a2 a3 r} (h:mY N a0 a1 a2 a3=some r):FnM Tryz.prog 166 [] [(aT.enc a0),(aC.enc a1),(aB.enc a2),(eA 2 1 k32 a3)] (jF.enc r) []:=by
 unfold mY at h
 refine At.f aGw hT hmo Tryz.func166 rfl h ?_
 refine At.J 8 0 [4,5,6,7,8,9] 2 (fun p1=>([(24,(eB p1))],[],[])) (fun p1=>?_) fun p1=>?_
 ·refine At.b 1 (fun _ e=>aN [] (aBu e)) fun r2=>?_
  refine At.s 19 2 ?_ ?_
  ·refine At.g [19] 5 ?_
   apply rt;exact At.jn 0
  ·refine At.g [19] 2 ?_
   refine At.b 0 (fun _ e=>aN [] (yR e)) fun r3=>?_
   refine At.g [19] 2 ?_
   apply rt;exact At.jn 0
 ·refine At.c 0 ?_ ?_
  ·apply rt;exact At.r 2
  ·refine At.b 2 (fun _ e=>aN [] (aG0 e)) fun r4=>?_
   refine At.o 1 (aCC hT (t:=309) (x:=(.st 3 [(aC.enc r4)])) (by kernel_rfl) (by kernel_rfl)) ?_
   refine At.c 4 ?_ ?_
   ·refine At.b 0 (fun _ e=>cL hT (N:=2) (k:=1) k32 a3 e) fun e5=>?_
    refine At.b 1 (fun _ e=>aN [] (aAx e)) fun r6=>?_
    refine At.o 1 (aCC hT (t:=313) (x:=(.st 3 [(aC.enc r6)])) (by kernel_rfl) (by kernel_rfl)) ?_
    refine At.b 4 (fun _ e=>aN [] (aDY e)) fun r7=>?_
    refine At.o 7 (aMI hT (t:=313) (u:=313) (x:=(.st 3 [(aC.enc r6)])) (y:=(.tup [(.st 3 [(aC.enc r6)]),(eB true)])) (by kernel_rfl) (by kernel_rfl)) ?_
    refine At.c 10 ?_ ?_
    ·apply rt;exact At.r 2
    ·refine bi fun r8 hr8=>?_
     refine bi fun r9 hr9=>?_
     refine At.d 0 (dE2 2 (aB.enc r8) (fun _=>aO (zC hr8)) (dE2 4 (aB.enc r9) (fun _=>aO (jW hr9)) dE0)) dF0 ?_
     apply rt;exact At.r 0
   ·refine At.b 3 (fun _ e=>aN [] (aCd e)) fun r10=>?_
    refine At.o 7 (aMI hT (t:=309) (u:=313) (x:=(.st 3 [(aC.enc r4)])) (y:=(.tup [(.st 3 [(.st 3 [(j64 0),(j64 0),(j64 0)])]),(eB false)])) (by kernel_rfl) (by kernel_rfl)) ?_
    refine At.o 10 (aCB aAr (r10.1:aC) (aC.mk 0 0 0:aC) (by kernel_rfl) (by kernel_rfl) (fun _=>rfl) (fun _=>rfl) (by kernel_rfl) (by kernel_rfl)) ?_
    refine At.c 0 ?_ ?_
    ·apply rt;exact At.r 2
    ·refine bi fun r11 hr11=>?_
     refine bi fun r12 hr12=>?_
     refine At.d 0 (dE2 2 (aB.enc r11) (fun _=>aO (zC hr11)) (dE2 4 (aB.enc r12) (fun _=>aO (jW hr12)) dE0)) dF0 ?_
     apply rt;exact At.r 0
def aA6 : Nat→Bool:=imL [7,8]
def bV (N:Nat) (s17:(List Int)) (a0 a1:aC) (a2 a3:Int) (a5:aM) (a4:Bool):Nat→Int→Int→Option (Sum (Int) (Int×Bool))
 | 0,_,_=>none
 | k+1,s19,s20=>
  aV (decide (s20 < ((s17.length:Int)))) fun x21=>
  cond x21 (
   Option.bind (idx s17 s20) fun e22=>
   Option.bind (cD N a0 a1 a2 a3 e22 (aM.mk a5.gQ a5.gA a5.gl (I64 (s19+1)))) fun r23=>
   Option.bind (cond r23.2 (
    aV (decide (r23.1.gT < r23.1.gM)) fun x25=>
    some (cond (!a4) true x25)) (
    some false)) fun p24=>
   cond p24 (
    some (Sum.inr ((I64 (s19+1),true)))) (
    bV N s17 a0 a1 a2 a3 a5 a4 k (I64 (s19+1)) (I64 (s20+1)))) (
   some (Sum.inl s19))
def cY (N:Nat) (a5:aM) (a0 a1:aC) (a2 a3:Int) (a4:Bool):Nat→(List Int)→Int→Nat→Option (Sum ((List Int)×Int) (Int×Bool))
 | 0,_,_,_=>none
 | k+1,s6,s7,s8=>
  aV (decide (((s8:Int)) > 0)) fun x9=>
  cond x9 (
   Option.bind (xN s6.length 0 s8 (I64 (((s8:Int)) - 1))) fun _=>
   Option.bind (s6[((I64 (((s8:Int)) - 1)).toNat)]?) fun e11=>
   Option.bind (idx a5.gQ.gO e11) fun e12=>
   Option.bind (aI2 s6.length 0 s8 0 (I64 (((s8:Int)) - 1))) fun _=>
   Option.bind (oF N e12.gLo e12.gHi a0 a1) fun r14=>
   cond (!r14.2) (
    cY N a5 a0 a1 a2 a3 a4 k s6 (I64 (s7+1)) ((I64 (((s8:Int)) - 1)).toNat)) (
    cond (decide (e12.gB3≥0)) (
     Option.bind (aJq 8 s6 ((I64 (((s8:Int)) - 1)).toNat) (([e12.gB4,e12.gB3]:List Int))) fun z15=>
     cY N a5 a0 a1 a2 a3 a4 k z15 (I64 (s7+1)) ((I64 (((s8:Int)) - 1)).toNat+2)) (
     aV (I64 (e12.gC4+e12.gC8)) fun x16=>
     Option.bind (wG a5.gQ.gC0 e12.gC4 x16) fun s17=>
     Option.bind (bV N s17 a0 a1 a2 a3 a5 a4 N (I64 (s7+1)) 0) fun o=>kK o (fun p18=>
      cY N a5 a0 a1 a2 a3 a4 k s6 p18 ((I64 (((s8:Int)) - 1)).toNat)) (fun r=>some (Sum.inr r))))) (
   some (Sum.inl ((s6,s7))))
def dJ (N:Nat) (a0 a1:aC) (a2 a3:Int) (a4:Bool) (a5:aM):Option (Int×Bool):=
 Option.bind (Option.bind (iH N a5) fun r2=>
 aV ((a5.gQ.gO.length:Int)) fun x3=>
 cond (cond r2 true (x3==0)) (
  some true) (
  Option.bind (pU N a0 a1) fun r4=>
  some (!r4))) fun p1=>
 cond p1 (
  some ((a5.gD7,false))) (
  Option.bind (cY N a5 a0 a1 a2 a3 a4 N (([0]:List Int)) a5.gD7 ((([0]:List Int)).length)) fun o=>kK o (fun p5=>
   some ((p5.2,false))) (fun r=>some r))
theorem lX {N a0 a1 a2 a3 a4 a5 r} (h:dJ N a0 a1 a2 a3 a4 a5=some r):FnM Tryz.prog 301 [.var (aM.enc a5)] [(.ref 0 [] 0),(aC.enc a0),(aC.enc a1),(k8 a2),(j64 a3),(eB a4)] (eB r.2) [.var (.st 5 [(aY.enc a5.gQ),(eB a5.gA),(eL 19 aE.enc a5.gl),(j64 r.1)])]:=by
 unfold dJ at h
 refine At.f aA6 hT hmo Tryz.func301 rfl h ?_
 refine At.J 3 0 [0,3,4,5,7,8] 1 (fun p1=>([(37,(eB p1))],[],[])) (fun p1=>?_) fun p1=>?_
 ·refine At.b 1 (fun _ e=>aN [0] (xP e)) fun r2=>?_
  refine lx ?_;intro x3
  refine At.s 32 10 ?_ ?_
  ·refine At.g [32] 5 ?_
   apply rt;exact At.jn 0
  ·refine At.g [32] 2 ?_
   refine At.b 0 (fun _ e=>aN [] (yR e)) fun r4=>?_
   refine At.g [32] 2 ?_
   apply rt;exact At.jn 0
 ·refine At.c 0 ?_ ?_
  ·apply rt;exact At.r 1
  ·refine At.o 0 (aDg hT j64 (k:=1) ([0]:List Int) (by kernel_rfl) (by kernel_rfl)) ?_
   refine At.gsub 1 13 ?_
   refine At.LS 0 [] 2 (fun p5=>([],[(0,.var (.st 5 [(aY.enc a5.gQ),(eB a5.gA),(eL 19 aE.enc a5.gl),(j64 p5.2)])),(1,.gro 1 (List.map j64 p5.1))],[])) (fun op5 J k=>∃ s6 s7 s8,cY N a5 a0 a1 a2 a3 a4 k s6 s7 s8=some op5∧J [0,3,4,5,7,8] 2 [(13,(.gro 1 1 s6.length (.sub 0 s8)))] [(0,.var (.st 5 [(aY.enc a5.gQ),(eB a5.gA),(eL 19 aE.enc a5.gl),(j64 s7)])),(1,.gro 1 (List.map j64 s6))] []) N (fun _ h=>⟨_,_,_,h,jr⟩) (fun op5 g5 k s hI=>?_) fun p5=>?_
   ·obtain ⟨s6,s7,s8,h,hj⟩:=hI
    cases k with
    | zero=>cases h
    | succ k=>
     refine At.jr hj ?_ h
     refine lx ?_;intro x9
     refine At.c 3 ?_ ?_
     ·refine bi fun u10 hu10=>?_
      refine bi fun e11 he11=>?_
      refine bi fun e12 he12=>?_
      refine At.d 0 (dE1 9 (fun _=>jS hT (id:=1) (k:=1) hu10 (by kernel_rfl) (by kernel_rfl)) (dET 10 (j64 e11) [[.var (.st 5 [(aY.enc a5.gQ),(eB a5.gA),(eL 19 aE.enc a5.gl),(j64 s7)]),.gro 1 (List.map j64 s6)],[.var (.st 5 [(aY.enc a5.gQ),(eB a5.gA),(eL 19 aE.enc a5.gl),(j64 s7)]),.gro 1 (List.map j64 s6),.var cv_8]] ⟨bS (oL hT j64 [] he11 rfl (by kernel_rfl) (by kernel_rfl)),bS (oL hT j64 [] he11 rfl (by kernel_rfl) (by kernel_rfl)),trivial⟩ (dE1 11 (fun _=>cF hT bC.enc he12) dE0))) dF0 ?_
      refine At.b 4 (fun _ e=>aFD hT (id:=1) (k:=1) (L:=s6.length) (lo0:=0) (m:=s8) e (by kernel_rfl) (by kernel_rfl)) fun s13=>?_
      refine At.b 15 (fun _ e=>aN [] (aDn e)) fun r14=>?_
      refine At.c 8 ?_ ?_
      ·exact fun h=>At.k 0 ⟨_,_,_,h,jr⟩
      ·refine At.c 3 ?_ ?_
       ·refine At.o 5 (cI hT (x:=(.sl 1 2 [(j64 e12.gB4),(j64 e12.gB3)]))) ?_
        refine At.b 0 (fun z15 e=>aEK hT j64 (id:=1) (k:=1) e (by kernel_rfl) (by kernel_rfl) (H':=[.var (.st 5 [(aY.enc a5.gQ),(eB a5.gA),(eL 19 aE.enc a5.gl),(j64 (I64 (s7+1)))]),.gro 1 (List.map j64 z15),.var (bC.enc e12),.var (aW.enc r14.1)]) (by kernel_rfl)) fun z15=>?_
        exact fun h=>At.k 1 ⟨_,_,_,h,jr⟩
       ·refine lx ?_;intro x16
        refine bi fun s17 hs17=>?_
        refine At.d 0 (dE1 12 (fun _=>zN hT (k:=1) j64 hs17) dE0) dF0 ?_
        refine At.LS 0 [0,3,4,5,7,8,13] 4 (fun p18=>([],[(0,.var (.st 5 [(aY.enc a5.gQ),(eB a5.gA),(eL 19 aE.enc a5.gl),(j64 p18)]))],[])) (fun op18 J k=>∃ s19 s20,bV N s17 a0 a1 a2 a3 a5 a4 k s19 s20=some op18∧J [0,3,4,5,7,8,13,101,102] 4 [(103,(j64 s20))] [(0,.var (.st 5 [(aY.enc a5.gQ),(eB a5.gA),(eL 19 aE.enc a5.gl),(j64 s19)]))] []) N (fun _ h=>⟨_,_,h,jr⟩) (fun op18 g18 k s hI=>?_) fun p18=>?_
        ·obtain ⟨s19,s20,h,hj⟩:=hI
         cases k with
         | zero=>cases h
         | succ k=>
          refine At.jr hj ?_ h
          refine lx ?_;intro x21
          refine At.c 1 ?_ ?_
          ·refine At.b 0 (fun _ e=>cF hT j64 e) fun e22=>?_
           refine At.b 16 (fun _ e=>aN [0] (tJ e)) fun r23=>?_
           refine At.J 6 0 [0,3,4,5,7,8,13,101,102,103] 5 (fun p24=>([(135,(eB p24))],[],[])) (fun p24=>?_) fun p24=>?_
           ·refine At.s 125 2 ?_ ?_
            ·refine lx ?_;intro x25
             refine At.g [125] 10 ?_
             apply rt;exact At.jn 0
            ·refine At.g [125,128] 10 ?_
             apply rt;exact At.jn 0
           ·refine At.c 0 ?_ ?_
            ·intro e;apply rtS2 g18 g5 e;exact At.r 1
            ·exact fun h=>At.k 2 ⟨_,_,h,jr⟩
          ·apply rt;exact At.xs 0
        ·exact fun h=>At.k 0 ⟨_,_,_,h,jr⟩
     ·apply rt;exact At.xs 0
   ·apply rt;exact At.r 1
def aBV : Nat→Bool:=imL [3]
def fV (N:Nat) (x1:Int) (a8:aF) (b4:(List (List aD))) (a2:aH) (a3:aB) (a5:Int) (a6:Bool) (a7:aG) (a9:aI) (a10:aB) (a11:aJ) (a1:aR):Nat→aB→aA→aM→Int→Option (aB×aA×aM)
 | 0,_,_,_,_=>none
 | k+1,s3,s4,s5,s6=>
  cond (decide (s6 < x1)) (
   Option.bind (Option.bind (idx a8.gF s6) fun e8=>
   aV (I64 (8+(I64 (2*s6)))) fun x9=>
   Option.bind (dW N b4 x9 a2 a3 s3 a5 a6 a7 a8 a9 a10 a11 s4 s5) fun r10=>
   aV (I64 (9+(I64 (2*s6)))) fun x11=>
   Option.bind (dW N b4 x11 a2 a3 s3 a5 a6 a7 a8 a9 a10 a11 (aA.mk r10.1 s4.gA s4.gC s4.gB s4.gD) s5) fun r12=>
   Option.bind (mY N e8 a1.gat a1.gn (#v[r10.2,r12.2])) fun r13=>
   aV (cond r13.gC2 (!a9.gB2) false) fun x14=>
   cond x14 (
    some ((s3,aA.mk r12.1 ((aA.mk r10.1 s4.gA s4.gC s4.gB s4.gD).gA) ((aA.mk r10.1 s4.gA s4.gC s4.gB s4.gD).gC) ((aA.mk r10.1 s4.gA s4.gC s4.gB s4.gD).gB) ((aA.mk r10.1 s4.gA s4.gC s4.gB s4.gD).gD),s5.gD7,e8,r13))) (
    Option.bind (Option.bind (dJ N a1.gat r13.gC6 2 a1.gi (!r13.gC7) s5) fun r16=>
    cond (!r16.2) (
     cond (!r13.gC2) (
      some ((r16.1,a1.gI.gJ==0))) (
      some ((r16.1,false)))) (
     some ((r16.1,false)))) fun p15=>
    cond p15.2 (
     Option.bind (iQ N b4 ([a1.gc,r13.gC3]) a2 a3 s3 a5 a6 a7 a8 a9 a10 a11 (aA.mk r12.1 ((aA.mk r10.1 s4.gA s4.gC s4.gB s4.gD).gA) ((aA.mk r10.1 s4.gA s4.gC s4.gB s4.gD).gC) ((aA.mk r10.1 s4.gA s4.gC s4.gB s4.gD).gB) ((aA.mk r10.1 s4.gA s4.gC s4.gB s4.gD).gD)) (aM.mk s5.gQ s5.gA s5.gl p15.1)) fun r17=>
     some ((r17,aA.mk r12.1 ((aA.mk r10.1 s4.gA s4.gC s4.gB s4.gD).gA) ((aA.mk r10.1 s4.gA s4.gC s4.gB s4.gD).gC) ((aA.mk r10.1 s4.gA s4.gC s4.gB s4.gD).gB) ((aA.mk r10.1 s4.gA s4.gC s4.gB s4.gD).gD),p15.1,e8,r13))) (
     some ((s3,aA.mk r12.1 ((aA.mk r10.1 s4.gA s4.gC s4.gB s4.gD).gA) ((aA.mk r10.1 s4.gA s4.gC s4.gB s4.gD).gC) ((aA.mk r10.1 s4.gA s4.gC s4.gB s4.gD).gB) ((aA.mk r10.1 s4.gA s4.gC s4.gB s4.gD).gD),p15.1,e8,r13))))) fun p7=>
   fV N x1 a8 b4 a2 a3 a5 a6 a7 a9 a10 a11 a1 k p7.1 p7.2.1 (aM.mk s5.gQ s5.gA s5.gl p7.2.2.1) (I64 (s6+1))) (
   some ((s3,s4,s5)))
def pB (N:Nat) (r18:Int×Int) (x19:Int) (a1:aR):Nat→aM→Int→Option (aM)
 | 0,_,_=>none
 | k+1,s21,s22=>
  aV (decide (s22 < (I64 (r18.2 - x19)))) fun x23=>
  cond x23 (
   Option.bind (dJ N a1.gat (aC.mk 0 0 0) 2 a1.gi false s21) fun r24=>
   pB N r18 x19 a1 k (aM.mk s21.gQ s21.gA s21.gl r24.1) (I64 (s22+1))) (
   some s21)
def kU (N:Nat) (b4:(List (List aD))) (a1:aR) (a2:aH) (a3 a4:aB) (a5:Int) (a6:Bool) (a7:aG) (a8:aF) (a9:aI) (a10:aB) (a11:aJ) (a12:aA) (a13:aM):Option (aB×aA×aM):=
 aV ((a8.gF.length:Int)) fun x1=>
 Option.bind (fV N x1 a8 b4 a2 a3 a5 a6 a7 a9 a10 a11 a1 N a4 a12 a13 0) fun p2=>
 cond (!a9.gB2) (
  some ((p2.1,p2.2.1,p2.2.2))) (
  Option.bind (jB N a9.gA3) fun r18=>
  aV ((a8.gF.length:Int)) fun x19=>
  Option.bind (pB N r18 x19 a1 N p2.2.2 0) fun p20=>
  some ((p2.1,p2.2.1,p20)))
theorem aAt {N b4 a1 a2 a3 a4 a5 a6 a7 a8 a9 a10 a11 a12 a13 r} (h:kU N b4 a1 a2 a3 a4 a5 a6 a7 a8 a9 a10 a11 a12 a13=some r):FnM Tryz.prog 88 [.var (.st 26 [(aH.enc a2),(.ref 1 [] 0),(.ref 2 [] 0),(aB.enc a3),(aB.enc a4),(j64 a5),(eB a6),(aG.enc a7)]),.var (.st 38 [(aF.enc a8),(aI.enc a9),(.ifc 91 (.ref 3 [] 0)),(eO 4 1 (eL 2 aD.enc) b4),(aB.enc a10),(aJ.enc a11)]),.var (aA.enc a12),.var (aM.enc a13),.tail (b4.length*1)] [(.ref 0 [] 0),(aR.enc a1)] (.tup []) [.var (.st 26 [(aH.enc a2),(.ref 1 [] 0),(.ref 2 [] 0),(aB.enc a3),(aB.enc r.1),(j64 a5),(eB a6),(aG.enc a7)]),.var (.st 38 [(aF.enc a8),(aI.enc a9),(.ifc 91 (.ref 3 [] 0)),(eO 4 1 (eL 2 aD.enc) b4),(aB.enc a10),(aJ.enc a11)]),.var (aA.enc r.2.1),.var (aM.enc r.2.2),.tail (b4.length*1)]:=by
 unfold kU at h
 refine At.f aBV hT hmo Tryz.func88 rfl h ?_
 refine lx ?_;intro x1
 refine At.L 11 [0,3] 5 (fun p2=>([],[(0,.var (.st 26 [(aH.enc a2),(.ref 1 [] 0),(.ref 2 [] 0),(aB.enc a3),(aB.enc p2.1),(j64 a5),(eB a6),(aG.enc a7)])),(2,.var (aA.enc p2.2.1)),(3,.var (aM.enc p2.2.2))],[])) (fun p2 J k=>∃ s3 s4 s5 s6,fV N x1 a8 b4 a2 a3 a5 a6 a7 a9 a10 a11 a1 k s3 s4 s5 s6=some p2∧J [0,3,16,17] 5 [(18,(j64 s6))] [(0,.var (.st 26 [(aH.enc a2),(.ref 1 [] 0),(.ref 2 [] 0),(aB.enc a3),(aB.enc s3),(j64 a5),(eB a6),(aG.enc a7)])),(2,.var (aA.enc s4)),(3,.var (aM.enc s5))] []) N (fun _ h=>⟨_,_,_,_,h,jr⟩) (fun p2 k s hI=>?_) fun p2=>?_
 ·obtain ⟨s3,s4,s5,s6,h,hj⟩:=hI
  cases k with
  | zero=>cases h
  | succ k=>
   refine At.jr hj ?_ h
   refine At.c 1 ?_ ?_
   ·refine At.J 0 2 [0,3,16,17,18] 5 (fun p7=>([],[(0,.var (.st 26 [(aH.enc a2),(.ref 1 [] 0),(.ref 2 [] 0),(aB.enc a3),(aB.enc p7.1),(j64 a5),(eB a6),(aG.enc a7)])),(2,.var (aA.enc p7.2.1)),(3,.var (.st 5 [(aY.enc s5.gQ),(eB s5.gA),(eL 19 aE.enc s5.gl),(j64 p7.2.2.1)]))],[.var (aT.enc p7.2.2.2.1),.var (jF.enc p7.2.2.2.2)])) (fun p7=>?_) fun p7=>?_
    ·refine At.b 1 (fun _ e=>cF hT aT.enc e) fun e8=>?_
     refine lx ?_;intro x9
     refine bi fun r10 hr10=>?_
     refine lx ?_;intro x11
     refine bi fun r12 hr12=>?_
     refine bi fun r13 hr13=>?_
     refine At.d2 4 [false] (dC2 16 (jF.enc r13) (fun _=>aO (aB5 hr13)) dC0) (dS1 9 ⟨(k32 r10.2),2,.var (.st 72 [(aU.enc r10.1),(eB s4.gA),(k64 s4.gC),(j64 s4.gB),(j64 s4.gD)]),.var (aA.enc s4)⟩ [[.var (.st 26 [(aH.enc a2),(.ref 1 [] 0),(.ref 2 [] 0),(aB.enc a3),(aB.enc s3),(j64 a5),(eB a6),(aG.enc a7)]),.var (.st 38 [(aF.enc a8),(aI.enc a9),(.ifc 91 (.ref 3 [] 0)),(eO 4 1 (eL 2 aD.enc) b4),(aB.enc a10),(aJ.enc a11)]),.var (aA.enc s4),.var (aM.enc s5),.tail (b4.length*1),.var (aT.enc e8),.dead],[.var (.st 26 [(aH.enc a2),(.ref 1 [] 0),(.ref 2 [] 0),(aB.enc a3),(aB.enc s3),(j64 a5),(eB a6),(aG.enc a7)]),.var (.st 38 [(aF.enc a8),(aI.enc a9),(.ifc 91 (.ref 3 [] 0)),(eO 4 1 (eL 2 aD.enc) b4),(aB.enc a10),(aJ.enc a11)]),.var (aA.enc s4),.var (aM.enc s5),.tail (b4.length*1),.var (aT.enc e8),.var aNE]] ⟨bS (aN [0,1,2,3,4] (dA hr10)),bS (aN [0,1,2,3,4] (dA hr10)),trivial⟩ (dS1 14 ⟨(k32 r12.2),2,.var (.st 72 [(aU.enc r12.1),(eB ((aA.mk r10.1 s4.gA s4.gC s4.gB s4.gD).gA)),(k64 ((aA.mk r10.1 s4.gA s4.gC s4.gB s4.gD).gC)),(j64 ((aA.mk r10.1 s4.gA s4.gC s4.gB s4.gD).gB)),(j64 ((aA.mk r10.1 s4.gA s4.gC s4.gB s4.gD).gD))]),.var (.st 72 [(aU.enc r10.1),(eB s4.gA),(k64 s4.gC),(j64 s4.gB),(j64 s4.gD)])⟩ [[.var (.st 26 [(aH.enc a2),(.ref 1 [] 0),(.ref 2 [] 0),(aB.enc a3),(aB.enc s3),(j64 a5),(eB a6),(aG.enc a7)]),.var (.st 38 [(aF.enc a8),(aI.enc a9),(.ifc 91 (.ref 3 [] 0)),(eO 4 1 (eL 2 aD.enc) b4),(aB.enc a10),(aJ.enc a11)]),.var (.st 72 [(aU.enc r10.1),(eB s4.gA),(k64 s4.gC),(j64 s4.gB),(j64 s4.gD)]),.var (aM.enc s5),.tail (b4.length*1),.var (aT.enc e8),.dead],[.var (.st 26 [(aH.enc a2),(.ref 1 [] 0),(.ref 2 [] 0),(aB.enc a3),(aB.enc s3),(j64 a5),(eB a6),(aG.enc a7)]),.var (.st 38 [(aF.enc a8),(aI.enc a9),(.ifc 91 (.ref 3 [] 0)),(eO 4 1 (eL 2 aD.enc) b4),(aB.enc a10),(aJ.enc a11)]),.var (.st 72 [(aU.enc r10.1),(eB s4.gA),(k64 s4.gC),(j64 s4.gB),(j64 s4.gD)]),.var (aM.enc s5),.tail (b4.length*1),.var (aT.enc e8),.var aNE]] ⟨bS (aN [0,1,2,3,4] (dA hr12)),bS (aN [0,1,2,3,4] (dA hr12)),trivial⟩ (dS1 17 ⟨(.ref 6 [] 0),6,.var aNE,.dead⟩ [[.var (.st 26 [(aH.enc a2),(.ref 1 [] 0),(.ref 2 [] 0),(aB.enc a3),(aB.enc s3),(j64 a5),(eB a6),(aG.enc a7)]),.var (.st 38 [(aF.enc a8),(aI.enc a9),(.ifc 91 (.ref 3 [] 0)),(eO 4 1 (eL 2 aD.enc) b4),(aB.enc a10),(aJ.enc a11)]),.var (aA.enc s4),.var (aM.enc s5),.tail (b4.length*1),.var (aT.enc e8),.dead],[.var (.st 26 [(aH.enc a2),(.ref 1 [] 0),(.ref 2 [] 0),(aB.enc a3),(aB.enc s3),(j64 a5),(eB a6),(aG.enc a7)]),.var (.st 38 [(aF.enc a8),(aI.enc a9),(.ifc 91 (.ref 3 [] 0)),(eO 4 1 (eL 2 aD.enc) b4),(aB.enc a10),(aJ.enc a11)]),.var (.st 72 [(aU.enc r12.1),(eB ((aA.mk r10.1 s4.gA s4.gC s4.gB s4.gD).gA)),(k64 ((aA.mk r10.1 s4.gA s4.gC s4.gB s4.gD).gC)),(j64 ((aA.mk r10.1 s4.gA s4.gC s4.gB s4.gD).gB)),(j64 ((aA.mk r10.1 s4.gA s4.gC s4.gB s4.gD).gD))]),.var (aM.enc s5),.tail (b4.length*1),.var (aT.enc e8),.dead],[.var (.st 26 [(aH.enc a2),(.ref 1 [] 0),(.ref 2 [] 0),(aB.enc a3),(aB.enc s3),(j64 a5),(eB a6),(aG.enc a7)]),.var (.st 38 [(aF.enc a8),(aI.enc a9),(.ifc 91 (.ref 3 [] 0)),(eO 4 1 (eL 2 aD.enc) b4),(aB.enc a10),(aJ.enc a11)]),.var (.st 72 [(aU.enc r10.1),(eB s4.gA),(k64 s4.gC),(j64 s4.gB),(j64 s4.gD)]),.var (aM.enc s5),.tail (b4.length*1),.var (aT.enc e8),.dead],[.var (.st 26 [(aH.enc a2),(.ref 1 [] 0),(.ref 2 [] 0),(aB.enc a3),(aB.enc s3),(j64 a5),(eB a6),(aG.enc a7)]),.var (.st 38 [(aF.enc a8),(aI.enc a9),(.ifc 91 (.ref 3 [] 0)),(eO 4 1 (eL 2 aD.enc) b4),(aB.enc a10),(aJ.enc a11)]),.var (.st 72 [(aU.enc r12.1),(eB ((aA.mk r10.1 s4.gA s4.gC s4.gB s4.gD).gA)),(k64 ((aA.mk r10.1 s4.gA s4.gC s4.gB s4.gD).gC)),(j64 ((aA.mk r10.1 s4.gA s4.gC s4.gB s4.gD).gB)),(j64 ((aA.mk r10.1 s4.gA s4.gC s4.gB s4.gD).gD))]),.var (aM.enc s5),.tail (b4.length*1),.var (aT.enc e8),.dead]] ⟨aX hT 6 (by kernel_rfl) (by kernel_rfl) (by kernel_rfl),aX hT 6 (by kernel_rfl) (by kernel_rfl) (by kernel_rfl),aX hT 6 (by kernel_rfl) (by kernel_rfl) (by kernel_rfl),aX hT 6 (by kernel_rfl) (by kernel_rfl) (by kernel_rfl),trivial⟩ dS0))) ?_
     refine lx ?_;intro x14
     refine At.c 13 ?_ ?_
     ·apply rt;exact At.jn 0
     ·refine At.J 0 0 [0,3,6,16,17,18] 7 (fun p15=>([(81,(eB p15.2))],[(3,.var (.st 5 [(aY.enc s5.gQ),(eB s5.gA),(eL 19 aE.enc s5.gl),(j64 p15.1)]))],[])) (fun p15=>?_) fun p15=>?_
      ·refine bi fun r16 hr16=>?_
       refine boI (fun hc18=>?_) (fun hc18=>?_)
       ·refine boI (fun hc23=>?_) (fun hc23=>?_)
        ·refine At.d 0 (dE1 18 (fun _=>dO hc18 rfl (dC hT (im:=false) (by kernel_rfl))) (dE1 23 (fun _=>dO hc23 rfl (dC hT (im:=false) (by kernel_rfl))) dE0)) (dF 16 (eB r16.2) [(3,.var (.st 5 [(aY.enc s5.gQ),(eB s5.gA),(eL 19 aE.enc s5.gl),(j64 r16.1)]))] [] (bS (aN [3] (lX hr16))) dF0) ?_
         apply rt;exact At.jn 0
        ·refine At.d 0 (dE1 18 (fun _=>dO hc18 rfl (dC hT (im:=false) (by kernel_rfl))) (dE1 23 (fun _=>dO hc23 rfl (dC hT (im:=false) (by kernel_rfl))) dE0)) (dF 16 (eB r16.2) [(3,.var (.st 5 [(aY.enc s5.gQ),(eB s5.gA),(eL 19 aE.enc s5.gl),(j64 r16.1)]))] [] (bS (aN [3] (lX hr16))) dF0) ?_
         apply rt;exact At.jn 0
       ·refine At.d 0 (dE1 18 (fun _=>dO hc18 rfl (dC hT (im:=false) (by kernel_rfl))) dE0) (dF 16 (eB r16.2) [(3,.var (.st 5 [(aY.enc s5.gQ),(eB s5.gA),(eL 19 aE.enc s5.gl),(j64 r16.1)]))] [] (bS (aN [3] (lX hr16))) dF0) ?_
        apply rt;exact At.jn 0
      ·refine At.c 0 ?_ ?_
       ·refine At.o 5 (cI hT (x:=(.sl 3 2 [(aB.enc a1.gc),(aB.enc r13.gC3)]))) ?_
        refine At.b 0 (fun _ e=>aN [0,1,2,3,4] (rU e)) fun r17=>?_
        apply rt;exact At.jn 0
       ·apply rt;exact At.jn 0
    ·exact fun h=>At.k 2 ⟨_,_,_,_,h,jr⟩
   ·apply rt;exact At.x 0
 ·refine At.c 9 ?_ ?_
  ·apply rt;exact At.r 0
  ·refine At.b 8 (fun _ e=>aN [] (tC e)) fun r18=>?_
   refine lx ?_;intro x19
   refine At.L 17 [] 5 (fun p20=>([],[(3,.var (aM.enc p20))],[])) (fun p20 J k=>∃ s21 s22,pB N r18 x19 a1 k s21 s22=some p20∧J [0,3,121] 5 [(122,(j64 s22))] [(3,.var (aM.enc s21))] []) N (fun _ h=>⟨_,_,h,jr⟩) (fun p20 k s hI=>?_) fun p20=>?_
   ·obtain ⟨s21,s22,h,hj⟩:=hI
    cases k with
    | zero=>cases h
    | succ k=>
     refine At.jr hj ?_ h
     refine lx ?_;intro x23
     refine At.c 1 ?_ ?_
     ·refine bi fun r24 hr24=>?_
      refine At.d 0 dE0 (dF 12 (eB r24.2) [(3,.var (.st 5 [(aY.enc s21.gQ),(eB s21.gA),(eL 19 aE.enc s21.gl),(j64 r24.1)]))] [] (bS (aN [3] (lX hr24))) dF0) ?_
      exact fun h=>At.k 2 ⟨_,_,h,jr⟩
     ·apply rt;exact At.x 0
   ·apply rt;exact At.z 0
def aC6 : Nat→Bool:=imL [3,4]
def oG (N:Nat) (a0 a1:aB) (a2:Int):Option (cR):=
 Option.bind (rT N a2) fun r1=>
 Option.bind (fM N r1) fun r2=>
 Option.bind (rA N a1 r2) fun r3=>
 Option.bind (cond (decide (r3 < 0)) (
  Option.bind (tB N r3) fun r5=>
  some ((aC.mk (I64 (0 - r1.gX)) (I64 (0 - r1.gY)) (I64 (0 - r1.gZ)),r5))) (
  some ((r1,r3)))) fun p4=>
 cond (p4.2==0) (
  some (cR.mk (aC.mk 0 0 0) (aB.mk 0 0 0) true)) (
  Option.bind (mF N ([p4.2,p4.2])) fun r6=>
  Option.bind (iJ N a0 r6) fun r7=>
  some (cR.mk p4.1 r7 false))
theorem aCr {N a0 a1 a2 r} (h:oG N a0 a1 a2=some r):FnM Tryz.prog 167 [] [(aB.enc a0),(aB.enc a1),(k32 a2)] (cR.enc r) []:=by
 unfold oG at h
 refine At.f aC6 hT hmo Tryz.func167 rfl h ?_
 refine At.b 4 (fun _ e=>aN [] (aAx e)) fun r1=>?_
 refine bi fun r2 hr2=>?_
 refine bi fun r3 hr3=>?_
 refine At.d 2 (dE2 2 (aB.enc r2) (fun _=>aO (lJ hr2)) (dE2 3 (j64 r3) (fun _=>aO (wC hr3)) dE0)) dF0 ?_
 refine At.J 0 1 [3,6,7] 2 (fun p4=>([(8,(j64 p4.2))],[(1,.var (aC.enc p4.1))],[])) (fun p4=>?_) fun p4=>?_
 ·refine At.c 2 ?_ ?_
  ·refine bi fun r5 hr5=>?_
   refine At.d 0 (dE2 11 (j64 r5) (fun _=>aO (aBB hr5)) dE0) dF0 ?_
   apply rt;exact At.jn 0
  ·apply rt;exact At.jn 0
 ·refine At.c 2 ?_ ?_
  ·apply rt;exact At.r 2
  ·refine bi fun r6 hr6=>?_
   refine bi fun r7 hr7=>?_
   refine At.d 0 (dE1 4 (fun _=>cI hT (x:=(.sl 1 2 [(j64 p4.2),(j64 p4.2)]))) (dE2 5 (j64 r6) (fun _=>aO (uC hr6)) (dE2 6 (aB.enc r7) (fun _=>aO (jW hr7)) dE0))) dF0 ?_
   apply rt;exact At.r 0
def aD9 : Nat→Bool:=imL [2,3]
def lD (N:Nat) (a0:aB) (a1:aC):Option (aB):=
 Option.bind (fM N a1) fun r1=>
 Option.bind (rA N a0 r1) fun r2=>
 Option.bind (mF N ([r2,r2])) fun r3=>
 Option.bind (iJ N a0 r3) fun r4=>
 Option.bind (tA N r1 r4) fun r5=>
 some r5
theorem vH {N a0 a1 r} (h:lD N a0 a1=some r):FnM Tryz.prog 168 [] [(aB.enc a0),(aC.enc a1)] (aB.enc r) []:=by
 unfold lD at h
 refine At.f aD9 hT hmo Tryz.func168 rfl h ?_
 refine At.b 4 (fun _ e=>aN [] (lJ e)) fun r1=>?_
 refine At.b 4 (fun _ e=>aN [] (wC e)) fun r2=>?_
 refine bi fun r3 hr3=>?_
 refine bi fun r4 hr4=>?_
 refine bi fun r5 hr5=>?_
 refine At.d 1 (dE1 4 (fun _=>cI hT (x:=(.sl 1 2 [(j64 r2),(j64 r2)]))) (dE2 5 (j64 r3) (fun _=>aO (uC hr3)) (dE2 6 (aB.enc r4) (fun _=>aO (jW hr4)) (dE2 7 (aB.enc r5) (fun _=>aO (aBF hr5)) dE0)))) dF0 ?_
 apply rt;exact At.r 0
def aEx : Nat→Bool:=imL [2,3]
def kG (N:Nat) (a0 a1:aB):Option (cR):=
 Option.bind (tE N a0) fun r1=>
 cond (r1.2 != 0) (
  some (cR.mk (aC.mk 0 0 0) (aB.mk 0 0 0) true)) (
  some (cR.mk r1.1 a1 false))
theorem sN {N a0 a1 r} (h:kG N a0 a1=some r):FnM Tryz.prog 171 [] [(aB.enc a0),(aB.enc a1)] (cR.enc r) []:=by
 unfold kG at h
 refine At.f aEx hT hmo Tryz.func171 rfl h ?_
 refine At.b 4 (fun _ e=>aN [] (aCU e)) fun r1=>?_
 refine At.c 8 ?_ ?_
 ·apply rt;exact At.r 2
 ·apply rt;exact At.r 4
def aDf : Nat→Bool:=imL [5,6,7,8,9]
def iT (N:Nat) (a0:aQ) (a1 a2:aB) (a3:aC) (a4:(Vector Int 2)):Option (cR):=
 cond (a0.gJ==0) (
  Option.bind (idx a4.toList 0) fun e1=>
  Option.bind (oG N a1 a2 e1) fun r2=>
  some r2) (
  cond (a0.gJ==2) (
   Option.bind (jO N a0.gD6) fun r3=>
   Option.bind (jO N 65535) fun r4=>
   Option.bind (pH N r3 r4) fun r5=>
   Option.bind (lD N a2 a3) fun r6=>
   Option.bind (idx a4.toList 0) fun e7=>
   Option.bind (rT N e7) fun r8=>
   Option.bind (fM N r8) fun r9=>
   Option.bind (iJ N r9 r5) fun r10=>
   Option.bind (kZ N ([r6,r10])) fun r11=>
   Option.bind (rA N a2 r11) fun r12=>
   cond (decide (r12≤0)) (
    some (cR.mk (aC.mk 0 0 0) (aB.mk 0 0 0) true)) (
    Option.bind (kG N r11 a1) fun r13=>
    some r13)) (
   cond (a0.gJ==3) (
    Option.bind (idx a4.toList 1) fun e14=>
    Option.bind (pM N e14 65536) fun r15=>
    aV (decide (r15≥a0.gD6)) fun x16=>
    cond x16 (
     Option.bind (fM N a3) fun r17=>
     Option.bind (kG N r17 a1) fun r18=>
     some r18) (
     Option.bind (lD N a2 a3) fun r19=>
     Option.bind (kG N r19 a1) fun r20=>
     some r20)) (
    cond (a0.gJ==1) (
     Option.bind (lD N a2 a3) fun r21=>
     Option.bind (kG N r21 a1) fun r22=>
     some r22) (
     some (cR.mk (aC.mk 0 0 0) (aB.mk 0 0 0) true)))))
theorem yZ {N a0 a1 a2 a3 a4 r} (h:iT N a0 a1 a2 a3 a4=some r):FnM Tryz.prog 89 [] [(aQ.enc a0),(aB.enc a1),(aB.enc a2),(aC.enc a3),(eA 2 1 k32 a4)] (cR.enc r) []:=by
 unfold iT at h
 refine At.f aDf hT hmo Tryz.func89 rfl h ?_
 refine At.c 10 ?_ ?_
 ·refine At.b 2 (fun _ e=>cL hT (N:=2) (k:=1) k32 a4 e) fun e1=>?_
  refine At.b 1 (fun _ e=>aN [] (aCr e)) fun r2=>?_
  apply rt;exact At.r 1
 ·refine At.c 2 ?_ ?_
  ·refine At.b 2 (fun _ e=>aN [] (kW e)) fun r3=>?_
   refine At.b 0 (fun _ e=>aN [] (kW e)) fun r4=>?_
   refine At.b 0 (fun _ e=>aN [] (uI e)) fun r5=>?_
   refine bi fun r6 hr6=>?_
   refine bi fun e7 he7=>?_
   refine bi fun r8 hr8=>?_
   refine bi fun r9 hr9=>?_
   refine bi fun r10 hr10=>?_
   refine bi fun r11 hr11=>?_
   refine At.d 1 (dE2 2 (aB.enc r6) (fun _=>aO (vH hr6)) (dE1 3 (fun _=>cL hT (N:=2) (k:=1) k32 a4 he7) (dE2 5 (aC.enc r8) (fun _=>aO (aAx hr8)) (dE2 6 (aB.enc r9) (fun _=>aO (lJ hr9)) (dE2 8 (aB.enc r10) (fun _=>aO (jW hr10)) (dE1 9 (fun _=>cI hT (x:=(.sl 3 2 [(aB.enc r6),(aB.enc r10)]))) (dE2 10 (aB.enc r11) (fun _=>aO (wJ hr11)) dE0))))))) dF0 ?_
   refine At.b 2 (fun _ e=>aN [] (wC e)) fun r12=>?_
   refine At.c 1 ?_ ?_
   ·apply rt;exact At.r 2
   ·refine At.b 2 (fun _ e=>aN [] (sN e)) fun r13=>?_
    apply rt;exact At.r 1
  ·refine At.c 2 ?_ ?_
   ·refine bi fun e14 he14=>?_
    refine bi fun r15 hr15=>?_
    refine lx ?_;intro x16
    refine At.d 0 (dE1 0 (fun _=>cL hT (N:=2) (k:=1) k32 a4 he14) (dE2 2 (j64 r15) (fun _=>aO (aBP hr15)) dE0)) dF0 ?_
    refine At.c 0 ?_ ?_
    ·refine bi fun r17 hr17=>?_
     refine bi fun r18 hr18=>?_
     refine At.d 0 (dE2 1 (aB.enc r17) (fun _=>aO (lJ hr17)) (dE2 3 (cR.enc r18) (fun _=>aO (sN hr18)) dE0)) dF0 ?_
     apply rt;exact At.r 0
    ·refine bi fun r19 hr19=>?_
     refine bi fun r20 hr20=>?_
     refine At.d 0 (dE2 2 (aB.enc r19) (fun _=>aO (vH hr19)) (dE2 4 (cR.enc r20) (fun _=>aO (sN hr20)) dE0)) dF0 ?_
     apply rt;exact At.r 0
   ·refine At.c 2 ?_ ?_
    ·refine bi fun r21 hr21=>?_
     refine bi fun r22 hr22=>?_
     refine At.d 0 (dE2 2 (aB.enc r21) (fun _=>aO (vH hr21)) (dE2 4 (cR.enc r22) (fun _=>aO (sN hr22)) dE0)) dF0 ?_
     apply rt;exact At.r 0
    ·apply rt;exact At.r 2
def aAD (N:Nat) (a0 a1 a2:Int):Option (Int):=
 some (kL (jL a0 a1) a2)
theorem aIW {N a0 a1 a2 r} (h:aAD N a0 a1 a2=some r):FnM Tryz.prog 174 [] [(j64 a0),(j64 a1),(j64 a2)] (j64 r) []:=by
 unfold aAD at h
 refine At.f dM hT hmo Tryz.func174 rfl h ?_
 apply rt;exact At.r 7
def iD (N:Nat) (a0 a1:Int):Option (Int):=
 Option.bind (pH N a0 a1) fun r1=>
 some r1
theorem oU {N a0 a1 r} (h:iD N a0 a1=some r):FnM Tryz.prog 175 [] [(j64 a0),(.im (j64 a1))] (j64 r) []:=by
 unfold iD at h
 refine At.f dM hT hmo Tryz.func175 rfl h ?_
 refine At.b 3 (fun _ e=>aN [] (uI e)) fun r1=>?_
 apply rt;exact At.r 1
def aC3 : Nat→Bool:=imL [2]
def eT (N:Nat) (a0:aB) (a1:Int):Option (aB×Bool):=
 Option.bind (wB N a0) fun r1=>
 Option.bind (aAD N r1 268435456 4294967296) fun r2=>
 Option.bind (oW N a1) fun r3=>
 cond (decide (r3≥r2)) (
  some ((aB.mk 0 0 0,false))) (
  Option.bind (iD N a0.gX r2) fun r4=>
  Option.bind (iD N a0.gY r2) fun r5=>
  Option.bind (iD N a0.gZ r2) fun r6=>
  some ((aB.mk r4 r5 r6,true)))
theorem xO {N a0 a1 r} (h:eT N a0 a1=some r):FnM Tryz.prog 91 [] [(aB.enc a0),(k32 a1)] (.tup [(aB.enc r.1),(eB r.2)]) []:=by
 unfold eT at h
 refine At.f aC3 hT hmo Tryz.func91 rfl h ?_
 refine At.b 4 (fun _ e=>aN [] (aEa e)) fun r1=>?_
 refine At.b 0 (fun _ e=>aN [] (aIW e)) fun r2=>?_
 refine bi fun r3 hr3=>?_
 refine At.d 2 (dE2 1 (j64 r3) (fun _=>aO (yV hr3)) dE0) dF0 ?_
 refine At.c 0 ?_ ?_
 ·apply rt;exact At.r 3
 ·refine At.gz 0 1 ((j64 r2)) ?_
  refine At.o 0 (qL (x:=(.fn (.func 175) [] [(.im (j64 r2))])) (by kernel_rfl) (by kernel_rfl)) ?_
  refine bi fun r4 hr4=>?_
  refine bi fun r5 hr5=>?_
  refine bi fun r6 hr6=>?_
  refine At.d 1 (dE2 3 (j64 r4) (fun _=>aO (oU hr4)) (dE2 7 (j64 r5) (fun _=>aO (oU hr5)) (dE2 11 (j64 r6) (fun _=>aO (oU hr6)) dE0))) dF0 ?_
  apply rt;exact At.r 0
def mK (N:Nat) (b4:(List (List aD))) (a1:aH) (a2 a3:aB) (a4:Int) (a5:Bool) (a6:aG) (a7:aF) (a8:aI) (a9:aB) (a10:aJ) (a11:aA) (a12:aM):Option (aH×aB×aB×Bool×aG×Int×aA×aM):=
 Option.bind (mO N b4 a1 a2 a3 a4 a5 a6 a7 a8 a9 a10 a11 a12) fun r1=>
 Option.bind (cond (!r1.2.2.2.2) (
  Option.bind (iQ N b4 ([a9]) a1 a2 a3 a4 a5 r1.1 a7 a8 a9 (aJ.mk a10.gK r1.2.1 (I64 (a10.gL+1))) a11 (aM.mk a12.gQ a12.gA a12.gl r1.2.2.1)) fun r3=>
  Option.bind (fA N b4 true a1 a2 r3 a4 a5 r1.1 a7 a8 a9 (aJ.mk a10.gK r1.2.1 (I64 (a10.gL+1))) a11 (aM.mk a12.gQ a12.gA a12.gl r1.2.2.1)) fun r4=>
  some ((r3,cond a5 true true))) (
  some ((a3,a5)))) fun p2=>
 Option.bind (fA N b4 r1.2.2.2.1.gB5 a1 a2 p2.1 a4 p2.2 r1.1 a7 a8 a9 (aJ.mk a10.gK r1.2.1 (I64 (a10.gL+1))) a11 (aM.mk a12.gQ a12.gA a12.gl r1.2.2.1)) fun r5=>
 Option.bind (aV (r1.2.2.2.1.gI.gJ==4) fun x7=>
 cond x7 (
  Option.bind (iQ N b4 ([r1.2.2.2.1.gc]) a1 a2 p2.1 a4 (cond p2.2 true r1.2.2.2.1.gB5) r1.1 a7 a8 a9 (aJ.mk a10.gK r1.2.1 (I64 (a10.gL+1))) a11 (aM.mk a12.gQ a12.gA a12.gl r1.2.2.1)) fun r8=>
  Option.bind (fA N b4 true a1 a2 r8 a4 ((cond p2.2 true r1.2.2.2.1.gB5)) r1.1 a7 a8 a9 (aJ.mk a10.gK r1.2.1 (I64 (a10.gL+1))) a11 (aM.mk a12.gQ a12.gA a12.gl r1.2.2.1)) fun r9=>
  some ((r8,cond ((cond p2.2 true r1.2.2.2.1.gB5)) true true))) (
  some ((p2.1,cond p2.2 true r1.2.2.2.1.gB5)))) fun p6=>
 Option.bind (Option.bind (cond a8.gB2 (
  some true) (
  aV (r1.2.2.2.1.gI.gJ==0) fun x12=>
  some (cond (!p6.2) x12 false))) fun p11=>
 cond p11 (
  Option.bind (kU N b4 r1.2.2.2.1 a1 a2 p6.1 a4 p6.2 r1.1 a7 a8 a9 (aJ.mk a10.gK r1.2.1 (I64 (a10.gL+1))) a11 (aM.mk a12.gQ a12.gA a12.gl r1.2.2.1)) fun r13=>
  some ((r13.1,r13.2.1,r13.2.2))) (
  some ((p6.1,a11,aM.mk a12.gQ a12.gA a12.gl r1.2.2.1)))) fun p10=>
 Option.bind (cond p6.2 (
  some true) (
  some (a4==a8.gN))) fun p14=>
 cond p14 (
  Option.bind (fA N b4 true a1 a2 p10.1 a4 p6.2 r1.1 a7 a8 a9 (aJ.mk a10.gK r1.2.1 (I64 (a10.gL+1))) p10.2.1 p10.2.2) fun r15=>
  some ((a1,a2,p10.1,cond p6.2 true true,r1.1,r1.2.1,p10.2.1,p10.2.2))) (
  Option.bind (dW N b4 4 a1 a2 p10.1 a4 p6.2 r1.1 a7 a8 a9 (aJ.mk a10.gK r1.2.1 (I64 (a10.gL+1))) p10.2.1 p10.2.2) fun r16=>
  Option.bind (dW N b4 5 a1 a2 p10.1 a4 p6.2 r1.1 a7 a8 a9 (aJ.mk a10.gK r1.2.1 (I64 (a10.gL+1))) (aA.mk r16.1 p10.2.1.gA p10.2.1.gC p10.2.1.gB p10.2.1.gD) p10.2.2) fun r17=>
  Option.bind (iT N r1.2.2.2.1.gI r1.2.2.2.1.gc r1.2.2.2.1.gn a1.gd (#v[r16.2,r17.2])) fun r18=>
  Option.bind (iL N ([a2,r18.gC3])) fun r19=>
  Option.bind (fA N b4 r18.gB8 a1 r19 p10.1 a4 p6.2 r1.1 a7 a8 a9 (aJ.mk a10.gK r1.2.1 (I64 (a10.gL+1))) (aA.mk r17.1 ((aA.mk r16.1 p10.2.1.gA p10.2.1.gC p10.2.1.gB p10.2.1.gD).gA) ((aA.mk r16.1 p10.2.1.gA p10.2.1.gC p10.2.1.gB p10.2.1.gD).gC) ((aA.mk r16.1 p10.2.1.gA p10.2.1.gC p10.2.1.gB p10.2.1.gD).gB) ((aA.mk r16.1 p10.2.1.gA p10.2.1.gC p10.2.1.gB p10.2.1.gD).gD)) p10.2.2) fun r20=>
  Option.bind (cond (decide (a4≥2)) (
   Option.bind (dW N b4 7 a1 r19 p10.1 a4 (cond p6.2 true r18.gB8) r1.1 a7 a8 a9 (aJ.mk a10.gK r1.2.1 (I64 (a10.gL+1))) (aA.mk r17.1 ((aA.mk r16.1 p10.2.1.gA p10.2.1.gC p10.2.1.gB p10.2.1.gD).gA) ((aA.mk r16.1 p10.2.1.gA p10.2.1.gC p10.2.1.gB p10.2.1.gD).gC) ((aA.mk r16.1 p10.2.1.gA p10.2.1.gC p10.2.1.gB p10.2.1.gD).gB) ((aA.mk r16.1 p10.2.1.gA p10.2.1.gC p10.2.1.gB p10.2.1.gD).gD)) p10.2.2) fun r22=>
   Option.bind (eT N r19 r22.2) fun r23=>
   Option.bind (fA N b4 (!r23.2) a1 r23.1 p10.1 a4 (cond p6.2 true r18.gB8) r1.1 a7 a8 a9 (aJ.mk a10.gK r1.2.1 (I64 (a10.gL+1))) (aA.mk r22.1 ((aA.mk r17.1 ((aA.mk r16.1 p10.2.1.gA p10.2.1.gC p10.2.1.gB p10.2.1.gD).gA) ((aA.mk r16.1 p10.2.1.gA p10.2.1.gC p10.2.1.gB p10.2.1.gD).gC) ((aA.mk r16.1 p10.2.1.gA p10.2.1.gC p10.2.1.gB p10.2.1.gD).gB) ((aA.mk r16.1 p10.2.1.gA p10.2.1.gC p10.2.1.gB p10.2.1.gD).gD)).gA) ((aA.mk r17.1 ((aA.mk r16.1 p10.2.1.gA p10.2.1.gC p10.2.1.gB p10.2.1.gD).gA) ((aA.mk r16.1 p10.2.1.gA p10.2.1.gC p10.2.1.gB p10.2.1.gD).gC) ((aA.mk r16.1 p10.2.1.gA p10.2.1.gC p10.2.1.gB p10.2.1.gD).gB) ((aA.mk r16.1 p10.2.1.gA p10.2.1.gC p10.2.1.gB p10.2.1.gD).gD)).gC) ((aA.mk r17.1 ((aA.mk r16.1 p10.2.1.gA p10.2.1.gC p10.2.1.gB p10.2.1.gD).gA) ((aA.mk r16.1 p10.2.1.gA p10.2.1.gC p10.2.1.gB p10.2.1.gD).gC) ((aA.mk r16.1 p10.2.1.gA p10.2.1.gC p10.2.1.gB p10.2.1.gD).gB) ((aA.mk r16.1 p10.2.1.gA p10.2.1.gC p10.2.1.gB p10.2.1.gD).gD)).gB) ((aA.mk r17.1 ((aA.mk r16.1 p10.2.1.gA p10.2.1.gC p10.2.1.gB p10.2.1.gD).gA) ((aA.mk r16.1 p10.2.1.gA p10.2.1.gC p10.2.1.gB p10.2.1.gD).gC) ((aA.mk r16.1 p10.2.1.gA p10.2.1.gC p10.2.1.gB p10.2.1.gD).gB) ((aA.mk r16.1 p10.2.1.gA p10.2.1.gC p10.2.1.gB p10.2.1.gD).gD)).gD)) p10.2.2) fun r24=>
   some ((r23.1,cond (cond p6.2 true r18.gB8) true (!r23.2),aA.mk r22.1 ((aA.mk r17.1 ((aA.mk r16.1 p10.2.1.gA p10.2.1.gC p10.2.1.gB p10.2.1.gD).gA) ((aA.mk r16.1 p10.2.1.gA p10.2.1.gC p10.2.1.gB p10.2.1.gD).gC) ((aA.mk r16.1 p10.2.1.gA p10.2.1.gC p10.2.1.gB p10.2.1.gD).gB) ((aA.mk r16.1 p10.2.1.gA p10.2.1.gC p10.2.1.gB p10.2.1.gD).gD)).gA) ((aA.mk r17.1 ((aA.mk r16.1 p10.2.1.gA p10.2.1.gC p10.2.1.gB p10.2.1.gD).gA) ((aA.mk r16.1 p10.2.1.gA p10.2.1.gC p10.2.1.gB p10.2.1.gD).gC) ((aA.mk r16.1 p10.2.1.gA p10.2.1.gC p10.2.1.gB p10.2.1.gD).gB) ((aA.mk r16.1 p10.2.1.gA p10.2.1.gC p10.2.1.gB p10.2.1.gD).gD)).gC) ((aA.mk r17.1 ((aA.mk r16.1 p10.2.1.gA p10.2.1.gC p10.2.1.gB p10.2.1.gD).gA) ((aA.mk r16.1 p10.2.1.gA p10.2.1.gC p10.2.1.gB p10.2.1.gD).gC) ((aA.mk r16.1 p10.2.1.gA p10.2.1.gC p10.2.1.gB p10.2.1.gD).gB) ((aA.mk r16.1 p10.2.1.gA p10.2.1.gC p10.2.1.gB p10.2.1.gD).gD)).gB) ((aA.mk r17.1 ((aA.mk r16.1 p10.2.1.gA p10.2.1.gC p10.2.1.gB p10.2.1.gD).gA) ((aA.mk r16.1 p10.2.1.gA p10.2.1.gC p10.2.1.gB p10.2.1.gD).gC) ((aA.mk r16.1 p10.2.1.gA p10.2.1.gC p10.2.1.gB p10.2.1.gD).gB) ((aA.mk r16.1 p10.2.1.gA p10.2.1.gC p10.2.1.gB p10.2.1.gD).gD)).gD)))) (
   some ((r19,cond p6.2 true r18.gB8,aA.mk r17.1 ((aA.mk r16.1 p10.2.1.gA p10.2.1.gC p10.2.1.gB p10.2.1.gD).gA) ((aA.mk r16.1 p10.2.1.gA p10.2.1.gC p10.2.1.gB p10.2.1.gD).gC) ((aA.mk r16.1 p10.2.1.gA p10.2.1.gC p10.2.1.gB p10.2.1.gD).gB) ((aA.mk r16.1 p10.2.1.gA p10.2.1.gC p10.2.1.gB p10.2.1.gD).gD))))) fun p21=>
  some ((aH.mk r1.2.2.2.1.gat r18.gD4 r1.2.2.2.1.gi,p21.1,p10.1,p21.2.1,r1.1,r1.2.1,p21.2.2,p10.2.2)))
theorem aBe {N b4 a1 a2 a3 a4 a5 a6 a7 a8 a9 a10 a11 a12 r} (h:mK N b4 a1 a2 a3 a4 a5 a6 a7 a8 a9 a10 a11 a12=some r):FnM Tryz.prog 34 [.var (.st 26 [(aH.enc a1),(.ref 1 [] 0),(.ref 2 [] 0),(aB.enc a2),(aB.enc a3),(j64 a4),(eB a5),(aG.enc a6)]),.var (.st 38 [(aF.enc a7),(aI.enc a8),(.ifc 91 (.ref 3 [] 0)),(eO 4 1 (eL 2 aD.enc) b4),(aB.enc a9),(aJ.enc a10)]),.var (aA.enc a11),.var (aM.enc a12),.tail (b4.length*1)] [(.ref 0 [] 0)] (.tup []) [.var (.st 26 [(aH.enc r.1),(.ref 1 [] 0),(.ref 2 [] 0),(aB.enc r.2.1),(aB.enc r.2.2.1),(j64 a4),(eB r.2.2.2.1),(aG.enc r.2.2.2.2.1)]),.var (.st 38 [(aF.enc a7),(aI.enc a8),(.ifc 91 (.ref 3 [] 0)),(eO 4 1 (eL 2 aD.enc) b4),(aB.enc a9),(.st 3 [(j64 a10.gK),(j64 r.2.2.2.2.2.1),(j64 (I64 (a10.gL+1)))])]),.var (aA.enc r.2.2.2.2.2.2.1),.var (aM.enc r.2.2.2.2.2.2.2),.tail (b4.length*1)]:=by
 unfold mK at h
 refine At.f dM hT hmo Tryz.func34 rfl h ?_
 refine At.b 1 (fun _ e=>aN [0,1,2,3,4] (aBk e)) fun r1=>?_
 refine At.J 6 1 [0,2] 6 (fun p2=>([],[(0,.var (.st 26 [(aH.enc a1),(.ref 1 [] 0),(.ref 2 [] 0),(aB.enc a2),(aB.enc p2.1),(j64 a4),(eB p2.2),(aG.enc r1.1)]))],[])) (fun p2=>?_) fun p2=>?_
 ·refine At.c 2 ?_ ?_
  ·refine At.o 8 (cI hT (x:=(.sl 3 1 [(aB.enc a9)]))) ?_
   refine At.b 0 (fun _ e=>aN [0,1,2,3,4] (rU e)) fun r3=>?_
   refine At.b 1 (fun _ e=>aN [0,1,2,3,4] (jH e)) fun r4=>?_
   apply rt;exact At.jn 0
  ·apply rt;exact At.jn 0
 ·refine At.b 3 (fun _ e=>aN [0,1,2,3,4] (jH e)) fun r5=>?_
  refine At.J 0 1 [0,2] 6 (fun p6=>([],[(0,.var (.st 26 [(aH.enc a1),(.ref 1 [] 0),(.ref 2 [] 0),(aB.enc a2),(aB.enc p6.1),(j64 a4),(eB p6.2),(aG.enc r1.1)]))],[])) (fun p6=>?_) fun p6=>?_
  ·refine lx ?_;intro x7
   refine At.c 4 ?_ ?_
   ·refine At.o 3 (cI hT (x:=(.sl 3 1 [(aB.enc r1.2.2.2.1.gc)]))) ?_
    refine At.b 0 (fun _ e=>aN [0,1,2,3,4] (rU e)) fun r8=>?_
    refine At.b 1 (fun _ e=>aN [0,1,2,3,4] (jH e)) fun r9=>?_
    apply rt;exact At.jn 0
   ·apply rt;exact At.jn 0
  ·refine At.J 0 1 [0,2] 6 (fun p10=>([],[(0,.var (.st 26 [(aH.enc a1),(.ref 1 [] 0),(.ref 2 [] 0),(aB.enc a2),(aB.enc p10.1),(j64 a4),(eB p6.2),(aG.enc r1.1)])),(2,.var (aA.enc p10.2.1)),(3,.var (aM.enc p10.2.2))],[])) (fun p10=>?_) fun p10=>?_
   ·refine At.J 0 0 [0,2] 6 (fun p11=>([(61,(eB p11))],[],[])) (fun p11=>?_) fun p11=>?_
    ·refine At.s 49 9 ?_ ?_
     ·refine At.g [49,55] 12 ?_
      apply rt;exact At.jn 0
     ·refine lx ?_;intro x12
      refine At.g [49] 12 ?_
      apply rt;exact At.jn 0
    ·refine At.c 0 ?_ ?_
     ·refine At.b 2 (fun _ e=>aN [0,1,2,3,4] (aAt e)) fun r13=>?_
      apply rt;exact At.jn 0
     ·apply rt;exact At.jn 0
   ·refine At.J 0 0 [0,2] 6 (fun p14=>([(83,(eB p14))],[],[])) (fun p14=>?_) fun p14=>?_
    ·refine boI (fun hc4=>?_) (fun hc4=>?_)
     ·refine At.d 0 (dE1 4 (fun _=>dO hc4 rfl (dC hT (im:=false) (by kernel_rfl))) dE0) dF0 ?_
      apply rt;exact At.jn 0
     ·refine At.d 0 (dE1 4 (fun _=>dO hc4 rfl (dC hT (im:=false) (by kernel_rfl))) dE0) dF0 ?_
      apply rt;exact At.jn 0
    ·refine At.c 0 ?_ ?_
     ·refine At.b 1 (fun _ e=>aN [0,1,2,3,4] (jH e)) fun r15=>?_
      apply rt;exact At.r 0
     ·refine bi fun r16 hr16=>?_
      refine bi fun r17 hr17=>?_
      refine bi fun r18 hr18=>?_
      refine At.d2 0 [false] (dC2 16 (cR.enc r18) (fun _=>aO (yZ hr18)) dC0) (dS1 12 ⟨(k32 r16.2),2,.var (.st 72 [(aU.enc r16.1),(eB p10.2.1.gA),(k64 p10.2.1.gC),(j64 p10.2.1.gB),(j64 p10.2.1.gD)]),.var (aA.enc p10.2.1)⟩ [[.var (.st 26 [(aH.enc a1),(.ref 1 [] 0),(.ref 2 [] 0),(aB.enc a2),(aB.enc p10.1),(j64 a4),(eB p6.2),(aG.enc r1.1)]),.var (.st 38 [(aF.enc a7),(aI.enc a8),(.ifc 91 (.ref 3 [] 0)),(eO 4 1 (eL 2 aD.enc) b4),(aB.enc a9),(.st 3 [(j64 a10.gK),(j64 r1.2.1),(j64 (I64 (a10.gL+1)))])]),.var (aA.enc p10.2.1),.var (aM.enc p10.2.2),.tail (b4.length*1),.var (aR.enc r1.2.2.2.1),.dead],[.var (.st 26 [(aH.enc a1),(.ref 1 [] 0),(.ref 2 [] 0),(aB.enc a2),(aB.enc p10.1),(j64 a4),(eB p6.2),(aG.enc r1.1)]),.var (.st 38 [(aF.enc a7),(aI.enc a8),(.ifc 91 (.ref 3 [] 0)),(eO 4 1 (eL 2 aD.enc) b4),(aB.enc a9),(.st 3 [(j64 a10.gK),(j64 r1.2.1),(j64 (I64 (a10.gL+1)))])]),.var (aA.enc p10.2.1),.var (aM.enc p10.2.2),.tail (b4.length*1),.var (aR.enc r1.2.2.2.1),.var aMZ]] ⟨bS (aN [0,1,2,3,4] (dA hr16)),bS (aN [0,1,2,3,4] (dA hr16)),trivial⟩ (dS1 14 ⟨(k32 r17.2),2,.var (.st 72 [(aU.enc r17.1),(eB ((aA.mk r16.1 p10.2.1.gA p10.2.1.gC p10.2.1.gB p10.2.1.gD).gA)),(k64 ((aA.mk r16.1 p10.2.1.gA p10.2.1.gC p10.2.1.gB p10.2.1.gD).gC)),(j64 ((aA.mk r16.1 p10.2.1.gA p10.2.1.gC p10.2.1.gB p10.2.1.gD).gB)),(j64 ((aA.mk r16.1 p10.2.1.gA p10.2.1.gC p10.2.1.gB p10.2.1.gD).gD))]),.var (.st 72 [(aU.enc r16.1),(eB p10.2.1.gA),(k64 p10.2.1.gC),(j64 p10.2.1.gB),(j64 p10.2.1.gD)])⟩ [[.var (.st 26 [(aH.enc a1),(.ref 1 [] 0),(.ref 2 [] 0),(aB.enc a2),(aB.enc p10.1),(j64 a4),(eB p6.2),(aG.enc r1.1)]),.var (.st 38 [(aF.enc a7),(aI.enc a8),(.ifc 91 (.ref 3 [] 0)),(eO 4 1 (eL 2 aD.enc) b4),(aB.enc a9),(.st 3 [(j64 a10.gK),(j64 r1.2.1),(j64 (I64 (a10.gL+1)))])]),.var (.st 72 [(aU.enc r16.1),(eB p10.2.1.gA),(k64 p10.2.1.gC),(j64 p10.2.1.gB),(j64 p10.2.1.gD)]),.var (aM.enc p10.2.2),.tail (b4.length*1),.var (aR.enc r1.2.2.2.1),.dead],[.var (.st 26 [(aH.enc a1),(.ref 1 [] 0),(.ref 2 [] 0),(aB.enc a2),(aB.enc p10.1),(j64 a4),(eB p6.2),(aG.enc r1.1)]),.var (.st 38 [(aF.enc a7),(aI.enc a8),(.ifc 91 (.ref 3 [] 0)),(eO 4 1 (eL 2 aD.enc) b4),(aB.enc a9),(.st 3 [(j64 a10.gK),(j64 r1.2.1),(j64 (I64 (a10.gL+1)))])]),.var (.st 72 [(aU.enc r16.1),(eB p10.2.1.gA),(k64 p10.2.1.gC),(j64 p10.2.1.gB),(j64 p10.2.1.gD)]),.var (aM.enc p10.2.2),.tail (b4.length*1),.var (aR.enc r1.2.2.2.1),.var aMZ]] ⟨bS (aN [0,1,2,3,4] (dA hr17)),bS (aN [0,1,2,3,4] (dA hr17)),trivial⟩ (dS1 17 ⟨(.ref 6 [] 0),6,.var aMZ,.dead⟩ [[.var (.st 26 [(aH.enc a1),(.ref 1 [] 0),(.ref 2 [] 0),(aB.enc a2),(aB.enc p10.1),(j64 a4),(eB p6.2),(aG.enc r1.1)]),.var (.st 38 [(aF.enc a7),(aI.enc a8),(.ifc 91 (.ref 3 [] 0)),(eO 4 1 (eL 2 aD.enc) b4),(aB.enc a9),(.st 3 [(j64 a10.gK),(j64 r1.2.1),(j64 (I64 (a10.gL+1)))])]),.var (aA.enc p10.2.1),.var (aM.enc p10.2.2),.tail (b4.length*1),.var (aR.enc r1.2.2.2.1),.dead],[.var (.st 26 [(aH.enc a1),(.ref 1 [] 0),(.ref 2 [] 0),(aB.enc a2),(aB.enc p10.1),(j64 a4),(eB p6.2),(aG.enc r1.1)]),.var (.st 38 [(aF.enc a7),(aI.enc a8),(.ifc 91 (.ref 3 [] 0)),(eO 4 1 (eL 2 aD.enc) b4),(aB.enc a9),(.st 3 [(j64 a10.gK),(j64 r1.2.1),(j64 (I64 (a10.gL+1)))])]),.var (.st 72 [(aU.enc r17.1),(eB ((aA.mk r16.1 p10.2.1.gA p10.2.1.gC p10.2.1.gB p10.2.1.gD).gA)),(k64 ((aA.mk r16.1 p10.2.1.gA p10.2.1.gC p10.2.1.gB p10.2.1.gD).gC)),(j64 ((aA.mk r16.1 p10.2.1.gA p10.2.1.gC p10.2.1.gB p10.2.1.gD).gB)),(j64 ((aA.mk r16.1 p10.2.1.gA p10.2.1.gC p10.2.1.gB p10.2.1.gD).gD))]),.var (aM.enc p10.2.2),.tail (b4.length*1),.var (aR.enc r1.2.2.2.1),.dead],[.var (.st 26 [(aH.enc a1),(.ref 1 [] 0),(.ref 2 [] 0),(aB.enc a2),(aB.enc p10.1),(j64 a4),(eB p6.2),(aG.enc r1.1)]),.var (.st 38 [(aF.enc a7),(aI.enc a8),(.ifc 91 (.ref 3 [] 0)),(eO 4 1 (eL 2 aD.enc) b4),(aB.enc a9),(.st 3 [(j64 a10.gK),(j64 r1.2.1),(j64 (I64 (a10.gL+1)))])]),.var (.st 72 [(aU.enc r16.1),(eB p10.2.1.gA),(k64 p10.2.1.gC),(j64 p10.2.1.gB),(j64 p10.2.1.gD)]),.var (aM.enc p10.2.2),.tail (b4.length*1),.var (aR.enc r1.2.2.2.1),.dead],[.var (.st 26 [(aH.enc a1),(.ref 1 [] 0),(.ref 2 [] 0),(aB.enc a2),(aB.enc p10.1),(j64 a4),(eB p6.2),(aG.enc r1.1)]),.var (.st 38 [(aF.enc a7),(aI.enc a8),(.ifc 91 (.ref 3 [] 0)),(eO 4 1 (eL 2 aD.enc) b4),(aB.enc a9),(.st 3 [(j64 a10.gK),(j64 r1.2.1),(j64 (I64 (a10.gL+1)))])]),.var (.st 72 [(aU.enc r17.1),(eB ((aA.mk r16.1 p10.2.1.gA p10.2.1.gC p10.2.1.gB p10.2.1.gD).gA)),(k64 ((aA.mk r16.1 p10.2.1.gA p10.2.1.gC p10.2.1.gB p10.2.1.gD).gC)),(j64 ((aA.mk r16.1 p10.2.1.gA p10.2.1.gC p10.2.1.gB p10.2.1.gD).gB)),(j64 ((aA.mk r16.1 p10.2.1.gA p10.2.1.gC p10.2.1.gB p10.2.1.gD).gD))]),.var (aM.enc p10.2.2),.tail (b4.length*1),.var (aR.enc r1.2.2.2.1),.dead]] ⟨aX hT 6 (by kernel_rfl) (by kernel_rfl) (by kernel_rfl),aX hT 6 (by kernel_rfl) (by kernel_rfl) (by kernel_rfl),aX hT 6 (by kernel_rfl) (by kernel_rfl) (by kernel_rfl),aX hT 6 (by kernel_rfl) (by kernel_rfl) (by kernel_rfl),trivial⟩ dS0))) ?_
      refine bi fun r19 hr19=>?_
      refine At.d 0 (dE1 7 (fun _=>cI hT (x:=(.sl 3 2 [(aB.enc a2),(aB.enc r18.gC3)]))) (dE2 8 (aB.enc r19) (fun _=>aO (qK hr19)) dE0)) dF0 ?_
      refine At.b 3 (fun _ e=>aN [0,1,2,3,4] (jH e)) fun r20=>?_
      refine At.J 0 1 [0,2,4] 7 (fun p21=>([],[(0,.var (.st 26 [(aH.enc a1),(.ref 1 [] 0),(.ref 2 [] 0),(aB.enc p21.1),(aB.enc p10.1),(j64 a4),(eB p21.2.1),(aG.enc r1.1)])),(2,.var (aA.enc p21.2.2))],[])) (fun p21=>?_) fun p21=>?_
      ·refine At.c 5 ?_ ?_
       ·refine bi fun r22 hr22=>?_
        refine bi fun r23 hr23=>?_
        refine At.d2 0 [false] (dC2 6 (.tup [(aB.enc r23.1),(eB r23.2)]) (fun _=>aO (xO hr23)) dC0) (dS1 5 ⟨(k32 r22.2),2,.var (.st 72 [(aU.enc r22.1),(eB ((aA.mk r17.1 ((aA.mk r16.1 p10.2.1.gA p10.2.1.gC p10.2.1.gB p10.2.1.gD).gA) ((aA.mk r16.1 p10.2.1.gA p10.2.1.gC p10.2.1.gB p10.2.1.gD).gC) ((aA.mk r16.1 p10.2.1.gA p10.2.1.gC p10.2.1.gB p10.2.1.gD).gB) ((aA.mk r16.1 p10.2.1.gA p10.2.1.gC p10.2.1.gB p10.2.1.gD).gD)).gA)),(k64 ((aA.mk r17.1 ((aA.mk r16.1 p10.2.1.gA p10.2.1.gC p10.2.1.gB p10.2.1.gD).gA) ((aA.mk r16.1 p10.2.1.gA p10.2.1.gC p10.2.1.gB p10.2.1.gD).gC) ((aA.mk r16.1 p10.2.1.gA p10.2.1.gC p10.2.1.gB p10.2.1.gD).gB) ((aA.mk r16.1 p10.2.1.gA p10.2.1.gC p10.2.1.gB p10.2.1.gD).gD)).gC)),(j64 ((aA.mk r17.1 ((aA.mk r16.1 p10.2.1.gA p10.2.1.gC p10.2.1.gB p10.2.1.gD).gA) ((aA.mk r16.1 p10.2.1.gA p10.2.1.gC p10.2.1.gB p10.2.1.gD).gC) ((aA.mk r16.1 p10.2.1.gA p10.2.1.gC p10.2.1.gB p10.2.1.gD).gB) ((aA.mk r16.1 p10.2.1.gA p10.2.1.gC p10.2.1.gB p10.2.1.gD).gD)).gB)),(j64 ((aA.mk r17.1 ((aA.mk r16.1 p10.2.1.gA p10.2.1.gC p10.2.1.gB p10.2.1.gD).gA) ((aA.mk r16.1 p10.2.1.gA p10.2.1.gC p10.2.1.gB p10.2.1.gD).gC) ((aA.mk r16.1 p10.2.1.gA p10.2.1.gC p10.2.1.gB p10.2.1.gD).gB) ((aA.mk r16.1 p10.2.1.gA p10.2.1.gC p10.2.1.gB p10.2.1.gD).gD)).gD))]),.var (.st 72 [(aU.enc r17.1),(eB ((aA.mk r16.1 p10.2.1.gA p10.2.1.gC p10.2.1.gB p10.2.1.gD).gA)),(k64 ((aA.mk r16.1 p10.2.1.gA p10.2.1.gC p10.2.1.gB p10.2.1.gD).gC)),(j64 ((aA.mk r16.1 p10.2.1.gA p10.2.1.gC p10.2.1.gB p10.2.1.gD).gB)),(j64 ((aA.mk r16.1 p10.2.1.gA p10.2.1.gC p10.2.1.gB p10.2.1.gD).gD))])⟩ [[.var (.st 26 [(aH.enc a1),(.ref 1 [] 0),(.ref 2 [] 0),(aB.enc r19),(aB.enc p10.1),(j64 a4),(eB (cond p6.2 true r18.gB8)),(aG.enc r1.1)]),.var (.st 38 [(aF.enc a7),(aI.enc a8),(.ifc 91 (.ref 3 [] 0)),(eO 4 1 (eL 2 aD.enc) b4),(aB.enc a9),(.st 3 [(j64 a10.gK),(j64 r1.2.1),(j64 (I64 (a10.gL+1)))])]),.var (.st 72 [(aU.enc r17.1),(eB ((aA.mk r16.1 p10.2.1.gA p10.2.1.gC p10.2.1.gB p10.2.1.gD).gA)),(k64 ((aA.mk r16.1 p10.2.1.gA p10.2.1.gC p10.2.1.gB p10.2.1.gD).gC)),(j64 ((aA.mk r16.1 p10.2.1.gA p10.2.1.gC p10.2.1.gB p10.2.1.gD).gB)),(j64 ((aA.mk r16.1 p10.2.1.gA p10.2.1.gC p10.2.1.gB p10.2.1.gD).gD))]),.var (aM.enc p10.2.2),.tail (b4.length*1),.var (aR.enc r1.2.2.2.1),.var (cR.enc r18),.dead],[.var (.st 26 [(aH.enc a1),(.ref 1 [] 0),(.ref 2 [] 0),(aB.enc r19),(aB.enc p10.1),(j64 a4),(eB (cond p6.2 true r18.gB8)),(aG.enc r1.1)]),.var (.st 38 [(aF.enc a7),(aI.enc a8),(.ifc 91 (.ref 3 [] 0)),(eO 4 1 (eL 2 aD.enc) b4),(aB.enc a9),(.st 3 [(j64 a10.gK),(j64 r1.2.1),(j64 (I64 (a10.gL+1)))])]),.var (.st 72 [(aU.enc r17.1),(eB ((aA.mk r16.1 p10.2.1.gA p10.2.1.gC p10.2.1.gB p10.2.1.gD).gA)),(k64 ((aA.mk r16.1 p10.2.1.gA p10.2.1.gC p10.2.1.gB p10.2.1.gD).gC)),(j64 ((aA.mk r16.1 p10.2.1.gA p10.2.1.gC p10.2.1.gB p10.2.1.gD).gB)),(j64 ((aA.mk r16.1 p10.2.1.gA p10.2.1.gC p10.2.1.gB p10.2.1.gD).gD))]),.var (aM.enc p10.2.2),.tail (b4.length*1),.var (aR.enc r1.2.2.2.1),.var (cR.enc r18),.var (.st 3 [(j64 0),(j64 0),(j64 0)])]] ⟨bS (aN [0,1,2,3,4] (dA hr22)),bS (aN [0,1,2,3,4] (dA hr22)),trivial⟩ (dS1 10 ⟨(.ref 7 [] 0),7,.var (.st 3 [(j64 0),(j64 0),(j64 0)]),.dead⟩ [[.var (.st 26 [(aH.enc a1),(.ref 1 [] 0),(.ref 2 [] 0),(aB.enc r19),(aB.enc p10.1),(j64 a4),(eB (cond p6.2 true r18.gB8)),(aG.enc r1.1)]),.var (.st 38 [(aF.enc a7),(aI.enc a8),(.ifc 91 (.ref 3 [] 0)),(eO 4 1 (eL 2 aD.enc) b4),(aB.enc a9),(.st 3 [(j64 a10.gK),(j64 r1.2.1),(j64 (I64 (a10.gL+1)))])]),.var (.st 72 [(aU.enc r17.1),(eB ((aA.mk r16.1 p10.2.1.gA p10.2.1.gC p10.2.1.gB p10.2.1.gD).gA)),(k64 ((aA.mk r16.1 p10.2.1.gA p10.2.1.gC p10.2.1.gB p10.2.1.gD).gC)),(j64 ((aA.mk r16.1 p10.2.1.gA p10.2.1.gC p10.2.1.gB p10.2.1.gD).gB)),(j64 ((aA.mk r16.1 p10.2.1.gA p10.2.1.gC p10.2.1.gB p10.2.1.gD).gD))]),.var (aM.enc p10.2.2),.tail (b4.length*1),.var (aR.enc r1.2.2.2.1),.var (cR.enc r18),.dead],[.var (.st 26 [(aH.enc a1),(.ref 1 [] 0),(.ref 2 [] 0),(aB.enc r19),(aB.enc p10.1),(j64 a4),(eB (cond p6.2 true r18.gB8)),(aG.enc r1.1)]),.var (.st 38 [(aF.enc a7),(aI.enc a8),(.ifc 91 (.ref 3 [] 0)),(eO 4 1 (eL 2 aD.enc) b4),(aB.enc a9),(.st 3 [(j64 a10.gK),(j64 r1.2.1),(j64 (I64 (a10.gL+1)))])]),.var (.st 72 [(aU.enc r22.1),(eB ((aA.mk r17.1 ((aA.mk r16.1 p10.2.1.gA p10.2.1.gC p10.2.1.gB p10.2.1.gD).gA) ((aA.mk r16.1 p10.2.1.gA p10.2.1.gC p10.2.1.gB p10.2.1.gD).gC) ((aA.mk r16.1 p10.2.1.gA p10.2.1.gC p10.2.1.gB p10.2.1.gD).gB) ((aA.mk r16.1 p10.2.1.gA p10.2.1.gC p10.2.1.gB p10.2.1.gD).gD)).gA)),(k64 ((aA.mk r17.1 ((aA.mk r16.1 p10.2.1.gA p10.2.1.gC p10.2.1.gB p10.2.1.gD).gA) ((aA.mk r16.1 p10.2.1.gA p10.2.1.gC p10.2.1.gB p10.2.1.gD).gC) ((aA.mk r16.1 p10.2.1.gA p10.2.1.gC p10.2.1.gB p10.2.1.gD).gB) ((aA.mk r16.1 p10.2.1.gA p10.2.1.gC p10.2.1.gB p10.2.1.gD).gD)).gC)),(j64 ((aA.mk r17.1 ((aA.mk r16.1 p10.2.1.gA p10.2.1.gC p10.2.1.gB p10.2.1.gD).gA) ((aA.mk r16.1 p10.2.1.gA p10.2.1.gC p10.2.1.gB p10.2.1.gD).gC) ((aA.mk r16.1 p10.2.1.gA p10.2.1.gC p10.2.1.gB p10.2.1.gD).gB) ((aA.mk r16.1 p10.2.1.gA p10.2.1.gC p10.2.1.gB p10.2.1.gD).gD)).gB)),(j64 ((aA.mk r17.1 ((aA.mk r16.1 p10.2.1.gA p10.2.1.gC p10.2.1.gB p10.2.1.gD).gA) ((aA.mk r16.1 p10.2.1.gA p10.2.1.gC p10.2.1.gB p10.2.1.gD).gC) ((aA.mk r16.1 p10.2.1.gA p10.2.1.gC p10.2.1.gB p10.2.1.gD).gB) ((aA.mk r16.1 p10.2.1.gA p10.2.1.gC p10.2.1.gB p10.2.1.gD).gD)).gD))]),.var (aM.enc p10.2.2),.tail (b4.length*1),.var (aR.enc r1.2.2.2.1),.var (cR.enc r18),.dead]] ⟨aX hT 7 (by kernel_rfl) (by kernel_rfl) (by kernel_rfl),aX hT 7 (by kernel_rfl) (by kernel_rfl) (by kernel_rfl),trivial⟩ dS0)) ?_
        refine At.b 8 (fun _ e=>aN [0,1,2,3,4] (jH e)) fun r24=>?_
        apply rt;exact At.jn 0
       ·apply rt;exact At.jn 0
      ·apply rt;exact At.z 11
def iB (N:Nat) (b2:(List (List aD))) (a4:aF) (a5:aI) (a6:aB) (a7:aJ) (a8:aM):Nat→aA→(Vector Int 4)→Int→Option (aA×(Vector Int 4))
 | 0,_,_,_=>none
 | k+1,s9,s10,s11=>
  cond (decide (s11 < 4)) (
   Option.bind (dW N b2 s11 (aH.mk (aC.mk 0 0 0) (aC.mk 0 0 0) 0) (aB.mk 4294967296 4294967296 4294967296) (aB.mk 0 0 0) 0 false (aG.mk (aB.mk 0 0 0) 0 0 (aB.mk 0 0 0) (-1)) a4 a5 a6 a7 s9 a8) fun r12=>
   Option.bind (fH s11 4) fun _=>
   Option.bind (s10.toList[s11.toNat]?) fun e14=>
   iB N b2 a4 a5 a6 a7 a8 k (aA.mk r12.1 s9.gA s9.gC s9.gB s9.gD) (s10.setIfInBounds s11.toNat r12.2) (I64 (s11+1))) (
   some ((s9,s10)))
def eW (N:Nat) (a5:aI) (b2:(List (List aD))) (a4:aF) (a6:aB):Nat→aJ→aM→aA→aH→aB→aB→Int→Bool→aG→Option (aJ×aM×aA×aH×aB×aB×Int×Bool×aG)
 | 0,_,_,_,_,_,_,_,_,_=>none
 | k+1,s17,s18,s19,s20,s21,s22,s23,s24,s25=>
  Option.bind (aV (decide (s23≤a5.gN)) fun x27=>
  cond x27 (
   cond (!s24) (
    some true) (
    some a5.gB2)) (
   some false)) fun p26=>
  cond p26 (
   Option.bind (mK N b2 s20 s21 s22 s23 s24 s25 a4 a5 a6 s17 s19 s18) fun r28=>
   eW N a5 b2 a4 a6 k (aJ.mk s17.gK r28.2.2.2.2.2.1 (I64 (s17.gL+1))) r28.2.2.2.2.2.2.2 r28.2.2.2.2.2.2.1 r28.1 r28.2.1 r28.2.2.1 (I64 (s23+1)) r28.2.2.2.1 r28.2.2.2.2.1) (
   some ((s17,s18,s19,s20,s21,s22,s23,s24,s25)))
def eS (N:Nat) (b2:(List (List aD))) (a1 a2 a3:Int) (a4:aF) (a5:aI) (a6:aB) (a7:aJ) (a8:aM):Option (aJ×aM×aG×Int):=
 aV (cond (decide (a1 < 0)) true (decide (a1≥a5.gW))) fun x1=>
 aV (cond x1 true (decide (a2 < 0))) fun x2=>
 aV (cond x2 true (decide (a2≥a5.gH))) fun x3=>
 aV (cond x3 true (decide (a3 < 0))) fun x4=>
 aV (decide (a3≥a5.gD0)) fun x5=>
 cond (cond x4 true x5) (
  some ((a7,a8,aG.mk (aB.mk 0 0 0) 0 0 (aB.mk 0 0 0) 0,2))) (
  aV (I64 ((I64 (a2*a5.gW))+a1)) fun x6=>
  Option.bind (sW N a5.gS x6 a3) fun r7=>
  Option.bind (iB N b2 a4 a5 a6 a7 a8 N (aA.mk (aU.mk (bK.mk 0 0 0) false (Vector.replicate 64 0)) true a5.gS x6 a3) (#v[0,0,0,0]) 0) fun p8=>
  Option.bind (sB N a5.gD8 a5.gW a5.gH a1 a2 p8.2) fun r15=>
  Option.bind (eW N a5 b2 a4 a6 N a7 a8 p8.1 (aH.mk r15.1 r15.2.1 (-1)) (aB.mk 4294967296 4294967296 4294967296) (aB.mk 0 0 0) 0 false (aG.mk (aB.mk 0 0 0) 0 0 (aB.mk 0 0 0) (-1))) fun p16=>
  some ((p16.1,p16.2.1,aG.mk p16.2.2.2.2.2.1 p16.2.2.2.2.2.2.2.2.gD2 p16.2.2.2.2.2.2.2.2.gN p16.2.2.2.2.2.2.2.2.gD3 p16.2.2.2.2.2.2.2.2.gB9,0)))
theorem nV {N b2 a1 a2 a3 a4 a5 a6 a7 a8 r} (h:eS N b2 a1 a2 a3 a4 a5 a6 a7 a8=some r):FnM Tryz.prog 13 [.var (.st 38 [(aF.enc a4),(aI.enc a5),(.ifc 91 (.ref 1 [] 0)),(eO 2 1 (eL 2 aD.enc) b2),(aB.enc a6),(aJ.enc a7)]),.var (aM.enc a8),.tail (b2.length*1)] [(.ref 0 [] 0),(j64 a1),(j64 a2),(j64 a3)] (.tup [(aG.enc r.2.2.1),(j64 r.2.2.2)]) [.var (.st 38 [(aF.enc a4),(aI.enc a5),(.ifc 91 (.ref 1 [] 0)),(eO 2 1 (eL 2 aD.enc) b2),(aB.enc a6),(aJ.enc r.1)]),.var (aM.enc r.2.1),.tail (b2.length*1)]:=by
 unfold eS at h
 refine At.f dM hT hmo Tryz.func13 rfl h ?_
 refine At.o 3 (pG hT (t:=40) (x:=(.ref 0 [] 0)) (b:=true) (by kernel_rfl) rfl rfl (by kernel_rfl)) ?_
 refine At.g [16] 5 ?_
 refine At.o 0 (aMG (t:=75) (u:=91) (x:=(.ref 1 [] 0)) (by kernel_rfl) rfl rfl .eql false (by decide) (by kernel_rfl)) ?_
 refine lx ?_;intro x1
 refine lx ?_;intro x2
 refine lx ?_;intro x3
 refine lx ?_;intro x4
 refine lx ?_;intro x5
 refine At.g [16] 41 ?_
 refine At.c 0 ?_ ?_
 ·apply rt;exact At.r 3
 ·refine lx ?_;intro x6
  refine bi fun r7 hr7=>?_
  refine At.d 0 dE0 (dF 16 (.ref 4 [] 0) [] [.var (.st 72 [cv_5,(eB true),(k64 a5.gS),(j64 x6),(j64 a3)])] (bS (aN [] (aCb hr7))) dF0) ?_
  refine At.L 2 [0,1,2,8,10,11] 7 (fun p8=>([],[(4,.var (aA.enc p8.1)),(6,.var (eA 4 1 k32 p8.2))],[])) (fun p8 J k=>∃ s9 s10 s11,iB N b2 a4 a5 a6 a7 a8 k s9 s10 s11=some p8∧J [0,1,2,8,10,11] 7 [(84,(j64 s11))] [(4,.var (aA.enc s9)),(6,.var (eA 4 1 k32 s10))] []) N (fun _ h=>⟨_,_,_,h,jr⟩) (fun p8 k s hI=>?_) fun p8=>?_
  ·obtain ⟨s9,s10,s11,h,hj⟩:=hI
   cases k with
   | zero=>cases h
   | succ k=>
    refine At.jr hj ?_ h
    refine At.c 1 ?_ ?_
    ·refine At.b 5 (fun _ e=>aN [5,0,4,1,2] (dA e)) fun r12=>?_
     refine At.b 0 (fun _ e=>bG hT (k:=1) 6 [] 0 e) fun u13=>?_
     refine At.b 0 (fun _ e=>nS hT k32 0 s10 e r12.2 (by kernel_rfl) (by kernel_rfl) (H':=[.var (.st 38 [(aF.enc a4),(aI.enc a5),(.ifc 91 (.ref 1 [] 0)),(eO 2 1 (eL 2 aD.enc) b2),(aB.enc a6),(aJ.enc a7)]),.var (aM.enc a8),.tail (b2.length*1),.var cv_6,.var (.st 72 [(aU.enc r12.1),(eB s9.gA),(k64 s9.gC),(j64 s9.gB),(j64 s9.gD)]),.var cv_7,.var (eA 4 1 k32 (s10.setIfInBounds s11.toNat r12.2))])) fun e14=>?_
     exact fun h=>At.k 2 ⟨_,_,_,h,jr⟩
    ·apply rt;exact At.x 0
  ·refine bi fun r15 hr15=>?_
   refine At.d 5 (dE2 20 (.tup [(aC.enc r15.1),(aC.enc r15.2.1),(j64 r15.2.2)]) (fun _=>aO (aEm hr15)) dE0) dF0 ?_
   refine At.L 0 [8,10] 7 (fun p16=>([],[(0,.var (.st 38 [(aF.enc a4),(aI.enc a5),(.ifc 91 (.ref 1 [] 0)),(eO 2 1 (eL 2 aD.enc) b2),(aB.enc a6),(aJ.enc p16.1)])),(1,.var (aM.enc p16.2.1)),(4,.var (aA.enc p16.2.2.1)),(5,.var (.st 26 [(aH.enc p16.2.2.2.1),(.ref 0 [] 0),(.ref 4 [] 0),(aB.enc p16.2.2.2.2.1),(aB.enc p16.2.2.2.2.2.1),(j64 p16.2.2.2.2.2.2.1),(eB p16.2.2.2.2.2.2.2.1),(aG.enc p16.2.2.2.2.2.2.2.2)]))],[])) (fun p16 J k=>∃ s17 s18 s19 s20 s21 s22 s23 s24 s25,eW N a5 b2 a4 a6 k s17 s18 s19 s20 s21 s22 s23 s24 s25=some p16∧J [0,8,10] 7 [] [(0,.var (.st 38 [(aF.enc a4),(aI.enc a5),(.ifc 91 (.ref 1 [] 0)),(eO 2 1 (eL 2 aD.enc) b2),(aB.enc a6),(aJ.enc s17)])),(1,.var (aM.enc s18)),(4,.var (aA.enc s19)),(5,.var (.st 26 [(aH.enc s20),(.ref 0 [] 0),(.ref 4 [] 0),(aB.enc s21),(aB.enc s22),(j64 s23),(eB s24),(aG.enc s25)]))] []) N (fun _ h=>⟨_,_,_,_,_,_,_,_,_,h,jr⟩) (fun p16 k s hI=>?_) fun p16=>?_
   ·obtain ⟨s17,s18,s19,s20,s21,s22,s23,s24,s25,h,hj⟩:=hI
    cases k with
    | zero=>cases h
    | succ k=>
     refine At.jr hj ?_ h
     refine At.J 0 0 [0,8,10] 7 (fun p26=>([(151,(eB p26))],[],[])) (fun p26=>?_) fun p26=>?_
     ·refine lx ?_;intro x27
      refine boI (fun hc10=>?_) (fun hc10=>?_)
      ·refine boI (fun hc16=>?_) (fun hc16=>?_)
       ·refine At.d 0 (dE1 10 (fun _=>dO hc10 rfl (dC hT (im:=false) (by kernel_rfl))) (dE1 16 (fun _=>dO hc16 rfl (dC hT (im:=false) (by kernel_rfl))) dE0)) dF0 ?_
        apply rt;exact At.jn 0
       ·refine At.d 0 (dE1 10 (fun _=>dO hc10 rfl (dC hT (im:=false) (by kernel_rfl))) (dE1 16 (fun _=>dO hc16 rfl (dC hT (im:=false) (by kernel_rfl))) dE0)) dF0 ?_
        apply rt;exact At.jn 0
      ·refine At.d 0 (dE1 10 (fun _=>dO hc10 rfl (dC hT (im:=false) (by kernel_rfl))) dE0) dF0 ?_
       apply rt;exact At.jn 0
     ·refine At.c 0 ?_ ?_
      ·refine At.b 1 (fun _ e=>aN [5,0,4,1,2] (aBe e)) fun r28=>?_
       exact fun h=>At.k 8 ⟨_,_,_,_,_,_,_,_,_,h,jr⟩
      ·apply rt;exact At.x 0
   ·apply rt;exact At.r 15
def dG (N:Nat):Option (Bool):=
 Option.bind (Option.bind (uP N ) fun r2=>
 Option.bind (kI N (aF.mk [] [] [] [] [] [] 0 0 0) r2) fun q=>
 kK q (fun r3=>
  none) (fun q=>
 kK q (fun r4=>
  none) (fun q=>
 kK q (fun r5=>
  none) (fun q=>
 kK q (fun r6=>
  none) (fun r7=>
  some ((r7.1,r7.2.1,r7.2.2.1,r7.2.2.2.1,r2,r7.2.2.2.2.1,r7.2.2.2.2.2.1,r7.2.2.2.2.2.2.1,r7.2.2.2.2.2.2.2))))))) fun p1=>
 Option.bind (eS N p1.2.2.2.1 0 0 0 (aF.mk p1.1 p1.2.1 ((aF.mk [] [] [] [] [] [] 0 0 0).gR) p1.2.2.1 ((aF.mk [] [] [] [] [] [] 0 0 0).gA1) ((aF.mk [] [] [] [] [] [] 0 0 0).gA2) ((aF.mk [] [] [] [] [] [] 0 0 0).gA8) ((aF.mk [] [] [] [] [] [] 0 0 0).gA9) ((aF.mk [] [] [] [] [] [] 0 0 0).gTo)) p1.2.2.2.2.1 p1.2.2.2.2.2.1 (aJ.mk 0 0 0) p1.2.2.2.2.2.2.2.1) fun r8=>
 Option.bind (aV (p1.2.2.2.2.2.2.2.2==0) fun x10=>
 aV (cond x10 (r8.2.2.2==0) false) fun x11=>
 cond x11 (
  aV (aG.eq r8.2.2.1 (aG.mk (aB.mk 0 0 0) 0 0 (aB.mk 0 0 0) (-1))) fun x12=>
  some x12) (
  some false)) fun p9=>
 some p9
theorem eZ {N r} (h:dG N=some r):FnM Tryz.prog 12 [] [] (eB r) []:=by
 unfold dG at h
 refine At.f dM hT hmo Tryz.func12 rfl h ?_
 refine At.J 1 0 [] 0 (fun p1=>([(1,(.ref 0 [] 0)),(2,(j64 p1.2.2.2.2.2.2.2.2))],[],[.var (.st 38 [(.st 9 [(eO 1 19 aE.enc p1.1),(eO 2 5 aQ.enc p1.2.1),(eL 2 aD.enc ((aF.mk [] [] [] [] [] [] 0 0 0).gR)),(eO 3 13 aT.enc p1.2.2.1),(eL 1 k64 ((aF.mk [] [] [] [] [] [] 0 0 0).gA1)),(eL 1 k32 ((aF.mk [] [] [] [] [] [] 0 0 0).gA2)),(k32 ((aF.mk [] [] [] [] [] [] 0 0 0).gA8)),(k32 ((aF.mk [] [] [] [] [] [] 0 0 0).gA9)),(k32 ((aF.mk [] [] [] [] [] [] 0 0 0).gTo))]),(aI.enc p1.2.2.2.2.1),(.ifc 91 (.ref 6 [] 0)),(eO 4 1 (eL 2 aD.enc) p1.2.2.2.1),(aB.enc p1.2.2.2.2.2.1),(.st 3 [(j64 0),(j64 0),(j64 0)])]),.tail (p1.1.length*19),.tail (p1.2.1.length*5),.tail (p1.2.2.1.length*13),.tail (p1.2.2.2.1.length*1),.var (aY.enc p1.2.2.2.2.2.2.1),.var (aM.enc p1.2.2.2.2.2.2.2.1)])) (fun p1=>?_) fun p1=>?_
 ·refine At.b 1 (fun _ e=>aN [] (aCJ e)) fun r2=>?_
  refine aKm (fun r3 hr3=>?_) (fun q hq=>?_)
  ·exact nn
  ·refine aC1 (fun r4 e=>?_) (fun q e=>?_)
   ·subst e
    have hr4:=hq
    exact nn
   ·subst e
    have hq:=hq
    refine aC1 (fun r5 e=>?_) (fun q e=>?_)
    ·subst e
     have hr5:=hq
     exact nn
    ·subst e
     have hq:=hq
     refine aC1 (fun r6 e=>?_) (fun r7 e=>?_)
     ·subst e
      have hr6:=hq
      exact nn
     ·subst e
      have hr7:=hq
      refine At.o 0 (aN [] (vF hr7)) ?_
      apply rt;exact At.jn 5
 ·refine At.b 1 (fun _ e=>aN [0,6,4] (nV e)) fun r8=>?_
  refine At.J 6 0 [] 8 (fun p9=>([(0,(eB p9))],[],[])) (fun p9=>?_) fun p9=>?_
  ·refine lx ?_;intro x10
   refine lx ?_;intro x11
   refine At.s 22 7 ?_ ?_
   ·refine At.g [22] 2 ?_
    refine At.o 0 (aCB aLJ (r8.2.2.1:aG) (aG.mk (aB.mk 0 0 0) 0 0 (aB.mk 0 0 0) (-1):aG) (by kernel_rfl) (by kernel_rfl) (fun _=>rfl) (fun _=>rfl) (by kernel_rfl) (by kernel_rfl)) ?_
    refine lx ?_;intro x12
    refine At.g [22] 2 ?_
    apply rt;exact At.jn 0
   ·refine At.g [22] 5 ?_
    apply rt;exact At.jn 0
  ·apply rt;exact At.r 0
def dI (N:Nat) (b4:(List (List aD))) (a1:Int) (a2:aH) (a3 a4:aB) (a5:Int) (a6:Bool) (a7:aG) (a8:aF) (a9:aI) (a10:aB) (a11:aJ) (a12:aA) (a13:aK):Option (aU×Int):=
 Option.bind (fW N a5 a1 a12) fun r1=>
 some ((r1.1,r1.2))
theorem cK {N b4 a1 a2 a3 a4 a5 a6 a7 a8 a9 a10 a11 a12 a13 r} (h:dI N b4 a1 a2 a3 a4 a5 a6 a7 a8 a9 a10 a11 a12 a13=some r):FnM Tryz.prog 32 [.var (.st 26 [(aH.enc a2),(.ref 1 [] 0),(.ref 2 [] 0),(aB.enc a3),(aB.enc a4),(j64 a5),(eB a6),(aG.enc a7)]),.var (.st 38 [(aF.enc a8),(aI.enc a9),(.ifc 88 (.ref 3 [] 0)),(eO 4 1 (eL 2 aD.enc) b4),(aB.enc a10),(aJ.enc a11)]),.var (aA.enc a12),.var (aK.enc a13),.tail (b4.length*1)] [(.ref 0 [] 0),(j64 a1)] (k32 r.2) [.var (.st 26 [(aH.enc a2),(.ref 1 [] 0),(.ref 2 [] 0),(aB.enc a3),(aB.enc a4),(j64 a5),(eB a6),(aG.enc a7)]),.var (.st 38 [(aF.enc a8),(aI.enc a9),(.ifc 88 (.ref 3 [] 0)),(eO 4 1 (eL 2 aD.enc) b4),(aB.enc a10),(aJ.enc a11)]),.var (.st 72 [(aU.enc r.1),(eB a12.gA),(k64 a12.gC),(j64 a12.gB),(j64 a12.gD)]),.var (aK.enc a13),.tail (b4.length*1)]:=by
 unfold dI at h
 refine At.f dM hT hmo Tryz.func32 rfl h ?_
 refine bi fun r1 hr1=>?_
 refine At.d 1 dE0 (dF 9 (k32 r1.2) [(2,.var (.st 72 [(aU.enc r1.1),(eB a12.gA),(k64 a12.gC),(j64 a12.gB),(j64 a12.gD)]))] [] (bS (aN [2] (tI hr1))) dF0) ?_
 apply rt;exact At.r 0
def fJ (N:Nat) (a0:aK):Option (Bool):=
 some (!a0.gA)
theorem vS {N a0 r} (h:fJ N a0=some r):FnM Tryz.prog 293 [.var (aK.enc a0)] [(.ref 0 [] 0)] (eB r) [.var (aK.enc a0)]:=by
 unfold fJ at h
 refine At.f dM hT hmo Tryz.func293 rfl h ?_
 refine At.o 2 (pG hT (t:=88) (x:=(.ref 0 [] 0)) (b:=true) (by kernel_rfl) rfl rfl (by kernel_rfl)) ?_
 refine At.g [5] 8 ?_
 apply rt;exact At.r 0
def lN (N:Nat) (a0:aK):Option (Unit):=
 some (())
theorem aBS {N a0 r} (h:lN N a0=some r):FnM Tryz.prog 292 [.var (aK.enc a0)] [(.ref 0 [0] 0)] (.tup []) [.var (.st 3 [(.st 1 [(j64 (I64 (a0.gE1.gn+1)))]),(eB a0.gA),(eL 19 aE.enc a0.gl)])]:=by
 unfold lN at h
 refine At.f dM hT hmo Tryz.func292 rfl h ?_
 apply rt;exact At.z 8
def yX : Nat→Bool:=imL [7,8]
def cS (N:Nat) (a0 a1:aC) (a2 a3 a4:Int) (a5:aK):Option (aL×Bool):=
 Option.bind (lN N a5) fun r1=>
 Option.bind (idx a5.gl a4) fun e2=>
 Option.bind (pR N a0 a1 e2.gP) fun r3=>
 Option.bind (cond r3.2 (
  Option.bind (idx a5.gl a4) fun e5=>
  aV ((eK .u8 e5.gB1 a2) != 0) fun x6=>
  cond x6 (
   some (a4 != a3)) (
   some false)) (
  some false)) fun p4=>
 some ((r3.1,p4))
theorem rG {N a0 a1 a2 a3 a4 a5 r} (h:cS N a0 a1 a2 a3 a4 a5=some r):FnM Tryz.prog 294 [.var (aK.enc a5)] [(.ref 0 [] 0),(aC.enc a0),(aC.enc a1),(k8 a2),(j64 a3),(j64 a4)] (.tup [(aL.enc r.1),(eB r.2)]) [.var (.st 3 [(.st 1 [(j64 (I64 (a5.gE1.gn+1)))]),(eB a5.gA),(eL 19 aE.enc a5.gl)])]:=by
 unfold cS at h
 refine At.f yX hT hmo Tryz.func294 rfl h ?_
 refine At.b 7 (fun _ e=>aN [0] (aBS e)) fun r1=>?_
 refine bi fun e2 he2=>?_
 refine bi fun r3 hr3=>?_
 refine At.d 0 (dE1 7 (fun _=>cF hT aE.enc he2) (dE2 10 (.tup [(aL.enc r3.1),(eB r3.2)]) (fun _=>aO (aFz hr3)) dE0)) dF0 ?_
 refine At.J 0 0 [12] 3 (fun p4=>([(13,(eB p4))],[(1,.var (aL.enc r3.1))],[])) (fun p4=>?_) fun p4=>?_
 ·refine boI (fun hc2=>?_) (fun hc2=>?_)
  ·refine bi fun e5 he5=>?_
   refine lx ?_;intro x6
   refine boI (fun hc15=>?_) (fun hc15=>?_)
   ·refine At.d 0 (dE1 2 (fun _=>dO hc2 rfl (dC hT (im:=false) (by kernel_rfl))) (dE1 8 (fun _=>cF hT aE.enc he5) (dE1 15 (fun _=>dO hc15 rfl (dC hT (im:=false) (by kernel_rfl))) dE0))) dF0 ?_
    apply rt;exact At.jn 0
   ·refine At.d 0 (dE1 2 (fun _=>dO hc2 rfl (dC hT (im:=false) (by kernel_rfl))) (dE1 8 (fun _=>cF hT aE.enc he5) (dE1 15 (fun _=>dO hc15 rfl (dC hT (im:=false) (by kernel_rfl))) dE0))) dF0 ?_
    apply rt;exact At.jn 0
  ·refine At.d 0 (dE1 2 (fun _=>dO hc2 rfl (dC hT (im:=false) (by kernel_rfl))) dE0) dF0 ?_
   apply rt;exact At.jn 0
 ·apply rt;exact At.r 0
def yH : Nat→Bool:=imL [6,7]
def bU (N:Nat) (a4:aK) (a0 a1:aC) (a2 a3:Int):Nat→aK→aL→Int→Int→Option (aK×aL×Int)
 | 0,_,_,_,_=>none
 | k+1,s3,s4,s5,s6=>
  aV (decide (s6 < ((a4.gl.length:Int)))) fun x7=>
  cond x7 (
   Option.bind (Option.bind (cS N a0 a1 a2 a3 s6 s3) fun r9=>
   Option.bind (cond (decide (s5 < 0)) (
    some true) (
    Option.bind (qO N r9.1 s4) fun r11=>
    some r11)) fun p10=>
   cond (cond r9.2 p10 false) (some ((r9.1,r9.1,s6))) (some ((s4,r9.1,s5)))) fun p8=>
   bU N a4 a0 a1 a2 a3 k (aK.mk (jN.mk (I64 (s3.gE1.gn+1))) s3.gA s3.gl) p8.1 p8.2.2 (I64 (s6+1))) (
   some ((s3,s4,s5)))
def bX (N:Nat) (a0 a1:aC) (a2 a3:Int) (a4:aK):Option (aK×Int×aL):=
 Option.bind (fJ N a4) fun r1=>
 cond r1 (
  some ((a4,-1,aL.mk 0 0 0 0))) (
  Option.bind (bU N a4 a0 a1 a2 a3 N a4 (aL.mk 0 0 0 0) (-1) 0) fun p2=>
  some ((p2.1,p2.2.2,p2.2.1)))
theorem qS {N a0 a1 a2 a3 a4 r} (h:bX N a0 a1 a2 a3 a4=some r):FnM Tryz.prog 290 [.var (aK.enc a4)] [(.ref 0 [] 0),(aC.enc a0),(aC.enc a1),(k8 a2),(j64 a3)] (.tup [(j64 r.2.1),(aL.enc r.2.2)]) [.var (aK.enc r.1)]:=by
 unfold bX at h
 refine At.f yH hT hmo Tryz.func290 rfl h ?_
 refine At.b 6 (fun _ e=>aN [0] (vS e)) fun r1=>?_
 refine At.c 0 ?_ ?_
 ·refine At.d 0 dE0 dF0 ?_
  apply rt;exact At.r 0
 ·refine At.L 6 [11] 2 (fun p2=>([(10,(j64 p2.2.2))],[(0,.var (aK.enc p2.1)),(1,.var (aL.enc p2.2.1))],[])) (fun p2 J k=>∃ s3 s4 s5 s6,bU N a4 a0 a1 a2 a3 k s3 s4 s5 s6=some p2∧J [0,3,4,6,7,11,24] 2 [(10,(j64 s5)),(25,(j64 s6))] [(0,.var (aK.enc s3)),(1,.var (aL.enc s4))] []) N (fun _ h=>⟨_,_,_,_,h,jr⟩) (fun p2 k s hI=>?_) fun p2=>?_
  ·obtain ⟨s3,s4,s5,s6,h,hj⟩:=hI
   cases k with
   | zero=>cases h
   | succ k=>
    refine At.jr hj ?_ h
    refine lx ?_;intro x7
    refine At.c 1 ?_ ?_
    ·refine At.J 0 2 [0,3,4,6,7,11,24,25] 2 (fun p8=>([(10,(j64 p8.2.2))],[(0,.var (.st 3 [(.st 1 [(j64 (I64 (s3.gE1.gn+1)))]),(eB s3.gA),(eL 19 aE.enc s3.gl)])),(1,.var (aL.enc p8.1))],[.var (aL.enc p8.2.1)])) (fun p8=>?_) fun p8=>?_
     ·refine At.b 8 (fun _ e=>aN [0] (rG e)) fun r9=>?_
      refine At.J 6 0 [0,3,4,6,7,10,11,12,13,14,24,25] 3 (fun p10=>([(15,(eB p10))],[],[])) (fun p10=>?_) fun p10=>?_
      ·refine At.s 40 3 ?_ ?_
       ·refine At.g [40] 5 ?_
        apply rt;exact At.jn 0
       ·refine At.g [40] 2 ?_
        refine At.b 0 (fun _ e=>aN [] (aBf e)) fun r11=>?_
        refine At.g [40] 2 ?_
        apply rt;exact At.jn 0
      ·refine At.c 4 ?_ ?_
       ·refine At.d 0 dE0 dF0 ?_
        apply rt;exact At.jn 0
       ·apply rt;exact At.jn 0
     ·exact fun h=>At.k 2 ⟨_,_,_,_,h,jr⟩
    ·apply rt;exact At.x 0
  ·refine At.d 0 dE0 dF0 ?_
   apply rt;exact At.r 0
def kT (N:Nat) (b4:(List (List aD))) (a1:aH) (a2 a3:aB) (a4:Int) (a5:Bool) (a6:aG) (a7:aF) (a8:aI) (a9:aB) (a10:aJ) (a11:aA) (a12:aK):Option (aG×Int×aK×aR×Bool):=
 Option.bind (cond (a4==0) (some 9) (some 4)) fun p1=>
 Option.bind (bX N a1.go a1.gd p1 a1.gC5 a12) fun r2=>
 Option.bind (cond a8.gB2 (some (I64 (a10.gB7+4))) (some a10.gB7)) fun p3=>
 cond (decide (r2.2.1 < 0)) (
  some ((a6,p3,r2.1,aR.mk 0 (aC.mk 0 0 0) (aB.mk 0 0 0) (aB.mk 0 0 0) (aQ.mk 0 (#v[0,0,0]) 0) false,false))) (
  Option.bind (idx a7.gE r2.2.1) fun e4=>
  Option.bind (fH 1 3) fun _=>
  Option.bind (e4.gP.toList[(Int.toNat 1)]?) fun e6=>
  Option.bind (fH 0 3) fun _=>
  Option.bind (e4.gP.toList[(Int.toNat 0)]?) fun e8=>
  Option.bind (kY N e6 e8) fun r9=>
  Option.bind (fH 2 3) fun _=>
  Option.bind (e4.gP.toList[(Int.toNat 2)]?) fun e11=>
  Option.bind (fH 0 3) fun _=>
  Option.bind (e4.gP.toList[(Int.toNat 0)]?) fun e13=>
  Option.bind (kY N e11 e13) fun r14=>
  Option.bind (nA N r9 r14) fun r15=>
  Option.bind (fM N r15) fun r16=>
  Option.bind (Option.bind (qH N a1.go a1.gd r2.2.2) fun r18=>
  Option.bind (jK N r16 a1.gd) fun r19=>
  Option.bind (idx a7.gA5 e4.gC1) fun e20=>
  cond (a4==0) (
   aV ((eK .u8 e4.gB1 8) != 0) fun x21=>
   some (aR.mk r2.2.1 r18 r19 (aB.mk 0 0 0) e20 x21)) (
   some (aR.mk r2.2.1 r18 r19 (aB.mk 0 0 0) e20 false))) fun p17=>
  Option.bind (cond (decide (e4.gA6≥0)) (
   Option.bind (idx b4 e4.gA6) fun e23=>
   cond (!a8.gB2) (some ((I64 (p3+4),e23))) (some ((p3,e23)))) (
   some ((p3,[])))) fun p22=>
  Option.bind (kJ N p17.gI.gB6 p22.2 e4.gUv r2.2.2 a4) fun r24=>
  Option.bind (aV (cond (a4==0) (!a5) false) fun x26=>
  cond x26 (
   Option.bind (mP N p17.gat) fun r27=>
   Option.bind (mP N a1.go) fun r28=>
   Option.bind (tA N r27 r28) fun r29=>
   Option.bind (oH N r29) fun r30=>
   cond p17.gB5 (
    some (aG.mk (aB.mk 0 0 0) 0 r30 p17.gn e4.gB9)) (
    some (aG.mk (aB.mk 0 0 0) 1 r30 p17.gn e4.gB9))) (
   some a6)) fun p25=>
  some ((p25,p22.1,r2.1,aR.mk p17.gi p17.gat p17.gn r24 p17.gI p17.gB5,true)))
theorem aAw {N b4 a1 a2 a3 a4 a5 a6 a7 a8 a9 a10 a11 a12 r} (h:kT N b4 a1 a2 a3 a4 a5 a6 a7 a8 a9 a10 a11 a12=some r):FnM Tryz.prog 85 [.var (.st 26 [(aH.enc a1),(.ref 1 [] 0),(.ref 2 [] 0),(aB.enc a2),(aB.enc a3),(j64 a4),(eB a5),(aG.enc a6)]),.var (.st 38 [(aF.enc a7),(aI.enc a8),(.ifc 88 (.ref 3 [] 0)),(eO 4 1 (eL 2 aD.enc) b4),(aB.enc a9),(aJ.enc a10)]),.var (aA.enc a11),.var (aK.enc a12),.tail (b4.length*1)] [(.ref 0 [] 0)] (.tup [(aR.enc r.2.2.2.1),(eB r.2.2.2.2)]) [.var (.st 26 [(aH.enc a1),(.ref 1 [] 0),(.ref 2 [] 0),(aB.enc a2),(aB.enc a3),(j64 a4),(eB a5),(aG.enc r.1)]),.var (.st 38 [(aF.enc a7),(aI.enc a8),(.ifc 88 (.ref 3 [] 0)),(eO 4 1 (eL 2 aD.enc) b4),(aB.enc a9),(.st 3 [(j64 a10.gK),(j64 r.2.1),(j64 (I64 (a10.gL+1)))])]),.var (aA.enc a11),.var (aK.enc r.2.2.1),.tail (b4.length*1)]:=by
 unfold kT at h
 refine At.f dM hT hmo Tryz.func85 rfl h ?_
 refine At.J 3 1 [0,2] 6 (fun p1=>([(4,(k8 p1))],[],[])) (fun p1=>?_) fun p1=>?_
 ·refine At.c 5 ?_ ?_
  ·apply rt;exact At.jn 1
  ·apply rt;exact At.jn 0
 ·refine bi fun r2 hr2=>?_
  refine At.d2 0 [false] dC0 (dS1 25 ⟨(.tup [(j64 r2.2.1),(aL.enc r2.2.2)]),3,.var (aK.enc r2.1),.var (aK.enc a12)⟩ [[.var (.st 26 [(aH.enc a1),(.ref 1 [] 0),(.ref 2 [] 0),(aB.enc a2),(aB.enc a3),(j64 a4),(eB a5),(aG.enc a6)]),.var (.st 38 [(aF.enc a7),(aI.enc a8),(.ifc 88 (.ref 3 [] 0)),(eO 4 1 (eL 2 aD.enc) b4),(aB.enc a9),(aJ.enc a10)]),.var (aA.enc a11),.var (aK.enc a12),.tail (b4.length*1),.var aJz,.dead],[.var (.st 26 [(aH.enc a1),(.ref 1 [] 0),(.ref 2 [] 0),(aB.enc a2),(aB.enc a3),(j64 a4),(eB a5),(aG.enc a6)]),.var (.st 38 [(aF.enc a7),(aI.enc a8),(.ifc 88 (.ref 3 [] 0)),(eO 4 1 (eL 2 aD.enc) b4),(aB.enc a9),(aJ.enc a10)]),.var (aA.enc a11),.var (aK.enc a12),.tail (b4.length*1),.var aJz,.var (.st 4 [(j64 0),(j64 0),(j64 0),(j64 0)])]] ⟨bS (aN [3] (qS hr2)),bS (aN [3] (qS hr2)),trivial⟩ (dS1 29 ⟨(.ref 6 [] 0),6,.var (.st 4 [(j64 0),(j64 0),(j64 0),(j64 0)]),.dead⟩ [[.var (.st 26 [(aH.enc a1),(.ref 1 [] 0),(.ref 2 [] 0),(aB.enc a2),(aB.enc a3),(j64 a4),(eB a5),(aG.enc a6)]),.var (.st 38 [(aF.enc a7),(aI.enc a8),(.ifc 88 (.ref 3 [] 0)),(eO 4 1 (eL 2 aD.enc) b4),(aB.enc a9),(aJ.enc a10)]),.var (aA.enc a11),.var (aK.enc a12),.tail (b4.length*1),.var aJz,.dead],[.var (.st 26 [(aH.enc a1),(.ref 1 [] 0),(.ref 2 [] 0),(aB.enc a2),(aB.enc a3),(j64 a4),(eB a5),(aG.enc a6)]),.var (.st 38 [(aF.enc a7),(aI.enc a8),(.ifc 88 (.ref 3 [] 0)),(eO 4 1 (eL 2 aD.enc) b4),(aB.enc a9),(aJ.enc a10)]),.var (aA.enc a11),.var (aK.enc r2.1),.tail (b4.length*1),.var aJz,.dead]] ⟨aX hT 6 (by kernel_rfl) (by kernel_rfl) (by kernel_rfl),aX hT 6 (by kernel_rfl) (by kernel_rfl) (by kernel_rfl),trivial⟩ dS0)) ?_
  refine At.J 13 1 [0,2,5,6] 7 (fun p3=>([],[(1,.var (.st 38 [(aF.enc a7),(aI.enc a8),(.ifc 88 (.ref 3 [] 0)),(eO 4 1 (eL 2 aD.enc) b4),(aB.enc a9),(.st 3 [(j64 a10.gK),(j64 p3),(j64 (I64 (a10.gL+1)))])]))],[])) (fun p3=>?_) fun p3=>?_
  ·refine At.c 8 ?_ ?_
   ·apply rt;exact At.jn 13
   ·apply rt;exact At.jn 0
  ·refine At.c 2 ?_ ?_
   ·apply rt;exact At.r 3
   ·refine At.b 9 (fun _ e=>cF hT aE.enc e) fun e4=>?_
    refine bi fun u5 hu5=>?_
    refine bi fun e6 he6=>?_
    refine bi fun u7 hu7=>?_
    refine bi fun e8 he8=>?_
    refine bi fun r9 hr9=>?_
    refine bi fun u10 hu10=>?_
    refine bi fun e11 he11=>?_
    refine bi fun u12 hu12=>?_
    refine bi fun e13 he13=>?_
    refine bi fun r14 hr14=>?_
    refine bi fun r15 hr15=>?_
    refine bi fun r16 hr16=>?_
    refine At.d 3 (dE1 1 (fun _=>bG hT (k:=3) 7 [0] 0 hu5) (dEL hT 2 (aC.enc e6) aC.enc 1 he6 (dE1 4 (fun _=>bG hT (k:=3) 7 [0] 0 hu7) (dEL hT 5 (aC.enc e8) aC.enc 1 he8 (dE2 6 (aC.enc r9) (fun _=>aO (rO hr9)) (dE1 8 (fun _=>bG hT (k:=3) 7 [0] 0 hu10) (dEL hT 9 (aC.enc e11) aC.enc 1 he11 (dE1 11 (fun _=>bG hT (k:=3) 7 [0] 0 hu12) (dEL hT 12 (aC.enc e13) aC.enc 1 he13 (dE2 13 (aC.enc r14) (fun _=>aO (rO hr14)) (dE2 14 (aC.enc r15) (fun _=>aO (xX hr15)) (dE2 15 (aB.enc r16) (fun _=>aO (lJ hr16)) dE0)))))))))))) dF0 ?_
    refine At.J 0 0 [0,2,6,7] 9 (fun p17=>([],[(5,.var (aR.enc p17))],[])) (fun p17=>?_) fun p17=>?_
    ·refine bi fun r18 hr18=>?_
     refine bi fun r19 hr19=>?_
     refine bi fun e20 he20=>?_
     refine boI (fun hc37=>?_) (fun hc37=>?_)
     ·refine lx ?_;intro x21
      refine At.d 0 (dE2 12 (aC.enc r18) (fun _=>aO (xW hr18)) (dE2 19 (aB.enc r19) (fun _=>aO (rH hr19)) (dE1 30 (fun _=>cF hT aQ.enc he20) (dE1 37 (fun _=>dO hc37 rfl (dC hT (im:=false) (by kernel_rfl))) dE0)))) dF0 ?_
      apply rt;exact At.jn 0
     ·refine At.d 0 (dE2 12 (aC.enc r18) (fun _=>aO (xW hr18)) (dE2 19 (aB.enc r19) (fun _=>aO (rH hr19)) (dE1 30 (fun _=>cF hT aQ.enc he20) (dE1 37 (fun _=>dO hc37 rfl (dC hT (im:=false) (by kernel_rfl))) dE0)))) dF0 ?_
      apply rt;exact At.jn 0
    ·refine At.J 1 1 [0,2,6,7] 9 (fun p22=>([(9,(eL 2 aD.enc p22.2))],[(1,.var (.st 38 [(aF.enc a7),(aI.enc a8),(.ifc 88 (.ref 3 [] 0)),(eO 4 1 (eL 2 aD.enc) b4),(aB.enc a9),(.st 3 [(j64 a10.gK),(j64 p22.1),(j64 (I64 (a10.gL+1)))])]))],[])) (fun p22=>?_) fun p22=>?_
     ·refine At.c 3 ?_ ?_
      ·refine bi fun e23 he23=>?_
       refine At.d 0 (dE1 9 (fun _=>cF hT (eL 2 aD.enc) he23) dE0) dF0 ?_
       refine At.c 9 ?_ ?_
       ·apply rt;exact At.jn 13
       ·apply rt;exact At.jn 0
      ·apply rt;exact At.jn 0
     ·refine bi fun r24 hr24=>?_
      refine At.d 0 (dE2 11 (aB.enc r24) (fun _=>aO (aAm hr24)) dE0) dF0 ?_
      refine At.J 0 1 [2] 9 (fun p25=>([],[(0,.var (.st 26 [(aH.enc a1),(.ref 1 [] 0),(.ref 2 [] 0),(aB.enc a2),(aB.enc a3),(j64 a4),(eB a5),(aG.enc p25)]))],[])) (fun p25=>?_) fun p25=>?_
      ·refine lx ?_;intro x26
       refine At.c 12 ?_ ?_
       ·refine bi fun r27 hr27=>?_
        refine bi fun r28 hr28=>?_
        refine bi fun r29 hr29=>?_
        refine bi fun r30 hr30=>?_
        refine At.d 0 (dE2 3 (aB.enc r27) (fun _=>aO (qW hr27)) (dE2 9 (aB.enc r28) (fun _=>aO (qW hr28)) (dE2 10 (aB.enc r29) (fun _=>aO (aBF hr29)) (dE2 11 (j64 r30) (fun _=>aO (aCR hr30)) dE0)))) dF0 ?_
        refine At.c 2 ?_ ?_
        ·apply rt;exact At.jn 5
        ·apply rt;exact At.jn 0
       ·apply rt;exact At.jn 0
      ·apply rt;exact At.r 3
def hQ (N:Nat) (b4:(List (List aD))) (a1:(List aB)) (a2:aH) (a3 a4:aB) (a5:Int) (a6:Bool) (a7:aG) (a8:aF) (a9:aI) (a10:aB) (a11:aJ) (a12:aA) (a13:aK):Option (aB):=
 cond (!a6) (
  Option.bind (wF 24 (([a3]:List aB)) a1) fun z1=>
  Option.bind (iL N z1) fun r2=>
  Option.bind (kZ N ([a4,r2])) fun r3=>
  some r3) (
  some a4)
theorem qM {N b4 a1 a2 a3 a4 a5 a6 a7 a8 a9 a10 a11 a12 a13 r} (h:hQ N b4 a1 a2 a3 a4 a5 a6 a7 a8 a9 a10 a11 a12 a13=some r):FnM Tryz.prog 86 [.var (.st 26 [(aH.enc a2),(.ref 1 [] 0),(.ref 2 [] 0),(aB.enc a3),(aB.enc a4),(j64 a5),(eB a6),(aG.enc a7)]),.var (.st 38 [(aF.enc a8),(aI.enc a9),(.ifc 88 (.ref 3 [] 0)),(eO 4 1 (eL 2 aD.enc) b4),(aB.enc a10),(aJ.enc a11)]),.var (aA.enc a12),.var (aK.enc a13),.tail (b4.length*1)] [(.ref 0 [] 0),(eL 3 aB.enc a1)] (.tup []) [.var (.st 26 [(aH.enc a2),(.ref 1 [] 0),(.ref 2 [] 0),(aB.enc a3),(aB.enc r),(j64 a5),(eB a6),(aG.enc a7)]),.var (.st 38 [(aF.enc a8),(aI.enc a9),(.ifc 88 (.ref 3 [] 0)),(eO 4 1 (eL 2 aD.enc) b4),(aB.enc a10),(aJ.enc a11)]),.var (aA.enc a12),.var (aK.enc a13),.tail (b4.length*1)]:=by
 unfold hQ at h
 refine At.f dM hT hmo Tryz.func86 rfl h ?_
 refine At.c 5 ?_ ?_
 ·refine bi fun z1 hz1=>?_
  refine bi fun r2 hr2=>?_
  refine bi fun r3 hr3=>?_
  refine At.d 0 (dE2 12 (aB.enc r2) (fun _=>aO (qK hr2)) (dE1 13 (fun _=>cI hT (x:=(.sl 3 2 [(aB.enc a4),(aB.enc r2)]))) (dE2 14 (aB.enc r3) (fun _=>aO (wJ hr3)) dE0))) (dF 9 (eO 5 3 aB.enc (([a3]:List aB))) [] [.tail ((([a3]:List aB)).length*3)] (bS (vI hT aB.enc (k:=3) ([a3]:List aB) (by kernel_rfl) (by kernel_rfl))) (dF 11 (eO 5 3 aB.enc z1) [(5,.tail (z1.length*3))] [] (bS (nR hT aB.enc (id:=5) (k:=3) hz1)) dF0)) ?_
  apply rt;exact At.z 0
 ·apply rt;exact At.z 0
def eC (N:Nat) (b4:(List (List aD))) (a1:Bool) (a2:aH) (a3 a4:aB) (a5:Int) (a6:Bool) (a7:aG) (a8:aF) (a9:aI) (a10:aB) (a11:aJ) (a12:aA) (a13:aK):Option (Unit):=
 some (())
theorem iN {N b4 a1 a2 a3 a4 a5 a6 a7 a8 a9 a10 a11 a12 a13 r} (h:eC N b4 a1 a2 a3 a4 a5 a6 a7 a8 a9 a10 a11 a12 a13=some r):FnM Tryz.prog 87 [.var (.st 26 [(aH.enc a2),(.ref 1 [] 0),(.ref 2 [] 0),(aB.enc a3),(aB.enc a4),(j64 a5),(eB a6),(aG.enc a7)]),.var (.st 38 [(aF.enc a8),(aI.enc a9),(.ifc 88 (.ref 3 [] 0)),(eO 4 1 (eL 2 aD.enc) b4),(aB.enc a10),(aJ.enc a11)]),.var (aA.enc a12),.var (aK.enc a13),.tail (b4.length*1)] [(.ref 0 [] 0),(eB a1)] (.tup []) [.var (.st 26 [(aH.enc a2),(.ref 1 [] 0),(.ref 2 [] 0),(aB.enc a3),(aB.enc a4),(j64 a5),(eB (cond a6 true a1)),(aG.enc a7)]),.var (.st 38 [(aF.enc a8),(aI.enc a9),(.ifc 88 (.ref 3 [] 0)),(eO 4 1 (eL 2 aD.enc) b4),(aB.enc a10),(aJ.enc a11)]),.var (aA.enc a12),.var (aK.enc a13),.tail (b4.length*1)]:=by
 unfold eC at h
 refine At.f dM hT hmo Tryz.func87 rfl h ?_
 apply rt;exact At.z 11
def aAU : Nat→Bool:=imL [7,8]
def bY (N:Nat) (a5:aK) (a0 a1:aC) (a2 a3:Int) (a4:Bool):Nat→aK→Bool→Int→Option (aK×Bool)
 | 0,_,_,_=>none
 | k+1,s3,s4,s5=>
  aV (decide (s5 < ((a5.gl.length:Int)))) fun x6=>
  cond x6 (
   Option.bind (cS N a0 a1 a2 a3 s5 s3) fun r7=>
   cond r7.2 (
    aV (decide (r7.1.gT < r7.1.gM)) fun x8=>
    aV (cond (cond (!a4) true x8) true s4) fun x9=>
    bY N a5 a0 a1 a2 a3 a4 k (aK.mk (jN.mk (I64 (s3.gE1.gn+1))) s3.gA s3.gl) x9 (I64 (s5+1))) (
    bY N a5 a0 a1 a2 a3 a4 k (aK.mk (jN.mk (I64 (s3.gE1.gn+1))) s3.gA s3.gl) s4 (I64 (s5+1)))) (
   some ((s3,s4)))
def cE (N:Nat) (a0 a1:aC) (a2 a3:Int) (a4:Bool) (a5:aK):Option (aK×Bool):=
 Option.bind (fJ N a5) fun r1=>
 cond r1 (
  some ((a5,false))) (
  Option.bind (bY N a5 a0 a1 a2 a3 a4 N a5 false 0) fun p2=>
  some ((p2.1,p2.2)))
theorem kO {N a0 a1 a2 a3 a4 a5 r} (h:cE N a0 a1 a2 a3 a4 a5=some r):FnM Tryz.prog 289 [.var (aK.enc a5)] [(.ref 0 [] 0),(aC.enc a0),(aC.enc a1),(k8 a2),(j64 a3),(eB a4)] (eB r.2) [.var (aK.enc r.1)]:=by
 unfold cE at h
 refine At.f aAU hT hmo Tryz.func289 rfl h ?_
 refine At.b 4 (fun _ e=>aN [0] (vS e)) fun r1=>?_
 refine At.c 0 ?_ ?_
 ·apply rt;exact At.r 1
 ·refine At.L 7 [] 1 (fun p2=>([(13,(eB p2.2))],[(0,.var (aK.enc p2.1))],[])) (fun p2 J k=>∃ s3 s4 s5,bY N a5 a0 a1 a2 a3 a4 k s3 s4 s5=some p2∧J [0,3,4,5,7,8,23] 1 [(13,(eB s4)),(24,(j64 s5))] [(0,.var (aK.enc s3))] []) N (fun _ h=>⟨_,_,_,h,jr⟩) (fun p2 k s hI=>?_) fun p2=>?_
  ·obtain ⟨s3,s4,s5,h,hj⟩:=hI
   cases k with
   | zero=>cases h
   | succ k=>
    refine At.jr hj ?_ h
    refine lx ?_;intro x6
    refine At.c 1 ?_ ?_
    ·refine At.b 8 (fun _ e=>aN [0] (rG e)) fun r7=>?_
     refine At.s 38 8 ?_ ?_
     ·refine lx ?_;intro x8
      refine lx ?_;intro x9
      refine At.g [38] 16 ?_
      exact fun h=>At.k 0 ⟨_,_,_,h,jr⟩
     ·refine At.g [38,41,49] 16 ?_
      exact fun h=>At.k 0 ⟨_,_,_,h,jr⟩
    ·apply rt;exact At.x 0
  ·apply rt;exact At.r 2
def aAe : Nat→Bool:=imL [3]
def fD (N:Nat) (x1:Int) (a8:aF) (b4:(List (List aD))) (a2:aH) (a3:aB) (a5:Int) (a6:Bool) (a7:aG) (a9:aI) (a10:aB) (a11:aJ) (a1:aR):Nat→aB→aA→aK→Int→Option (aB×aA×aK)
 | 0,_,_,_,_=>none
 | k+1,s3,s4,s5,s6=>
  cond (decide (s6 < x1)) (
   Option.bind (Option.bind (idx a8.gF s6) fun e8=>
   aV (I64 (8+(I64 (2*s6)))) fun x9=>
   Option.bind (dI N b4 x9 a2 a3 s3 a5 a6 a7 a8 a9 a10 a11 s4 s5) fun r10=>
   aV (I64 (9+(I64 (2*s6)))) fun x11=>
   Option.bind (dI N b4 x11 a2 a3 s3 a5 a6 a7 a8 a9 a10 a11 (aA.mk r10.1 s4.gA s4.gC s4.gB s4.gD) s5) fun r12=>
   Option.bind (mY N e8 a1.gat a1.gn (#v[r10.2,r12.2])) fun r13=>
   aV (cond r13.gC2 (!a9.gB2) false) fun x14=>
   cond x14 (
    some ((s3,aA.mk r12.1 ((aA.mk r10.1 s4.gA s4.gC s4.gB s4.gD).gA) ((aA.mk r10.1 s4.gA s4.gC s4.gB s4.gD).gC) ((aA.mk r10.1 s4.gA s4.gC s4.gB s4.gD).gB) ((aA.mk r10.1 s4.gA s4.gC s4.gB s4.gD).gD),s5,e8,r13))) (
    Option.bind (Option.bind (cE N a1.gat r13.gC6 2 a1.gi (!r13.gC7) s5) fun r16=>
    cond (!r16.2) (
     cond (!r13.gC2) (
      some ((r16.1,a1.gI.gJ==0))) (
      some ((r16.1,false)))) (
     some ((r16.1,false)))) fun p15=>
    cond p15.2 (
     Option.bind (hQ N b4 ([a1.gc,r13.gC3]) a2 a3 s3 a5 a6 a7 a8 a9 a10 a11 (aA.mk r12.1 ((aA.mk r10.1 s4.gA s4.gC s4.gB s4.gD).gA) ((aA.mk r10.1 s4.gA s4.gC s4.gB s4.gD).gC) ((aA.mk r10.1 s4.gA s4.gC s4.gB s4.gD).gB) ((aA.mk r10.1 s4.gA s4.gC s4.gB s4.gD).gD)) p15.1) fun r17=>
     some ((r17,aA.mk r12.1 ((aA.mk r10.1 s4.gA s4.gC s4.gB s4.gD).gA) ((aA.mk r10.1 s4.gA s4.gC s4.gB s4.gD).gC) ((aA.mk r10.1 s4.gA s4.gC s4.gB s4.gD).gB) ((aA.mk r10.1 s4.gA s4.gC s4.gB s4.gD).gD),p15.1,e8,r13))) (
     some ((s3,aA.mk r12.1 ((aA.mk r10.1 s4.gA s4.gC s4.gB s4.gD).gA) ((aA.mk r10.1 s4.gA s4.gC s4.gB s4.gD).gC) ((aA.mk r10.1 s4.gA s4.gC s4.gB s4.gD).gB) ((aA.mk r10.1 s4.gA s4.gC s4.gB s4.gD).gD),p15.1,e8,r13))))) fun p7=>
   fD N x1 a8 b4 a2 a3 a5 a6 a7 a9 a10 a11 a1 k p7.1 p7.2.1 p7.2.2.1 (I64 (s6+1))) (
   some ((s3,s4,s5)))
def fE (N:Nat) (r18:Int×Int) (x19:Int) (a1:aR):Nat→aK→Int→Option (aK)
 | 0,_,_=>none
 | k+1,s21,s22=>
  aV (decide (s22 < (I64 (r18.2 - x19)))) fun x23=>
  cond x23 (
   Option.bind (cE N a1.gat (aC.mk 0 0 0) 2 a1.gi false s21) fun r24=>
   fE N r18 x19 a1 k r24.1 (I64 (s22+1))) (
   some s21)
def jJ (N:Nat) (b4:(List (List aD))) (a1:aR) (a2:aH) (a3 a4:aB) (a5:Int) (a6:Bool) (a7:aG) (a8:aF) (a9:aI) (a10:aB) (a11:aJ) (a12:aA) (a13:aK):Option (aB×aA×aK):=
 aV ((a8.gF.length:Int)) fun x1=>
 Option.bind (fD N x1 a8 b4 a2 a3 a5 a6 a7 a9 a10 a11 a1 N a4 a12 a13 0) fun p2=>
 cond (!a9.gB2) (
  some ((p2.1,p2.2.1,p2.2.2))) (
  Option.bind (jB N a9.gA3) fun r18=>
  aV ((a8.gF.length:Int)) fun x19=>
  Option.bind (fE N r18 x19 a1 N p2.2.2 0) fun p20=>
  some ((p2.1,p2.2.1,p20)))
theorem aAF {N b4 a1 a2 a3 a4 a5 a6 a7 a8 a9 a10 a11 a12 a13 r} (h:jJ N b4 a1 a2 a3 a4 a5 a6 a7 a8 a9 a10 a11 a12 a13=some r):FnM Tryz.prog 88 [.var (.st 26 [(aH.enc a2),(.ref 1 [] 0),(.ref 2 [] 0),(aB.enc a3),(aB.enc a4),(j64 a5),(eB a6),(aG.enc a7)]),.var (.st 38 [(aF.enc a8),(aI.enc a9),(.ifc 88 (.ref 3 [] 0)),(eO 4 1 (eL 2 aD.enc) b4),(aB.enc a10),(aJ.enc a11)]),.var (aA.enc a12),.var (aK.enc a13),.tail (b4.length*1)] [(.ref 0 [] 0),(aR.enc a1)] (.tup []) [.var (.st 26 [(aH.enc a2),(.ref 1 [] 0),(.ref 2 [] 0),(aB.enc a3),(aB.enc r.1),(j64 a5),(eB a6),(aG.enc a7)]),.var (.st 38 [(aF.enc a8),(aI.enc a9),(.ifc 88 (.ref 3 [] 0)),(eO 4 1 (eL 2 aD.enc) b4),(aB.enc a10),(aJ.enc a11)]),.var (aA.enc r.2.1),.var (aK.enc r.2.2),.tail (b4.length*1)]:=by
 unfold jJ at h
 refine At.f aAe hT hmo Tryz.func88 rfl h ?_
 refine lx ?_;intro x1
 refine At.L 11 [0,3] 5 (fun p2=>([],[(0,.var (.st 26 [(aH.enc a2),(.ref 1 [] 0),(.ref 2 [] 0),(aB.enc a3),(aB.enc p2.1),(j64 a5),(eB a6),(aG.enc a7)])),(2,.var (aA.enc p2.2.1)),(3,.var (aK.enc p2.2.2))],[])) (fun p2 J k=>∃ s3 s4 s5 s6,fD N x1 a8 b4 a2 a3 a5 a6 a7 a9 a10 a11 a1 k s3 s4 s5 s6=some p2∧J [0,3,16,17] 5 [(18,(j64 s6))] [(0,.var (.st 26 [(aH.enc a2),(.ref 1 [] 0),(.ref 2 [] 0),(aB.enc a3),(aB.enc s3),(j64 a5),(eB a6),(aG.enc a7)])),(2,.var (aA.enc s4)),(3,.var (aK.enc s5))] []) N (fun _ h=>⟨_,_,_,_,h,jr⟩) (fun p2 k s hI=>?_) fun p2=>?_
 ·obtain ⟨s3,s4,s5,s6,h,hj⟩:=hI
  cases k with
  | zero=>cases h
  | succ k=>
   refine At.jr hj ?_ h
   refine At.c 1 ?_ ?_
   ·refine At.J 0 2 [0,3,16,17,18] 5 (fun p7=>([],[(0,.var (.st 26 [(aH.enc a2),(.ref 1 [] 0),(.ref 2 [] 0),(aB.enc a3),(aB.enc p7.1),(j64 a5),(eB a6),(aG.enc a7)])),(2,.var (aA.enc p7.2.1)),(3,.var (aK.enc p7.2.2.1))],[.var (aT.enc p7.2.2.2.1),.var (jF.enc p7.2.2.2.2)])) (fun p7=>?_) fun p7=>?_
    ·refine At.b 1 (fun _ e=>cF hT aT.enc e) fun e8=>?_
     refine lx ?_;intro x9
     refine bi fun r10 hr10=>?_
     refine lx ?_;intro x11
     refine bi fun r12 hr12=>?_
     refine bi fun r13 hr13=>?_
     refine At.d2 4 [false] (dC2 16 (jF.enc r13) (fun _=>aO (aB5 hr13)) dC0) (dS1 9 ⟨(k32 r10.2),2,.var (.st 72 [(aU.enc r10.1),(eB s4.gA),(k64 s4.gC),(j64 s4.gB),(j64 s4.gD)]),.var (aA.enc s4)⟩ [[.var (.st 26 [(aH.enc a2),(.ref 1 [] 0),(.ref 2 [] 0),(aB.enc a3),(aB.enc s3),(j64 a5),(eB a6),(aG.enc a7)]),.var (.st 38 [(aF.enc a8),(aI.enc a9),(.ifc 88 (.ref 3 [] 0)),(eO 4 1 (eL 2 aD.enc) b4),(aB.enc a10),(aJ.enc a11)]),.var (aA.enc s4),.var (aK.enc s5),.tail (b4.length*1),.var (aT.enc e8),.dead],[.var (.st 26 [(aH.enc a2),(.ref 1 [] 0),(.ref 2 [] 0),(aB.enc a3),(aB.enc s3),(j64 a5),(eB a6),(aG.enc a7)]),.var (.st 38 [(aF.enc a8),(aI.enc a9),(.ifc 88 (.ref 3 [] 0)),(eO 4 1 (eL 2 aD.enc) b4),(aB.enc a10),(aJ.enc a11)]),.var (aA.enc s4),.var (aK.enc s5),.tail (b4.length*1),.var (aT.enc e8),.var aNE]] ⟨bS (aN [0,1,2,3,4] (cK hr10)),bS (aN [0,1,2,3,4] (cK hr10)),trivial⟩ (dS1 14 ⟨(k32 r12.2),2,.var (.st 72 [(aU.enc r12.1),(eB ((aA.mk r10.1 s4.gA s4.gC s4.gB s4.gD).gA)),(k64 ((aA.mk r10.1 s4.gA s4.gC s4.gB s4.gD).gC)),(j64 ((aA.mk r10.1 s4.gA s4.gC s4.gB s4.gD).gB)),(j64 ((aA.mk r10.1 s4.gA s4.gC s4.gB s4.gD).gD))]),.var (.st 72 [(aU.enc r10.1),(eB s4.gA),(k64 s4.gC),(j64 s4.gB),(j64 s4.gD)])⟩ [[.var (.st 26 [(aH.enc a2),(.ref 1 [] 0),(.ref 2 [] 0),(aB.enc a3),(aB.enc s3),(j64 a5),(eB a6),(aG.enc a7)]),.var (.st 38 [(aF.enc a8),(aI.enc a9),(.ifc 88 (.ref 3 [] 0)),(eO 4 1 (eL 2 aD.enc) b4),(aB.enc a10),(aJ.enc a11)]),.var (.st 72 [(aU.enc r10.1),(eB s4.gA),(k64 s4.gC),(j64 s4.gB),(j64 s4.gD)]),.var (aK.enc s5),.tail (b4.length*1),.var (aT.enc e8),.dead],[.var (.st 26 [(aH.enc a2),(.ref 1 [] 0),(.ref 2 [] 0),(aB.enc a3),(aB.enc s3),(j64 a5),(eB a6),(aG.enc a7)]),.var (.st 38 [(aF.enc a8),(aI.enc a9),(.ifc 88 (.ref 3 [] 0)),(eO 4 1 (eL 2 aD.enc) b4),(aB.enc a10),(aJ.enc a11)]),.var (.st 72 [(aU.enc r10.1),(eB s4.gA),(k64 s4.gC),(j64 s4.gB),(j64 s4.gD)]),.var (aK.enc s5),.tail (b4.length*1),.var (aT.enc e8),.var aNE]] ⟨bS (aN [0,1,2,3,4] (cK hr12)),bS (aN [0,1,2,3,4] (cK hr12)),trivial⟩ (dS1 17 ⟨(.ref 6 [] 0),6,.var aNE,.dead⟩ [[.var (.st 26 [(aH.enc a2),(.ref 1 [] 0),(.ref 2 [] 0),(aB.enc a3),(aB.enc s3),(j64 a5),(eB a6),(aG.enc a7)]),.var (.st 38 [(aF.enc a8),(aI.enc a9),(.ifc 88 (.ref 3 [] 0)),(eO 4 1 (eL 2 aD.enc) b4),(aB.enc a10),(aJ.enc a11)]),.var (aA.enc s4),.var (aK.enc s5),.tail (b4.length*1),.var (aT.enc e8),.dead],[.var (.st 26 [(aH.enc a2),(.ref 1 [] 0),(.ref 2 [] 0),(aB.enc a3),(aB.enc s3),(j64 a5),(eB a6),(aG.enc a7)]),.var (.st 38 [(aF.enc a8),(aI.enc a9),(.ifc 88 (.ref 3 [] 0)),(eO 4 1 (eL 2 aD.enc) b4),(aB.enc a10),(aJ.enc a11)]),.var (.st 72 [(aU.enc r12.1),(eB ((aA.mk r10.1 s4.gA s4.gC s4.gB s4.gD).gA)),(k64 ((aA.mk r10.1 s4.gA s4.gC s4.gB s4.gD).gC)),(j64 ((aA.mk r10.1 s4.gA s4.gC s4.gB s4.gD).gB)),(j64 ((aA.mk r10.1 s4.gA s4.gC s4.gB s4.gD).gD))]),.var (aK.enc s5),.tail (b4.length*1),.var (aT.enc e8),.dead],[.var (.st 26 [(aH.enc a2),(.ref 1 [] 0),(.ref 2 [] 0),(aB.enc a3),(aB.enc s3),(j64 a5),(eB a6),(aG.enc a7)]),.var (.st 38 [(aF.enc a8),(aI.enc a9),(.ifc 88 (.ref 3 [] 0)),(eO 4 1 (eL 2 aD.enc) b4),(aB.enc a10),(aJ.enc a11)]),.var (.st 72 [(aU.enc r10.1),(eB s4.gA),(k64 s4.gC),(j64 s4.gB),(j64 s4.gD)]),.var (aK.enc s5),.tail (b4.length*1),.var (aT.enc e8),.dead],[.var (.st 26 [(aH.enc a2),(.ref 1 [] 0),(.ref 2 [] 0),(aB.enc a3),(aB.enc s3),(j64 a5),(eB a6),(aG.enc a7)]),.var (.st 38 [(aF.enc a8),(aI.enc a9),(.ifc 88 (.ref 3 [] 0)),(eO 4 1 (eL 2 aD.enc) b4),(aB.enc a10),(aJ.enc a11)]),.var (.st 72 [(aU.enc r12.1),(eB ((aA.mk r10.1 s4.gA s4.gC s4.gB s4.gD).gA)),(k64 ((aA.mk r10.1 s4.gA s4.gC s4.gB s4.gD).gC)),(j64 ((aA.mk r10.1 s4.gA s4.gC s4.gB s4.gD).gB)),(j64 ((aA.mk r10.1 s4.gA s4.gC s4.gB s4.gD).gD))]),.var (aK.enc s5),.tail (b4.length*1),.var (aT.enc e8),.dead]] ⟨aX hT 6 (by kernel_rfl) (by kernel_rfl) (by kernel_rfl),aX hT 6 (by kernel_rfl) (by kernel_rfl) (by kernel_rfl),aX hT 6 (by kernel_rfl) (by kernel_rfl) (by kernel_rfl),aX hT 6 (by kernel_rfl) (by kernel_rfl) (by kernel_rfl),trivial⟩ dS0))) ?_
     refine lx ?_;intro x14
     refine At.c 13 ?_ ?_
     ·apply rt;exact At.jn 0
     ·refine At.J 0 0 [0,3,6,16,17,18] 7 (fun p15=>([(81,(eB p15.2))],[(3,.var (aK.enc p15.1))],[])) (fun p15=>?_) fun p15=>?_
      ·refine bi fun r16 hr16=>?_
       refine boI (fun hc18=>?_) (fun hc18=>?_)
       ·refine boI (fun hc23=>?_) (fun hc23=>?_)
        ·refine At.d 0 (dE1 18 (fun _=>dO hc18 rfl (dC hT (im:=false) (by kernel_rfl))) (dE1 23 (fun _=>dO hc23 rfl (dC hT (im:=false) (by kernel_rfl))) dE0)) (dF 16 (eB r16.2) [(3,.var (aK.enc r16.1))] [] (bS (aN [3] (kO hr16))) dF0) ?_
         apply rt;exact At.jn 0
        ·refine At.d 0 (dE1 18 (fun _=>dO hc18 rfl (dC hT (im:=false) (by kernel_rfl))) (dE1 23 (fun _=>dO hc23 rfl (dC hT (im:=false) (by kernel_rfl))) dE0)) (dF 16 (eB r16.2) [(3,.var (aK.enc r16.1))] [] (bS (aN [3] (kO hr16))) dF0) ?_
         apply rt;exact At.jn 0
       ·refine At.d 0 (dE1 18 (fun _=>dO hc18 rfl (dC hT (im:=false) (by kernel_rfl))) dE0) (dF 16 (eB r16.2) [(3,.var (aK.enc r16.1))] [] (bS (aN [3] (kO hr16))) dF0) ?_
        apply rt;exact At.jn 0
      ·refine At.c 0 ?_ ?_
       ·refine At.o 5 (cI hT (x:=(.sl 3 2 [(aB.enc a1.gc),(aB.enc r13.gC3)]))) ?_
        refine At.b 0 (fun _ e=>aN [0,1,2,3,4] (qM e)) fun r17=>?_
        apply rt;exact At.jn 0
       ·apply rt;exact At.jn 0
    ·exact fun h=>At.k 2 ⟨_,_,_,_,h,jr⟩
   ·apply rt;exact At.x 0
 ·refine At.c 9 ?_ ?_
  ·apply rt;exact At.r 0
  ·refine At.b 8 (fun _ e=>aN [] (tC e)) fun r18=>?_
   refine lx ?_;intro x19
   refine At.L 17 [] 5 (fun p20=>([],[(3,.var (aK.enc p20))],[])) (fun p20 J k=>∃ s21 s22,fE N r18 x19 a1 k s21 s22=some p20∧J [0,3,121] 5 [(122,(j64 s22))] [(3,.var (aK.enc s21))] []) N (fun _ h=>⟨_,_,h,jr⟩) (fun p20 k s hI=>?_) fun p20=>?_
   ·obtain ⟨s21,s22,h,hj⟩:=hI
    cases k with
    | zero=>cases h
    | succ k=>
     refine At.jr hj ?_ h
     refine lx ?_;intro x23
     refine At.c 1 ?_ ?_
     ·refine bi fun r24 hr24=>?_
      refine At.d 0 dE0 (dF 12 (eB r24.2) [(3,.var (aK.enc r24.1))] [] (bS (aN [3] (kO hr24))) dF0) ?_
      exact fun h=>At.k 2 ⟨_,_,h,jr⟩
     ·apply rt;exact At.x 0
   ·apply rt;exact At.z 0
def kR (N:Nat) (b4:(List (List aD))) (a1:aH) (a2 a3:aB) (a4:Int) (a5:Bool) (a6:aG) (a7:aF) (a8:aI) (a9:aB) (a10:aJ) (a11:aA) (a12:aK):Option (aH×aB×aB×Bool×aG×Int×aA×aK):=
 Option.bind (kT N b4 a1 a2 a3 a4 a5 a6 a7 a8 a9 a10 a11 a12) fun r1=>
 Option.bind (cond (!r1.2.2.2.2) (
  Option.bind (hQ N b4 ([a9]) a1 a2 a3 a4 a5 r1.1 a7 a8 a9 (aJ.mk a10.gK r1.2.1 (I64 (a10.gL+1))) a11 r1.2.2.1) fun r3=>
  Option.bind (eC N b4 true a1 a2 r3 a4 a5 r1.1 a7 a8 a9 (aJ.mk a10.gK r1.2.1 (I64 (a10.gL+1))) a11 r1.2.2.1) fun r4=>
  some ((r3,cond a5 true true))) (
  some ((a3,a5)))) fun p2=>
 Option.bind (eC N b4 r1.2.2.2.1.gB5 a1 a2 p2.1 a4 p2.2 r1.1 a7 a8 a9 (aJ.mk a10.gK r1.2.1 (I64 (a10.gL+1))) a11 r1.2.2.1) fun r5=>
 Option.bind (aV (r1.2.2.2.1.gI.gJ==4) fun x7=>
 cond x7 (
  Option.bind (hQ N b4 ([r1.2.2.2.1.gc]) a1 a2 p2.1 a4 (cond p2.2 true r1.2.2.2.1.gB5) r1.1 a7 a8 a9 (aJ.mk a10.gK r1.2.1 (I64 (a10.gL+1))) a11 r1.2.2.1) fun r8=>
  Option.bind (eC N b4 true a1 a2 r8 a4 ((cond p2.2 true r1.2.2.2.1.gB5)) r1.1 a7 a8 a9 (aJ.mk a10.gK r1.2.1 (I64 (a10.gL+1))) a11 r1.2.2.1) fun r9=>
  some ((r8,cond ((cond p2.2 true r1.2.2.2.1.gB5)) true true))) (
  some ((p2.1,cond p2.2 true r1.2.2.2.1.gB5)))) fun p6=>
 Option.bind (Option.bind (cond a8.gB2 (
  some true) (
  aV (r1.2.2.2.1.gI.gJ==0) fun x12=>
  some (cond (!p6.2) x12 false))) fun p11=>
 cond p11 (
  Option.bind (jJ N b4 r1.2.2.2.1 a1 a2 p6.1 a4 p6.2 r1.1 a7 a8 a9 (aJ.mk a10.gK r1.2.1 (I64 (a10.gL+1))) a11 r1.2.2.1) fun r13=>
  some ((r13.1,r13.2.1,r13.2.2))) (
  some ((p6.1,a11,r1.2.2.1)))) fun p10=>
 Option.bind (cond p6.2 (
  some true) (
  some (a4==a8.gN))) fun p14=>
 cond p14 (
  Option.bind (eC N b4 true a1 a2 p10.1 a4 p6.2 r1.1 a7 a8 a9 (aJ.mk a10.gK r1.2.1 (I64 (a10.gL+1))) p10.2.1 p10.2.2) fun r15=>
  some ((a1,a2,p10.1,cond p6.2 true true,r1.1,r1.2.1,p10.2.1,p10.2.2))) (
  Option.bind (dI N b4 4 a1 a2 p10.1 a4 p6.2 r1.1 a7 a8 a9 (aJ.mk a10.gK r1.2.1 (I64 (a10.gL+1))) p10.2.1 p10.2.2) fun r16=>
  Option.bind (dI N b4 5 a1 a2 p10.1 a4 p6.2 r1.1 a7 a8 a9 (aJ.mk a10.gK r1.2.1 (I64 (a10.gL+1))) (aA.mk r16.1 p10.2.1.gA p10.2.1.gC p10.2.1.gB p10.2.1.gD) p10.2.2) fun r17=>
  Option.bind (iT N r1.2.2.2.1.gI r1.2.2.2.1.gc r1.2.2.2.1.gn a1.gd (#v[r16.2,r17.2])) fun r18=>
  Option.bind (iL N ([a2,r18.gC3])) fun r19=>
  Option.bind (eC N b4 r18.gB8 a1 r19 p10.1 a4 p6.2 r1.1 a7 a8 a9 (aJ.mk a10.gK r1.2.1 (I64 (a10.gL+1))) (aA.mk r17.1 ((aA.mk r16.1 p10.2.1.gA p10.2.1.gC p10.2.1.gB p10.2.1.gD).gA) ((aA.mk r16.1 p10.2.1.gA p10.2.1.gC p10.2.1.gB p10.2.1.gD).gC) ((aA.mk r16.1 p10.2.1.gA p10.2.1.gC p10.2.1.gB p10.2.1.gD).gB) ((aA.mk r16.1 p10.2.1.gA p10.2.1.gC p10.2.1.gB p10.2.1.gD).gD)) p10.2.2) fun r20=>
  Option.bind (cond (decide (a4≥2)) (
   Option.bind (dI N b4 7 a1 r19 p10.1 a4 (cond p6.2 true r18.gB8) r1.1 a7 a8 a9 (aJ.mk a10.gK r1.2.1 (I64 (a10.gL+1))) (aA.mk r17.1 ((aA.mk r16.1 p10.2.1.gA p10.2.1.gC p10.2.1.gB p10.2.1.gD).gA) ((aA.mk r16.1 p10.2.1.gA p10.2.1.gC p10.2.1.gB p10.2.1.gD).gC) ((aA.mk r16.1 p10.2.1.gA p10.2.1.gC p10.2.1.gB p10.2.1.gD).gB) ((aA.mk r16.1 p10.2.1.gA p10.2.1.gC p10.2.1.gB p10.2.1.gD).gD)) p10.2.2) fun r22=>
   Option.bind (eT N r19 r22.2) fun r23=>
   Option.bind (eC N b4 (!r23.2) a1 r23.1 p10.1 a4 (cond p6.2 true r18.gB8) r1.1 a7 a8 a9 (aJ.mk a10.gK r1.2.1 (I64 (a10.gL+1))) (aA.mk r22.1 ((aA.mk r17.1 ((aA.mk r16.1 p10.2.1.gA p10.2.1.gC p10.2.1.gB p10.2.1.gD).gA) ((aA.mk r16.1 p10.2.1.gA p10.2.1.gC p10.2.1.gB p10.2.1.gD).gC) ((aA.mk r16.1 p10.2.1.gA p10.2.1.gC p10.2.1.gB p10.2.1.gD).gB) ((aA.mk r16.1 p10.2.1.gA p10.2.1.gC p10.2.1.gB p10.2.1.gD).gD)).gA) ((aA.mk r17.1 ((aA.mk r16.1 p10.2.1.gA p10.2.1.gC p10.2.1.gB p10.2.1.gD).gA) ((aA.mk r16.1 p10.2.1.gA p10.2.1.gC p10.2.1.gB p10.2.1.gD).gC) ((aA.mk r16.1 p10.2.1.gA p10.2.1.gC p10.2.1.gB p10.2.1.gD).gB) ((aA.mk r16.1 p10.2.1.gA p10.2.1.gC p10.2.1.gB p10.2.1.gD).gD)).gC) ((aA.mk r17.1 ((aA.mk r16.1 p10.2.1.gA p10.2.1.gC p10.2.1.gB p10.2.1.gD).gA) ((aA.mk r16.1 p10.2.1.gA p10.2.1.gC p10.2.1.gB p10.2.1.gD).gC) ((aA.mk r16.1 p10.2.1.gA p10.2.1.gC p10.2.1.gB p10.2.1.gD).gB) ((aA.mk r16.1 p10.2.1.gA p10.2.1.gC p10.2.1.gB p10.2.1.gD).gD)).gB) ((aA.mk r17.1 ((aA.mk r16.1 p10.2.1.gA p10.2.1.gC p10.2.1.gB p10.2.1.gD).gA) ((aA.mk r16.1 p10.2.1.gA p10.2.1.gC p10.2.1.gB p10.2.1.gD).gC) ((aA.mk r16.1 p10.2.1.gA p10.2.1.gC p10.2.1.gB p10.2.1.gD).gB) ((aA.mk r16.1 p10.2.1.gA p10.2.1.gC p10.2.1.gB p10.2.1.gD).gD)).gD)) p10.2.2) fun r24=>
   some ((r23.1,cond (cond p6.2 true r18.gB8) true (!r23.2),aA.mk r22.1 ((aA.mk r17.1 ((aA.mk r16.1 p10.2.1.gA p10.2.1.gC p10.2.1.gB p10.2.1.gD).gA) ((aA.mk r16.1 p10.2.1.gA p10.2.1.gC p10.2.1.gB p10.2.1.gD).gC) ((aA.mk r16.1 p10.2.1.gA p10.2.1.gC p10.2.1.gB p10.2.1.gD).gB) ((aA.mk r16.1 p10.2.1.gA p10.2.1.gC p10.2.1.gB p10.2.1.gD).gD)).gA) ((aA.mk r17.1 ((aA.mk r16.1 p10.2.1.gA p10.2.1.gC p10.2.1.gB p10.2.1.gD).gA) ((aA.mk r16.1 p10.2.1.gA p10.2.1.gC p10.2.1.gB p10.2.1.gD).gC) ((aA.mk r16.1 p10.2.1.gA p10.2.1.gC p10.2.1.gB p10.2.1.gD).gB) ((aA.mk r16.1 p10.2.1.gA p10.2.1.gC p10.2.1.gB p10.2.1.gD).gD)).gC) ((aA.mk r17.1 ((aA.mk r16.1 p10.2.1.gA p10.2.1.gC p10.2.1.gB p10.2.1.gD).gA) ((aA.mk r16.1 p10.2.1.gA p10.2.1.gC p10.2.1.gB p10.2.1.gD).gC) ((aA.mk r16.1 p10.2.1.gA p10.2.1.gC p10.2.1.gB p10.2.1.gD).gB) ((aA.mk r16.1 p10.2.1.gA p10.2.1.gC p10.2.1.gB p10.2.1.gD).gD)).gB) ((aA.mk r17.1 ((aA.mk r16.1 p10.2.1.gA p10.2.1.gC p10.2.1.gB p10.2.1.gD).gA) ((aA.mk r16.1 p10.2.1.gA p10.2.1.gC p10.2.1.gB p10.2.1.gD).gC) ((aA.mk r16.1 p10.2.1.gA p10.2.1.gC p10.2.1.gB p10.2.1.gD).gB) ((aA.mk r16.1 p10.2.1.gA p10.2.1.gC p10.2.1.gB p10.2.1.gD).gD)).gD)))) (
   some ((r19,cond p6.2 true r18.gB8,aA.mk r17.1 ((aA.mk r16.1 p10.2.1.gA p10.2.1.gC p10.2.1.gB p10.2.1.gD).gA) ((aA.mk r16.1 p10.2.1.gA p10.2.1.gC p10.2.1.gB p10.2.1.gD).gC) ((aA.mk r16.1 p10.2.1.gA p10.2.1.gC p10.2.1.gB p10.2.1.gD).gB) ((aA.mk r16.1 p10.2.1.gA p10.2.1.gC p10.2.1.gB p10.2.1.gD).gD))))) fun p21=>
  some ((aH.mk r1.2.2.2.1.gat r18.gD4 r1.2.2.2.1.gi,p21.1,p10.1,p21.2.1,r1.1,r1.2.1,p21.2.2,p10.2.2)))
theorem aAs {N b4 a1 a2 a3 a4 a5 a6 a7 a8 a9 a10 a11 a12 r} (h:kR N b4 a1 a2 a3 a4 a5 a6 a7 a8 a9 a10 a11 a12=some r):FnM Tryz.prog 34 [.var (.st 26 [(aH.enc a1),(.ref 1 [] 0),(.ref 2 [] 0),(aB.enc a2),(aB.enc a3),(j64 a4),(eB a5),(aG.enc a6)]),.var (.st 38 [(aF.enc a7),(aI.enc a8),(.ifc 88 (.ref 3 [] 0)),(eO 4 1 (eL 2 aD.enc) b4),(aB.enc a9),(aJ.enc a10)]),.var (aA.enc a11),.var (aK.enc a12),.tail (b4.length*1)] [(.ref 0 [] 0)] (.tup []) [.var (.st 26 [(aH.enc r.1),(.ref 1 [] 0),(.ref 2 [] 0),(aB.enc r.2.1),(aB.enc r.2.2.1),(j64 a4),(eB r.2.2.2.1),(aG.enc r.2.2.2.2.1)]),.var (.st 38 [(aF.enc a7),(aI.enc a8),(.ifc 88 (.ref 3 [] 0)),(eO 4 1 (eL 2 aD.enc) b4),(aB.enc a9),(.st 3 [(j64 a10.gK),(j64 r.2.2.2.2.2.1),(j64 (I64 (a10.gL+1)))])]),.var (aA.enc r.2.2.2.2.2.2.1),.var (aK.enc r.2.2.2.2.2.2.2),.tail (b4.length*1)]:=by
 unfold kR at h
 refine At.f dM hT hmo Tryz.func34 rfl h ?_
 refine At.b 1 (fun _ e=>aN [0,1,2,3,4] (aAw e)) fun r1=>?_
 refine At.J 6 1 [0,2] 6 (fun p2=>([],[(0,.var (.st 26 [(aH.enc a1),(.ref 1 [] 0),(.ref 2 [] 0),(aB.enc a2),(aB.enc p2.1),(j64 a4),(eB p2.2),(aG.enc r1.1)]))],[])) (fun p2=>?_) fun p2=>?_
 ·refine At.c 2 ?_ ?_
  ·refine At.o 8 (cI hT (x:=(.sl 3 1 [(aB.enc a9)]))) ?_
   refine At.b 0 (fun _ e=>aN [0,1,2,3,4] (qM e)) fun r3=>?_
   refine At.b 1 (fun _ e=>aN [0,1,2,3,4] (iN e)) fun r4=>?_
   apply rt;exact At.jn 0
  ·apply rt;exact At.jn 0
 ·refine At.b 3 (fun _ e=>aN [0,1,2,3,4] (iN e)) fun r5=>?_
  refine At.J 0 1 [0,2] 6 (fun p6=>([],[(0,.var (.st 26 [(aH.enc a1),(.ref 1 [] 0),(.ref 2 [] 0),(aB.enc a2),(aB.enc p6.1),(j64 a4),(eB p6.2),(aG.enc r1.1)]))],[])) (fun p6=>?_) fun p6=>?_
  ·refine lx ?_;intro x7
   refine At.c 4 ?_ ?_
   ·refine At.o 3 (cI hT (x:=(.sl 3 1 [(aB.enc r1.2.2.2.1.gc)]))) ?_
    refine At.b 0 (fun _ e=>aN [0,1,2,3,4] (qM e)) fun r8=>?_
    refine At.b 1 (fun _ e=>aN [0,1,2,3,4] (iN e)) fun r9=>?_
    apply rt;exact At.jn 0
   ·apply rt;exact At.jn 0
  ·refine At.J 0 1 [0,2] 6 (fun p10=>([],[(0,.var (.st 26 [(aH.enc a1),(.ref 1 [] 0),(.ref 2 [] 0),(aB.enc a2),(aB.enc p10.1),(j64 a4),(eB p6.2),(aG.enc r1.1)])),(2,.var (aA.enc p10.2.1)),(3,.var (aK.enc p10.2.2))],[])) (fun p10=>?_) fun p10=>?_
   ·refine At.J 0 0 [0,2] 6 (fun p11=>([(61,(eB p11))],[],[])) (fun p11=>?_) fun p11=>?_
    ·refine At.s 49 9 ?_ ?_
     ·refine At.g [49,55] 12 ?_
      apply rt;exact At.jn 0
     ·refine lx ?_;intro x12
      refine At.g [49] 12 ?_
      apply rt;exact At.jn 0
    ·refine At.c 0 ?_ ?_
     ·refine At.b 2 (fun _ e=>aN [0,1,2,3,4] (aAF e)) fun r13=>?_
      apply rt;exact At.jn 0
     ·apply rt;exact At.jn 0
   ·refine At.J 0 0 [0,2] 6 (fun p14=>([(83,(eB p14))],[],[])) (fun p14=>?_) fun p14=>?_
    ·refine boI (fun hc4=>?_) (fun hc4=>?_)
     ·refine At.d 0 (dE1 4 (fun _=>dO hc4 rfl (dC hT (im:=false) (by kernel_rfl))) dE0) dF0 ?_
      apply rt;exact At.jn 0
     ·refine At.d 0 (dE1 4 (fun _=>dO hc4 rfl (dC hT (im:=false) (by kernel_rfl))) dE0) dF0 ?_
      apply rt;exact At.jn 0
    ·refine At.c 0 ?_ ?_
     ·refine At.b 1 (fun _ e=>aN [0,1,2,3,4] (iN e)) fun r15=>?_
      apply rt;exact At.r 0
     ·refine bi fun r16 hr16=>?_
      refine bi fun r17 hr17=>?_
      refine bi fun r18 hr18=>?_
      refine At.d2 0 [false] (dC2 16 (cR.enc r18) (fun _=>aO (yZ hr18)) dC0) (dS1 12 ⟨(k32 r16.2),2,.var (.st 72 [(aU.enc r16.1),(eB p10.2.1.gA),(k64 p10.2.1.gC),(j64 p10.2.1.gB),(j64 p10.2.1.gD)]),.var (aA.enc p10.2.1)⟩ [[.var (.st 26 [(aH.enc a1),(.ref 1 [] 0),(.ref 2 [] 0),(aB.enc a2),(aB.enc p10.1),(j64 a4),(eB p6.2),(aG.enc r1.1)]),.var (.st 38 [(aF.enc a7),(aI.enc a8),(.ifc 88 (.ref 3 [] 0)),(eO 4 1 (eL 2 aD.enc) b4),(aB.enc a9),(.st 3 [(j64 a10.gK),(j64 r1.2.1),(j64 (I64 (a10.gL+1)))])]),.var (aA.enc p10.2.1),.var (aK.enc p10.2.2),.tail (b4.length*1),.var (aR.enc r1.2.2.2.1),.dead],[.var (.st 26 [(aH.enc a1),(.ref 1 [] 0),(.ref 2 [] 0),(aB.enc a2),(aB.enc p10.1),(j64 a4),(eB p6.2),(aG.enc r1.1)]),.var (.st 38 [(aF.enc a7),(aI.enc a8),(.ifc 88 (.ref 3 [] 0)),(eO 4 1 (eL 2 aD.enc) b4),(aB.enc a9),(.st 3 [(j64 a10.gK),(j64 r1.2.1),(j64 (I64 (a10.gL+1)))])]),.var (aA.enc p10.2.1),.var (aK.enc p10.2.2),.tail (b4.length*1),.var (aR.enc r1.2.2.2.1),.var aMZ]] ⟨bS (aN [0,1,2,3,4] (cK hr16)),bS (aN [0,1,2,3,4] (cK hr16)),trivial⟩ (dS1 14 ⟨(k32 r17.2),2,.var (.st 72 [(aU.enc r17.1),(eB ((aA.mk r16.1 p10.2.1.gA p10.2.1.gC p10.2.1.gB p10.2.1.gD).gA)),(k64 ((aA.mk r16.1 p10.2.1.gA p10.2.1.gC p10.2.1.gB p10.2.1.gD).gC)),(j64 ((aA.mk r16.1 p10.2.1.gA p10.2.1.gC p10.2.1.gB p10.2.1.gD).gB)),(j64 ((aA.mk r16.1 p10.2.1.gA p10.2.1.gC p10.2.1.gB p10.2.1.gD).gD))]),.var (.st 72 [(aU.enc r16.1),(eB p10.2.1.gA),(k64 p10.2.1.gC),(j64 p10.2.1.gB),(j64 p10.2.1.gD)])⟩ [[.var (.st 26 [(aH.enc a1),(.ref 1 [] 0),(.ref 2 [] 0),(aB.enc a2),(aB.enc p10.1),(j64 a4),(eB p6.2),(aG.enc r1.1)]),.var (.st 38 [(aF.enc a7),(aI.enc a8),(.ifc 88 (.ref 3 [] 0)),(eO 4 1 (eL 2 aD.enc) b4),(aB.enc a9),(.st 3 [(j64 a10.gK),(j64 r1.2.1),(j64 (I64 (a10.gL+1)))])]),.var (.st 72 [(aU.enc r16.1),(eB p10.2.1.gA),(k64 p10.2.1.gC),(j64 p10.2.1.gB),(j64 p10.2.1.gD)]),.var (aK.enc p10.2.2),.tail (b4.length*1),.var (aR.enc r1.2.2.2.1),.dead],[.var (.st 26 [(aH.enc a1),(.ref 1 [] 0),(.ref 2 [] 0),(aB.enc a2),(aB.enc p10.1),(j64 a4),(eB p6.2),(aG.enc r1.1)]),.var (.st 38 [(aF.enc a7),(aI.enc a8),(.ifc 88 (.ref 3 [] 0)),(eO 4 1 (eL 2 aD.enc) b4),(aB.enc a9),(.st 3 [(j64 a10.gK),(j64 r1.2.1),(j64 (I64 (a10.gL+1)))])]),.var (.st 72 [(aU.enc r16.1),(eB p10.2.1.gA),(k64 p10.2.1.gC),(j64 p10.2.1.gB),(j64 p10.2.1.gD)]),.var (aK.enc p10.2.2),.tail (b4.length*1),.var (aR.enc r1.2.2.2.1),.var aMZ]] ⟨bS (aN [0,1,2,3,4] (cK hr17)),bS (aN [0,1,2,3,4] (cK hr17)),trivial⟩ (dS1 17 ⟨(.ref 6 [] 0),6,.var aMZ,.dead⟩ [[.var (.st 26 [(aH.enc a1),(.ref 1 [] 0),(.ref 2 [] 0),(aB.enc a2),(aB.enc p10.1),(j64 a4),(eB p6.2),(aG.enc r1.1)]),.var (.st 38 [(aF.enc a7),(aI.enc a8),(.ifc 88 (.ref 3 [] 0)),(eO 4 1 (eL 2 aD.enc) b4),(aB.enc a9),(.st 3 [(j64 a10.gK),(j64 r1.2.1),(j64 (I64 (a10.gL+1)))])]),.var (aA.enc p10.2.1),.var (aK.enc p10.2.2),.tail (b4.length*1),.var (aR.enc r1.2.2.2.1),.dead],[.var (.st 26 [(aH.enc a1),(.ref 1 [] 0),(.ref 2 [] 0),(aB.enc a2),(aB.enc p10.1),(j64 a4),(eB p6.2),(aG.enc r1.1)]),.var (.st 38 [(aF.enc a7),(aI.enc a8),(.ifc 88 (.ref 3 [] 0)),(eO 4 1 (eL 2 aD.enc) b4),(aB.enc a9),(.st 3 [(j64 a10.gK),(j64 r1.2.1),(j64 (I64 (a10.gL+1)))])]),.var (.st 72 [(aU.enc r17.1),(eB ((aA.mk r16.1 p10.2.1.gA p10.2.1.gC p10.2.1.gB p10.2.1.gD).gA)),(k64 ((aA.mk r16.1 p10.2.1.gA p10.2.1.gC p10.2.1.gB p10.2.1.gD).gC)),(j64 ((aA.mk r16.1 p10.2.1.gA p10.2.1.gC p10.2.1.gB p10.2.1.gD).gB)),(j64 ((aA.mk r16.1 p10.2.1.gA p10.2.1.gC p10.2.1.gB p10.2.1.gD).gD))]),.var (aK.enc p10.2.2),.tail (b4.length*1),.var (aR.enc r1.2.2.2.1),.dead],[.var (.st 26 [(aH.enc a1),(.ref 1 [] 0),(.ref 2 [] 0),(aB.enc a2),(aB.enc p10.1),(j64 a4),(eB p6.2),(aG.enc r1.1)]),.var (.st 38 [(aF.enc a7),(aI.enc a8),(.ifc 88 (.ref 3 [] 0)),(eO 4 1 (eL 2 aD.enc) b4),(aB.enc a9),(.st 3 [(j64 a10.gK),(j64 r1.2.1),(j64 (I64 (a10.gL+1)))])]),.var (.st 72 [(aU.enc r16.1),(eB p10.2.1.gA),(k64 p10.2.1.gC),(j64 p10.2.1.gB),(j64 p10.2.1.gD)]),.var (aK.enc p10.2.2),.tail (b4.length*1),.var (aR.enc r1.2.2.2.1),.dead],[.var (.st 26 [(aH.enc a1),(.ref 1 [] 0),(.ref 2 [] 0),(aB.enc a2),(aB.enc p10.1),(j64 a4),(eB p6.2),(aG.enc r1.1)]),.var (.st 38 [(aF.enc a7),(aI.enc a8),(.ifc 88 (.ref 3 [] 0)),(eO 4 1 (eL 2 aD.enc) b4),(aB.enc a9),(.st 3 [(j64 a10.gK),(j64 r1.2.1),(j64 (I64 (a10.gL+1)))])]),.var (.st 72 [(aU.enc r17.1),(eB ((aA.mk r16.1 p10.2.1.gA p10.2.1.gC p10.2.1.gB p10.2.1.gD).gA)),(k64 ((aA.mk r16.1 p10.2.1.gA p10.2.1.gC p10.2.1.gB p10.2.1.gD).gC)),(j64 ((aA.mk r16.1 p10.2.1.gA p10.2.1.gC p10.2.1.gB p10.2.1.gD).gB)),(j64 ((aA.mk r16.1 p10.2.1.gA p10.2.1.gC p10.2.1.gB p10.2.1.gD).gD))]),.var (aK.enc p10.2.2),.tail (b4.length*1),.var (aR.enc r1.2.2.2.1),.dead]] ⟨aX hT 6 (by kernel_rfl) (by kernel_rfl) (by kernel_rfl),aX hT 6 (by kernel_rfl) (by kernel_rfl) (by kernel_rfl),aX hT 6 (by kernel_rfl) (by kernel_rfl) (by kernel_rfl),aX hT 6 (by kernel_rfl) (by kernel_rfl) (by kernel_rfl),trivial⟩ dS0))) ?_
      refine bi fun r19 hr19=>?_
      refine At.d 0 (dE1 7 (fun _=>cI hT (x:=(.sl 3 2 [(aB.enc a2),(aB.enc r18.gC3)]))) (dE2 8 (aB.enc r19) (fun _=>aO (qK hr19)) dE0)) dF0 ?_
      refine At.b 3 (fun _ e=>aN [0,1,2,3,4] (iN e)) fun r20=>?_
      refine At.J 0 1 [0,2,4] 7 (fun p21=>([],[(0,.var (.st 26 [(aH.enc a1),(.ref 1 [] 0),(.ref 2 [] 0),(aB.enc p21.1),(aB.enc p10.1),(j64 a4),(eB p21.2.1),(aG.enc r1.1)])),(2,.var (aA.enc p21.2.2))],[])) (fun p21=>?_) fun p21=>?_
      ·refine At.c 5 ?_ ?_
       ·refine bi fun r22 hr22=>?_
        refine bi fun r23 hr23=>?_
        refine At.d2 0 [false] (dC2 6 (.tup [(aB.enc r23.1),(eB r23.2)]) (fun _=>aO (xO hr23)) dC0) (dS1 5 ⟨(k32 r22.2),2,.var (.st 72 [(aU.enc r22.1),(eB ((aA.mk r17.1 ((aA.mk r16.1 p10.2.1.gA p10.2.1.gC p10.2.1.gB p10.2.1.gD).gA) ((aA.mk r16.1 p10.2.1.gA p10.2.1.gC p10.2.1.gB p10.2.1.gD).gC) ((aA.mk r16.1 p10.2.1.gA p10.2.1.gC p10.2.1.gB p10.2.1.gD).gB) ((aA.mk r16.1 p10.2.1.gA p10.2.1.gC p10.2.1.gB p10.2.1.gD).gD)).gA)),(k64 ((aA.mk r17.1 ((aA.mk r16.1 p10.2.1.gA p10.2.1.gC p10.2.1.gB p10.2.1.gD).gA) ((aA.mk r16.1 p10.2.1.gA p10.2.1.gC p10.2.1.gB p10.2.1.gD).gC) ((aA.mk r16.1 p10.2.1.gA p10.2.1.gC p10.2.1.gB p10.2.1.gD).gB) ((aA.mk r16.1 p10.2.1.gA p10.2.1.gC p10.2.1.gB p10.2.1.gD).gD)).gC)),(j64 ((aA.mk r17.1 ((aA.mk r16.1 p10.2.1.gA p10.2.1.gC p10.2.1.gB p10.2.1.gD).gA) ((aA.mk r16.1 p10.2.1.gA p10.2.1.gC p10.2.1.gB p10.2.1.gD).gC) ((aA.mk r16.1 p10.2.1.gA p10.2.1.gC p10.2.1.gB p10.2.1.gD).gB) ((aA.mk r16.1 p10.2.1.gA p10.2.1.gC p10.2.1.gB p10.2.1.gD).gD)).gB)),(j64 ((aA.mk r17.1 ((aA.mk r16.1 p10.2.1.gA p10.2.1.gC p10.2.1.gB p10.2.1.gD).gA) ((aA.mk r16.1 p10.2.1.gA p10.2.1.gC p10.2.1.gB p10.2.1.gD).gC) ((aA.mk r16.1 p10.2.1.gA p10.2.1.gC p10.2.1.gB p10.2.1.gD).gB) ((aA.mk r16.1 p10.2.1.gA p10.2.1.gC p10.2.1.gB p10.2.1.gD).gD)).gD))]),.var (.st 72 [(aU.enc r17.1),(eB ((aA.mk r16.1 p10.2.1.gA p10.2.1.gC p10.2.1.gB p10.2.1.gD).gA)),(k64 ((aA.mk r16.1 p10.2.1.gA p10.2.1.gC p10.2.1.gB p10.2.1.gD).gC)),(j64 ((aA.mk r16.1 p10.2.1.gA p10.2.1.gC p10.2.1.gB p10.2.1.gD).gB)),(j64 ((aA.mk r16.1 p10.2.1.gA p10.2.1.gC p10.2.1.gB p10.2.1.gD).gD))])⟩ [[.var (.st 26 [(aH.enc a1),(.ref 1 [] 0),(.ref 2 [] 0),(aB.enc r19),(aB.enc p10.1),(j64 a4),(eB (cond p6.2 true r18.gB8)),(aG.enc r1.1)]),.var (.st 38 [(aF.enc a7),(aI.enc a8),(.ifc 88 (.ref 3 [] 0)),(eO 4 1 (eL 2 aD.enc) b4),(aB.enc a9),(.st 3 [(j64 a10.gK),(j64 r1.2.1),(j64 (I64 (a10.gL+1)))])]),.var (.st 72 [(aU.enc r17.1),(eB ((aA.mk r16.1 p10.2.1.gA p10.2.1.gC p10.2.1.gB p10.2.1.gD).gA)),(k64 ((aA.mk r16.1 p10.2.1.gA p10.2.1.gC p10.2.1.gB p10.2.1.gD).gC)),(j64 ((aA.mk r16.1 p10.2.1.gA p10.2.1.gC p10.2.1.gB p10.2.1.gD).gB)),(j64 ((aA.mk r16.1 p10.2.1.gA p10.2.1.gC p10.2.1.gB p10.2.1.gD).gD))]),.var (aK.enc p10.2.2),.tail (b4.length*1),.var (aR.enc r1.2.2.2.1),.var (cR.enc r18),.dead],[.var (.st 26 [(aH.enc a1),(.ref 1 [] 0),(.ref 2 [] 0),(aB.enc r19),(aB.enc p10.1),(j64 a4),(eB (cond p6.2 true r18.gB8)),(aG.enc r1.1)]),.var (.st 38 [(aF.enc a7),(aI.enc a8),(.ifc 88 (.ref 3 [] 0)),(eO 4 1 (eL 2 aD.enc) b4),(aB.enc a9),(.st 3 [(j64 a10.gK),(j64 r1.2.1),(j64 (I64 (a10.gL+1)))])]),.var (.st 72 [(aU.enc r17.1),(eB ((aA.mk r16.1 p10.2.1.gA p10.2.1.gC p10.2.1.gB p10.2.1.gD).gA)),(k64 ((aA.mk r16.1 p10.2.1.gA p10.2.1.gC p10.2.1.gB p10.2.1.gD).gC)),(j64 ((aA.mk r16.1 p10.2.1.gA p10.2.1.gC p10.2.1.gB p10.2.1.gD).gB)),(j64 ((aA.mk r16.1 p10.2.1.gA p10.2.1.gC p10.2.1.gB p10.2.1.gD).gD))]),.var (aK.enc p10.2.2),.tail (b4.length*1),.var (aR.enc r1.2.2.2.1),.var (cR.enc r18),.var (.st 3 [(j64 0),(j64 0),(j64 0)])]] ⟨bS (aN [0,1,2,3,4] (cK hr22)),bS (aN [0,1,2,3,4] (cK hr22)),trivial⟩ (dS1 10 ⟨(.ref 7 [] 0),7,.var (.st 3 [(j64 0),(j64 0),(j64 0)]),.dead⟩ [[.var (.st 26 [(aH.enc a1),(.ref 1 [] 0),(.ref 2 [] 0),(aB.enc r19),(aB.enc p10.1),(j64 a4),(eB (cond p6.2 true r18.gB8)),(aG.enc r1.1)]),.var (.st 38 [(aF.enc a7),(aI.enc a8),(.ifc 88 (.ref 3 [] 0)),(eO 4 1 (eL 2 aD.enc) b4),(aB.enc a9),(.st 3 [(j64 a10.gK),(j64 r1.2.1),(j64 (I64 (a10.gL+1)))])]),.var (.st 72 [(aU.enc r17.1),(eB ((aA.mk r16.1 p10.2.1.gA p10.2.1.gC p10.2.1.gB p10.2.1.gD).gA)),(k64 ((aA.mk r16.1 p10.2.1.gA p10.2.1.gC p10.2.1.gB p10.2.1.gD).gC)),(j64 ((aA.mk r16.1 p10.2.1.gA p10.2.1.gC p10.2.1.gB p10.2.1.gD).gB)),(j64 ((aA.mk r16.1 p10.2.1.gA p10.2.1.gC p10.2.1.gB p10.2.1.gD).gD))]),.var (aK.enc p10.2.2),.tail (b4.length*1),.var (aR.enc r1.2.2.2.1),.var (cR.enc r18),.dead],[.var (.st 26 [(aH.enc a1),(.ref 1 [] 0),(.ref 2 [] 0),(aB.enc r19),(aB.enc p10.1),(j64 a4),(eB (cond p6.2 true r18.gB8)),(aG.enc r1.1)]),.var (.st 38 [(aF.enc a7),(aI.enc a8),(.ifc 88 (.ref 3 [] 0)),(eO 4 1 (eL 2 aD.enc) b4),(aB.enc a9),(.st 3 [(j64 a10.gK),(j64 r1.2.1),(j64 (I64 (a10.gL+1)))])]),.var (.st 72 [(aU.enc r22.1),(eB ((aA.mk r17.1 ((aA.mk r16.1 p10.2.1.gA p10.2.1.gC p10.2.1.gB p10.2.1.gD).gA) ((aA.mk r16.1 p10.2.1.gA p10.2.1.gC p10.2.1.gB p10.2.1.gD).gC) ((aA.mk r16.1 p10.2.1.gA p10.2.1.gC p10.2.1.gB p10.2.1.gD).gB) ((aA.mk r16.1 p10.2.1.gA p10.2.1.gC p10.2.1.gB p10.2.1.gD).gD)).gA)),(k64 ((aA.mk r17.1 ((aA.mk r16.1 p10.2.1.gA p10.2.1.gC p10.2.1.gB p10.2.1.gD).gA) ((aA.mk r16.1 p10.2.1.gA p10.2.1.gC p10.2.1.gB p10.2.1.gD).gC) ((aA.mk r16.1 p10.2.1.gA p10.2.1.gC p10.2.1.gB p10.2.1.gD).gB) ((aA.mk r16.1 p10.2.1.gA p10.2.1.gC p10.2.1.gB p10.2.1.gD).gD)).gC)),(j64 ((aA.mk r17.1 ((aA.mk r16.1 p10.2.1.gA p10.2.1.gC p10.2.1.gB p10.2.1.gD).gA) ((aA.mk r16.1 p10.2.1.gA p10.2.1.gC p10.2.1.gB p10.2.1.gD).gC) ((aA.mk r16.1 p10.2.1.gA p10.2.1.gC p10.2.1.gB p10.2.1.gD).gB) ((aA.mk r16.1 p10.2.1.gA p10.2.1.gC p10.2.1.gB p10.2.1.gD).gD)).gB)),(j64 ((aA.mk r17.1 ((aA.mk r16.1 p10.2.1.gA p10.2.1.gC p10.2.1.gB p10.2.1.gD).gA) ((aA.mk r16.1 p10.2.1.gA p10.2.1.gC p10.2.1.gB p10.2.1.gD).gC) ((aA.mk r16.1 p10.2.1.gA p10.2.1.gC p10.2.1.gB p10.2.1.gD).gB) ((aA.mk r16.1 p10.2.1.gA p10.2.1.gC p10.2.1.gB p10.2.1.gD).gD)).gD))]),.var (aK.enc p10.2.2),.tail (b4.length*1),.var (aR.enc r1.2.2.2.1),.var (cR.enc r18),.dead]] ⟨aX hT 7 (by kernel_rfl) (by kernel_rfl) (by kernel_rfl),aX hT 7 (by kernel_rfl) (by kernel_rfl) (by kernel_rfl),trivial⟩ dS0)) ?_
        refine At.b 8 (fun _ e=>aN [0,1,2,3,4] (iN e)) fun r24=>?_
        apply rt;exact At.jn 0
       ·apply rt;exact At.jn 0
      ·apply rt;exact At.z 11
def fI (N:Nat) (b2:(List (List aD))) (a4:aF) (a5:aI) (a6:aB) (a7:aJ) (a8:aK):Nat→aA→(Vector Int 4)→Int→Option (aA×(Vector Int 4))
 | 0,_,_,_=>none
 | k+1,s9,s10,s11=>
  cond (decide (s11 < 4)) (
   Option.bind (dI N b2 s11 (aH.mk (aC.mk 0 0 0) (aC.mk 0 0 0) 0) (aB.mk 4294967296 4294967296 4294967296) (aB.mk 0 0 0) 0 false (aG.mk (aB.mk 0 0 0) 0 0 (aB.mk 0 0 0) (-1)) a4 a5 a6 a7 s9 a8) fun r12=>
   Option.bind (fH s11 4) fun _=>
   Option.bind (s10.toList[s11.toNat]?) fun e14=>
   fI N b2 a4 a5 a6 a7 a8 k (aA.mk r12.1 s9.gA s9.gC s9.gB s9.gD) (s10.setIfInBounds s11.toNat r12.2) (I64 (s11+1))) (
   some ((s9,s10)))
def eE (N:Nat) (a5:aI) (b2:(List (List aD))) (a4:aF) (a6:aB):Nat→aJ→aK→aA→aH→aB→aB→Int→Bool→aG→Option (aJ×aK×aA×aH×aB×aB×Int×Bool×aG)
 | 0,_,_,_,_,_,_,_,_,_=>none
 | k+1,s17,s18,s19,s20,s21,s22,s23,s24,s25=>
  Option.bind (aV (decide (s23≤a5.gN)) fun x27=>
  cond x27 (
   cond (!s24) (
    some true) (
    some a5.gB2)) (
   some false)) fun p26=>
  cond p26 (
   Option.bind (kR N b2 s20 s21 s22 s23 s24 s25 a4 a5 a6 s17 s19 s18) fun r28=>
   eE N a5 b2 a4 a6 k (aJ.mk s17.gK r28.2.2.2.2.2.1 (I64 (s17.gL+1))) r28.2.2.2.2.2.2.2 r28.2.2.2.2.2.2.1 r28.1 r28.2.1 r28.2.2.1 (I64 (s23+1)) r28.2.2.2.1 r28.2.2.2.2.1) (
   some ((s17,s18,s19,s20,s21,s22,s23,s24,s25)))
def fC (N:Nat) (b2:(List (List aD))) (a1 a2 a3:Int) (a4:aF) (a5:aI) (a6:aB) (a7:aJ) (a8:aK):Option (aJ×aK×aG×Int):=
 aV (cond (decide (a1 < 0)) true (decide (a1≥a5.gW))) fun x1=>
 aV (cond x1 true (decide (a2 < 0))) fun x2=>
 aV (cond x2 true (decide (a2≥a5.gH))) fun x3=>
 aV (cond x3 true (decide (a3 < 0))) fun x4=>
 aV (decide (a3≥a5.gD0)) fun x5=>
 cond (cond x4 true x5) (
  some ((a7,a8,aG.mk (aB.mk 0 0 0) 0 0 (aB.mk 0 0 0) 0,2))) (
  aV (I64 ((I64 (a2*a5.gW))+a1)) fun x6=>
  Option.bind (sW N a5.gS x6 a3) fun r7=>
  Option.bind (fI N b2 a4 a5 a6 a7 a8 N (aA.mk (aU.mk (bK.mk 0 0 0) false (Vector.replicate 64 0)) true a5.gS x6 a3) (#v[0,0,0,0]) 0) fun p8=>
  Option.bind (sB N a5.gD8 a5.gW a5.gH a1 a2 p8.2) fun r15=>
  Option.bind (eE N a5 b2 a4 a6 N a7 a8 p8.1 (aH.mk r15.1 r15.2.1 (-1)) (aB.mk 4294967296 4294967296 4294967296) (aB.mk 0 0 0) 0 false (aG.mk (aB.mk 0 0 0) 0 0 (aB.mk 0 0 0) (-1))) fun p16=>
  some ((p16.1,p16.2.1,aG.mk p16.2.2.2.2.2.1 p16.2.2.2.2.2.2.2.2.gD2 p16.2.2.2.2.2.2.2.2.gN p16.2.2.2.2.2.2.2.2.gD3 p16.2.2.2.2.2.2.2.2.gB9,0)))
theorem rI {N b2 a1 a2 a3 a4 a5 a6 a7 a8 r} (h:fC N b2 a1 a2 a3 a4 a5 a6 a7 a8=some r):FnM Tryz.prog 13 [.var (.st 38 [(aF.enc a4),(aI.enc a5),(.ifc 88 (.ref 1 [] 0)),(eO 2 1 (eL 2 aD.enc) b2),(aB.enc a6),(aJ.enc a7)]),.var (aK.enc a8),.tail (b2.length*1)] [(.ref 0 [] 0),(j64 a1),(j64 a2),(j64 a3)] (.tup [(aG.enc r.2.2.1),(j64 r.2.2.2)]) [.var (.st 38 [(aF.enc a4),(aI.enc a5),(.ifc 88 (.ref 1 [] 0)),(eO 2 1 (eL 2 aD.enc) b2),(aB.enc a6),(aJ.enc r.1)]),.var (aK.enc r.2.1),.tail (b2.length*1)]:=by
 unfold fC at h
 refine At.f dM hT hmo Tryz.func13 rfl h ?_
 refine At.o 3 (pG hT (t:=40) (x:=(.ref 0 [] 0)) (b:=true) (by kernel_rfl) rfl rfl (by kernel_rfl)) ?_
 refine At.g [16] 5 ?_
 refine At.o 0 (aMG (t:=75) (u:=88) (x:=(.ref 1 [] 0)) (by kernel_rfl) rfl rfl .eql false (by decide) (by kernel_rfl)) ?_
 refine lx ?_;intro x1
 refine lx ?_;intro x2
 refine lx ?_;intro x3
 refine lx ?_;intro x4
 refine lx ?_;intro x5
 refine At.g [16] 41 ?_
 refine At.c 0 ?_ ?_
 ·apply rt;exact At.r 3
 ·refine lx ?_;intro x6
  refine bi fun r7 hr7=>?_
  refine At.d 0 dE0 (dF 16 (.ref 4 [] 0) [] [.var (.st 72 [cv_5,(eB true),(k64 a5.gS),(j64 x6),(j64 a3)])] (bS (aN [] (aCb hr7))) dF0) ?_
  refine At.L 2 [0,1,2,8,10,11] 7 (fun p8=>([],[(4,.var (aA.enc p8.1)),(6,.var (eA 4 1 k32 p8.2))],[])) (fun p8 J k=>∃ s9 s10 s11,fI N b2 a4 a5 a6 a7 a8 k s9 s10 s11=some p8∧J [0,1,2,8,10,11] 7 [(84,(j64 s11))] [(4,.var (aA.enc s9)),(6,.var (eA 4 1 k32 s10))] []) N (fun _ h=>⟨_,_,_,h,jr⟩) (fun p8 k s hI=>?_) fun p8=>?_
  ·obtain ⟨s9,s10,s11,h,hj⟩:=hI
   cases k with
   | zero=>cases h
   | succ k=>
    refine At.jr hj ?_ h
    refine At.c 1 ?_ ?_
    ·refine At.b 5 (fun _ e=>aN [5,0,4,1,2] (cK e)) fun r12=>?_
     refine At.b 0 (fun _ e=>bG hT (k:=1) 6 [] 0 e) fun u13=>?_
     refine At.b 0 (fun _ e=>nS hT k32 0 s10 e r12.2 (by kernel_rfl) (by kernel_rfl) (H':=[.var (.st 38 [(aF.enc a4),(aI.enc a5),(.ifc 88 (.ref 1 [] 0)),(eO 2 1 (eL 2 aD.enc) b2),(aB.enc a6),(aJ.enc a7)]),.var (aK.enc a8),.tail (b2.length*1),.var cv_6,.var (.st 72 [(aU.enc r12.1),(eB s9.gA),(k64 s9.gC),(j64 s9.gB),(j64 s9.gD)]),.var cv_7,.var (eA 4 1 k32 (s10.setIfInBounds s11.toNat r12.2))])) fun e14=>?_
     exact fun h=>At.k 2 ⟨_,_,_,h,jr⟩
    ·apply rt;exact At.x 0
  ·refine bi fun r15 hr15=>?_
   refine At.d 5 (dE2 20 (.tup [(aC.enc r15.1),(aC.enc r15.2.1),(j64 r15.2.2)]) (fun _=>aO (aEm hr15)) dE0) dF0 ?_
   refine At.L 0 [8,10] 7 (fun p16=>([],[(0,.var (.st 38 [(aF.enc a4),(aI.enc a5),(.ifc 88 (.ref 1 [] 0)),(eO 2 1 (eL 2 aD.enc) b2),(aB.enc a6),(aJ.enc p16.1)])),(1,.var (aK.enc p16.2.1)),(4,.var (aA.enc p16.2.2.1)),(5,.var (.st 26 [(aH.enc p16.2.2.2.1),(.ref 0 [] 0),(.ref 4 [] 0),(aB.enc p16.2.2.2.2.1),(aB.enc p16.2.2.2.2.2.1),(j64 p16.2.2.2.2.2.2.1),(eB p16.2.2.2.2.2.2.2.1),(aG.enc p16.2.2.2.2.2.2.2.2)]))],[])) (fun p16 J k=>∃ s17 s18 s19 s20 s21 s22 s23 s24 s25,eE N a5 b2 a4 a6 k s17 s18 s19 s20 s21 s22 s23 s24 s25=some p16∧J [0,8,10] 7 [] [(0,.var (.st 38 [(aF.enc a4),(aI.enc a5),(.ifc 88 (.ref 1 [] 0)),(eO 2 1 (eL 2 aD.enc) b2),(aB.enc a6),(aJ.enc s17)])),(1,.var (aK.enc s18)),(4,.var (aA.enc s19)),(5,.var (.st 26 [(aH.enc s20),(.ref 0 [] 0),(.ref 4 [] 0),(aB.enc s21),(aB.enc s22),(j64 s23),(eB s24),(aG.enc s25)]))] []) N (fun _ h=>⟨_,_,_,_,_,_,_,_,_,h,jr⟩) (fun p16 k s hI=>?_) fun p16=>?_
   ·obtain ⟨s17,s18,s19,s20,s21,s22,s23,s24,s25,h,hj⟩:=hI
    cases k with
    | zero=>cases h
    | succ k=>
     refine At.jr hj ?_ h
     refine At.J 0 0 [0,8,10] 7 (fun p26=>([(151,(eB p26))],[],[])) (fun p26=>?_) fun p26=>?_
     ·refine lx ?_;intro x27
      refine boI (fun hc10=>?_) (fun hc10=>?_)
      ·refine boI (fun hc16=>?_) (fun hc16=>?_)
       ·refine At.d 0 (dE1 10 (fun _=>dO hc10 rfl (dC hT (im:=false) (by kernel_rfl))) (dE1 16 (fun _=>dO hc16 rfl (dC hT (im:=false) (by kernel_rfl))) dE0)) dF0 ?_
        apply rt;exact At.jn 0
       ·refine At.d 0 (dE1 10 (fun _=>dO hc10 rfl (dC hT (im:=false) (by kernel_rfl))) (dE1 16 (fun _=>dO hc16 rfl (dC hT (im:=false) (by kernel_rfl))) dE0)) dF0 ?_
        apply rt;exact At.jn 0
      ·refine At.d 0 (dE1 10 (fun _=>dO hc10 rfl (dC hT (im:=false) (by kernel_rfl))) dE0) dF0 ?_
       apply rt;exact At.jn 0
     ·refine At.c 0 ?_ ?_
      ·refine At.b 1 (fun _ e=>aN [5,0,4,1,2] (aAs e)) fun r28=>?_
       exact fun h=>At.k 8 ⟨_,_,_,_,_,_,_,_,_,h,jr⟩
      ·apply rt;exact At.x 0
   ·apply rt;exact At.r 15
def aAN : Nat→Bool:=imL [4,5]
def dE (N:Nat) (x2:Int) (r1:aF):Nat→(List aE)→Int→Option ((List aE))
 | 0,_,_=>none
 | k+1,s4,s5=>
  cond (decide (s5 < x2)) (
   Option.bind (Option.bind (idx r1.gE s5) fun e7=>
   aV ((eK .u8 e7.gB1 15) != 0) fun x8=>
   cond x8 (
    Option.bind (wF 152 s4 (([e7]:List aE))) fun z9=>
    some ((z9,e7))) (
    some ((s4,e7)))) fun p6=>
   dE N x2 r1 k p6.1 (I64 (s5+1))) (
   some s4)
def iX (N:Nat) (a0:aF) (a1:aI) (a2:(Vector Int 3)):Option (Bool):=
 Option.bind (qB N a0) fun r1=>
 aV ((r1.gE.length:Int)) fun x2=>
 Option.bind (dE N x2 r1 N [] 0) fun p3=>
 Option.bind (wF 40 (([]:List aQ)) r1.gA5) fun z10=>
 Option.bind (wF 40 z10 (([aQ.mk 1 (#v[0,0,0]) 0]:List aQ))) fun z11=>
 Option.bind (wF 32 (([]:List aD)) r1.gR) fun z12=>
 Option.bind (wF 32 z12 (([aD.mk 1 ([#v[1,2,3]])]:List aD))) fun z13=>
 Option.bind (kI N r1 a1) fun q=>
 kK q (fun r15=>
  Option.bind (kI N (aF.mk p3 z11 z13 r1.gF r1.gA1 r1.gA2 r1.gA8 r1.gA9 r1.gTo) a1) fun q=>
  kK q (fun r21=>
   Option.bind (aV (cond (r15 != 0) true (r21 != 0)) fun x27=>
   cond x27 (
    some (())) (
    some (()))) fun p26=>
   Option.bind (dG N ) fun r28=>
   some r28) (fun q=>
  kK q (fun r22=>
   none) (fun q=>
  kK q (fun r23=>
   Option.bind (aV (cond (r15 != 0) true (r23.2.2.2.2.2.2 != 0)) fun x30=>
   cond x30 (
    some (())) (
    some (()))) fun p29=>
   Option.bind (dG N ) fun r31=>
   some r31) (fun q=>
  kK q (fun r24=>
   none) (fun r25=>
   Option.bind (aV (cond (r15 != 0) true (r25.2.2.2.2.2.2.2 != 0)) fun x33=>
   cond x33 (
    some (())) (
    some (()))) fun p32=>
   Option.bind (dG N ) fun r34=>
   some r34))))) (fun q=>
 kK q (fun r16=>
  none) (fun q=>
 kK q (fun r17=>
  Option.bind (kI N (aF.mk p3 z11 z13 r1.gF r1.gA1 r1.gA2 r1.gA8 r1.gA9 r1.gTo) a1) fun q=>
  kK q (fun r36=>
   Option.bind (aV (cond (r17.2.2.2.2.2.2 != 0) true (r36 != 0)) fun x42=>
   cond x42 (
    some (())) (
    some (()))) fun p41=>
   Option.bind (dG N ) fun r43=>
   some r43) (fun q=>
  kK q (fun r37=>
   none) (fun q=>
  kK q (fun r38=>
   Option.bind (aV (cond (r17.2.2.2.2.2.2 != 0) true (r38.2.2.2.2.2.2 != 0)) fun x45=>
   cond x45 (
    some true) (
    some false)) fun p44=>
   cond p44 (
    Option.bind (dG N ) fun r46=>
    some r46) (
    Option.bind (idx a2.toList 0) fun e47=>
    Option.bind (idx a2.toList 1) fun e48=>
    Option.bind (idx a2.toList 2) fun e49=>
    Option.bind (fC N r17.2.2.2.1 e47 e48 e49 (aF.mk r17.1 r17.2.1 r1.gR r17.2.2.1 r1.gA1 r1.gA2 r1.gA8 r1.gA9 r1.gTo) a1 r17.2.2.2.2.1 (aJ.mk 0 0 0) (aK.mk (jN.mk 0) true r17.2.2.2.2.2.1)) fun r50=>
    Option.bind (idx a2.toList 0) fun e51=>
    Option.bind (idx a2.toList 1) fun e52=>
    Option.bind (idx a2.toList 2) fun e53=>
    Option.bind (fC N r38.2.2.2.1 e51 e52 e53 (aF.mk r38.1 r38.2.1 ((aF.mk p3 z11 z13 r1.gF r1.gA1 r1.gA2 r1.gA8 r1.gA9 r1.gTo).gR) r38.2.2.1 ((aF.mk p3 z11 z13 r1.gF r1.gA1 r1.gA2 r1.gA8 r1.gA9 r1.gTo).gA1) ((aF.mk p3 z11 z13 r1.gF r1.gA1 r1.gA2 r1.gA8 r1.gA9 r1.gTo).gA2) ((aF.mk p3 z11 z13 r1.gF r1.gA1 r1.gA2 r1.gA8 r1.gA9 r1.gTo).gA8) ((aF.mk p3 z11 z13 r1.gF r1.gA1 r1.gA2 r1.gA8 r1.gA9 r1.gTo).gA9) ((aF.mk p3 z11 z13 r1.gF r1.gA1 r1.gA2 r1.gA8 r1.gA9 r1.gTo).gTo)) a1 r38.2.2.2.2.1 (aJ.mk 0 0 0) (aK.mk (jN.mk 0) true r38.2.2.2.2.2.1)) fun r54=>
    Option.bind (aV (aG.eq r50.2.2.1 r54.2.2.1) fun x56=>
    aV (cond x56 (r50.2.2.2==r54.2.2.2) false) fun x57=>
    cond x57 (
     Option.bind (dG N ) fun r58=>
     some r58) (
     some false)) fun p55=>
    some p55)) (fun q=>
  kK q (fun r39=>
   none) (fun r40=>
   none))))) (fun q=>
 kK q (fun r18=>
  none) (fun r19=>
  Option.bind (kI N (aF.mk p3 z11 z13 r1.gF r1.gA1 r1.gA2 r1.gA8 r1.gA9 r1.gTo) a1) fun q=>
  kK q (fun r60=>
   Option.bind (aV (cond (r19.2.2.2.2.2.2.2 != 0) true (r60 != 0)) fun x66=>
   cond x66 (
    some (())) (
    some (()))) fun p65=>
   Option.bind (dG N ) fun r67=>
   some r67) (fun q=>
  kK q (fun r61=>
   none) (fun q=>
  kK q (fun r62=>
   none) (fun q=>
  kK q (fun r63=>
   none) (fun r64=>
   Option.bind (aV (cond (r19.2.2.2.2.2.2.2 != 0) true (r64.2.2.2.2.2.2.2 != 0)) fun x69=>
   cond x69 (
    some true) (
    some false)) fun p68=>
   cond p68 (
    Option.bind (dG N ) fun r70=>
    some r70) (
    Option.bind (idx a2.toList 0) fun e71=>
    Option.bind (idx a2.toList 1) fun e72=>
    Option.bind (idx a2.toList 2) fun e73=>
    Option.bind (eS N r19.2.2.2.1 e71 e72 e73 (aF.mk r19.1 r19.2.1 r1.gR r19.2.2.1 r1.gA1 r1.gA2 r1.gA8 r1.gA9 r1.gTo) a1 r19.2.2.2.2.1 (aJ.mk 0 0 0) r19.2.2.2.2.2.2.1) fun r74=>
    Option.bind (idx a2.toList 0) fun e75=>
    Option.bind (idx a2.toList 1) fun e76=>
    Option.bind (idx a2.toList 2) fun e77=>
    Option.bind (eS N r64.2.2.2.1 e75 e76 e77 (aF.mk r64.1 r64.2.1 ((aF.mk p3 z11 z13 r1.gF r1.gA1 r1.gA2 r1.gA8 r1.gA9 r1.gTo).gR) r64.2.2.1 ((aF.mk p3 z11 z13 r1.gF r1.gA1 r1.gA2 r1.gA8 r1.gA9 r1.gTo).gA1) ((aF.mk p3 z11 z13 r1.gF r1.gA1 r1.gA2 r1.gA8 r1.gA9 r1.gTo).gA2) ((aF.mk p3 z11 z13 r1.gF r1.gA1 r1.gA2 r1.gA8 r1.gA9 r1.gTo).gA8) ((aF.mk p3 z11 z13 r1.gF r1.gA1 r1.gA2 r1.gA8 r1.gA9 r1.gTo).gA9) ((aF.mk p3 z11 z13 r1.gF r1.gA1 r1.gA2 r1.gA8 r1.gA9 r1.gTo).gTo)) a1 r64.2.2.2.2.1 (aJ.mk 0 0 0) r64.2.2.2.2.2.2.1) fun r78=>
    Option.bind (aV (aG.eq r74.2.2.1 r78.2.2.1) fun x80=>
    aV (cond x80 (r74.2.2.2==r78.2.2.2) false) fun x81=>
    cond x81 (
     Option.bind (dG N ) fun r82=>
     some r82) (
     some false)) fun p79=>
    some p79)))))))))
theorem zJ {N a0 a1 a2 r} (h:iX N a0 a1 a2=some r):FnM Tryz.prog 6 [] [(aF.enc a0),(aI.enc a1),(eA 3 1 j64 a2)] (eB r) []:=by
 unfold iX at h
 refine At.f aAN hT hmo Tryz.func6 rfl h ?_
 refine At.b 5 (fun _ e=>aN [] (aDI e)) fun r1=>?_
 refine lx ?_;intro x2
 refine At.ownn 6 7 19 ?_
 refine At.L 0 [3,4,5] 2 (fun p3=>([(7,(eO 1 19 aE.enc p3))],[(1,.tail (p3.length*19))],[])) (fun p3 J k=>∃ s4 s5,dE N x2 r1 k s4 s5=some p3∧J [3,4,5,22,23] 2 [(7,(eO 1 19 aE.enc s4)),(24,(j64 s5))] [(1,.tail (s4.length*19))] []) N (fun _ h=>⟨_,_,h,jr⟩) (fun p3 k s hI=>?_) fun p3=>?_
 ·obtain ⟨s4,s5,h,hj⟩:=hI
  cases k with
  | zero=>cases h
  | succ k=>
   refine At.jr hj ?_ h
   refine At.c 1 ?_ ?_
   ·refine At.J 0 2 [3,4,5,22,23,24] 2 (fun p6=>([(7,(eO 1 19 aE.enc p6.1))],[(1,.tail (p6.1.length*19))],[.var (aE.enc p6.2)])) (fun p6=>?_) fun p6=>?_
    ·refine At.b 0 (fun _ e=>cF hT aE.enc e) fun e7=>?_
     refine lx ?_;intro x8
     refine At.c 7 ?_ ?_
     ·refine At.o 2 (cI hT (x:=(.sl 19 1 [(aE.enc e7)]))) ?_
      refine At.b 0 (fun _ e=>nR hT aE.enc (id:=1) (k:=19) e) fun z9=>?_
      apply rt;exact At.jn 1
     ·apply rt;exact At.jn 0
    ·exact fun h=>At.k 2 ⟨_,_,h,jr⟩
   ·apply rt;exact At.x 0
 ·refine At.o 6 (vI hT aQ.enc (k:=5) ([]:List aQ) (by kernel_rfl) (by kernel_rfl)) ?_
  refine At.b 2 (fun _ e=>nR hT aQ.enc (id:=3) (k:=5) e) fun z10=>?_
  refine At.o 1 (cI hT (x:=(.sl 5 1 [(.st 5 [(j64 1),(.arr 3 1 [(j64 0),(j64 0),(j64 0)]),(j64 0)])]))) ?_
  refine At.b 0 (fun _ e=>nR hT aQ.enc (id:=3) (k:=5) e) fun z11=>?_
  refine At.o 2 (vI hT aD.enc (k:=2) ([]:List aD) (by kernel_rfl) (by kernel_rfl)) ?_
  refine At.b 2 (fun _ e=>nR hT aD.enc (id:=4) (k:=2) e) fun z12=>?_
  refine At.o 1 (cI hT (x:=(.sl 3 1 [(.arr 3 1 [(j64 1),(j64 2),(j64 3)])]))) ?_
  refine At.o 1 (cI hT (x:=(.sl 2 1 [(.st 2 [(j64 1),(.sl 3 1 [(.arr 3 1 [(j64 1),(j64 2),(j64 3)])])])]))) ?_
  refine At.b 0 (fun _ e=>nR hT aD.enc (id:=4) (k:=2) e) fun z13=>?_
  refine aKm (fun r15 hr15=>?_) (fun q hq=>?_)
  ·refine At.o 4 (aN [] (vA hr15)) ?_
   refine aKm (fun r21 hr21=>?_) (fun q hq=>?_)
   ·refine At.o 7 (aN [] (vA hr21)) ?_
    refine At.J 5 0 [5,11,13] 5 (fun p26=>([(83,(eB true))],[],[])) (fun p26=>?_) fun p26=>?_
    ·refine lx ?_;intro x27
     refine At.s 76 7 ?_ ?_
     ·refine At.g [76,80] 7 ?_
      apply rt;exact At.jn 0
     ·refine At.g [76] 1 ?_
      refine At.o 0 (pG hT (t:=40) (x:=(.v (.pointer none))) (b:=false) (by kernel_rfl) rfl rfl (by kernel_rfl)) ?_
      refine At.g [76,80] 5 ?_
      apply rt;exact At.jn 0
    ·refine At.b 1 (fun _ e=>aN [] (eZ e)) fun r28=>?_
     apply rt;exact At.r 1
   ·refine aC1 (fun r22 e=>?_) (fun q e=>?_)
    ·subst e
     have hr22:=hq
     exact nn
    ·subst e
     have hq:=hq
     refine aC1 (fun r23 e=>?_) (fun q e=>?_)
     ·subst e
      have hr23:=hq
      refine At.o 7 (aN [] (zD hr23)) ?_
      refine At.J 5 0 [5,11,13] 12 (fun p29=>([(83,(eB true))],[],[])) (fun p29=>?_) fun p29=>?_
      ·refine lx ?_;intro x30
       refine At.s 76 7 ?_ ?_
       ·refine At.g [76,80] 7 ?_
        apply rt;exact At.jn 0
       ·refine At.g [76] 1 ?_
        refine At.o 0 (pG hT (t:=40) (x:=(.v (.pointer none))) (b:=false) (by kernel_rfl) rfl rfl (by kernel_rfl)) ?_
        refine At.g [76,80] 5 ?_
        apply rt;exact At.jn 0
      ·refine At.b 1 (fun _ e=>aN [] (eZ e)) fun r31=>?_
       apply rt;exact At.r 1
     ·subst e
      have hq:=hq
      refine aC1 (fun r24 e=>?_) (fun r25 e=>?_)
      ·subst e
       have hr24:=hq
       exact nn
      ·subst e
       have hr25:=hq
       refine At.o 7 (aN [] (vF hr25)) ?_
       refine At.J 5 0 [5,11,13] 12 (fun p32=>([(83,(eB true))],[],[])) (fun p32=>?_) fun p32=>?_
       ·refine lx ?_;intro x33
        refine At.s 76 7 ?_ ?_
        ·refine At.g [76,80] 7 ?_
         apply rt;exact At.jn 0
        ·refine At.g [76] 1 ?_
         refine At.o 0 (pG hT (t:=40) (x:=(.v (.pointer none))) (b:=false) (by kernel_rfl) rfl rfl (by kernel_rfl)) ?_
         refine At.g [76,80] 5 ?_
         apply rt;exact At.jn 0
       ·refine At.b 1 (fun _ e=>aN [] (eZ e)) fun r34=>?_
        apply rt;exact At.r 1
  ·refine aC1 (fun r16 e=>?_) (fun q e=>?_)
   ·subst e
    have hr16:=hq
    exact nn
   ·subst e
    have hq:=hq
    refine aC1 (fun r17 e=>?_) (fun q e=>?_)
    ·subst e
     have hr17:=hq
     refine At.o 4 (aN [] (zD hr17)) ?_
     refine aKm (fun r36 hr36=>?_) (fun q hq=>?_)
     ·refine At.o 7 (aN [] (vA hr36)) ?_
      refine At.J 5 0 [5,11,13] 12 (fun p41=>([(83,(eB true))],[],[])) (fun p41=>?_) fun p41=>?_
      ·refine lx ?_;intro x42
       refine At.s 76 7 ?_ ?_
       ·refine At.g [76,80] 7 ?_
        apply rt;exact At.jn 0
       ·refine At.g [76] 1 ?_
        refine At.o 0 (pG hT (t:=40) (x:=(.ref 5 [] 0)) (b:=true) (by kernel_rfl) rfl rfl (by kernel_rfl)) ?_
        refine At.g [76,80] 3 ?_
        refine At.o 0 (pG hT (t:=40) (x:=(.v (.pointer none))) (b:=false) (by kernel_rfl) rfl rfl (by kernel_rfl)) ?_
        refine At.g [80] 1 ?_
        apply rt;exact At.jn 0
      ·refine At.b 1 (fun _ e=>aN [] (eZ e)) fun r43=>?_
       apply rt;exact At.r 1
     ·refine aC1 (fun r37 e=>?_) (fun q e=>?_)
      ·subst e
       have hr37:=hq
       exact nn
      ·subst e
       have hq:=hq
       refine aC1 (fun r38 e=>?_) (fun q e=>?_)
       ·subst e
        have hr38:=hq
        refine At.o 7 (aN [] (zD hr38)) ?_
        refine At.J 5 0 [5,11,13] 19 (fun p44=>([(83,(eB p44))],[],[])) (fun p44=>?_) fun p44=>?_
        ·refine lx ?_;intro x45
         refine At.s 76 7 ?_ ?_
         ·refine At.g [76,80] 7 ?_
          apply rt;exact At.jn 0
         ·refine At.g [76] 1 ?_
          refine At.o 0 (pG hT (t:=40) (x:=(.ref 5 [] 0)) (b:=true) (by kernel_rfl) rfl rfl (by kernel_rfl)) ?_
          refine At.g [76,80] 3 ?_
          refine At.o 0 (pG hT (t:=40) (x:=(.ref 12 [] 0)) (b:=true) (by kernel_rfl) rfl rfl (by kernel_rfl)) ?_
          refine At.g [80] 1 ?_
          apply rt;exact At.jn 0
        ·refine At.c 0 ?_ ?_
         ·refine At.b 0 (fun _ e=>aN [] (eZ e)) fun r46=>?_
          apply rt;exact At.r 1
         ·refine At.b 1 (fun _ e=>cL hT (N:=3) (k:=1) j64 a2 e) fun e47=>?_
          refine At.b 1 (fun _ e=>cL hT (N:=3) (k:=1) j64 a2 e) fun e48=>?_
          refine At.b 1 (fun _ e=>cL hT (N:=3) (k:=1) j64 a2 e) fun e49=>?_
          refine At.b 1 (fun _ e=>aN [5,11,9] (rI e)) fun r50=>?_
          refine At.b 7 (fun _ e=>cL hT (N:=3) (k:=1) j64 a2 e) fun e51=>?_
          refine At.b 1 (fun _ e=>cL hT (N:=3) (k:=1) j64 a2 e) fun e52=>?_
          refine At.b 1 (fun _ e=>cL hT (N:=3) (k:=1) j64 a2 e) fun e53=>?_
          refine At.b 1 (fun _ e=>aN [12,18,16] (rI e)) fun r54=>?_
          refine At.J 6 0 [] 21 (fun p55=>([(6,(eB p55))],[],[])) (fun p55=>?_) fun p55=>?_
          ·refine At.o 2 (aCB aLJ (r50.2.2.1:aG) (r54.2.2.1:aG) (by kernel_rfl) (by kernel_rfl) (fun _=>rfl) (fun _=>rfl) (by kernel_rfl) (by kernel_rfl)) ?_
           refine lx ?_;intro x56
           refine lx ?_;intro x57
           refine At.s 115 6 ?_ ?_
           ·refine At.b 0 (fun _ e=>aN [] (eZ e)) fun r58=>?_
            refine At.g [115] 2 ?_
            apply rt;exact At.jn 0
           ·refine At.g [115] 3 ?_
            apply rt;exact At.jn 0
          ·apply rt;exact At.r 0
       ·subst e
        have hq:=hq
        refine aC1 (fun r39 e=>?_) (fun r40 e=>?_)
        ·subst e
         have hr39:=hq
         exact nn
        ·subst e
         have hr40:=hq
         exact nn
    ·subst e
     have hq:=hq
     refine aC1 (fun r18 e=>?_) (fun r19 e=>?_)
     ·subst e
      have hr18:=hq
      exact nn
     ·subst e
      have hr19:=hq
      refine At.o 4 (aN [] (vF hr19)) ?_
      refine aKm (fun r60 hr60=>?_) (fun q hq=>?_)
      ·refine At.o 7 (aN [] (vA hr60)) ?_
       refine At.J 5 0 [5,11,13] 12 (fun p65=>([(83,(eB true))],[],[])) (fun p65=>?_) fun p65=>?_
       ·refine lx ?_;intro x66
        refine At.s 76 7 ?_ ?_
        ·refine At.g [76,80] 7 ?_
         apply rt;exact At.jn 0
        ·refine At.g [76] 1 ?_
         refine At.o 0 (pG hT (t:=40) (x:=(.ref 5 [] 0)) (b:=true) (by kernel_rfl) rfl rfl (by kernel_rfl)) ?_
         refine At.g [76,80] 3 ?_
         refine At.o 0 (pG hT (t:=40) (x:=(.v (.pointer none))) (b:=false) (by kernel_rfl) rfl rfl (by kernel_rfl)) ?_
         refine At.g [80] 1 ?_
         apply rt;exact At.jn 0
       ·refine At.b 1 (fun _ e=>aN [] (eZ e)) fun r67=>?_
        apply rt;exact At.r 1
      ·refine aC1 (fun r61 e=>?_) (fun q e=>?_)
       ·subst e
        have hr61:=hq
        exact nn
       ·subst e
        have hq:=hq
        refine aC1 (fun r62 e=>?_) (fun q e=>?_)
        ·subst e
         have hr62:=hq
         exact nn
        ·subst e
         have hq:=hq
         refine aC1 (fun r63 e=>?_) (fun r64 e=>?_)
         ·subst e
          have hr63:=hq
          exact nn
         ·subst e
          have hr64:=hq
          refine At.o 7 (aN [] (vF hr64)) ?_
          refine At.J 5 0 [5,11,13] 19 (fun p68=>([(83,(eB p68))],[],[])) (fun p68=>?_) fun p68=>?_
          ·refine lx ?_;intro x69
           refine At.s 76 7 ?_ ?_
           ·refine At.g [76,80] 7 ?_
            apply rt;exact At.jn 0
           ·refine At.g [76] 1 ?_
            refine At.o 0 (pG hT (t:=40) (x:=(.ref 5 [] 0)) (b:=true) (by kernel_rfl) rfl rfl (by kernel_rfl)) ?_
            refine At.g [76,80] 3 ?_
            refine At.o 0 (pG hT (t:=40) (x:=(.ref 12 [] 0)) (b:=true) (by kernel_rfl) rfl rfl (by kernel_rfl)) ?_
            refine At.g [80] 1 ?_
            apply rt;exact At.jn 0
          ·refine At.c 0 ?_ ?_
           ·refine At.b 0 (fun _ e=>aN [] (eZ e)) fun r70=>?_
            apply rt;exact At.r 1
           ·refine At.b 1 (fun _ e=>cL hT (N:=3) (k:=1) j64 a2 e) fun e71=>?_
            refine At.b 1 (fun _ e=>cL hT (N:=3) (k:=1) j64 a2 e) fun e72=>?_
            refine At.b 1 (fun _ e=>cL hT (N:=3) (k:=1) j64 a2 e) fun e73=>?_
            refine At.b 1 (fun _ e=>aN [5,11,9] (nV e)) fun r74=>?_
            refine At.b 7 (fun _ e=>cL hT (N:=3) (k:=1) j64 a2 e) fun e75=>?_
            refine At.b 1 (fun _ e=>cL hT (N:=3) (k:=1) j64 a2 e) fun e76=>?_
            refine At.b 1 (fun _ e=>cL hT (N:=3) (k:=1) j64 a2 e) fun e77=>?_
            refine At.b 1 (fun _ e=>aN [12,18,16] (nV e)) fun r78=>?_
            refine At.J 6 0 [] 21 (fun p79=>([(6,(eB p79))],[],[])) (fun p79=>?_) fun p79=>?_
            ·refine At.o 2 (aCB aLJ (r74.2.2.1:aG) (r78.2.2.1:aG) (by kernel_rfl) (by kernel_rfl) (fun _=>rfl) (fun _=>rfl) (by kernel_rfl) (by kernel_rfl)) ?_
             refine lx ?_;intro x80
             refine lx ?_;intro x81
             refine At.s 115 6 ?_ ?_
             ·refine At.b 0 (fun _ e=>aN [] (eZ e)) fun r82=>?_
              refine At.g [115] 2 ?_
              apply rt;exact At.jn 0
             ·refine At.g [115] 3 ?_
              apply rt;exact At.jn 0
            ·apply rt;exact At.r 0
end Go.UK
