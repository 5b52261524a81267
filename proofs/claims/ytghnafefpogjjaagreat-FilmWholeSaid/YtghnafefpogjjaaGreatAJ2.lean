/- A part of the proof: what the functions of the program compute. -/
import Derived.Test.YtghnafefpogjjaaGreatAJ1
namespace Go.UK
open Go Go.Proofs
set_option maxRecDepth 20000
set_option maxHeartbeats 40000000
set_option linter.all false
attribute [local irreducible] adv aK7 aJd aBB brPt aM5 aHO pW aBF eN oT fV aK6 aJk lPt owp awl aw FnM aHc opS Stab TOK Big
def aFe : Nat→Bool:=imL [5,7,8]
def mS (N:Nat) (a0:(Vector Int 3)) (a1:(List aD)) (a2:(Vector (Vector Int 2) 3)) (a3:aS) (a4:Int):Option (aA):=
 Option.bind (rP N a0 65535) fun r1=>
 Option.bind (vW N a1 a4) fun r2=>
 cond (!r2.2) (
  some r1) (
  Option.bind (wB N a3 a2) fun r3=>
  aT (fD (jH r3.1 0) 65535) fun x4=>
  aT (fD (jH r3.2 0) 65535) fun x5=>
  Option.bind (sO N r2.1 x4 x5) fun r6=>
  cond (r6.2 != 0) (
   some r1) (
   Option.bind (iX N ([r1,r6.1])) fun r7=>
   some r7))
theorem aBP {N a0 a1 a2 a3 a4 r} (h:mS N a0 a1 a2 a3 a4=some r):FnM Tryz.prog 260 [] [(eA 3 1 j64 a0),(eL 2 aD.enc a1),(eA 6 2 (eA 2 1 j64) a2),(aS.enc a3),(j64 a4)] (aA.enc r) []:=by
 unfold mS at h
 refine At.f aFe hT hmo Tryz.func260 rfl h ?_
 refine At.b 5 (fun _ e=>aM [] (aCM e)) fun r1=>?_
 refine At.b 4 (fun _ e=>aM [] (aHx e)) fun r2=>?_
 refine At.c 8 ?_ ?_
 ·apply rt;exact At.r 2
 ·refine At.b 2 (fun _ e=>aM [] (aHz e)) fun r3=>?_
  refine lx ?_;intro x4
  refine lx ?_;intro x5
  refine At.b 12 (fun _ e=>aM [] (aFl e)) fun r6=>?_
  refine At.c 8 ?_ ?_
  ·apply rt;exact At.r 2
  ·refine At.o 2 (bQ hT (x:=(.sl 3 2 [(aA.enc r1),(aA.enc r6.1)]))) ?_
   refine At.b 0 (fun _ e=>aM [] (qS e)) fun r7=>?_
   apply rt;exact At.r 1
def nT (N:Nat) (a0:Int):Option (aQ):=
 Option.bind (iI N a0 a0) fun r1=>
 some r1
theorem yM {N a0 r} (h:nT N a0=some r):FnM Tryz.prog 269 [] [(j64 a0)] (aQ.enc r) []:=by
 unfold nT at h
 refine At.f cQ hT hmo Tryz.func269 rfl h ?_
 refine At.b 3 (fun _ e=>aM [] (kU e)) fun r1=>?_
 apply rt;exact At.r 1
def aJv : Nat→Bool:=imL [1]
def oP (N:Nat) (a0:aA):Option (Int):=
 Option.bind (nT N a0.gX) fun r1=>
 Option.bind (nT N a0.gY) fun r2=>
 Option.bind (nT N a0.gZ) fun r3=>
 Option.bind (uV N ([r1,r2,r3])) fun r4=>
 cond (!r4.2) (
  some 9223372036854775807) (
  Option.bind (sQ N r4.1) fun r5=>
  aT (fD r5 9223372036854775807) fun x6=>
  some (I64 x6))
theorem aA3 {N a0 r} (h:oP N a0=some r):FnM Tryz.prog 200 [] [(aA.enc a0)] (j64 r) []:=by
 unfold oP at h
 refine At.f aJv hT hmo Tryz.func200 rfl h ?_
 refine bi fun r1 hr1=>?_
 refine bi fun r2 hr2=>?_
 refine bi fun r3 hr3=>?_
 refine bi fun r4 hr4=>?_
 refine At.d 3 (dE2 3 (aQ.enc r1) (fun _=>aO (yM hr1)) (dE2 7 (aQ.enc r2) (fun _=>aO (yM hr2)) (dE2 11 (aQ.enc r3) (fun _=>aO (yM hr3)) (dE1 12 (fun _=>bQ hT (x:=(.sl 2 3 [(aQ.enc r1),(aQ.enc r2),(aQ.enc r3)]))) (dE2 13 (.tup [(aQ.enc r4.1),(eB r4.2)]) (fun _=>aO (aCi hr4)) dE0))))) dF0 ?_
 refine At.c 2 ?_ ?_
 ·apply rt;exact At.r 1
 ·refine At.b 1 (fun _ e=>aM [] (aEU e)) fun r5=>?_
  refine lx ?_;intro x6
  apply rt;exact At.r 3
def lD (N:Nat) (b4:(List (List aD))) (a1:aK) (a2 a3:aA) (a4:Int) (a5:Bool) (a6:aG) (a7:aE) (a8:aI) (a9:aA) (a10:aH) (a11:aB) (a12:aJ):Option (aG×Int×aJ×aV×Bool):=
 Option.bind (cond (a4==0) (some 9) (some 4)) fun p1=>
 Option.bind (hO N a1.go a1.gd p1 a1.gE4 a12) fun r2=>
 Option.bind (cond a8.gS (some (I64 (a10.gN+4))) (some a10.gN)) fun p3=>
 cond (decide (r2.2.1 < 0)) (
  some ((a6,p3,r2.1,aV.mk 0 (aC.mk 0 0 0) (aA.mk 0 0 0) (aA.mk 0 0 0) (aN.mk 0 (#v[0,0,0]) 0) false,false))) (
  Option.bind (idx a7.gK r2.2.1) fun e4=>
  Option.bind (eY 1 3) fun _=>
  Option.bind (e4.gP.toList[(Int.toNat 1)]?) fun e6=>
  Option.bind (eY 0 3) fun _=>
  Option.bind (e4.gP.toList[(Int.toNat 0)]?) fun e8=>
  Option.bind (pV N e6 e8) fun r9=>
  Option.bind (eY 2 3) fun _=>
  Option.bind (e4.gP.toList[(Int.toNat 2)]?) fun e11=>
  Option.bind (eY 0 3) fun _=>
  Option.bind (e4.gP.toList[(Int.toNat 0)]?) fun e13=>
  Option.bind (pV N e11 e13) fun r14=>
  Option.bind (sP N r9 r14) fun r15=>
  Option.bind (hP N r15) fun r16=>
  Option.bind (Option.bind (sU N a1.go a1.gd r2.2.2) fun r18=>
  Option.bind (lR N r16 a1.gd) fun r19=>
  Option.bind (idx a7.gA1 e4.gC3) fun e20=>
  cond (a4==0) (
   aT ((iK .u8 e4.gD2 8) != 0) fun x21=>
   some (aV.mk r2.2.1 r18 r19 (aA.mk 0 0 0) e20 x21)) (
   some (aV.mk r2.2.1 r18 r19 (aA.mk 0 0 0) e20 false))) fun p17=>
  Option.bind (cond (decide (e4.gB4≥0)) (
   Option.bind (idx b4 e4.gB4) fun e23=>
   cond (!a8.gS) (some ((I64 (p3+4),e23))) (some ((p3,e23)))) (
   some ((p3,[])))) fun p22=>
  Option.bind (mS N p17.gB1.gA4 p22.2 e4.gUv r2.2.2 a4) fun r24=>
  Option.bind (aT (cond (a4==0) (!a5) false) fun x26=>
  cond x26 (
   Option.bind (pD N p17.gat) fun r27=>
   Option.bind (pD N a1.go) fun r28=>
   Option.bind (vJ N r27 r28) fun r29=>
   Option.bind (oP N r29) fun r30=>
   cond p17.gB8 (
    some (aG.mk (aA.mk 0 0 0) 0 r30 p17.gn e4.gA0)) (
    some (aG.mk (aA.mk 0 0 0) 1 r30 p17.gn e4.gA0))) (
   some a6)) fun p25=>
  some ((p25,p22.1,r2.1,aV.mk p17.gi p17.gat p17.gn r24 p17.gB1 p17.gB8,true)))
theorem aBj {N b4 a1 a2 a3 a4 a5 a6 a7 a8 a9 a10 a11 a12 r} (h:lD N b4 a1 a2 a3 a4 a5 a6 a7 a8 a9 a10 a11 a12=some r):FnM Tryz.prog 191 [.var (.st 26 [(aK.enc a1),(.ref 1 [] 0),(.ref 2 [] 0),(aA.enc a2),(aA.enc a3),(j64 a4),(eB a5),(aG.enc a6)]),.var (.st 38 [(aE.enc a7),(aI.enc a8),(.ifc 178 (.ref 3 [] 0)),(eO 4 1 (eL 2 aD.enc) b4),(aA.enc a9),(aH.enc a10)]),.var (aB.enc a11),.var (aJ.enc a12),.tail (b4.length*1)] [(.ref 0 [] 0)] (.tup [(aV.enc r.2.2.2.1),(eB r.2.2.2.2)]) [.var (.st 26 [(aK.enc a1),(.ref 1 [] 0),(.ref 2 [] 0),(aA.enc a2),(aA.enc a3),(j64 a4),(eB a5),(aG.enc r.1)]),.var (.st 38 [(aE.enc a7),(aI.enc a8),(.ifc 178 (.ref 3 [] 0)),(eO 4 1 (eL 2 aD.enc) b4),(aA.enc a9),(.st 3 [(j64 a10.gG),(j64 r.2.1),(j64 (I64 (a10.gF+1)))])]),.var (aB.enc a11),.var (aJ.enc r.2.2.1),.tail (b4.length*1)]:=by
 unfold lD at h
 refine At.f cQ hT hmo Tryz.func191 rfl h ?_
 refine At.J 3 1 [0,2] 6 (fun p1=>([(4,(k8 p1))],[],[])) (fun p1=>?_) fun p1=>?_
 ·refine At.c 5 ?_ ?_
  ·apply rt;exact At.jn 1
  ·apply rt;exact At.jn 0
 ·refine bi fun r2 hr2=>?_
  refine At.d2 0 [false] dC0 (dS1 25 ⟨(.tup [(j64 r2.2.1),(aS.enc r2.2.2)]),3,.var (aJ.enc r2.1),.var (aJ.enc a12)⟩ [[.var (.st 26 [(aK.enc a1),(.ref 1 [] 0),(.ref 2 [] 0),(aA.enc a2),(aA.enc a3),(j64 a4),(eB a5),(aG.enc a6)]),.var (.st 38 [(aE.enc a7),(aI.enc a8),(.ifc 178 (.ref 3 [] 0)),(eO 4 1 (eL 2 aD.enc) b4),(aA.enc a9),(aH.enc a10)]),.var (aB.enc a11),.var (aJ.enc a12),.tail (b4.length*1),.var aKi,.dead],[.var (.st 26 [(aK.enc a1),(.ref 1 [] 0),(.ref 2 [] 0),(aA.enc a2),(aA.enc a3),(j64 a4),(eB a5),(aG.enc a6)]),.var (.st 38 [(aE.enc a7),(aI.enc a8),(.ifc 178 (.ref 3 [] 0)),(eO 4 1 (eL 2 aD.enc) b4),(aA.enc a9),(aH.enc a10)]),.var (aB.enc a11),.var (aJ.enc a12),.tail (b4.length*1),.var aKi,.var (.st 4 [(j64 0),(j64 0),(j64 0),(j64 0)])]] ⟨bG (aM [3] (rE hr2)),bG (aM [3] (rE hr2)),trivial⟩ (dS1 29 ⟨(.ref 6 [] 0),6,.var (.st 4 [(j64 0),(j64 0),(j64 0),(j64 0)]),.dead⟩ [[.var (.st 26 [(aK.enc a1),(.ref 1 [] 0),(.ref 2 [] 0),(aA.enc a2),(aA.enc a3),(j64 a4),(eB a5),(aG.enc a6)]),.var (.st 38 [(aE.enc a7),(aI.enc a8),(.ifc 178 (.ref 3 [] 0)),(eO 4 1 (eL 2 aD.enc) b4),(aA.enc a9),(aH.enc a10)]),.var (aB.enc a11),.var (aJ.enc a12),.tail (b4.length*1),.var aKi,.dead],[.var (.st 26 [(aK.enc a1),(.ref 1 [] 0),(.ref 2 [] 0),(aA.enc a2),(aA.enc a3),(j64 a4),(eB a5),(aG.enc a6)]),.var (.st 38 [(aE.enc a7),(aI.enc a8),(.ifc 178 (.ref 3 [] 0)),(eO 4 1 (eL 2 aD.enc) b4),(aA.enc a9),(aH.enc a10)]),.var (aB.enc a11),.var (aJ.enc r2.1),.tail (b4.length*1),.var aKi,.dead]] ⟨aW hT 6 (by kernel_rfl) (by kernel_rfl) (by kernel_rfl),aW hT 6 (by kernel_rfl) (by kernel_rfl) (by kernel_rfl),trivial⟩ dS0)) ?_
  refine At.J 13 1 [0,2,5,6] 7 (fun p3=>([],[(1,.var (.st 38 [(aE.enc a7),(aI.enc a8),(.ifc 178 (.ref 3 [] 0)),(eO 4 1 (eL 2 aD.enc) b4),(aA.enc a9),(.st 3 [(j64 a10.gG),(j64 p3),(j64 (I64 (a10.gF+1)))])]))],[])) (fun p3=>?_) fun p3=>?_
  ·refine At.c 8 ?_ ?_
   ·apply rt;exact At.jn 13
   ·apply rt;exact At.jn 0
  ·refine At.c 2 ?_ ?_
   ·apply rt;exact At.r 3
   ·refine At.b 9 (fun _ e=>bF hT aF.enc e) fun e4=>?_
    refine bi fun u5 hu5=>?_
    refine bi fun e6 he6=>?_
    refine bi fun u7 hu7=>?_
    refine bi fun e8 he8=>?_
    refine bi fun r9 hr9=>?_
    refine bi fun u10 hu10=>?_
    refine bi fun e11 he11=>?_
    refine bi fun u12 hu12=>?_
    refine bi fun e13 he13=>?_
    refine bi fun r14 hr14=>?_
    refine bi fun r15 hr15=>?_
    refine bi fun r16 hr16=>?_
    refine At.d 3 (dE1 1 (fun _=>bH hT (k:=3) 7 [0] 0 hu5) (dEL hT 2 (aC.enc e6) aC.enc 1 he6 (dE1 4 (fun _=>bH hT (k:=3) 7 [0] 0 hu7) (dEL hT 5 (aC.enc e8) aC.enc 1 he8 (dE2 6 (aC.enc r9) (fun _=>aO (sR hr9)) (dE1 8 (fun _=>bH hT (k:=3) 7 [0] 0 hu10) (dEL hT 9 (aC.enc e11) aC.enc 1 he11 (dE1 11 (fun _=>bH hT (k:=3) 7 [0] 0 hu12) (dEL hT 12 (aC.enc e13) aC.enc 1 he13 (dE2 13 (aC.enc r14) (fun _=>aO (sR hr14)) (dE2 14 (aC.enc r15) (fun _=>aO (yY hr15)) (dE2 15 (aA.enc r16) (fun _=>aO (lU hr16)) dE0)))))))))))) dF0 ?_
    refine At.J 0 0 [0,2,6,7] 9 (fun p17=>([],[(5,.var (aV.enc p17))],[])) (fun p17=>?_) fun p17=>?_
    ·refine bi fun r18 hr18=>?_
     refine bi fun r19 hr19=>?_
     refine bi fun e20 he20=>?_
     refine boI (fun hc37=>?_) (fun hc37=>?_)
     ·refine lx ?_;intro x21
      refine At.d 0 (dE2 12 (aC.enc r18) (fun _=>aO (zC hr18)) (dE2 19 (aA.enc r19) (fun _=>aO (rV hr19)) (dE1 30 (fun _=>bF hT aN.enc he20) (dE1 37 (fun _=>cD hc37 rfl (bY hT (im:=false) (by kernel_rfl))) dE0)))) dF0 ?_
      apply rt;exact At.jn 0
     ·refine At.d 0 (dE2 12 (aC.enc r18) (fun _=>aO (zC hr18)) (dE2 19 (aA.enc r19) (fun _=>aO (rV hr19)) (dE1 30 (fun _=>bF hT aN.enc he20) (dE1 37 (fun _=>cD hc37 rfl (bY hT (im:=false) (by kernel_rfl))) dE0)))) dF0 ?_
      apply rt;exact At.jn 0
    ·refine At.J 1 1 [0,2,6,7] 9 (fun p22=>([(9,(eL 2 aD.enc p22.2))],[(1,.var (.st 38 [(aE.enc a7),(aI.enc a8),(.ifc 178 (.ref 3 [] 0)),(eO 4 1 (eL 2 aD.enc) b4),(aA.enc a9),(.st 3 [(j64 a10.gG),(j64 p22.1),(j64 (I64 (a10.gF+1)))])]))],[])) (fun p22=>?_) fun p22=>?_
     ·refine At.c 3 ?_ ?_
      ·refine bi fun e23 he23=>?_
       refine At.d 0 (dE1 9 (fun _=>bF hT (eL 2 aD.enc) he23) dE0) dF0 ?_
       refine At.c 9 ?_ ?_
       ·apply rt;exact At.jn 13
       ·apply rt;exact At.jn 0
      ·apply rt;exact At.jn 0
     ·refine bi fun r24 hr24=>?_
      refine At.d 0 (dE2 11 (aA.enc r24) (fun _=>aO (aBP hr24)) dE0) dF0 ?_
      refine At.J 0 1 [2] 9 (fun p25=>([],[(0,.var (.st 26 [(aK.enc a1),(.ref 1 [] 0),(.ref 2 [] 0),(aA.enc a2),(aA.enc a3),(j64 a4),(eB a5),(aG.enc p25)]))],[])) (fun p25=>?_) fun p25=>?_
      ·refine lx ?_;intro x26
       refine At.c 12 ?_ ?_
       ·refine bi fun r27 hr27=>?_
        refine bi fun r28 hr28=>?_
        refine bi fun r29 hr29=>?_
        refine bi fun r30 hr30=>?_
        refine At.d 0 (dE2 3 (aA.enc r27) (fun _=>aO (rM hr27)) (dE2 9 (aA.enc r28) (fun _=>aO (rM hr28)) (dE2 10 (aA.enc r29) (fun _=>aO (aBc hr29)) (dE2 11 (j64 r30) (fun _=>aO (aA3 hr30)) dE0)))) dF0 ?_
        refine At.c 2 ?_ ?_
        ·apply rt;exact At.jn 5
        ·apply rt;exact At.jn 0
       ·apply rt;exact At.jn 0
      ·apply rt;exact At.r 3
def fX (N:Nat) (b4:(List (List aD))) (a1:(List aA)) (a2:aK) (a3 a4:aA) (a5:Int) (a6:Bool) (a7:aG) (a8:aE) (a9:aI) (a10:aA) (a11:aH) (a12:aB) (a13:aJ):Option (aA):=
 cond (!a6) (
  Option.bind (rF 24 (([a3]:List aA)) a1) fun z1=>
  Option.bind (iX N z1) fun r2=>
  Option.bind (kP N ([a4,r2])) fun r3=>
  some r3) (
  some a4)
theorem qU {N b4 a1 a2 a3 a4 a5 a6 a7 a8 a9 a10 a11 a12 a13 r} (h:fX N b4 a1 a2 a3 a4 a5 a6 a7 a8 a9 a10 a11 a12 a13=some r):FnM Tryz.prog 192 [.var (.st 26 [(aK.enc a2),(.ref 1 [] 0),(.ref 2 [] 0),(aA.enc a3),(aA.enc a4),(j64 a5),(eB a6),(aG.enc a7)]),.var (.st 38 [(aE.enc a8),(aI.enc a9),(.ifc 178 (.ref 3 [] 0)),(eO 4 1 (eL 2 aD.enc) b4),(aA.enc a10),(aH.enc a11)]),.var (aB.enc a12),.var (aJ.enc a13),.tail (b4.length*1)] [(.ref 0 [] 0),(eL 3 aA.enc a1)] (.tup []) [.var (.st 26 [(aK.enc a2),(.ref 1 [] 0),(.ref 2 [] 0),(aA.enc a3),(aA.enc r),(j64 a5),(eB a6),(aG.enc a7)]),.var (.st 38 [(aE.enc a8),(aI.enc a9),(.ifc 178 (.ref 3 [] 0)),(eO 4 1 (eL 2 aD.enc) b4),(aA.enc a10),(aH.enc a11)]),.var (aB.enc a12),.var (aJ.enc a13),.tail (b4.length*1)]:=by
 unfold fX at h
 refine At.f cQ hT hmo Tryz.func192 rfl h ?_
 refine At.c 5 ?_ ?_
 ·refine bi fun z1 hz1=>?_
  refine bi fun r2 hr2=>?_
  refine bi fun r3 hr3=>?_
  refine At.d 0 (dE2 12 (aA.enc r2) (fun _=>aO (qS hr2)) (dE1 13 (fun _=>bQ hT (x:=(.sl 3 2 [(aA.enc a4),(aA.enc r2)]))) (dE2 14 (aA.enc r3) (fun _=>aO (rZ hr3)) dE0))) (dF 9 (eO 5 3 aA.enc (([a3]:List aA))) [] [.tail ((([a3]:List aA)).length*3)] (bG (xV hT aA.enc (k:=3) ([a3]:List aA) (by kernel_rfl) (by kernel_rfl))) (dF 11 (eO 5 3 aA.enc z1) [(5,.tail (z1.length*3))] [] (bG (iA hT aA.enc (id:=5) (k:=3) hz1)) dF0)) ?_
  apply rt;exact At.z 0
 ·apply rt;exact At.z 0
def dW (N:Nat) (b4:(List (List aD))) (a1:Bool) (a2:aK) (a3 a4:aA) (a5:Int) (a6:Bool) (a7:aG) (a8:aE) (a9:aI) (a10:aA) (a11:aH) (a12:aB) (a13:aJ):Option (Unit):=
 some (())
theorem iP {N b4 a1 a2 a3 a4 a5 a6 a7 a8 a9 a10 a11 a12 a13 r} (h:dW N b4 a1 a2 a3 a4 a5 a6 a7 a8 a9 a10 a11 a12 a13=some r):FnM Tryz.prog 193 [.var (.st 26 [(aK.enc a2),(.ref 1 [] 0),(.ref 2 [] 0),(aA.enc a3),(aA.enc a4),(j64 a5),(eB a6),(aG.enc a7)]),.var (.st 38 [(aE.enc a8),(aI.enc a9),(.ifc 178 (.ref 3 [] 0)),(eO 4 1 (eL 2 aD.enc) b4),(aA.enc a10),(aH.enc a11)]),.var (aB.enc a12),.var (aJ.enc a13),.tail (b4.length*1)] [(.ref 0 [] 0),(eB a1)] (.tup []) [.var (.st 26 [(aK.enc a2),(.ref 1 [] 0),(.ref 2 [] 0),(aA.enc a3),(aA.enc a4),(j64 a5),(eB (cond a6 true a1)),(aG.enc a7)]),.var (.st 38 [(aE.enc a8),(aI.enc a9),(.ifc 178 (.ref 3 [] 0)),(eO 4 1 (eL 2 aD.enc) b4),(aA.enc a10),(aH.enc a11)]),.var (aB.enc a12),.var (aJ.enc a13),.tail (b4.length*1)]:=by
 unfold dW at h
 refine At.f cQ hT hmo Tryz.func193 rfl h ?_
 apply rt;exact At.z 11
def iU (N:Nat) (a0 a1 a2:Int) (a3:(Vector Int 2)):Option (Int):=
 Option.bind (idx a3.toList 0) fun e1=>
 Option.bind (jC N a1 (I64 e1) 4294967296) fun r2=>
 Option.bind (idx a3.toList 1) fun e3=>
 Option.bind (jC N a2 (I64 e3) 4294967296) fun r4=>
 aT (I64 ((I64 (a0+r2))+r4)) fun x5=>
 some x5
theorem sA {N a0 a1 a2 a3 r} (h:iU N a0 a1 a2 a3=some r):FnM Tryz.prog 336 [] [(j64 a0),(j64 a1),(j64 a2),(.im (eA 2 1 k32 a3))] (j64 r) []:=by
 unfold iU at h
 refine At.f cQ hT hmo Tryz.func336 rfl h ?_
 refine bi fun e1 he1=>?_
 refine bi fun r2 hr2=>?_
 refine bi fun e3 he3=>?_
 refine bi fun r4 hr4=>?_
 refine lx ?_;intro x5
 refine At.d 1 (dE1 2 (fun _=>dS hT (N:=2) (k:=1) k32 a3 he1) (dE2 5 (j64 r2) (fun _=>aO (sW hr2)) (dE1 8 (fun _=>dS hT (N:=2) (k:=1) k32 a3 he3) (dE2 11 (j64 r4) (fun _=>aO (sW hr4)) dE0)))) dF0 ?_
 apply rt;exact At.r 0
def aIs : Nat→Bool:=imL [2,3]
def vV (N:Nat) (a0:aP) (a1:(Vector Int 2)):Option (aC):=
 cond (a0.gA7 != 1) (
  some a0.gAt) (
  Option.bind (iU N a0.gAt.gX a0.gU.gX a0.gV.gX a1) fun r1=>
  Option.bind (iU N a0.gAt.gY a0.gU.gY a0.gV.gY a1) fun r2=>
  Option.bind (iU N a0.gAt.gZ a0.gU.gZ a0.gV.gZ a1) fun r3=>
  some (aC.mk r1 r2 r3))
theorem aH1 {N a0 a1 r} (h:vV N a0 a1=some r):FnM Tryz.prog 320 [] [(aP.enc a0),(eA 2 1 k32 a1)] (aC.enc r) []:=by
 unfold vV at h
 refine At.f aIs hT hmo Tryz.func320 rfl h ?_
 refine At.c 6 ?_ ?_
 ·apply rt;exact At.r 3
 ·refine At.o 0 (qT (x:=(.fn (.func 336) [] [(.im (eA 2 1 k32 a1))])) (by kernel_rfl) (by kernel_rfl)) ?_
  refine bi fun r1 hr1=>?_
  refine bi fun r2 hr2=>?_
  refine bi fun r3 hr3=>?_
  refine At.d 1 (dE2 10 (j64 r1) (fun _=>aO (sA hr1)) (dE2 21 (j64 r2) (fun _=>aO (sA hr2)) (dE2 32 (j64 r3) (fun _=>aO (sA hr3)) dE0))) dF0 ?_
  apply rt;exact At.r 0
def uH (N:Nat) (a0:Int):Option (Int):=
 aT (shr .u32 (U32 (a0*32769)) 16) fun x1=>
 some x1
theorem aCa {N a0 r} (h:uH N a0=some r):FnM Tryz.prog 322 [] [(k32 a0)] (k32 r) []:=by
 unfold uH at h
 refine At.f cQ hT hmo Tryz.func322 rfl h ?_
 refine lx ?_;intro x1
 apply rt;exact At.r 5
def oH (N:Nat) (a0:Int):Option (Int):=
 aT (I64 ((fD (I64 a0) 32768) - 16384)) fun x1=>
 some x1
theorem aBJ {N a0 r} (h:oH N a0=some r):FnM Tryz.prog 337 [] [(k32 a0)] (j64 r) []:=by
 unfold oH at h
 refine At.f cQ hT hmo Tryz.func337 rfl h ?_
 refine lx ?_;intro x1
 apply rt;exact At.r 6
def mB (N:Nat) (a0:Int):Option (Int):=
 cond (decide (a0 < 0)) (some (I64 (0 - a0))) (some a0)
theorem uR {N a0 r} (h:mB N a0=some r):FnM Tryz.prog 338 [] [(j64 a0)] (j64 r) []:=by
 unfold mB at h
 refine At.f cQ hT hmo Tryz.func338 rfl h ?_
 refine At.c 3 ?_ ?_
 ·apply rt;exact At.r 3
 ·apply rt;exact At.r 2
def rG (N:Nat) (a0 a1:Int):Option (Int):=
 cond (decide (a1 < 0)) (some (I64 (0 - a0))) (some a0)
theorem aCN {N a0 a1 r} (h:rG N a0 a1=some r):FnM Tryz.prog 345 [] [(j64 a0),(j64 a1)] (j64 r) []:=by
 unfold rG at h
 refine At.f cQ hT hmo Tryz.func345 rfl h ?_
 refine At.c 3 ?_ ?_
 ·apply rt;exact At.r 3
 ·apply rt;exact At.r 2
def xW (N:Nat) (a0 a1:Int):Option (Int×Int):=
 Option.bind (mB N a1) fun r1=>
 Option.bind (rG N (I64 (16384 - r1)) a0) fun r2=>
 Option.bind (mB N a0) fun r3=>
 Option.bind (rG N (I64 (16384 - r3)) a1) fun r4=>
 some ((r2,r4))
theorem aIi {N a0 a1 r} (h:xW N a0 a1=some r):FnM Tryz.prog 339 [] [(j64 a0),(j64 a1)] (.tup [(j64 r.1),(j64 r.2)]) []:=by
 unfold xW at h
 refine At.f cQ hT hmo Tryz.func339 rfl h ?_
 refine At.b 5 (fun _ e=>aM [] (uR e)) fun r1=>?_
 refine At.b 2 (fun _ e=>aM [] (aCN e)) fun r2=>?_
 refine At.b 2 (fun _ e=>aM [] (uR e)) fun r3=>?_
 refine At.b 2 (fun _ e=>aM [] (aCN e)) fun r4=>?_
 apply rt;exact At.r 2
def uI (N:Nat) (a0:Int):Option (aC):=
 Option.bind (oH N (shr .u32 a0 16)) fun r1=>
 Option.bind (oH N (iK .u32 a0 65535)) fun r2=>
 Option.bind (mB N r1) fun r3=>
 Option.bind (mB N r2) fun r4=>
 aT (I64 ((I64 (16384 - r3)) - r4)) fun x5=>
 Option.bind (cond (decide (x5 < 0)) (
  Option.bind (xW N r1 r2) fun r7=>
  some ((r7.1,r7.2))) (
  some ((r1,r2)))) fun p6=>
 some (aC.mk p6.1 p6.2 x5)
theorem aGv {N a0 r} (h:uI N a0=some r):FnM Tryz.prog 323 [] [(k32 a0)] (aC.enc r) []:=by
 unfold uI at h
 refine At.f cQ hT hmo Tryz.func323 rfl h ?_
 refine At.b 5 (fun _ e=>aM [] (aBJ e)) fun r1=>?_
 refine At.b 3 (fun _ e=>aM [] (aBJ e)) fun r2=>?_
 refine At.b 3 (fun _ e=>aM [] (uR e)) fun r3=>?_
 refine At.b 2 (fun _ e=>aM [] (uR e)) fun r4=>?_
 refine lx ?_;intro x5
 refine At.J 2 1 [2,6] 1 (fun p6=>([(4,(j64 p6.1)),(5,(j64 p6.2))],[],[])) (fun p6=>?_) fun p6=>?_
 ·refine At.c 2 ?_ ?_
  ·refine At.b 2 (fun _ e=>aM [] (aIi e)) fun r7=>?_
   apply rt;exact At.jn 5
  ·apply rt;exact At.jn 0
 ·apply rt;exact At.r 5
def sV (N:Nat) (a0:Int):Option (aC):=
 Option.bind (uH N (shr .u32 a0 16)) fun r1=>
 Option.bind (uH N (iK .u32 a0 65535)) fun r2=>
 aT (bor .u32 (shl .u32 r1 16) r2) fun x3=>
 Option.bind (uI N x3) fun r4=>
 some r4
theorem aBu {N a0 r} (h:sV N a0=some r):FnM Tryz.prog 264 [] [(k32 a0)] (aC.enc r) []:=by
 unfold sV at h
 refine At.f cQ hT hmo Tryz.func264 rfl h ?_
 refine At.b 5 (fun _ e=>aM [] (aCa e)) fun r1=>?_
 refine At.b 4 (fun _ e=>aM [] (aCa e)) fun r2=>?_
 refine lx ?_;intro x3
 refine At.b 1 (fun _ e=>aM [] (aGv e)) fun r4=>?_
 apply rt;exact At.r 1
def aEt : Nat→Bool:=imL [3,4,5]
def qJ (N:Nat) (a0:vE) (a1:aC) (a2:aA):Option (aC×Int):=
 Option.bind (hP N a0.gD6) fun r1=>
 Option.bind (rL N a2 r1) fun r2=>
 cond (decide (r2 < 0)) (
  Option.bind (tX N r2) fun r3=>
  Option.bind (tX N r2) fun r4=>
  Option.bind (jS N ([r3,r4])) fun r5=>
  some ((aC.mk (I64 (0 - a0.gD6.gX)) (I64 (0 - a0.gD6.gY)) (I64 (0 - a0.gD6.gZ)),r5))) (
  Option.bind (jS N ([r2,r2])) fun r6=>
  some ((a0.gD6,r6)))
theorem aEQ {N a0 a1 a2 r} (h:qJ N a0 a1 a2=some r):FnM Tryz.prog 384 [] [(vE.enc a0),(aC.enc a1),(aA.enc a2)] (.tup [(aC.enc r.1),(j64 r.2)]) []:=by
 unfold qJ at h
 refine At.f aEt hT hmo Tryz.func384 rfl h ?_
 refine bi fun r1 hr1=>?_
 refine bi fun r2 hr2=>?_
 refine At.d 5 (dE2 3 (aA.enc r1) (fun _=>aO (lU hr1)) (dE2 4 (j64 r2) (fun _=>aO (wW hr2)) dE0)) dF0 ?_
 refine At.c 2 ?_ ?_
 ·refine bi fun r3 hr3=>?_
  refine bi fun r4 hr4=>?_
  refine bi fun r5 hr5=>?_
  refine At.d 0 (dE2 14 (j64 r3) (fun _=>aO (aBq hr3)) (dE2 16 (j64 r4) (fun _=>aO (aBq hr4)) (dE1 17 (fun _=>bQ hT (x:=(.sl 1 2 [(j64 r3),(j64 r4)]))) (dE2 18 (j64 r5) (fun _=>aO (pN hr5)) dE0)))) dF0 ?_
  apply rt;exact At.r 0
 ·refine bi fun r6 hr6=>?_
  refine At.d 0 (dE1 4 (fun _=>bQ hT (x:=(.sl 1 2 [(j64 r2),(j64 r2)]))) (dE2 5 (j64 r6) (fun _=>aO (pN hr6)) dE0)) dF0 ?_
  apply rt;exact At.r 0
def aD4 : Nat→Bool:=imL [3,4,5]
def oU (N:Nat) (a0:vN) (a1:aC) (a2:aA):Option (aC×Int):=
 Option.bind (pV N a0.gF0 a1) fun r1=>
 Option.bind (hP N r1) fun r2=>
 Option.bind (rL N a2 r2) fun r3=>
 aT (aC.eq r1 (aC.mk 0 0 0)) fun x4=>
 aT (cond x4 true (decide (r3≤0))) fun x5=>
 cond x5 (
  some ((aC.mk 0 0 0,0))) (
  Option.bind (vI N r1 r1) fun r6=>
  Option.bind (jC N r3 1048576 r6) fun r7=>
  some ((r1,r7)))
theorem aDY {N a0 a1 a2 r} (h:oU N a0 a1 a2=some r):FnM Tryz.prog 383 [] [(vN.enc a0),(aC.enc a1),(aA.enc a2)] (.tup [(aC.enc r.1),(j64 r.2)]) []:=by
 unfold oU at h
 refine At.f aD4 hT hmo Tryz.func383 rfl h ?_
 refine At.b 8 (fun _ e=>aM [] (sR e)) fun r1=>?_
 refine bi fun r2 hr2=>?_
 refine bi fun r3 hr3=>?_
 refine At.d 1 (dE2 2 (aA.enc r2) (fun _=>aO (lU hr2)) (dE2 3 (j64 r3) (fun _=>aO (wW hr3)) dE0)) dF0 ?_
 refine At.o 2 (aF8 aBZ (r1:aC) (aC.mk 0 0 0:aC) (by kernel_rfl) (by kernel_rfl) (fun _=>rfl) (fun _=>rfl) (by kernel_rfl) (by kernel_rfl)) ?_
 refine lx ?_;intro x4
 refine lx ?_;intro x5
 refine At.c 4 ?_ ?_
 ·apply rt;exact At.r 3
 ·refine bi fun r6 hr6=>?_
  refine bi fun r7 hr7=>?_
  refine At.d 0 (dE2 4 (j64 r6) (fun _=>aO (aAG hr6)) (dE2 5 (j64 r7) (fun _=>aO (sW hr7)) dE0)) dF0 ?_
  apply rt;exact At.r 0
def aHk : Nat→Bool:=imL [4,5,6,7]
def pL (N:Nat) (a0:aP) (a1:aC) (a2:aA) (a3:(Vector Int 2)):Option (jL):=
 Option.bind (Option.bind (pM N a0) fun r2=>
 cond (r2 != 0) (
  some true) (
  Option.bind (tM N a1 (aC.mk 1 0 0)) fun r3=>
  some (!r3))) fun p1=>
 cond p1 (
  some (jL.mk (aC.mk 0 0 0) false true (aA.mk 0 0 0))) (
  Option.bind (vV N a0 a3) fun r4=>
  cond (a0.gA7==2) (
   Option.bind (idx a3.toList 0) fun e5=>
   Option.bind (sV N e5) fun r6=>
   Option.bind (qJ N (vE.mk r6) a1 a2) fun r7=>
   cond (r7.2==0) (
    some (jL.mk (aC.mk 0 0 0) false true (aA.mk 0 0 0))) (
    Option.bind (pE N a0) fun r8=>
    Option.bind (fE N r8 r7.2) fun r9=>
    some (jL.mk r7.1 true false r9))) (
   Option.bind (oU N (vN.mk r4) a1 a2) fun r10=>
   cond (aC.eq r10.1 (aC.mk 0 0 0)) (
    some (jL.mk (aC.mk 0 0 0) false true (aA.mk 0 0 0))) (
    Option.bind (pE N a0) fun r11=>
    Option.bind (fE N r11 r10.2) fun r12=>
    some (jL.mk r10.1 false false r12))))
theorem aCQ {N a0 a1 a2 a3 r} (h:pL N a0 a1 a2 a3=some r):FnM Tryz.prog 261 [] [(aP.enc a0),(aC.enc a1),(aA.enc a2),(eA 2 1 k32 a3)] (jL.enc r) []:=by
 unfold pL at h
 refine At.f aHk hT hmo Tryz.func261 rfl h ?_
 refine At.J 8 0 [4,5,6,7,8,9] 2 (fun p1=>([(24,(eB p1))],[],[])) (fun p1=>?_) fun p1=>?_
 ·refine At.b 1 (fun _ e=>aM [] (aCL e)) fun r2=>?_
  refine At.s 19 2 ?_ ?_
  ·refine At.g [19] 5 ?_
   apply rt;exact At.jn 0
  ·refine At.g [19] 2 ?_
   refine At.b 0 (fun _ e=>aM [] (zY e)) fun r3=>?_
   refine At.g [19] 2 ?_
   apply rt;exact At.jn 0
 ·refine At.c 0 ?_ ?_
  ·apply rt;exact At.r 2
  ·refine At.b 2 (fun _ e=>aM [] (aH1 e)) fun r4=>?_
   refine At.o 1 (aCx hT (t:=406) (x:=(.st 3 [(aC.enc r4)])) (by kernel_rfl) (by kernel_rfl)) ?_
   refine At.c 4 ?_ ?_
   ·refine At.b 0 (fun _ e=>dS hT (N:=2) (k:=1) k32 a3 e) fun e5=>?_
    refine At.b 1 (fun _ e=>aM [] (aBu e)) fun r6=>?_
    refine At.o 1 (aCx hT (t:=410) (x:=(.st 3 [(aC.enc r6)])) (by kernel_rfl) (by kernel_rfl)) ?_
    refine At.b 4 (fun _ e=>aM [] (aEQ e)) fun r7=>?_
    refine At.o 7 (aMX hT (t:=410) (u:=410) (x:=(.st 3 [(aC.enc r6)])) (y:=(.tup [(.st 3 [(aC.enc r6)]),(eB true)])) (by kernel_rfl) (by kernel_rfl)) ?_
    refine At.c 10 ?_ ?_
    ·apply rt;exact At.r 2
    ·refine bi fun r8 hr8=>?_
     refine bi fun r9 hr9=>?_
     refine At.d 0 (dE2 2 (aA.enc r8) (fun _=>aO (aAO hr8)) (dE2 4 (aA.enc r9) (fun _=>aO (jG hr9)) dE0)) dF0 ?_
     apply rt;exact At.r 0
   ·refine At.b 3 (fun _ e=>aM [] (aDY e)) fun r10=>?_
    refine At.o 7 (aMX hT (t:=406) (u:=410) (x:=(.st 3 [(aC.enc r4)])) (y:=(.tup [(.st 3 [(.st 3 [(j64 0),(j64 0),(j64 0)])]),(eB false)])) (by kernel_rfl) (by kernel_rfl)) ?_
    refine At.o 10 (aF8 aBZ (r10.1:aC) (aC.mk 0 0 0:aC) (by kernel_rfl) (by kernel_rfl) (fun _=>rfl) (fun _=>rfl) (by kernel_rfl) (by kernel_rfl)) ?_
    refine At.c 0 ?_ ?_
    ·apply rt;exact At.r 2
    ·refine bi fun r11 hr11=>?_
     refine bi fun r12 hr12=>?_
     refine At.d 0 (dE2 2 (aA.enc r11) (fun _=>aO (aAO hr11)) (dE2 4 (aA.enc r12) (fun _=>aO (jG hr12)) dE0)) dF0 ?_
     apply rt;exact At.r 0
def aA4 : Nat→Bool:=imL [7,8]
def dJ (N:Nat) (a5:aJ) (a0 a1:aC) (a2 a3:Int) (a4:Bool):Nat→aJ→Bool→Int→Option (aJ×Bool)
 | 0,_,_,_=>none
 | k+1,s3,s4,s5=>
  aT (decide (s5 < ((a5.gl.length:Int)))) fun x6=>
  cond x6 (
   Option.bind (dQ N a0 a1 a2 a3 s5 s3) fun r7=>
   cond r7.2 (
    aT (decide (r7.1.gC1 < r7.1.gB7)) fun x8=>
    aT (cond (cond (!a4) true x8) true s4) fun x9=>
    dJ N a5 a0 a1 a2 a3 a4 k (aJ.mk (jW.mk (I64 (s3.gD4.gn+1))) s3.gA s3.gl) x9 (I64 (s5+1))) (
    dJ N a5 a0 a1 a2 a3 a4 k (aJ.mk (jW.mk (I64 (s3.gD4.gn+1))) s3.gA s3.gl) s4 (I64 (s5+1)))) (
   some ((s3,s4)))
def fO (N:Nat) (a0 a1:aC) (a2 a3:Int) (a4:Bool) (a5:aJ):Option (aJ×Bool):=
 Option.bind (iH N a5) fun r1=>
 cond r1 (
  some ((a5,false))) (
  Option.bind (dJ N a5 a0 a1 a2 a3 a4 N a5 false 0) fun p2=>
  some ((p2.1,p2.2)))
theorem kW {N a0 a1 a2 a3 a4 a5 r} (h:fO N a0 a1 a2 a3 a4 a5=some r):FnM Tryz.prog 364 [.var (aJ.enc a5)] [(.ref 0 [] 0),(aC.enc a0),(aC.enc a1),(k8 a2),(j64 a3),(eB a4)] (eB r.2) [.var (aJ.enc r.1)]:=by
 unfold fO at h
 refine At.f aA4 hT hmo Tryz.func364 rfl h ?_
 refine At.b 4 (fun _ e=>aM [0] (rQ e)) fun r1=>?_
 refine At.c 0 ?_ ?_
 ·apply rt;exact At.r 1
 ·refine At.L 7 [] 1 (fun p2=>([(13,(eB p2.2))],[(0,.var (aJ.enc p2.1))],[])) (fun p2 J k=>∃ s3 s4 s5,dJ N a5 a0 a1 a2 a3 a4 k s3 s4 s5=some p2∧J [0,3,4,5,7,8,23] 1 [(13,(eB s4)),(24,(j64 s5))] [(0,.var (aJ.enc s3))] []) N (fun _ h=>⟨_,_,_,h,jr⟩) (fun p2 k s hI=>?_) fun p2=>?_
  ·obtain ⟨s3,s4,s5,h,hj⟩:=hI
   cases k with
   | zero=>cases h
   | succ k=>
    refine At.jr hj ?_ h
    refine lx ?_;intro x6
    refine At.c 1 ?_ ?_
    ·refine At.b 8 (fun _ e=>aM [0] (rU e)) fun r7=>?_
     refine At.s 38 8 ?_ ?_
     ·refine lx ?_;intro x8
      refine lx ?_;intro x9
      refine At.g [38] 16 ?_
      exact fun h=>At.k 0 ⟨_,_,_,h,jr⟩
     ·refine At.g [38,41,49] 16 ?_
      exact fun h=>At.k 0 ⟨_,_,_,h,jr⟩
    ·apply rt;exact At.x 0
  ·apply rt;exact At.r 2
def aB5 : Nat→Bool:=imL [3]
def eZ (N:Nat) (x1:Int) (a8:aE) (b4:(List (List aD))) (a2:aK) (a3:aA) (a5:Int) (a6:Bool) (a7:aG) (a9:aI) (a10:aA) (a11:aH) (a1:aV):Nat→aA→aB→aJ→Int→Option (aA×aB×aJ)
 | 0,_,_,_,_=>none
 | k+1,s3,s4,s5,s6=>
  cond (decide (s6 < x1)) (
   Option.bind (Option.bind (idx a8.gI s6) fun e8=>
   aT (I64 (8+(I64 (2*s6)))) fun x9=>
   Option.bind (cX N b4 x9 a2 a3 s3 a5 a6 a7 a8 a9 a10 a11 s4 s5) fun r10=>
   aT (I64 (9+(I64 (2*s6)))) fun x11=>
   Option.bind (cX N b4 x11 a2 a3 s3 a5 a6 a7 a8 a9 a10 a11 (aB.mk r10.1 s4.gA s4.gC s4.gB s4.gD) s5) fun r12=>
   Option.bind (pL N e8 a1.gat a1.gn (#v[r10.2,r12.2])) fun r13=>
   aT (cond r13.gE3 (!a9.gS) false) fun x14=>
   cond x14 (
    some ((s3,aB.mk r12.1 ((aB.mk r10.1 s4.gA s4.gC s4.gB s4.gD).gA) ((aB.mk r10.1 s4.gA s4.gC s4.gB s4.gD).gC) ((aB.mk r10.1 s4.gA s4.gC s4.gB s4.gD).gB) ((aB.mk r10.1 s4.gA s4.gC s4.gB s4.gD).gD),s5,e8,r13))) (
    Option.bind (Option.bind (fO N a1.gat r13.gE5 2 a1.gi (!r13.gE6) s5) fun r16=>
    cond (!r16.2) (
     cond (!r13.gE3) (
      some ((r16.1,a1.gB1.gA7==0))) (
      some ((r16.1,false)))) (
     some ((r16.1,false)))) fun p15=>
    cond p15.2 (
     Option.bind (fX N b4 ([a1.gc,r13.gC2]) a2 a3 s3 a5 a6 a7 a8 a9 a10 a11 (aB.mk r12.1 ((aB.mk r10.1 s4.gA s4.gC s4.gB s4.gD).gA) ((aB.mk r10.1 s4.gA s4.gC s4.gB s4.gD).gC) ((aB.mk r10.1 s4.gA s4.gC s4.gB s4.gD).gB) ((aB.mk r10.1 s4.gA s4.gC s4.gB s4.gD).gD)) p15.1) fun r17=>
     some ((r17,aB.mk r12.1 ((aB.mk r10.1 s4.gA s4.gC s4.gB s4.gD).gA) ((aB.mk r10.1 s4.gA s4.gC s4.gB s4.gD).gC) ((aB.mk r10.1 s4.gA s4.gC s4.gB s4.gD).gB) ((aB.mk r10.1 s4.gA s4.gC s4.gB s4.gD).gD),p15.1,e8,r13))) (
     some ((s3,aB.mk r12.1 ((aB.mk r10.1 s4.gA s4.gC s4.gB s4.gD).gA) ((aB.mk r10.1 s4.gA s4.gC s4.gB s4.gD).gC) ((aB.mk r10.1 s4.gA s4.gC s4.gB s4.gD).gB) ((aB.mk r10.1 s4.gA s4.gC s4.gB s4.gD).gD),p15.1,e8,r13))))) fun p7=>
   eZ N x1 a8 b4 a2 a3 a5 a6 a7 a9 a10 a11 a1 k p7.1 p7.2.1 p7.2.2.1 (I64 (s6+1))) (
   some ((s3,s4,s5)))
def fA (N:Nat) (r18:Int×Int) (x19:Int) (a1:aV):Nat→aJ→Int→Option (aJ)
 | 0,_,_=>none
 | k+1,s21,s22=>
  aT (decide (s22 < (I64 (r18.2 - x19)))) fun x23=>
  cond x23 (
   Option.bind (fO N a1.gat (aC.mk 0 0 0) 2 a1.gi false s21) fun r24=>
   fA N r18 x19 a1 k r24.1 (I64 (s22+1))) (
   some s21)
def jR (N:Nat) (b4:(List (List aD))) (a1:aV) (a2:aK) (a3 a4:aA) (a5:Int) (a6:Bool) (a7:aG) (a8:aE) (a9:aI) (a10:aA) (a11:aH) (a12:aB) (a13:aJ):Option (aA×aB×aJ):=
 aT ((a8.gI.length:Int)) fun x1=>
 Option.bind (eZ N x1 a8 b4 a2 a3 a5 a6 a7 a9 a10 a11 a1 N a4 a12 a13 0) fun p2=>
 cond (!a9.gS) (
  some ((p2.1,p2.2.1,p2.2.2))) (
  Option.bind (jI N a9.gJ) fun r18=>
  aT ((a8.gI.length:Int)) fun x19=>
  Option.bind (fA N r18 x19 a1 N p2.2.2 0) fun p20=>
  some ((p2.1,p2.2.1,p20)))
theorem aAy {N b4 a1 a2 a3 a4 a5 a6 a7 a8 a9 a10 a11 a12 a13 r} (h:jR N b4 a1 a2 a3 a4 a5 a6 a7 a8 a9 a10 a11 a12 a13=some r):FnM Tryz.prog 194 [.var (.st 26 [(aK.enc a2),(.ref 1 [] 0),(.ref 2 [] 0),(aA.enc a3),(aA.enc a4),(j64 a5),(eB a6),(aG.enc a7)]),.var (.st 38 [(aE.enc a8),(aI.enc a9),(.ifc 178 (.ref 3 [] 0)),(eO 4 1 (eL 2 aD.enc) b4),(aA.enc a10),(aH.enc a11)]),.var (aB.enc a12),.var (aJ.enc a13),.tail (b4.length*1)] [(.ref 0 [] 0),(aV.enc a1)] (.tup []) [.var (.st 26 [(aK.enc a2),(.ref 1 [] 0),(.ref 2 [] 0),(aA.enc a3),(aA.enc r.1),(j64 a5),(eB a6),(aG.enc a7)]),.var (.st 38 [(aE.enc a8),(aI.enc a9),(.ifc 178 (.ref 3 [] 0)),(eO 4 1 (eL 2 aD.enc) b4),(aA.enc a10),(aH.enc a11)]),.var (aB.enc r.2.1),.var (aJ.enc r.2.2),.tail (b4.length*1)]:=by
 unfold jR at h
 refine At.f aB5 hT hmo Tryz.func194 rfl h ?_
 refine lx ?_;intro x1
 refine At.L 11 [0,3] 5 (fun p2=>([],[(0,.var (.st 26 [(aK.enc a2),(.ref 1 [] 0),(.ref 2 [] 0),(aA.enc a3),(aA.enc p2.1),(j64 a5),(eB a6),(aG.enc a7)])),(2,.var (aB.enc p2.2.1)),(3,.var (aJ.enc p2.2.2))],[])) (fun p2 J k=>∃ s3 s4 s5 s6,eZ N x1 a8 b4 a2 a3 a5 a6 a7 a9 a10 a11 a1 k s3 s4 s5 s6=some p2∧J [0,3,16,17] 5 [(18,(j64 s6))] [(0,.var (.st 26 [(aK.enc a2),(.ref 1 [] 0),(.ref 2 [] 0),(aA.enc a3),(aA.enc s3),(j64 a5),(eB a6),(aG.enc a7)])),(2,.var (aB.enc s4)),(3,.var (aJ.enc s5))] []) N (fun _ h=>⟨_,_,_,_,h,jr⟩) (fun p2 k s hI=>?_) fun p2=>?_
 ·obtain ⟨s3,s4,s5,s6,h,hj⟩:=hI
  cases k with
  | zero=>cases h
  | succ k=>
   refine At.jr hj ?_ h
   refine At.c 1 ?_ ?_
   ·refine At.J 0 2 [0,3,16,17,18] 5 (fun p7=>([],[(0,.var (.st 26 [(aK.enc a2),(.ref 1 [] 0),(.ref 2 [] 0),(aA.enc a3),(aA.enc p7.1),(j64 a5),(eB a6),(aG.enc a7)])),(2,.var (aB.enc p7.2.1)),(3,.var (aJ.enc p7.2.2.1))],[.var (aP.enc p7.2.2.2.1),.var (jL.enc p7.2.2.2.2)])) (fun p7=>?_) fun p7=>?_
    ·refine At.b 1 (fun _ e=>bF hT aP.enc e) fun e8=>?_
     refine lx ?_;intro x9
     refine bi fun r10 hr10=>?_
     refine lx ?_;intro x11
     refine bi fun r12 hr12=>?_
     refine bi fun r13 hr13=>?_
     refine At.d2 4 [false] (dC2 16 (jL.enc r13) (fun _=>aO (aCQ hr13)) dC0) (dS1 9 ⟨(k32 r10.2),2,.var (.st 72 [(aU.enc r10.1),(eB s4.gA),(k64 s4.gC),(j64 s4.gB),(j64 s4.gD)]),.var (aB.enc s4)⟩ [[.var (.st 26 [(aK.enc a2),(.ref 1 [] 0),(.ref 2 [] 0),(aA.enc a3),(aA.enc s3),(j64 a5),(eB a6),(aG.enc a7)]),.var (.st 38 [(aE.enc a8),(aI.enc a9),(.ifc 178 (.ref 3 [] 0)),(eO 4 1 (eL 2 aD.enc) b4),(aA.enc a10),(aH.enc a11)]),.var (aB.enc s4),.var (aJ.enc s5),.tail (b4.length*1),.var (aP.enc e8),.dead],[.var (.st 26 [(aK.enc a2),(.ref 1 [] 0),(.ref 2 [] 0),(aA.enc a3),(aA.enc s3),(j64 a5),(eB a6),(aG.enc a7)]),.var (.st 38 [(aE.enc a8),(aI.enc a9),(.ifc 178 (.ref 3 [] 0)),(eO 4 1 (eL 2 aD.enc) b4),(aA.enc a10),(aH.enc a11)]),.var (aB.enc s4),.var (aJ.enc s5),.tail (b4.length*1),.var (aP.enc e8),.var aNu]] ⟨bG (aM [0,1,2,3,4] (cF hr10)),bG (aM [0,1,2,3,4] (cF hr10)),trivial⟩ (dS1 14 ⟨(k32 r12.2),2,.var (.st 72 [(aU.enc r12.1),(eB ((aB.mk r10.1 s4.gA s4.gC s4.gB s4.gD).gA)),(k64 ((aB.mk r10.1 s4.gA s4.gC s4.gB s4.gD).gC)),(j64 ((aB.mk r10.1 s4.gA s4.gC s4.gB s4.gD).gB)),(j64 ((aB.mk r10.1 s4.gA s4.gC s4.gB s4.gD).gD))]),.var (.st 72 [(aU.enc r10.1),(eB s4.gA),(k64 s4.gC),(j64 s4.gB),(j64 s4.gD)])⟩ [[.var (.st 26 [(aK.enc a2),(.ref 1 [] 0),(.ref 2 [] 0),(aA.enc a3),(aA.enc s3),(j64 a5),(eB a6),(aG.enc a7)]),.var (.st 38 [(aE.enc a8),(aI.enc a9),(.ifc 178 (.ref 3 [] 0)),(eO 4 1 (eL 2 aD.enc) b4),(aA.enc a10),(aH.enc a11)]),.var (.st 72 [(aU.enc r10.1),(eB s4.gA),(k64 s4.gC),(j64 s4.gB),(j64 s4.gD)]),.var (aJ.enc s5),.tail (b4.length*1),.var (aP.enc e8),.dead],[.var (.st 26 [(aK.enc a2),(.ref 1 [] 0),(.ref 2 [] 0),(aA.enc a3),(aA.enc s3),(j64 a5),(eB a6),(aG.enc a7)]),.var (.st 38 [(aE.enc a8),(aI.enc a9),(.ifc 178 (.ref 3 [] 0)),(eO 4 1 (eL 2 aD.enc) b4),(aA.enc a10),(aH.enc a11)]),.var (.st 72 [(aU.enc r10.1),(eB s4.gA),(k64 s4.gC),(j64 s4.gB),(j64 s4.gD)]),.var (aJ.enc s5),.tail (b4.length*1),.var (aP.enc e8),.var aNu]] ⟨bG (aM [0,1,2,3,4] (cF hr12)),bG (aM [0,1,2,3,4] (cF hr12)),trivial⟩ (dS1 17 ⟨(.ref 6 [] 0),6,.var aNu,.dead⟩ [[.var (.st 26 [(aK.enc a2),(.ref 1 [] 0),(.ref 2 [] 0),(aA.enc a3),(aA.enc s3),(j64 a5),(eB a6),(aG.enc a7)]),.var (.st 38 [(aE.enc a8),(aI.enc a9),(.ifc 178 (.ref 3 [] 0)),(eO 4 1 (eL 2 aD.enc) b4),(aA.enc a10),(aH.enc a11)]),.var (aB.enc s4),.var (aJ.enc s5),.tail (b4.length*1),.var (aP.enc e8),.dead],[.var (.st 26 [(aK.enc a2),(.ref 1 [] 0),(.ref 2 [] 0),(aA.enc a3),(aA.enc s3),(j64 a5),(eB a6),(aG.enc a7)]),.var (.st 38 [(aE.enc a8),(aI.enc a9),(.ifc 178 (.ref 3 [] 0)),(eO 4 1 (eL 2 aD.enc) b4),(aA.enc a10),(aH.enc a11)]),.var (.st 72 [(aU.enc r12.1),(eB ((aB.mk r10.1 s4.gA s4.gC s4.gB s4.gD).gA)),(k64 ((aB.mk r10.1 s4.gA s4.gC s4.gB s4.gD).gC)),(j64 ((aB.mk r10.1 s4.gA s4.gC s4.gB s4.gD).gB)),(j64 ((aB.mk r10.1 s4.gA s4.gC s4.gB s4.gD).gD))]),.var (aJ.enc s5),.tail (b4.length*1),.var (aP.enc e8),.dead],[.var (.st 26 [(aK.enc a2),(.ref 1 [] 0),(.ref 2 [] 0),(aA.enc a3),(aA.enc s3),(j64 a5),(eB a6),(aG.enc a7)]),.var (.st 38 [(aE.enc a8),(aI.enc a9),(.ifc 178 (.ref 3 [] 0)),(eO 4 1 (eL 2 aD.enc) b4),(aA.enc a10),(aH.enc a11)]),.var (.st 72 [(aU.enc r10.1),(eB s4.gA),(k64 s4.gC),(j64 s4.gB),(j64 s4.gD)]),.var (aJ.enc s5),.tail (b4.length*1),.var (aP.enc e8),.dead],[.var (.st 26 [(aK.enc a2),(.ref 1 [] 0),(.ref 2 [] 0),(aA.enc a3),(aA.enc s3),(j64 a5),(eB a6),(aG.enc a7)]),.var (.st 38 [(aE.enc a8),(aI.enc a9),(.ifc 178 (.ref 3 [] 0)),(eO 4 1 (eL 2 aD.enc) b4),(aA.enc a10),(aH.enc a11)]),.var (.st 72 [(aU.enc r12.1),(eB ((aB.mk r10.1 s4.gA s4.gC s4.gB s4.gD).gA)),(k64 ((aB.mk r10.1 s4.gA s4.gC s4.gB s4.gD).gC)),(j64 ((aB.mk r10.1 s4.gA s4.gC s4.gB s4.gD).gB)),(j64 ((aB.mk r10.1 s4.gA s4.gC s4.gB s4.gD).gD))]),.var (aJ.enc s5),.tail (b4.length*1),.var (aP.enc e8),.dead]] ⟨aW hT 6 (by kernel_rfl) (by kernel_rfl) (by kernel_rfl),aW hT 6 (by kernel_rfl) (by kernel_rfl) (by kernel_rfl),aW hT 6 (by kernel_rfl) (by kernel_rfl) (by kernel_rfl),aW hT 6 (by kernel_rfl) (by kernel_rfl) (by kernel_rfl),trivial⟩ dS0))) ?_
     refine lx ?_;intro x14
     refine At.c 13 ?_ ?_
     ·apply rt;exact At.jn 0
     ·refine At.J 0 0 [0,3,6,16,17,18] 7 (fun p15=>([(81,(eB p15.2))],[(3,.var (aJ.enc p15.1))],[])) (fun p15=>?_) fun p15=>?_
      ·refine bi fun r16 hr16=>?_
       refine boI (fun hc18=>?_) (fun hc18=>?_)
       ·refine boI (fun hc23=>?_) (fun hc23=>?_)
        ·refine At.d 0 (dE1 18 (fun _=>cD hc18 rfl (bY hT (im:=false) (by kernel_rfl))) (dE1 23 (fun _=>cD hc23 rfl (bY hT (im:=false) (by kernel_rfl))) dE0)) (dF 16 (eB r16.2) [(3,.var (aJ.enc r16.1))] [] (bG (aM [3] (kW hr16))) dF0) ?_
         apply rt;exact At.jn 0
        ·refine At.d 0 (dE1 18 (fun _=>cD hc18 rfl (bY hT (im:=false) (by kernel_rfl))) (dE1 23 (fun _=>cD hc23 rfl (bY hT (im:=false) (by kernel_rfl))) dE0)) (dF 16 (eB r16.2) [(3,.var (aJ.enc r16.1))] [] (bG (aM [3] (kW hr16))) dF0) ?_
         apply rt;exact At.jn 0
       ·refine At.d 0 (dE1 18 (fun _=>cD hc18 rfl (bY hT (im:=false) (by kernel_rfl))) dE0) (dF 16 (eB r16.2) [(3,.var (aJ.enc r16.1))] [] (bG (aM [3] (kW hr16))) dF0) ?_
        apply rt;exact At.jn 0
      ·refine At.c 0 ?_ ?_
       ·refine At.o 5 (bQ hT (x:=(.sl 3 2 [(aA.enc a1.gc),(aA.enc r13.gC2)]))) ?_
        refine At.b 0 (fun _ e=>aM [0,1,2,3,4] (qU e)) fun r17=>?_
        apply rt;exact At.jn 0
       ·apply rt;exact At.jn 0
    ·exact fun h=>At.k 2 ⟨_,_,_,_,h,jr⟩
   ·apply rt;exact At.x 0
 ·refine At.c 9 ?_ ?_
  ·apply rt;exact At.r 0
  ·refine At.b 8 (fun _ e=>aM [] (tE e)) fun r18=>?_
   refine lx ?_;intro x19
   refine At.L 17 [] 5 (fun p20=>([],[(3,.var (aJ.enc p20))],[])) (fun p20 J k=>∃ s21 s22,fA N r18 x19 a1 k s21 s22=some p20∧J [0,3,121] 5 [(122,(j64 s22))] [(3,.var (aJ.enc s21))] []) N (fun _ h=>⟨_,_,h,jr⟩) (fun p20 k s hI=>?_) fun p20=>?_
   ·obtain ⟨s21,s22,h,hj⟩:=hI
    cases k with
    | zero=>cases h
    | succ k=>
     refine At.jr hj ?_ h
     refine lx ?_;intro x23
     refine At.c 1 ?_ ?_
     ·refine bi fun r24 hr24=>?_
      refine At.d 0 dE0 (dF 12 (eB r24.2) [(3,.var (aJ.enc r24.1))] [] (bG (aM [3] (kW hr24))) dF0) ?_
      exact fun h=>At.k 2 ⟨_,_,h,jr⟩
     ·apply rt;exact At.x 0
   ·apply rt;exact At.z 0
def aEN : Nat→Bool:=imL [3,4]
def oN (N:Nat) (a0 a1:aA) (a2:Int):Option (cL):=
 Option.bind (sV N a2) fun r1=>
 Option.bind (hP N r1) fun r2=>
 Option.bind (rL N a1 r2) fun r3=>
 Option.bind (cond (decide (r3 < 0)) (
  Option.bind (tX N r3) fun r5=>
  some ((aC.mk (I64 (0 - r1.gX)) (I64 (0 - r1.gY)) (I64 (0 - r1.gZ)),r5))) (
  some ((r1,r3)))) fun p4=>
 cond (p4.2==0) (
  some (cL.mk (aC.mk 0 0 0) (aA.mk 0 0 0) true)) (
  Option.bind (jS N ([p4.2,p4.2])) fun r6=>
  Option.bind (fE N a0 r6) fun r7=>
  some (cL.mk p4.1 r7 false))
theorem aDJ {N a0 a1 a2 r} (h:oN N a0 a1 a2=some r):FnM Tryz.prog 262 [] [(aA.enc a0),(aA.enc a1),(k32 a2)] (cL.enc r) []:=by
 unfold oN at h
 refine At.f aEN hT hmo Tryz.func262 rfl h ?_
 refine At.b 4 (fun _ e=>aM [] (aBu e)) fun r1=>?_
 refine bi fun r2 hr2=>?_
 refine bi fun r3 hr3=>?_
 refine At.d 2 (dE2 2 (aA.enc r2) (fun _=>aO (lU hr2)) (dE2 3 (j64 r3) (fun _=>aO (wW hr3)) dE0)) dF0 ?_
 refine At.J 0 1 [3,6,7] 2 (fun p4=>([(8,(j64 p4.2))],[(1,.var (aC.enc p4.1))],[])) (fun p4=>?_) fun p4=>?_
 ·refine At.c 2 ?_ ?_
  ·refine bi fun r5 hr5=>?_
   refine At.d 0 (dE2 11 (j64 r5) (fun _=>aO (aBq hr5)) dE0) dF0 ?_
   apply rt;exact At.jn 0
  ·apply rt;exact At.jn 0
 ·refine At.c 2 ?_ ?_
  ·apply rt;exact At.r 2
  ·refine bi fun r6 hr6=>?_
   refine bi fun r7 hr7=>?_
   refine At.d 0 (dE1 4 (fun _=>bQ hT (x:=(.sl 1 2 [(j64 p4.2),(j64 p4.2)]))) (dE2 5 (j64 r6) (fun _=>aO (pN hr6)) (dE2 6 (aA.enc r7) (fun _=>aO (jG hr7)) dE0))) dF0 ?_
   apply rt;exact At.r 0
def aEm : Nat→Bool:=imL [2,3]
def lI (N:Nat) (a0:aA) (a1:aC):Option (aA):=
 Option.bind (hP N a1) fun r1=>
 Option.bind (rL N a0 r1) fun r2=>
 Option.bind (jS N ([r2,r2])) fun r3=>
 Option.bind (fE N a0 r3) fun r4=>
 Option.bind (vJ N r1 r4) fun r5=>
 some r5
theorem wM {N a0 a1 r} (h:lI N a0 a1=some r):FnM Tryz.prog 263 [] [(aA.enc a0),(aC.enc a1)] (aA.enc r) []:=by
 unfold lI at h
 refine At.f aEm hT hmo Tryz.func263 rfl h ?_
 refine At.b 4 (fun _ e=>aM [] (lU e)) fun r1=>?_
 refine At.b 4 (fun _ e=>aM [] (wW e)) fun r2=>?_
 refine bi fun r3 hr3=>?_
 refine bi fun r4 hr4=>?_
 refine bi fun r5 hr5=>?_
 refine At.d 1 (dE1 4 (fun _=>bQ hT (x:=(.sl 1 2 [(j64 r2),(j64 r2)]))) (dE2 5 (j64 r3) (fun _=>aO (pN hr3)) (dE2 6 (aA.enc r4) (fun _=>aO (jG hr4)) (dE2 7 (aA.enc r5) (fun _=>aO (aBc hr5)) dE0)))) dF0 ?_
 apply rt;exact At.r 0
def aFc : Nat→Bool:=imL [2,3]
def kS (N:Nat) (a0 a1:aA):Option (cL):=
 Option.bind (tP N a0) fun r1=>
 cond (r1.2 != 0) (
  some (cL.mk (aC.mk 0 0 0) (aA.mk 0 0 0) true)) (
  some (cL.mk r1.1 a1 false))
theorem tQ {N a0 a1 r} (h:kS N a0 a1=some r):FnM Tryz.prog 266 [] [(aA.enc a0),(aA.enc a1)] (cL.enc r) []:=by
 unfold kS at h
 refine At.f aFc hT hmo Tryz.func266 rfl h ?_
 refine At.b 4 (fun _ e=>aM [] (aDG e)) fun r1=>?_
 refine At.c 8 ?_ ?_
 ·apply rt;exact At.r 2
 ·apply rt;exact At.r 4
def aDu : Nat→Bool:=imL [5,6,7,8,9]
def kI (N:Nat) (a0:aN) (a1 a2:aA) (a3:aC) (a4:(Vector Int 2)):Option (cL):=
 cond (a0.gA7==0) (
  Option.bind (idx a4.toList 0) fun e1=>
  Option.bind (oN N a1 a2 e1) fun r2=>
  some r2) (
  cond (a0.gA7==2) (
   Option.bind (iF N a0.gD3) fun r3=>
   Option.bind (iF N 65535) fun r4=>
   Option.bind (iN N r3 r4) fun r5=>
   Option.bind (lI N a2 a3) fun r6=>
   Option.bind (idx a4.toList 0) fun e7=>
   Option.bind (sV N e7) fun r8=>
   Option.bind (hP N r8) fun r9=>
   Option.bind (fE N r9 r5) fun r10=>
   Option.bind (kP N ([r6,r10])) fun r11=>
   Option.bind (rL N a2 r11) fun r12=>
   cond (decide (r12≤0)) (
    some (cL.mk (aC.mk 0 0 0) (aA.mk 0 0 0) true)) (
    Option.bind (kS N r11 a1) fun r13=>
    some r13)) (
   cond (a0.gA7==3) (
    Option.bind (idx a4.toList 1) fun e14=>
    Option.bind (qD N e14 65536) fun r15=>
    aT (decide (r15≥a0.gD3)) fun x16=>
    cond x16 (
     Option.bind (hP N a3) fun r17=>
     Option.bind (kS N r17 a1) fun r18=>
     some r18) (
     Option.bind (lI N a2 a3) fun r19=>
     Option.bind (kS N r19 a1) fun r20=>
     some r20)) (
    cond (a0.gA7==1) (
     Option.bind (lI N a2 a3) fun r21=>
     Option.bind (kS N r21 a1) fun r22=>
     some r22) (
     some (cL.mk (aC.mk 0 0 0) (aA.mk 0 0 0) true)))))
theorem aAS {N a0 a1 a2 a3 a4 r} (h:kI N a0 a1 a2 a3 a4=some r):FnM Tryz.prog 195 [] [(aN.enc a0),(aA.enc a1),(aA.enc a2),(aC.enc a3),(eA 2 1 k32 a4)] (cL.enc r) []:=by
 unfold kI at h
 refine At.f aDu hT hmo Tryz.func195 rfl h ?_
 refine At.c 10 ?_ ?_
 ·refine At.b 2 (fun _ e=>dS hT (N:=2) (k:=1) k32 a4 e) fun e1=>?_
  refine At.b 1 (fun _ e=>aM [] (aDJ e)) fun r2=>?_
  apply rt;exact At.r 1
 ·refine At.c 2 ?_ ?_
  ·refine At.b 2 (fun _ e=>aM [] (iQ e)) fun r3=>?_
   refine At.b 0 (fun _ e=>aM [] (iQ e)) fun r4=>?_
   refine At.b 0 (fun _ e=>aM [] (lK e)) fun r5=>?_
   refine bi fun r6 hr6=>?_
   refine bi fun e7 he7=>?_
   refine bi fun r8 hr8=>?_
   refine bi fun r9 hr9=>?_
   refine bi fun r10 hr10=>?_
   refine bi fun r11 hr11=>?_
   refine At.d 1 (dE2 2 (aA.enc r6) (fun _=>aO (wM hr6)) (dE1 3 (fun _=>dS hT (N:=2) (k:=1) k32 a4 he7) (dE2 5 (aC.enc r8) (fun _=>aO (aBu hr8)) (dE2 6 (aA.enc r9) (fun _=>aO (lU hr9)) (dE2 8 (aA.enc r10) (fun _=>aO (jG hr10)) (dE1 9 (fun _=>bQ hT (x:=(.sl 3 2 [(aA.enc r6),(aA.enc r10)]))) (dE2 10 (aA.enc r11) (fun _=>aO (rZ hr11)) dE0))))))) dF0 ?_
   refine At.b 2 (fun _ e=>aM [] (wW e)) fun r12=>?_
   refine At.c 1 ?_ ?_
   ·apply rt;exact At.r 2
   ·refine At.b 2 (fun _ e=>aM [] (tQ e)) fun r13=>?_
    apply rt;exact At.r 1
  ·refine At.c 2 ?_ ?_
   ·refine bi fun e14 he14=>?_
    refine bi fun r15 hr15=>?_
    refine lx ?_;intro x16
    refine At.d 0 (dE1 0 (fun _=>dS hT (N:=2) (k:=1) k32 a4 he14) (dE2 2 (j64 r15) (fun _=>aO (aBw hr15)) dE0)) dF0 ?_
    refine At.c 0 ?_ ?_
    ·refine bi fun r17 hr17=>?_
     refine bi fun r18 hr18=>?_
     refine At.d 0 (dE2 1 (aA.enc r17) (fun _=>aO (lU hr17)) (dE2 3 (cL.enc r18) (fun _=>aO (tQ hr18)) dE0)) dF0 ?_
     apply rt;exact At.r 0
    ·refine bi fun r19 hr19=>?_
     refine bi fun r20 hr20=>?_
     refine At.d 0 (dE2 2 (aA.enc r19) (fun _=>aO (wM hr19)) (dE2 4 (cL.enc r20) (fun _=>aO (tQ hr20)) dE0)) dF0 ?_
     apply rt;exact At.r 0
   ·refine At.c 2 ?_ ?_
    ·refine bi fun r21 hr21=>?_
     refine bi fun r22 hr22=>?_
     refine At.d 0 (dE2 2 (aA.enc r21) (fun _=>aO (wM hr21)) (dE2 4 (cL.enc r22) (fun _=>aO (tQ hr22)) dE0)) dF0 ?_
     apply rt;exact At.r 0
    ·apply rt;exact At.r 2
def vS (N:Nat) (a0 a1 a2:Int):Option (Int):=
 some (fD (jH a0 a1) a2)
theorem aDo {N a0 a1 a2 r} (h:vS N a0 a1 a2=some r):FnM Tryz.prog 96 [] [(j64 a0),(j64 a1),(j64 a2)] (j64 r) []:=by
 unfold vS at h
 refine At.f cQ hT hmo Tryz.func96 rfl h ?_
 apply rt;exact At.r 7
def iC (N:Nat) (a0 a1:Int):Option (Int):=
 Option.bind (iN N a0 a1) fun r1=>
 some r1
theorem pF {N a0 a1 r} (h:iC N a0 a1=some r):FnM Tryz.prog 268 [] [(j64 a0),(.im (j64 a1))] (j64 r) []:=by
 unfold iC at h
 refine At.f cQ hT hmo Tryz.func268 rfl h ?_
 refine At.b 3 (fun _ e=>aM [] (lK e)) fun r1=>?_
 apply rt;exact At.r 1
def aDj : Nat→Bool:=imL [2]
def jM (N:Nat) (a0:aA) (a1:Int):Option (aA×Bool):=
 Option.bind (wZ N a0) fun r1=>
 Option.bind (vS N r1 268435456 4294967296) fun r2=>
 Option.bind (pH N a1) fun r3=>
 cond (decide (r3≥r2)) (
  some ((aA.mk 0 0 0,false))) (
  Option.bind (iC N a0.gX r2) fun r4=>
  Option.bind (iC N a0.gY r2) fun r5=>
  Option.bind (iC N a0.gZ r2) fun r6=>
  some ((aA.mk r4 r5 r6,true)))
theorem yU {N a0 a1 r} (h:jM N a0 a1=some r):FnM Tryz.prog 197 [] [(aA.enc a0),(k32 a1)] (.tup [(aA.enc r.1),(eB r.2)]) []:=by
 unfold jM at h
 refine At.f aDj hT hmo Tryz.func197 rfl h ?_
 refine At.b 4 (fun _ e=>aM [] (aFT e)) fun r1=>?_
 refine At.b 0 (fun _ e=>aM [] (aDo e)) fun r2=>?_
 refine bi fun r3 hr3=>?_
 refine At.d 2 (dE2 1 (j64 r3) (fun _=>aO (aAB hr3)) dE0) dF0 ?_
 refine At.c 0 ?_ ?_
 ·apply rt;exact At.r 3
 ·refine At.gz 0 1 ((j64 r2)) ?_
  refine At.o 0 (qT (x:=(.fn (.func 268) [] [(.im (j64 r2))])) (by kernel_rfl) (by kernel_rfl)) ?_
  refine bi fun r4 hr4=>?_
  refine bi fun r5 hr5=>?_
  refine bi fun r6 hr6=>?_
  refine At.d 1 (dE2 3 (j64 r4) (fun _=>aO (pF hr4)) (dE2 7 (j64 r5) (fun _=>aO (pF hr5)) (dE2 11 (j64 r6) (fun _=>aO (pF hr6)) dE0))) dF0 ?_
  apply rt;exact At.r 0
def kZ (N:Nat) (b4:(List (List aD))) (a1:aK) (a2 a3:aA) (a4:Int) (a5:Bool) (a6:aG) (a7:aE) (a8:aI) (a9:aA) (a10:aH) (a11:aB) (a12:aJ):Option (aK×aA×aA×Bool×aG×Int×aB×aJ):=
 Option.bind (lD N b4 a1 a2 a3 a4 a5 a6 a7 a8 a9 a10 a11 a12) fun r1=>
 Option.bind (cond (!r1.2.2.2.2) (
  Option.bind (fX N b4 ([a9]) a1 a2 a3 a4 a5 r1.1 a7 a8 a9 (aH.mk a10.gG r1.2.1 (I64 (a10.gF+1))) a11 r1.2.2.1) fun r3=>
  Option.bind (dW N b4 true a1 a2 r3 a4 a5 r1.1 a7 a8 a9 (aH.mk a10.gG r1.2.1 (I64 (a10.gF+1))) a11 r1.2.2.1) fun r4=>
  some ((r3,cond a5 true true))) (
  some ((a3,a5)))) fun p2=>
 Option.bind (dW N b4 r1.2.2.2.1.gB8 a1 a2 p2.1 a4 p2.2 r1.1 a7 a8 a9 (aH.mk a10.gG r1.2.1 (I64 (a10.gF+1))) a11 r1.2.2.1) fun r5=>
 Option.bind (aT (r1.2.2.2.1.gB1.gA7==4) fun x7=>
 cond x7 (
  Option.bind (fX N b4 ([r1.2.2.2.1.gc]) a1 a2 p2.1 a4 (cond p2.2 true r1.2.2.2.1.gB8) r1.1 a7 a8 a9 (aH.mk a10.gG r1.2.1 (I64 (a10.gF+1))) a11 r1.2.2.1) fun r8=>
  Option.bind (dW N b4 true a1 a2 r8 a4 ((cond p2.2 true r1.2.2.2.1.gB8)) r1.1 a7 a8 a9 (aH.mk a10.gG r1.2.1 (I64 (a10.gF+1))) a11 r1.2.2.1) fun r9=>
  some ((r8,cond ((cond p2.2 true r1.2.2.2.1.gB8)) true true))) (
  some ((p2.1,cond p2.2 true r1.2.2.2.1.gB8)))) fun p6=>
 Option.bind (Option.bind (cond a8.gS (
  some true) (
  aT (r1.2.2.2.1.gB1.gA7==0) fun x12=>
  some (cond (!p6.2) x12 false))) fun p11=>
 cond p11 (
  Option.bind (jR N b4 r1.2.2.2.1 a1 a2 p6.1 a4 p6.2 r1.1 a7 a8 a9 (aH.mk a10.gG r1.2.1 (I64 (a10.gF+1))) a11 r1.2.2.1) fun r13=>
  some ((r13.1,r13.2.1,r13.2.2))) (
  some ((p6.1,a11,r1.2.2.1)))) fun p10=>
 Option.bind (cond p6.2 (
  some true) (
  some (a4==a8.gM))) fun p14=>
 cond p14 (
  Option.bind (dW N b4 true a1 a2 p10.1 a4 p6.2 r1.1 a7 a8 a9 (aH.mk a10.gG r1.2.1 (I64 (a10.gF+1))) p10.2.1 p10.2.2) fun r15=>
  some ((a1,a2,p10.1,cond p6.2 true true,r1.1,r1.2.1,p10.2.1,p10.2.2))) (
  Option.bind (cX N b4 4 a1 a2 p10.1 a4 p6.2 r1.1 a7 a8 a9 (aH.mk a10.gG r1.2.1 (I64 (a10.gF+1))) p10.2.1 p10.2.2) fun r16=>
  Option.bind (cX N b4 5 a1 a2 p10.1 a4 p6.2 r1.1 a7 a8 a9 (aH.mk a10.gG r1.2.1 (I64 (a10.gF+1))) (aB.mk r16.1 p10.2.1.gA p10.2.1.gC p10.2.1.gB p10.2.1.gD) p10.2.2) fun r17=>
  Option.bind (kI N r1.2.2.2.1.gB1 r1.2.2.2.1.gc r1.2.2.2.1.gn a1.gd (#v[r16.2,r17.2])) fun r18=>
  Option.bind (iX N ([a2,r18.gC2])) fun r19=>
  Option.bind (dW N b4 r18.gB6 a1 r19 p10.1 a4 p6.2 r1.1 a7 a8 a9 (aH.mk a10.gG r1.2.1 (I64 (a10.gF+1))) (aB.mk r17.1 ((aB.mk r16.1 p10.2.1.gA p10.2.1.gC p10.2.1.gB p10.2.1.gD).gA) ((aB.mk r16.1 p10.2.1.gA p10.2.1.gC p10.2.1.gB p10.2.1.gD).gC) ((aB.mk r16.1 p10.2.1.gA p10.2.1.gC p10.2.1.gB p10.2.1.gD).gB) ((aB.mk r16.1 p10.2.1.gA p10.2.1.gC p10.2.1.gB p10.2.1.gD).gD)) p10.2.2) fun r20=>
  Option.bind (cond (decide (a4≥2)) (
   Option.bind (cX N b4 7 a1 r19 p10.1 a4 (cond p6.2 true r18.gB6) r1.1 a7 a8 a9 (aH.mk a10.gG r1.2.1 (I64 (a10.gF+1))) (aB.mk r17.1 ((aB.mk r16.1 p10.2.1.gA p10.2.1.gC p10.2.1.gB p10.2.1.gD).gA) ((aB.mk r16.1 p10.2.1.gA p10.2.1.gC p10.2.1.gB p10.2.1.gD).gC) ((aB.mk r16.1 p10.2.1.gA p10.2.1.gC p10.2.1.gB p10.2.1.gD).gB) ((aB.mk r16.1 p10.2.1.gA p10.2.1.gC p10.2.1.gB p10.2.1.gD).gD)) p10.2.2) fun r22=>
   Option.bind (jM N r19 r22.2) fun r23=>
   Option.bind (dW N b4 (!r23.2) a1 r23.1 p10.1 a4 (cond p6.2 true r18.gB6) r1.1 a7 a8 a9 (aH.mk a10.gG r1.2.1 (I64 (a10.gF+1))) (aB.mk r22.1 ((aB.mk r17.1 ((aB.mk r16.1 p10.2.1.gA p10.2.1.gC p10.2.1.gB p10.2.1.gD).gA) ((aB.mk r16.1 p10.2.1.gA p10.2.1.gC p10.2.1.gB p10.2.1.gD).gC) ((aB.mk r16.1 p10.2.1.gA p10.2.1.gC p10.2.1.gB p10.2.1.gD).gB) ((aB.mk r16.1 p10.2.1.gA p10.2.1.gC p10.2.1.gB p10.2.1.gD).gD)).gA) ((aB.mk r17.1 ((aB.mk r16.1 p10.2.1.gA p10.2.1.gC p10.2.1.gB p10.2.1.gD).gA) ((aB.mk r16.1 p10.2.1.gA p10.2.1.gC p10.2.1.gB p10.2.1.gD).gC) ((aB.mk r16.1 p10.2.1.gA p10.2.1.gC p10.2.1.gB p10.2.1.gD).gB) ((aB.mk r16.1 p10.2.1.gA p10.2.1.gC p10.2.1.gB p10.2.1.gD).gD)).gC) ((aB.mk r17.1 ((aB.mk r16.1 p10.2.1.gA p10.2.1.gC p10.2.1.gB p10.2.1.gD).gA) ((aB.mk r16.1 p10.2.1.gA p10.2.1.gC p10.2.1.gB p10.2.1.gD).gC) ((aB.mk r16.1 p10.2.1.gA p10.2.1.gC p10.2.1.gB p10.2.1.gD).gB) ((aB.mk r16.1 p10.2.1.gA p10.2.1.gC p10.2.1.gB p10.2.1.gD).gD)).gB) ((aB.mk r17.1 ((aB.mk r16.1 p10.2.1.gA p10.2.1.gC p10.2.1.gB p10.2.1.gD).gA) ((aB.mk r16.1 p10.2.1.gA p10.2.1.gC p10.2.1.gB p10.2.1.gD).gC) ((aB.mk r16.1 p10.2.1.gA p10.2.1.gC p10.2.1.gB p10.2.1.gD).gB) ((aB.mk r16.1 p10.2.1.gA p10.2.1.gC p10.2.1.gB p10.2.1.gD).gD)).gD)) p10.2.2) fun r24=>
   some ((r23.1,cond (cond p6.2 true r18.gB6) true (!r23.2),aB.mk r22.1 ((aB.mk r17.1 ((aB.mk r16.1 p10.2.1.gA p10.2.1.gC p10.2.1.gB p10.2.1.gD).gA) ((aB.mk r16.1 p10.2.1.gA p10.2.1.gC p10.2.1.gB p10.2.1.gD).gC) ((aB.mk r16.1 p10.2.1.gA p10.2.1.gC p10.2.1.gB p10.2.1.gD).gB) ((aB.mk r16.1 p10.2.1.gA p10.2.1.gC p10.2.1.gB p10.2.1.gD).gD)).gA) ((aB.mk r17.1 ((aB.mk r16.1 p10.2.1.gA p10.2.1.gC p10.2.1.gB p10.2.1.gD).gA) ((aB.mk r16.1 p10.2.1.gA p10.2.1.gC p10.2.1.gB p10.2.1.gD).gC) ((aB.mk r16.1 p10.2.1.gA p10.2.1.gC p10.2.1.gB p10.2.1.gD).gB) ((aB.mk r16.1 p10.2.1.gA p10.2.1.gC p10.2.1.gB p10.2.1.gD).gD)).gC) ((aB.mk r17.1 ((aB.mk r16.1 p10.2.1.gA p10.2.1.gC p10.2.1.gB p10.2.1.gD).gA) ((aB.mk r16.1 p10.2.1.gA p10.2.1.gC p10.2.1.gB p10.2.1.gD).gC) ((aB.mk r16.1 p10.2.1.gA p10.2.1.gC p10.2.1.gB p10.2.1.gD).gB) ((aB.mk r16.1 p10.2.1.gA p10.2.1.gC p10.2.1.gB p10.2.1.gD).gD)).gB) ((aB.mk r17.1 ((aB.mk r16.1 p10.2.1.gA p10.2.1.gC p10.2.1.gB p10.2.1.gD).gA) ((aB.mk r16.1 p10.2.1.gA p10.2.1.gC p10.2.1.gB p10.2.1.gD).gC) ((aB.mk r16.1 p10.2.1.gA p10.2.1.gC p10.2.1.gB p10.2.1.gD).gB) ((aB.mk r16.1 p10.2.1.gA p10.2.1.gC p10.2.1.gB p10.2.1.gD).gD)).gD)))) (
   some ((r19,cond p6.2 true r18.gB6,aB.mk r17.1 ((aB.mk r16.1 p10.2.1.gA p10.2.1.gC p10.2.1.gB p10.2.1.gD).gA) ((aB.mk r16.1 p10.2.1.gA p10.2.1.gC p10.2.1.gB p10.2.1.gD).gC) ((aB.mk r16.1 p10.2.1.gA p10.2.1.gC p10.2.1.gB p10.2.1.gD).gB) ((aB.mk r16.1 p10.2.1.gA p10.2.1.gC p10.2.1.gB p10.2.1.gD).gD))))) fun p21=>
  some ((aK.mk r1.2.2.2.1.gat r18.gE7 r1.2.2.2.1.gi,p21.1,p10.1,p21.2.1,r1.1,r1.2.1,p21.2.2,p10.2.2)))
theorem aBi {N b4 a1 a2 a3 a4 a5 a6 a7 a8 a9 a10 a11 a12 r} (h:kZ N b4 a1 a2 a3 a4 a5 a6 a7 a8 a9 a10 a11 a12=some r):FnM Tryz.prog 107 [.var (.st 26 [(aK.enc a1),(.ref 1 [] 0),(.ref 2 [] 0),(aA.enc a2),(aA.enc a3),(j64 a4),(eB a5),(aG.enc a6)]),.var (.st 38 [(aE.enc a7),(aI.enc a8),(.ifc 178 (.ref 3 [] 0)),(eO 4 1 (eL 2 aD.enc) b4),(aA.enc a9),(aH.enc a10)]),.var (aB.enc a11),.var (aJ.enc a12),.tail (b4.length*1)] [(.ref 0 [] 0)] (.tup []) [.var (.st 26 [(aK.enc r.1),(.ref 1 [] 0),(.ref 2 [] 0),(aA.enc r.2.1),(aA.enc r.2.2.1),(j64 a4),(eB r.2.2.2.1),(aG.enc r.2.2.2.2.1)]),.var (.st 38 [(aE.enc a7),(aI.enc a8),(.ifc 178 (.ref 3 [] 0)),(eO 4 1 (eL 2 aD.enc) b4),(aA.enc a9),(.st 3 [(j64 a10.gG),(j64 r.2.2.2.2.2.1),(j64 (I64 (a10.gF+1)))])]),.var (aB.enc r.2.2.2.2.2.2.1),.var (aJ.enc r.2.2.2.2.2.2.2),.tail (b4.length*1)]:=by
 unfold kZ at h
 refine At.f cQ hT hmo Tryz.func107 rfl h ?_
 refine At.b 1 (fun _ e=>aM [0,1,2,3,4] (aBj e)) fun r1=>?_
 refine At.J 6 1 [0,2] 6 (fun p2=>([],[(0,.var (.st 26 [(aK.enc a1),(.ref 1 [] 0),(.ref 2 [] 0),(aA.enc a2),(aA.enc p2.1),(j64 a4),(eB p2.2),(aG.enc r1.1)]))],[])) (fun p2=>?_) fun p2=>?_
 ·refine At.c 2 ?_ ?_
  ·refine At.o 8 (bQ hT (x:=(.sl 3 1 [(aA.enc a9)]))) ?_
   refine At.b 0 (fun _ e=>aM [0,1,2,3,4] (qU e)) fun r3=>?_
   refine At.b 1 (fun _ e=>aM [0,1,2,3,4] (iP e)) fun r4=>?_
   apply rt;exact At.jn 0
  ·apply rt;exact At.jn 0
 ·refine At.b 3 (fun _ e=>aM [0,1,2,3,4] (iP e)) fun r5=>?_
  refine At.J 0 1 [0,2] 6 (fun p6=>([],[(0,.var (.st 26 [(aK.enc a1),(.ref 1 [] 0),(.ref 2 [] 0),(aA.enc a2),(aA.enc p6.1),(j64 a4),(eB p6.2),(aG.enc r1.1)]))],[])) (fun p6=>?_) fun p6=>?_
  ·refine lx ?_;intro x7
   refine At.c 4 ?_ ?_
   ·refine At.o 3 (bQ hT (x:=(.sl 3 1 [(aA.enc r1.2.2.2.1.gc)]))) ?_
    refine At.b 0 (fun _ e=>aM [0,1,2,3,4] (qU e)) fun r8=>?_
    refine At.b 1 (fun _ e=>aM [0,1,2,3,4] (iP e)) fun r9=>?_
    apply rt;exact At.jn 0
   ·apply rt;exact At.jn 0
  ·refine At.J 0 1 [0,2] 6 (fun p10=>([],[(0,.var (.st 26 [(aK.enc a1),(.ref 1 [] 0),(.ref 2 [] 0),(aA.enc a2),(aA.enc p10.1),(j64 a4),(eB p6.2),(aG.enc r1.1)])),(2,.var (aB.enc p10.2.1)),(3,.var (aJ.enc p10.2.2))],[])) (fun p10=>?_) fun p10=>?_
   ·refine At.J 0 0 [0,2] 6 (fun p11=>([(61,(eB p11))],[],[])) (fun p11=>?_) fun p11=>?_
    ·refine At.s 49 9 ?_ ?_
     ·refine At.g [49,55] 12 ?_
      apply rt;exact At.jn 0
     ·refine lx ?_;intro x12
      refine At.g [49] 12 ?_
      apply rt;exact At.jn 0
    ·refine At.c 0 ?_ ?_
     ·refine At.b 2 (fun _ e=>aM [0,1,2,3,4] (aAy e)) fun r13=>?_
      apply rt;exact At.jn 0
     ·apply rt;exact At.jn 0
   ·refine At.J 0 0 [0,2] 6 (fun p14=>([(83,(eB p14))],[],[])) (fun p14=>?_) fun p14=>?_
    ·refine boI (fun hc4=>?_) (fun hc4=>?_)
     ·refine At.d 0 (dE1 4 (fun _=>cD hc4 rfl (bY hT (im:=false) (by kernel_rfl))) dE0) dF0 ?_
      apply rt;exact At.jn 0
     ·refine At.d 0 (dE1 4 (fun _=>cD hc4 rfl (bY hT (im:=false) (by kernel_rfl))) dE0) dF0 ?_
      apply rt;exact At.jn 0
    ·refine At.c 0 ?_ ?_
     ·refine At.b 1 (fun _ e=>aM [0,1,2,3,4] (iP e)) fun r15=>?_
      apply rt;exact At.r 0
     ·refine bi fun r16 hr16=>?_
      refine bi fun r17 hr17=>?_
      refine bi fun r18 hr18=>?_
      refine At.d2 0 [false] (dC2 16 (cL.enc r18) (fun _=>aO (aAS hr18)) dC0) (dS1 12 ⟨(k32 r16.2),2,.var (.st 72 [(aU.enc r16.1),(eB p10.2.1.gA),(k64 p10.2.1.gC),(j64 p10.2.1.gB),(j64 p10.2.1.gD)]),.var (aB.enc p10.2.1)⟩ [[.var (.st 26 [(aK.enc a1),(.ref 1 [] 0),(.ref 2 [] 0),(aA.enc a2),(aA.enc p10.1),(j64 a4),(eB p6.2),(aG.enc r1.1)]),.var (.st 38 [(aE.enc a7),(aI.enc a8),(.ifc 178 (.ref 3 [] 0)),(eO 4 1 (eL 2 aD.enc) b4),(aA.enc a9),(.st 3 [(j64 a10.gG),(j64 r1.2.1),(j64 (I64 (a10.gF+1)))])]),.var (aB.enc p10.2.1),.var (aJ.enc p10.2.2),.tail (b4.length*1),.var (aV.enc r1.2.2.2.1),.dead],[.var (.st 26 [(aK.enc a1),(.ref 1 [] 0),(.ref 2 [] 0),(aA.enc a2),(aA.enc p10.1),(j64 a4),(eB p6.2),(aG.enc r1.1)]),.var (.st 38 [(aE.enc a7),(aI.enc a8),(.ifc 178 (.ref 3 [] 0)),(eO 4 1 (eL 2 aD.enc) b4),(aA.enc a9),(.st 3 [(j64 a10.gG),(j64 r1.2.1),(j64 (I64 (a10.gF+1)))])]),.var (aB.enc p10.2.1),.var (aJ.enc p10.2.2),.tail (b4.length*1),.var (aV.enc r1.2.2.2.1),.var aNk]] ⟨bG (aM [0,1,2,3,4] (cF hr16)),bG (aM [0,1,2,3,4] (cF hr16)),trivial⟩ (dS1 14 ⟨(k32 r17.2),2,.var (.st 72 [(aU.enc r17.1),(eB ((aB.mk r16.1 p10.2.1.gA p10.2.1.gC p10.2.1.gB p10.2.1.gD).gA)),(k64 ((aB.mk r16.1 p10.2.1.gA p10.2.1.gC p10.2.1.gB p10.2.1.gD).gC)),(j64 ((aB.mk r16.1 p10.2.1.gA p10.2.1.gC p10.2.1.gB p10.2.1.gD).gB)),(j64 ((aB.mk r16.1 p10.2.1.gA p10.2.1.gC p10.2.1.gB p10.2.1.gD).gD))]),.var (.st 72 [(aU.enc r16.1),(eB p10.2.1.gA),(k64 p10.2.1.gC),(j64 p10.2.1.gB),(j64 p10.2.1.gD)])⟩ [[.var (.st 26 [(aK.enc a1),(.ref 1 [] 0),(.ref 2 [] 0),(aA.enc a2),(aA.enc p10.1),(j64 a4),(eB p6.2),(aG.enc r1.1)]),.var (.st 38 [(aE.enc a7),(aI.enc a8),(.ifc 178 (.ref 3 [] 0)),(eO 4 1 (eL 2 aD.enc) b4),(aA.enc a9),(.st 3 [(j64 a10.gG),(j64 r1.2.1),(j64 (I64 (a10.gF+1)))])]),.var (.st 72 [(aU.enc r16.1),(eB p10.2.1.gA),(k64 p10.2.1.gC),(j64 p10.2.1.gB),(j64 p10.2.1.gD)]),.var (aJ.enc p10.2.2),.tail (b4.length*1),.var (aV.enc r1.2.2.2.1),.dead],[.var (.st 26 [(aK.enc a1),(.ref 1 [] 0),(.ref 2 [] 0),(aA.enc a2),(aA.enc p10.1),(j64 a4),(eB p6.2),(aG.enc r1.1)]),.var (.st 38 [(aE.enc a7),(aI.enc a8),(.ifc 178 (.ref 3 [] 0)),(eO 4 1 (eL 2 aD.enc) b4),(aA.enc a9),(.st 3 [(j64 a10.gG),(j64 r1.2.1),(j64 (I64 (a10.gF+1)))])]),.var (.st 72 [(aU.enc r16.1),(eB p10.2.1.gA),(k64 p10.2.1.gC),(j64 p10.2.1.gB),(j64 p10.2.1.gD)]),.var (aJ.enc p10.2.2),.tail (b4.length*1),.var (aV.enc r1.2.2.2.1),.var aNk]] ⟨bG (aM [0,1,2,3,4] (cF hr17)),bG (aM [0,1,2,3,4] (cF hr17)),trivial⟩ (dS1 17 ⟨(.ref 6 [] 0),6,.var aNk,.dead⟩ [[.var (.st 26 [(aK.enc a1),(.ref 1 [] 0),(.ref 2 [] 0),(aA.enc a2),(aA.enc p10.1),(j64 a4),(eB p6.2),(aG.enc r1.1)]),.var (.st 38 [(aE.enc a7),(aI.enc a8),(.ifc 178 (.ref 3 [] 0)),(eO 4 1 (eL 2 aD.enc) b4),(aA.enc a9),(.st 3 [(j64 a10.gG),(j64 r1.2.1),(j64 (I64 (a10.gF+1)))])]),.var (aB.enc p10.2.1),.var (aJ.enc p10.2.2),.tail (b4.length*1),.var (aV.enc r1.2.2.2.1),.dead],[.var (.st 26 [(aK.enc a1),(.ref 1 [] 0),(.ref 2 [] 0),(aA.enc a2),(aA.enc p10.1),(j64 a4),(eB p6.2),(aG.enc r1.1)]),.var (.st 38 [(aE.enc a7),(aI.enc a8),(.ifc 178 (.ref 3 [] 0)),(eO 4 1 (eL 2 aD.enc) b4),(aA.enc a9),(.st 3 [(j64 a10.gG),(j64 r1.2.1),(j64 (I64 (a10.gF+1)))])]),.var (.st 72 [(aU.enc r17.1),(eB ((aB.mk r16.1 p10.2.1.gA p10.2.1.gC p10.2.1.gB p10.2.1.gD).gA)),(k64 ((aB.mk r16.1 p10.2.1.gA p10.2.1.gC p10.2.1.gB p10.2.1.gD).gC)),(j64 ((aB.mk r16.1 p10.2.1.gA p10.2.1.gC p10.2.1.gB p10.2.1.gD).gB)),(j64 ((aB.mk r16.1 p10.2.1.gA p10.2.1.gC p10.2.1.gB p10.2.1.gD).gD))]),.var (aJ.enc p10.2.2),.tail (b4.length*1),.var (aV.enc r1.2.2.2.1),.dead],[.var (.st 26 [(aK.enc a1),(.ref 1 [] 0),(.ref 2 [] 0),(aA.enc a2),(aA.enc p10.1),(j64 a4),(eB p6.2),(aG.enc r1.1)]),.var (.st 38 [(aE.enc a7),(aI.enc a8),(.ifc 178 (.ref 3 [] 0)),(eO 4 1 (eL 2 aD.enc) b4),(aA.enc a9),(.st 3 [(j64 a10.gG),(j64 r1.2.1),(j64 (I64 (a10.gF+1)))])]),.var (.st 72 [(aU.enc r16.1),(eB p10.2.1.gA),(k64 p10.2.1.gC),(j64 p10.2.1.gB),(j64 p10.2.1.gD)]),.var (aJ.enc p10.2.2),.tail (b4.length*1),.var (aV.enc r1.2.2.2.1),.dead],[.var (.st 26 [(aK.enc a1),(.ref 1 [] 0),(.ref 2 [] 0),(aA.enc a2),(aA.enc p10.1),(j64 a4),(eB p6.2),(aG.enc r1.1)]),.var (.st 38 [(aE.enc a7),(aI.enc a8),(.ifc 178 (.ref 3 [] 0)),(eO 4 1 (eL 2 aD.enc) b4),(aA.enc a9),(.st 3 [(j64 a10.gG),(j64 r1.2.1),(j64 (I64 (a10.gF+1)))])]),.var (.st 72 [(aU.enc r17.1),(eB ((aB.mk r16.1 p10.2.1.gA p10.2.1.gC p10.2.1.gB p10.2.1.gD).gA)),(k64 ((aB.mk r16.1 p10.2.1.gA p10.2.1.gC p10.2.1.gB p10.2.1.gD).gC)),(j64 ((aB.mk r16.1 p10.2.1.gA p10.2.1.gC p10.2.1.gB p10.2.1.gD).gB)),(j64 ((aB.mk r16.1 p10.2.1.gA p10.2.1.gC p10.2.1.gB p10.2.1.gD).gD))]),.var (aJ.enc p10.2.2),.tail (b4.length*1),.var (aV.enc r1.2.2.2.1),.dead]] ⟨aW hT 6 (by kernel_rfl) (by kernel_rfl) (by kernel_rfl),aW hT 6 (by kernel_rfl) (by kernel_rfl) (by kernel_rfl),aW hT 6 (by kernel_rfl) (by kernel_rfl) (by kernel_rfl),aW hT 6 (by kernel_rfl) (by kernel_rfl) (by kernel_rfl),trivial⟩ dS0))) ?_
      refine bi fun r19 hr19=>?_
      refine At.d 0 (dE1 7 (fun _=>bQ hT (x:=(.sl 3 2 [(aA.enc a2),(aA.enc r18.gC2)]))) (dE2 8 (aA.enc r19) (fun _=>aO (qS hr19)) dE0)) dF0 ?_
      refine At.b 3 (fun _ e=>aM [0,1,2,3,4] (iP e)) fun r20=>?_
      refine At.J 0 1 [0,2,4] 7 (fun p21=>([],[(0,.var (.st 26 [(aK.enc a1),(.ref 1 [] 0),(.ref 2 [] 0),(aA.enc p21.1),(aA.enc p10.1),(j64 a4),(eB p21.2.1),(aG.enc r1.1)])),(2,.var (aB.enc p21.2.2))],[])) (fun p21=>?_) fun p21=>?_
      ·refine At.c 5 ?_ ?_
       ·refine bi fun r22 hr22=>?_
        refine bi fun r23 hr23=>?_
        refine At.d2 0 [false] (dC2 6 (.tup [(aA.enc r23.1),(eB r23.2)]) (fun _=>aO (yU hr23)) dC0) (dS1 5 ⟨(k32 r22.2),2,.var (.st 72 [(aU.enc r22.1),(eB ((aB.mk r17.1 ((aB.mk r16.1 p10.2.1.gA p10.2.1.gC p10.2.1.gB p10.2.1.gD).gA) ((aB.mk r16.1 p10.2.1.gA p10.2.1.gC p10.2.1.gB p10.2.1.gD).gC) ((aB.mk r16.1 p10.2.1.gA p10.2.1.gC p10.2.1.gB p10.2.1.gD).gB) ((aB.mk r16.1 p10.2.1.gA p10.2.1.gC p10.2.1.gB p10.2.1.gD).gD)).gA)),(k64 ((aB.mk r17.1 ((aB.mk r16.1 p10.2.1.gA p10.2.1.gC p10.2.1.gB p10.2.1.gD).gA) ((aB.mk r16.1 p10.2.1.gA p10.2.1.gC p10.2.1.gB p10.2.1.gD).gC) ((aB.mk r16.1 p10.2.1.gA p10.2.1.gC p10.2.1.gB p10.2.1.gD).gB) ((aB.mk r16.1 p10.2.1.gA p10.2.1.gC p10.2.1.gB p10.2.1.gD).gD)).gC)),(j64 ((aB.mk r17.1 ((aB.mk r16.1 p10.2.1.gA p10.2.1.gC p10.2.1.gB p10.2.1.gD).gA) ((aB.mk r16.1 p10.2.1.gA p10.2.1.gC p10.2.1.gB p10.2.1.gD).gC) ((aB.mk r16.1 p10.2.1.gA p10.2.1.gC p10.2.1.gB p10.2.1.gD).gB) ((aB.mk r16.1 p10.2.1.gA p10.2.1.gC p10.2.1.gB p10.2.1.gD).gD)).gB)),(j64 ((aB.mk r17.1 ((aB.mk r16.1 p10.2.1.gA p10.2.1.gC p10.2.1.gB p10.2.1.gD).gA) ((aB.mk r16.1 p10.2.1.gA p10.2.1.gC p10.2.1.gB p10.2.1.gD).gC) ((aB.mk r16.1 p10.2.1.gA p10.2.1.gC p10.2.1.gB p10.2.1.gD).gB) ((aB.mk r16.1 p10.2.1.gA p10.2.1.gC p10.2.1.gB p10.2.1.gD).gD)).gD))]),.var (.st 72 [(aU.enc r17.1),(eB ((aB.mk r16.1 p10.2.1.gA p10.2.1.gC p10.2.1.gB p10.2.1.gD).gA)),(k64 ((aB.mk r16.1 p10.2.1.gA p10.2.1.gC p10.2.1.gB p10.2.1.gD).gC)),(j64 ((aB.mk r16.1 p10.2.1.gA p10.2.1.gC p10.2.1.gB p10.2.1.gD).gB)),(j64 ((aB.mk r16.1 p10.2.1.gA p10.2.1.gC p10.2.1.gB p10.2.1.gD).gD))])⟩ [[.var (.st 26 [(aK.enc a1),(.ref 1 [] 0),(.ref 2 [] 0),(aA.enc r19),(aA.enc p10.1),(j64 a4),(eB (cond p6.2 true r18.gB6)),(aG.enc r1.1)]),.var (.st 38 [(aE.enc a7),(aI.enc a8),(.ifc 178 (.ref 3 [] 0)),(eO 4 1 (eL 2 aD.enc) b4),(aA.enc a9),(.st 3 [(j64 a10.gG),(j64 r1.2.1),(j64 (I64 (a10.gF+1)))])]),.var (.st 72 [(aU.enc r17.1),(eB ((aB.mk r16.1 p10.2.1.gA p10.2.1.gC p10.2.1.gB p10.2.1.gD).gA)),(k64 ((aB.mk r16.1 p10.2.1.gA p10.2.1.gC p10.2.1.gB p10.2.1.gD).gC)),(j64 ((aB.mk r16.1 p10.2.1.gA p10.2.1.gC p10.2.1.gB p10.2.1.gD).gB)),(j64 ((aB.mk r16.1 p10.2.1.gA p10.2.1.gC p10.2.1.gB p10.2.1.gD).gD))]),.var (aJ.enc p10.2.2),.tail (b4.length*1),.var (aV.enc r1.2.2.2.1),.var (cL.enc r18),.dead],[.var (.st 26 [(aK.enc a1),(.ref 1 [] 0),(.ref 2 [] 0),(aA.enc r19),(aA.enc p10.1),(j64 a4),(eB (cond p6.2 true r18.gB6)),(aG.enc r1.1)]),.var (.st 38 [(aE.enc a7),(aI.enc a8),(.ifc 178 (.ref 3 [] 0)),(eO 4 1 (eL 2 aD.enc) b4),(aA.enc a9),(.st 3 [(j64 a10.gG),(j64 r1.2.1),(j64 (I64 (a10.gF+1)))])]),.var (.st 72 [(aU.enc r17.1),(eB ((aB.mk r16.1 p10.2.1.gA p10.2.1.gC p10.2.1.gB p10.2.1.gD).gA)),(k64 ((aB.mk r16.1 p10.2.1.gA p10.2.1.gC p10.2.1.gB p10.2.1.gD).gC)),(j64 ((aB.mk r16.1 p10.2.1.gA p10.2.1.gC p10.2.1.gB p10.2.1.gD).gB)),(j64 ((aB.mk r16.1 p10.2.1.gA p10.2.1.gC p10.2.1.gB p10.2.1.gD).gD))]),.var (aJ.enc p10.2.2),.tail (b4.length*1),.var (aV.enc r1.2.2.2.1),.var (cL.enc r18),.var (.st 3 [(j64 0),(j64 0),(j64 0)])]] ⟨bG (aM [0,1,2,3,4] (cF hr22)),bG (aM [0,1,2,3,4] (cF hr22)),trivial⟩ (dS1 10 ⟨(.ref 7 [] 0),7,.var (.st 3 [(j64 0),(j64 0),(j64 0)]),.dead⟩ [[.var (.st 26 [(aK.enc a1),(.ref 1 [] 0),(.ref 2 [] 0),(aA.enc r19),(aA.enc p10.1),(j64 a4),(eB (cond p6.2 true r18.gB6)),(aG.enc r1.1)]),.var (.st 38 [(aE.enc a7),(aI.enc a8),(.ifc 178 (.ref 3 [] 0)),(eO 4 1 (eL 2 aD.enc) b4),(aA.enc a9),(.st 3 [(j64 a10.gG),(j64 r1.2.1),(j64 (I64 (a10.gF+1)))])]),.var (.st 72 [(aU.enc r17.1),(eB ((aB.mk r16.1 p10.2.1.gA p10.2.1.gC p10.2.1.gB p10.2.1.gD).gA)),(k64 ((aB.mk r16.1 p10.2.1.gA p10.2.1.gC p10.2.1.gB p10.2.1.gD).gC)),(j64 ((aB.mk r16.1 p10.2.1.gA p10.2.1.gC p10.2.1.gB p10.2.1.gD).gB)),(j64 ((aB.mk r16.1 p10.2.1.gA p10.2.1.gC p10.2.1.gB p10.2.1.gD).gD))]),.var (aJ.enc p10.2.2),.tail (b4.length*1),.var (aV.enc r1.2.2.2.1),.var (cL.enc r18),.dead],[.var (.st 26 [(aK.enc a1),(.ref 1 [] 0),(.ref 2 [] 0),(aA.enc r19),(aA.enc p10.1),(j64 a4),(eB (cond p6.2 true r18.gB6)),(aG.enc r1.1)]),.var (.st 38 [(aE.enc a7),(aI.enc a8),(.ifc 178 (.ref 3 [] 0)),(eO 4 1 (eL 2 aD.enc) b4),(aA.enc a9),(.st 3 [(j64 a10.gG),(j64 r1.2.1),(j64 (I64 (a10.gF+1)))])]),.var (.st 72 [(aU.enc r22.1),(eB ((aB.mk r17.1 ((aB.mk r16.1 p10.2.1.gA p10.2.1.gC p10.2.1.gB p10.2.1.gD).gA) ((aB.mk r16.1 p10.2.1.gA p10.2.1.gC p10.2.1.gB p10.2.1.gD).gC) ((aB.mk r16.1 p10.2.1.gA p10.2.1.gC p10.2.1.gB p10.2.1.gD).gB) ((aB.mk r16.1 p10.2.1.gA p10.2.1.gC p10.2.1.gB p10.2.1.gD).gD)).gA)),(k64 ((aB.mk r17.1 ((aB.mk r16.1 p10.2.1.gA p10.2.1.gC p10.2.1.gB p10.2.1.gD).gA) ((aB.mk r16.1 p10.2.1.gA p10.2.1.gC p10.2.1.gB p10.2.1.gD).gC) ((aB.mk r16.1 p10.2.1.gA p10.2.1.gC p10.2.1.gB p10.2.1.gD).gB) ((aB.mk r16.1 p10.2.1.gA p10.2.1.gC p10.2.1.gB p10.2.1.gD).gD)).gC)),(j64 ((aB.mk r17.1 ((aB.mk r16.1 p10.2.1.gA p10.2.1.gC p10.2.1.gB p10.2.1.gD).gA) ((aB.mk r16.1 p10.2.1.gA p10.2.1.gC p10.2.1.gB p10.2.1.gD).gC) ((aB.mk r16.1 p10.2.1.gA p10.2.1.gC p10.2.1.gB p10.2.1.gD).gB) ((aB.mk r16.1 p10.2.1.gA p10.2.1.gC p10.2.1.gB p10.2.1.gD).gD)).gB)),(j64 ((aB.mk r17.1 ((aB.mk r16.1 p10.2.1.gA p10.2.1.gC p10.2.1.gB p10.2.1.gD).gA) ((aB.mk r16.1 p10.2.1.gA p10.2.1.gC p10.2.1.gB p10.2.1.gD).gC) ((aB.mk r16.1 p10.2.1.gA p10.2.1.gC p10.2.1.gB p10.2.1.gD).gB) ((aB.mk r16.1 p10.2.1.gA p10.2.1.gC p10.2.1.gB p10.2.1.gD).gD)).gD))]),.var (aJ.enc p10.2.2),.tail (b4.length*1),.var (aV.enc r1.2.2.2.1),.var (cL.enc r18),.dead]] ⟨aW hT 7 (by kernel_rfl) (by kernel_rfl) (by kernel_rfl),aW hT 7 (by kernel_rfl) (by kernel_rfl) (by kernel_rfl),trivial⟩ dS0)) ?_
        refine At.b 8 (fun _ e=>aM [0,1,2,3,4] (iP e)) fun r24=>?_
        apply rt;exact At.jn 0
       ·apply rt;exact At.jn 0
      ·apply rt;exact At.z 11
def fF (N:Nat) (b2:(List (List aD))) (a4:aE) (a5:aI) (a6:aA) (a7:aH) (a8:aJ):Nat→aB→(Vector Int 4)→Int→Option (aB×(Vector Int 4))
 | 0,_,_,_=>none
 | k+1,s9,s10,s11=>
  cond (decide (s11 < 4)) (
   Option.bind (cX N b2 s11 (aK.mk (aC.mk 0 0 0) (aC.mk 0 0 0) 0) (aA.mk 4294967296 4294967296 4294967296) (aA.mk 0 0 0) 0 false (aG.mk (aA.mk 0 0 0) 0 0 (aA.mk 0 0 0) (-1)) a4 a5 a6 a7 s9 a8) fun r12=>
   Option.bind (eY s11 4) fun _=>
   Option.bind (s10.toList[s11.toNat]?) fun e14=>
   fF N b2 a4 a5 a6 a7 a8 k (aB.mk r12.1 s9.gA s9.gC s9.gB s9.gD) (s10.setIfInBounds s11.toNat r12.2) (I64 (s11+1))) (
   some ((s9,s10)))
def dY (N:Nat) (a5:aI) (b2:(List (List aD))) (a4:aE) (a6:aA):Nat→aH→aJ→aB→aK→aA→aA→Int→Bool→aG→Option (aH×aJ×aB×aK×aA×aA×Int×Bool×aG)
 | 0,_,_,_,_,_,_,_,_,_=>none
 | k+1,s17,s18,s19,s20,s21,s22,s23,s24,s25=>
  Option.bind (aT (decide (s23≤a5.gM)) fun x27=>
  cond x27 (
   cond (!s24) (
    some true) (
    some a5.gS)) (
   some false)) fun p26=>
  cond p26 (
   Option.bind (kZ N b2 s20 s21 s22 s23 s24 s25 a4 a5 a6 s17 s19 s18) fun r28=>
   dY N a5 b2 a4 a6 k (aH.mk s17.gG r28.2.2.2.2.2.1 (I64 (s17.gF+1))) r28.2.2.2.2.2.2.2 r28.2.2.2.2.2.2.1 r28.1 r28.2.1 r28.2.2.1 (I64 (s23+1)) r28.2.2.2.1 r28.2.2.2.2.1) (
   some ((s17,s18,s19,s20,s21,s22,s23,s24,s25)))
def eX (N:Nat) (b2:(List (List aD))) (a1 a2 a3:Int) (a4:aE) (a5:aI) (a6:aA) (a7:aH) (a8:aJ):Option (aH×aJ×aG×Int):=
 aT (cond (decide (a1 < 0)) true (decide (a1≥a5.gW))) fun x1=>
 aT (cond x1 true (decide (a2 < 0))) fun x2=>
 aT (cond x2 true (decide (a2≥a5.gH))) fun x3=>
 aT (cond x3 true (decide (a3 < 0))) fun x4=>
 aT (decide (a3≥a5.gB2)) fun x5=>
 cond (cond x4 true x5) (
  some ((a7,a8,aG.mk (aA.mk 0 0 0) 0 0 (aA.mk 0 0 0) 0,2))) (
  aT (I64 ((I64 (a2*a5.gW))+a1)) fun x6=>
  Option.bind (tI N a5.gC5 x6 a3) fun r7=>
  Option.bind (fF N b2 a4 a5 a6 a7 a8 N (aB.mk (aU.mk (bS.mk 0 0 0) false (Vector.replicate 64 0)) true a5.gC5 x6 a3) (#v[0,0,0,0]) 0) fun p8=>
  Option.bind (vA N a5.gC8 a5.gW a5.gH a1 a2 p8.2) fun r15=>
  Option.bind (dY N a5 b2 a4 a6 N a7 a8 p8.1 (aK.mk r15.1 r15.2.1 (-1)) (aA.mk 4294967296 4294967296 4294967296) (aA.mk 0 0 0) 0 false (aG.mk (aA.mk 0 0 0) 0 0 (aA.mk 0 0 0) (-1))) fun p16=>
  some ((p16.1,p16.2.1,aG.mk p16.2.2.2.2.2.1 p16.2.2.2.2.2.2.2.2.gA8 p16.2.2.2.2.2.2.2.2.gM p16.2.2.2.2.2.2.2.2.gB9 p16.2.2.2.2.2.2.2.2.gA0,0)))
theorem zA {N b2 a1 a2 a3 a4 a5 a6 a7 a8 r} (h:eX N b2 a1 a2 a3 a4 a5 a6 a7 a8=some r):FnM Tryz.prog 47 [.var (.st 38 [(aE.enc a4),(aI.enc a5),(.ifc 178 (.ref 1 [] 0)),(eO 2 1 (eL 2 aD.enc) b2),(aA.enc a6),(aH.enc a7)]),.var (aJ.enc a8),.tail (b2.length*1)] [(.ref 0 [] 0),(j64 a1),(j64 a2),(j64 a3)] (.tup [(aG.enc r.2.2.1),(j64 r.2.2.2)]) [.var (.st 38 [(aE.enc a4),(aI.enc a5),(.ifc 178 (.ref 1 [] 0)),(eO 2 1 (eL 2 aD.enc) b2),(aA.enc a6),(aH.enc r.1)]),.var (aJ.enc r.2.1),.tail (b2.length*1)]:=by
 unfold eX at h
 refine At.f cQ hT hmo Tryz.func47 rfl h ?_
 refine At.o 3 (aBl hT (t:=62) (x:=(.ref 0 [] 0)) (b:=true) (by kernel_rfl) rfl rfl (by kernel_rfl)) ?_
 refine At.g [16] 5 ?_
 refine At.o 0 (aGH (t:=172) (u:=178) (x:=(.ref 1 [] 0)) (by kernel_rfl) rfl rfl .eql false (by decide) (by kernel_rfl)) ?_
 refine lx ?_;intro x1
 refine lx ?_;intro x2
 refine lx ?_;intro x3
 refine lx ?_;intro x4
 refine lx ?_;intro x5
 refine At.g [16] 41 ?_
 refine At.c 0 ?_ ?_
 ·apply rt;exact At.r 3
 ·refine lx ?_;intro x6
  refine bi fun r7 hr7=>?_
  refine At.d 0 dE0 (dF 16 (.ref 4 [] 0) [] [.var (.st 72 [cv_6,(eB true),(k64 a5.gC5),(j64 x6),(j64 a3)])] (bG (aM [] (aDD hr7))) dF0) ?_
  refine At.L 2 [0,1,2,8,10,11] 7 (fun p8=>([],[(4,.var (aB.enc p8.1)),(6,.var (eA 4 1 k32 p8.2))],[])) (fun p8 J k=>∃ s9 s10 s11,fF N b2 a4 a5 a6 a7 a8 k s9 s10 s11=some p8∧J [0,1,2,8,10,11] 7 [(84,(j64 s11))] [(4,.var (aB.enc s9)),(6,.var (eA 4 1 k32 s10))] []) N (fun _ h=>⟨_,_,_,h,jr⟩) (fun p8 k s hI=>?_) fun p8=>?_
  ·obtain ⟨s9,s10,s11,h,hj⟩:=hI
   cases k with
   | zero=>cases h
   | succ k=>
    refine At.jr hj ?_ h
    refine At.c 1 ?_ ?_
    ·refine At.b 5 (fun _ e=>aM [5,0,4,1,2] (cF e)) fun r12=>?_
     refine At.b 0 (fun _ e=>bH hT (k:=1) 6 [] 0 e) fun u13=>?_
     refine At.b 0 (fun _ e=>oA hT k32 0 s10 e r12.2 (by kernel_rfl) (by kernel_rfl) (H':=[.var (.st 38 [(aE.enc a4),(aI.enc a5),(.ifc 178 (.ref 1 [] 0)),(eO 2 1 (eL 2 aD.enc) b2),(aA.enc a6),(aH.enc a7)]),.var (aJ.enc a8),.tail (b2.length*1),.var cv_7,.var (.st 72 [(aU.enc r12.1),(eB s9.gA),(k64 s9.gC),(j64 s9.gB),(j64 s9.gD)]),.var cv_8,.var (eA 4 1 k32 (s10.setIfInBounds s11.toNat r12.2))])) fun e14=>?_
     exact fun h=>At.k 2 ⟨_,_,_,h,jr⟩
    ·apply rt;exact At.x 0
  ·refine bi fun r15 hr15=>?_
   refine At.d 5 (dE2 20 (.tup [(aC.enc r15.1),(aC.enc r15.2.1),(j64 r15.2.2)]) (fun _=>aO (aFK hr15)) dE0) dF0 ?_
   refine At.L 0 [8,10] 7 (fun p16=>([],[(0,.var (.st 38 [(aE.enc a4),(aI.enc a5),(.ifc 178 (.ref 1 [] 0)),(eO 2 1 (eL 2 aD.enc) b2),(aA.enc a6),(aH.enc p16.1)])),(1,.var (aJ.enc p16.2.1)),(4,.var (aB.enc p16.2.2.1)),(5,.var (.st 26 [(aK.enc p16.2.2.2.1),(.ref 0 [] 0),(.ref 4 [] 0),(aA.enc p16.2.2.2.2.1),(aA.enc p16.2.2.2.2.2.1),(j64 p16.2.2.2.2.2.2.1),(eB p16.2.2.2.2.2.2.2.1),(aG.enc p16.2.2.2.2.2.2.2.2)]))],[])) (fun p16 J k=>∃ s17 s18 s19 s20 s21 s22 s23 s24 s25,dY N a5 b2 a4 a6 k s17 s18 s19 s20 s21 s22 s23 s24 s25=some p16∧J [0,8,10] 7 [] [(0,.var (.st 38 [(aE.enc a4),(aI.enc a5),(.ifc 178 (.ref 1 [] 0)),(eO 2 1 (eL 2 aD.enc) b2),(aA.enc a6),(aH.enc s17)])),(1,.var (aJ.enc s18)),(4,.var (aB.enc s19)),(5,.var (.st 26 [(aK.enc s20),(.ref 0 [] 0),(.ref 4 [] 0),(aA.enc s21),(aA.enc s22),(j64 s23),(eB s24),(aG.enc s25)]))] []) N (fun _ h=>⟨_,_,_,_,_,_,_,_,_,h,jr⟩) (fun p16 k s hI=>?_) fun p16=>?_
   ·obtain ⟨s17,s18,s19,s20,s21,s22,s23,s24,s25,h,hj⟩:=hI
    cases k with
    | zero=>cases h
    | succ k=>
     refine At.jr hj ?_ h
     refine At.J 0 0 [0,8,10] 7 (fun p26=>([(151,(eB p26))],[],[])) (fun p26=>?_) fun p26=>?_
     ·refine lx ?_;intro x27
      refine boI (fun hc10=>?_) (fun hc10=>?_)
      ·refine boI (fun hc16=>?_) (fun hc16=>?_)
       ·refine At.d 0 (dE1 10 (fun _=>cD hc10 rfl (bY hT (im:=false) (by kernel_rfl))) (dE1 16 (fun _=>cD hc16 rfl (bY hT (im:=false) (by kernel_rfl))) dE0)) dF0 ?_
        apply rt;exact At.jn 0
       ·refine At.d 0 (dE1 10 (fun _=>cD hc10 rfl (bY hT (im:=false) (by kernel_rfl))) (dE1 16 (fun _=>cD hc16 rfl (bY hT (im:=false) (by kernel_rfl))) dE0)) dF0 ?_
        apply rt;exact At.jn 0
      ·refine At.d 0 (dE1 10 (fun _=>cD hc10 rfl (bY hT (im:=false) (by kernel_rfl))) dE0) dF0 ?_
       apply rt;exact At.jn 0
     ·refine At.c 0 ?_ ?_
      ·refine At.b 1 (fun _ e=>aM [5,0,4,1,2] (aBi e)) fun r28=>?_
       exact fun h=>At.k 8 ⟨_,_,_,_,_,_,_,_,_,h,jr⟩
      ·apply rt;exact At.x 0
   ·apply rt;exact At.r 15
def aMI : Nat→Bool:=imL [3]
def rO (N:Nat) (a0:(List aG)) (a1:aE):Nat→Int→Option (Sum (Unit) (Int))
 | 0,_=>none
 | k+1,s4=>
  aT (decide (s4 < ((a0.length:Int)))) fun x5=>
  cond x5 (
   Option.bind (idx a0 s4) fun e6=>
   Option.bind (aT (decide (e6.gA0 < (-1))) fun x8=>
   aT ((a1.gA5.length:Int)) fun x9=>
   aT (fD ((a1.gL.length:Int)) x9) fun x10=>
   aT (cond x8 true (decide (e6.gA0≥x10))) fun x11=>
   cond x11 (
    some true) (
    aT (cond (e6.gA8 != 0) (e6.gA8 != 1) false) fun x12=>
    some x12)) fun p7=>
   cond p7 (some (Sum.inr 5)) (rO N a0 a1 k (I64 (s4+1)))) (
   some (Sum.inl (())))
def xF (N:Nat) (a0:(List aG)) (a1:aE):Option (Int):=
 aT (((a0.length:Int))==0) fun x1=>
 aT (decide (((a0.length:Int)) > 16)) fun x2=>
 cond (cond x1 true x2) (
  some 2) (
  Option.bind (rO N a0 a1 N 0) fun o=>nS o (fun p3=>
   some 0) (fun r=>some r))
theorem aKx {N a0 a1 r} (h:xF N a0 a1=some r):FnM Tryz.prog 108 [] [(eL 9 aG.enc a0),(aE.enc a1)] (j64 r) []:=by
 unfold xF at h
 refine At.f aMI hT hmo Tryz.func108 rfl h ?_
 refine lx ?_;intro x1
 refine lx ?_;intro x2
 refine At.c 10 ?_ ?_
 ·apply rt;exact At.r 1
 ·refine At.LS 3 [] 0 (fun p3=>([],[],[])) (fun op3 J k=>∃ s4,rO N a0 a1 k s4=some op3∧J [3,15,16] 0 [(17,(j64 s4))] [] []) N (fun _ h=>⟨_,h,jr⟩) (fun op3 g3 k s hI=>?_) fun p3=>?_
  ·obtain ⟨s4,h,hj⟩:=hI
   cases k with
   | zero=>cases h
   | succ k=>
    refine At.jr hj ?_ h
    refine lx ?_;intro x5
    refine At.c 1 ?_ ?_
    ·refine At.b 0 (fun _ e=>bF hT aG.enc e) fun e6=>?_
     refine At.J 3 0 [3,15,16,17] 1 (fun p7=>([(45,(eB p7))],[],[])) (fun p7=>?_) fun p7=>?_
     ·refine lx ?_;intro x8
      refine lx ?_;intro x9
      refine lx ?_;intro x10
      refine lx ?_;intro x11
      refine At.s 36 16 ?_ ?_
      ·refine At.g [36,40] 9 ?_
       apply rt;exact At.jn 0
      ·refine lx ?_;intro x12
       refine At.g [36] 9 ?_
       apply rt;exact At.jn 0
     ·refine At.c 0 ?_ ?_
      ·intro e;apply aBM g3 e;exact At.r 1
      ·exact fun h=>At.k 2 ⟨_,h,jr⟩
    ·apply rt;exact At.xs 0
  ·apply rt;exact At.r 1
def sD (N:Nat) (a0:Int):Option (Int):=
 some (shr .i64 a0 32)
theorem aBv {N a0 r} (h:sD N a0=some r):FnM Tryz.prog 91 [] [(j64 a0)] (j64 r) []:=by
 unfold sD at h
 refine At.f cQ hT hmo Tryz.func91 rfl h ?_
 apply rt;exact At.r 4
def qR (N:Nat) (a0:Int):Option (Int):=
 cond (decide (a0≤0)) (
  some 0) (
  Option.bind (jS N ([a0,4294967296])) fun r1=>
  Option.bind (iN N a0 r1) fun r2=>
  Option.bind (iF N 65535) fun r3=>
  Option.bind (xP N ([r2,r3])) fun r4=>
  Option.bind (sD N r4) fun r5=>
  some r5)
theorem zR {N a0 r} (h:qR N a0=some r):FnM Tryz.prog 39 [] [(j64 a0)] (j64 r) []:=by
 unfold qR at h
 refine At.f cQ hT hmo Tryz.func39 rfl h ?_
 refine At.c 3 ?_ ?_
 ·apply rt;exact At.r 1
 ·refine At.o 2 (bQ hT (x:=(.sl 1 2 [(j64 a0),(j64 4294967296)]))) ?_
  refine At.b 0 (fun _ e=>aM [] (pN e)) fun r1=>?_
  refine At.b 0 (fun _ e=>aM [] (lK e)) fun r2=>?_
  refine At.b 0 (fun _ e=>aM [] (iQ e)) fun r3=>?_
  refine At.o 0 (bQ hT (x:=(.sl 1 2 [(j64 r2),(j64 r3)]))) ?_
  refine At.b 0 (fun _ e=>aM [] (aDa e)) fun r4=>?_
  refine At.b 0 (fun _ e=>aM [] (aBv e)) fun r5=>?_
  apply rt;exact At.r 1
def aEK : Nat→Bool:=imL [2]
def pC (N:Nat) (a0:aA):Option ((Vector Int 3)):=
 Option.bind (qR N a0.gX) fun r1=>
 Option.bind (qR N a0.gY) fun r2=>
 Option.bind (qR N a0.gZ) fun r3=>
 some (#v[r1,r2,r3])
theorem aDg {N a0 r} (h:pC N a0=some r):FnM Tryz.prog 110 [] [(aA.enc a0),(.fn (.func 39) [] [])] (eA 3 1 j64 r) []:=by
 unfold pC at h
 refine At.f aEK hT hmo Tryz.func110 rfl h ?_
 refine bi fun r1 hr1=>?_
 refine bi fun r2 hr2=>?_
 refine bi fun r3 hr3=>?_
 refine At.d 2 (dE2 3 (j64 r1) (fun _=>aO (zR hr1)) (dE2 7 (j64 r2) (fun _=>aO (zR hr2)) (dE2 11 (j64 r3) (fun _=>aO (zR hr3)) dE0))) dF0 ?_
 apply rt;exact At.r 0
def aHe : Nat→Bool:=imL [3,4]
def wK (N:Nat) (a0 a1:aA):Option (aA):=
 Option.bind (iN N a0.gX a1.gX) fun r1=>
 Option.bind (iN N a0.gY a1.gY) fun r2=>
 Option.bind (iN N a0.gZ a1.gZ) fun r3=>
 some (aA.mk r1 r2 r3)
theorem aFt {N a0 a1 r} (h:wK N a0 a1=some r):FnM Tryz.prog 198 [] [(aA.enc a0),(aA.enc a1),(.fn (.func 93) [] [])] (aA.enc r) []:=by
 unfold wK at h
 refine At.f aHe hT hmo Tryz.func198 rfl h ?_
 refine bi fun r1 hr1=>?_
 refine bi fun r2 hr2=>?_
 refine bi fun r3 hr3=>?_
 refine At.d 3 (dE2 5 (j64 r1) (fun _=>aO (lK hr1)) (dE2 11 (j64 r2) (fun _=>aO (lK hr2)) (dE2 17 (j64 r3) (fun _=>aO (lK hr3)) dE0))) dF0 ?_
 apply rt;exact At.r 0
def aLp : Nat→Bool:=imL [1]
def aAP (N:Nat) (a0:aA):Option (aA):=
 cond (aA.eq a0 (aA.mk 0 0 0)) (
  some a0) (
  Option.bind (oP N a0) fun r1=>
  Option.bind (wK N a0 (aA.mk r1 r1 r1)) fun r2=>
  some r2)
theorem aKB {N a0 r} (h:aAP N a0=some r):FnM Tryz.prog 112 [] [(aA.enc a0)] (aA.enc r) []:=by
 unfold aAP at h
 refine At.f aLp hT hmo Tryz.func112 rfl h ?_
 refine At.o 4 (aF8 aS7 (a0:aA) (aA.mk 0 0 0:aA) (by kernel_rfl) (by kernel_rfl) (fun _=>rfl) (fun _=>rfl) (by kernel_rfl) (by kernel_rfl)) ?_
 refine At.c 0 ?_ ?_
 ·apply rt;exact At.r 2
 ·refine At.b 1 (fun _ e=>aM [] (aA3 e)) fun r1=>?_
  refine At.b 6 (fun _ e=>aM [] (aFt e)) fun r2=>?_
  apply rt;exact At.r 1
def qQ (N:Nat) (a0:Int):Option (Int):=
 Option.bind (iF N 32767) fun r1=>
 Option.bind (vS N a0 (-4294967296) 4294967296) fun r2=>
 Option.bind (jS N ([4294967296,r2])) fun r3=>
 Option.bind (xP N ([r1,r3])) fun r4=>
 Option.bind (sD N r4) fun r5=>
 some r5
theorem zP {N a0 r} (h:qQ N a0=some r):FnM Tryz.prog 40 [] [(j64 a0)] (j64 r) []:=by
 unfold qQ at h
 refine At.f cQ hT hmo Tryz.func40 rfl h ?_
 refine At.b 1 (fun _ e=>aM [] (iQ e)) fun r1=>?_
 refine At.b 1 (fun _ e=>aM [] (aDo e)) fun r2=>?_
 refine At.o 0 (bQ hT (x:=(.sl 1 2 [(j64 4294967296),(j64 r2)]))) ?_
 refine At.b 0 (fun _ e=>aM [] (pN e)) fun r3=>?_
 refine At.o 0 (bQ hT (x:=(.sl 1 2 [(j64 r1),(j64 r3)]))) ?_
 refine At.b 0 (fun _ e=>aM [] (aDa e)) fun r4=>?_
 refine At.b 0 (fun _ e=>aM [] (aBv e)) fun r5=>?_
 apply rt;exact At.r 1
def aD3 : Nat→Bool:=imL [2]
def oO (N:Nat) (a0:aA):Option ((Vector Int 3)):=
 Option.bind (qQ N a0.gX) fun r1=>
 Option.bind (qQ N a0.gY) fun r2=>
 Option.bind (qQ N a0.gZ) fun r3=>
 some (#v[r1,r2,r3])
theorem aDX {N a0 r} (h:oO N a0=some r):FnM Tryz.prog 110 [] [(aA.enc a0),(.fn (.func 40) [] [])] (eA 3 1 j64 r) []:=by
 unfold oO at h
 refine At.f aD3 hT hmo Tryz.func110 rfl h ?_
 refine bi fun r1 hr1=>?_
 refine bi fun r2 hr2=>?_
 refine bi fun r3 hr3=>?_
 refine At.d 2 (dE2 3 (j64 r1) (fun _=>aO (zP hr1)) (dE2 7 (j64 r2) (fun _=>aO (zP hr2)) (dE2 11 (j64 r3) (fun _=>aO (zP hr3)) dE0))) dF0 ?_
 apply rt;exact At.r 0
def wU (N:Nat) (a0:Int):Option (Int):=
 Option.bind (sD N a0) fun r1=>
 some (fD (jH r1 0) 65535)
theorem aFH {N a0 r} (h:wU N a0=some r):FnM Tryz.prog 41 [] [(j64 a0)] (j64 r) []:=by
 unfold wU at h
 refine At.f cQ hT hmo Tryz.func41 rfl h ?_
 refine At.b 2 (fun _ e=>aM [] (aBv e)) fun r1=>?_
 apply rt;exact At.r 3
def aJo : Nat→Bool:=imL [3]
def oF (N:Nat) (a0:(List aG)):Nat→aA→aA→Int→Int→Int→Int→Int→Option (aA×aA×Int×Int×Int×Int)
 | 0,_,_,_,_,_,_,_=>none
 | k+1,s3,s4,s5,s6,s7,s8,s9=>
  aT (decide (s9 < ((a0.length:Int)))) fun x10=>
  cond x10 (
   Option.bind (Option.bind (idx a0 s9) fun e12=>
   Option.bind (kP N ([s3,e12.gA4])) fun r13=>
   Option.bind (kP N ([s4,e12.gB9])) fun r14=>
   Option.bind (jS N ([s5,e12.gM])) fun r15=>
   cond (decide (e12.gA0≥0)) (
    cond (decide (s8 < 0)) (
     some ((r13,r14,e12,r15,I64 (s6+e12.gA8),I64 (s7+1),e12.gA0))) (
     some ((r13,r14,e12,r15,I64 (s6+e12.gA8),I64 (s7+1),s8)))) (
    some ((r13,r14,e12,r15,I64 (s6+e12.gA8),s7,s8)))) fun p11=>
   oF N a0 k p11.1 p11.2.1 p11.2.2.2.1 p11.2.2.2.2.1 p11.2.2.2.2.2.1 p11.2.2.2.2.2.2 (I64 (s9+1))) (
   some ((s3,s4,s5,s6,s7,s8)))
def oR (N:Nat) (a0:(List aG)) (a1:aE):Option (bT×Int):=
 Option.bind (xF N a0 a1) fun r1=>
 cond (r1 != 0) (
  some ((bT.mk 0 0 [] [] [] [] [] [],r1))) (
  Option.bind (oF N a0 N (aA.mk 0 0 0) (aA.mk 0 0 0) 0 0 0 (-1) 0) fun p2=>
  Option.bind (iF N ((a0.length:Int))) fun r16=>
  Option.bind (iN N 4294967296 r16) fun r17=>
  Option.bind (fE N p2.1 r17) fun r18=>
  Option.bind (pC N r18) fun r19=>
  aT (I64 (65535*p2.2.2.2.1)) fun x20=>
  Option.bind (aHo .i64 x20 ((a0.length:Int))) fun x21=>
  Option.bind (aAP N p2.2.1) fun r22=>
  Option.bind (oO N r22) fun r23=>
  Option.bind (aT (decide (p2.2.2.2.2.1 > 0)) fun x25=>
  cond x25 (
   Option.bind (iF N p2.2.2.2.2.1) fun r26=>
   Option.bind (iN N p2.2.2.1 r26) fun r27=>
   Option.bind (wU N r27) fun r28=>
   Option.bind (eY 0 1) fun _=>
   Option.bind ((([0]:List Int))[(Int.toNat 0)]?) fun e30=>
   aT (fD (I64 (p2.2.2.2.2.2+1)) 65535) fun x31=>
   Option.bind (idx a1.gA5 p2.2.2.2.2.2) fun e32=>
   aT (I64 (iK .u32 e32 65535)) fun x33=>
   Option.bind (eY 0 1) fun _=>
   Option.bind ((([0]:List Int))[(Int.toNat 0)]?) fun e35=>
   Option.bind (eY 0 1) fun _=>
   Option.bind ((([0]:List Int))[(Int.toNat 0)]?) fun e37=>
   some (((([0]:List Int)).set ((Int.toNat 0)) r28,(([0]:List Int)).set ((Int.toNat 0)) x31,(([0]:List Int)).set ((Int.toNat 0)) x33))) (
   some ((([0]:List Int),([0]:List Int),([0]:List Int))))) fun p24=>
  Option.bind (aAA p24.1 1) fun _=>
  Option.bind (aAA p24.2.1 1) fun _=>
  Option.bind (aAA p24.2.2 1) fun _=>
  some ((bT.mk 1 1 ([r19]) ([x21]) p24.1 ([r23]) p24.2.1 p24.2.2,0)))
theorem aC5 {N a0 a1 r} (h:oR N a0 a1=some r):FnM Tryz.prog 48 [] [(eL 9 aG.enc a0),(aE.enc a1)] (.tup [(bT.enc r.1),(j64 r.2)]) []:=by
 unfold oR at h
 refine At.f aJo hT hmo Tryz.func48 rfl h ?_
 refine At.b 5 (fun _ e=>aM [] (aKx e)) fun r1=>?_
 refine At.c 3 ?_ ?_
 ·apply rt;exact At.r 4
 ·refine At.L 9 [0,3,4,7,8] 3 (fun p2=>([(9,(j64 p2.2.2.1)),(10,(j64 p2.2.2.2.1)),(11,(j64 p2.2.2.2.2.1)),(12,(j64 p2.2.2.2.2.2))],[(1,.var (aA.enc p2.1)),(2,.var (aA.enc p2.2.1))],[])) (fun p2 J k=>∃ s3 s4 s5 s6 s7 s8 s9,oF N a0 k s3 s4 s5 s6 s7 s8 s9=some p2∧J [0,3,4,7,8,24,25] 3 [(9,(j64 s5)),(10,(j64 s6)),(11,(j64 s7)),(12,(j64 s8)),(26,(j64 s9))] [(1,.var (aA.enc s3)),(2,.var (aA.enc s4))] []) N (fun _ h=>⟨_,_,_,_,_,_,_,h,jr⟩) (fun p2 k s hI=>?_) fun p2=>?_
  ·obtain ⟨s3,s4,s5,s6,s7,s8,s9,h,hj⟩:=hI
   cases k with
   | zero=>cases h
   | succ k=>
    refine At.jr hj ?_ h
    refine lx ?_;intro x10
    refine At.c 1 ?_ ?_
    ·refine At.J 0 2 [0,3,4,7,8,24,25,26] 3 (fun p11=>([(9,(j64 p11.2.2.2.1)),(10,(j64 p11.2.2.2.2.1)),(11,(j64 p11.2.2.2.2.2.1)),(12,(j64 p11.2.2.2.2.2.2))],[(1,.var (aA.enc p11.1)),(2,.var (aA.enc p11.2.1))],[.var (aG.enc p11.2.2.1)])) (fun p11=>?_) fun p11=>?_
     ·refine At.b 0 (fun _ e=>bF hT aG.enc e) fun e12=>?_
      refine bi fun r13 hr13=>?_
      refine bi fun r14 hr14=>?_
      refine bi fun r15 hr15=>?_
      refine At.d 3 (dE1 3 (fun _=>bQ hT (x:=(.sl 3 2 [(aA.enc s3),(aA.enc e12.gA4)]))) (dE2 4 (aA.enc r13) (fun _=>aO (rZ hr13)) (dE1 8 (fun _=>bQ hT (x:=(.sl 3 2 [(aA.enc s4),(aA.enc e12.gB9)]))) (dE2 9 (aA.enc r14) (fun _=>aO (rZ hr14)) (dE1 13 (fun _=>bQ hT (x:=(.sl 1 2 [(j64 s5),(j64 e12.gM)]))) (dE2 14 (j64 r15) (fun _=>aO (pN hr15)) dE0)))))) dF0 ?_
      refine At.c 8 ?_ ?_
      ·refine At.c 5 ?_ ?_
       ·apply rt;exact At.jn 3
       ·apply rt;exact At.jn 0
      ·apply rt;exact At.jn 0
     ·exact fun h=>At.k 2 ⟨_,_,_,_,_,_,_,h,jr⟩
    ·apply rt;exact At.x 0
  ·refine At.b 2 (fun _ e=>aM [] (iQ e)) fun r16=>?_
   refine At.b 0 (fun _ e=>aM [] (lK e)) fun r17=>?_
   refine bi fun r18 hr18=>?_
   refine bi fun r19 hr19=>?_
   refine lx ?_;intro x20
   refine bi fun x21 hx21=>?_
   refine bi fun r22 hr22=>?_
   refine bi fun r23 hr23=>?_
   refine At.d2 1 [false,false,false,false] (dC2 2 (aA.enc r18) (fun _=>aO (jG hr18)) (dC2 3 (eA 3 1 j64 r19) (fun _=>aO (aDg hr19)) (dC1 4 (fun _=>bQ hT (x:=(.sl 3 1 [(eA 3 1 j64 r19)]))) (dC1 9 (fun _=>aCo hT hx21 (by kernel_rfl) (by kernel_rfl)) (dC1 10 (fun _=>bQ hT (x:=(.sl 1 1 [(j64 x21)]))) (dC2 13 (aA.enc r22) (fun _=>aO (aKB hr22)) (dC2 14 (eA 3 1 j64 r23) (fun _=>aO (aDX hr23)) (dC1 15 (fun _=>bQ hT (x:=(.sl 3 1 [(eA 3 1 j64 r23)]))) dC0)))))))) (dS1 11 ⟨(.bsl 3 [] 0 1 0 1),3,.var (.arr 1 1 (List.map j64 (([0]:List Int)))),.dead⟩ [[.var oB,.var (aA.enc p2.1),.var (aA.enc p2.2.1),.dead,.dead,.dead,.dead],[.var oB,.var (aA.enc p2.1),.var (aA.enc p2.2.1),.dead,.dead,.dead,.var oB],[.var oB,.var (aA.enc p2.1),.var (aA.enc p2.2.1),.dead,.dead,.var (.arr 1 1 (List.map j64 (([0]:List Int)))),.dead],[.var oB,.var (aA.enc p2.1),.var (aA.enc p2.2.1),.dead,.dead,.var (.arr 1 1 (List.map j64 (([0]:List Int)))),.var oB],[.var oB,.var (aA.enc p2.1),.var (aA.enc p2.2.1),.dead,.var (.arr 1 1 (List.map j64 (([0]:List Int)))),.dead,.dead],[.var oB,.var (aA.enc p2.1),.var (aA.enc p2.2.1),.dead,.var (.arr 1 1 (List.map j64 (([0]:List Int)))),.dead,.var oB],[.var oB,.var (aA.enc p2.1),.var (aA.enc p2.2.1),.dead,.var (.arr 1 1 (List.map j64 (([0]:List Int)))),.var (.arr 1 1 (List.map j64 (([0]:List Int)))),.dead],[.var oB,.var (aA.enc p2.1),.var (aA.enc p2.2.1),.dead,.var (.arr 1 1 (List.map j64 (([0]:List Int)))),.var (.arr 1 1 (List.map j64 (([0]:List Int)))),.var oB]] ⟨eQ hT 3 j64 (k:=1) (N:=1) ([0]:List Int) (by kernel_rfl) (by kernel_rfl) rfl (by kernel_rfl),eQ hT 3 j64 (k:=1) (N:=1) ([0]:List Int) (by kernel_rfl) (by kernel_rfl) rfl (by kernel_rfl),eQ hT 3 j64 (k:=1) (N:=1) ([0]:List Int) (by kernel_rfl) (by kernel_rfl) rfl (by kernel_rfl),eQ hT 3 j64 (k:=1) (N:=1) ([0]:List Int) (by kernel_rfl) (by kernel_rfl) rfl (by kernel_rfl),eQ hT 3 j64 (k:=1) (N:=1) ([0]:List Int) (by kernel_rfl) (by kernel_rfl) rfl (by kernel_rfl),eQ hT 3 j64 (k:=1) (N:=1) ([0]:List Int) (by kernel_rfl) (by kernel_rfl) rfl (by kernel_rfl),eQ hT 3 j64 (k:=1) (N:=1) ([0]:List Int) (by kernel_rfl) (by kernel_rfl) rfl (by kernel_rfl),eQ hT 3 j64 (k:=1) (N:=1) ([0]:List Int) (by kernel_rfl) (by kernel_rfl) rfl (by kernel_rfl),trivial⟩ (dS1 16 ⟨(.bsl 4 [] 0 1 0 1),4,.var (.arr 1 1 (List.map j64 (([0]:List Int)))),.dead⟩ [[.var oB,.var (aA.enc p2.1),.var (aA.enc p2.2.1),.dead,.dead,.dead,.dead],[.var oB,.var (aA.enc p2.1),.var (aA.enc p2.2.1),.dead,.dead,.dead,.var oB],[.var oB,.var (aA.enc p2.1),.var (aA.enc p2.2.1),.dead,.dead,.var (.arr 1 1 (List.map j64 (([0]:List Int)))),.dead],[.var oB,.var (aA.enc p2.1),.var (aA.enc p2.2.1),.dead,.dead,.var (.arr 1 1 (List.map j64 (([0]:List Int)))),.var oB],[.var oB,.var (aA.enc p2.1),.var (aA.enc p2.2.1),.var (.arr 1 1 (List.map j64 (([0]:List Int)))),.dead,.dead,.dead],[.var oB,.var (aA.enc p2.1),.var (aA.enc p2.2.1),.var (.arr 1 1 (List.map j64 (([0]:List Int)))),.dead,.dead,.var oB],[.var oB,.var (aA.enc p2.1),.var (aA.enc p2.2.1),.var (.arr 1 1 (List.map j64 (([0]:List Int)))),.dead,.var (.arr 1 1 (List.map j64 (([0]:List Int)))),.dead],[.var oB,.var (aA.enc p2.1),.var (aA.enc p2.2.1),.var (.arr 1 1 (List.map j64 (([0]:List Int)))),.dead,.var (.arr 1 1 (List.map j64 (([0]:List Int)))),.var oB]] ⟨eQ hT 4 j64 (k:=1) (N:=1) ([0]:List Int) (by kernel_rfl) (by kernel_rfl) rfl (by kernel_rfl),eQ hT 4 j64 (k:=1) (N:=1) ([0]:List Int) (by kernel_rfl) (by kernel_rfl) rfl (by kernel_rfl),eQ hT 4 j64 (k:=1) (N:=1) ([0]:List Int) (by kernel_rfl) (by kernel_rfl) rfl (by kernel_rfl),eQ hT 4 j64 (k:=1) (N:=1) ([0]:List Int) (by kernel_rfl) (by kernel_rfl) rfl (by kernel_rfl),eQ hT 4 j64 (k:=1) (N:=1) ([0]:List Int) (by kernel_rfl) (by kernel_rfl) rfl (by kernel_rfl),eQ hT 4 j64 (k:=1) (N:=1) ([0]:List Int) (by kernel_rfl) (by kernel_rfl) rfl (by kernel_rfl),eQ hT 4 j64 (k:=1) (N:=1) ([0]:List Int) (by kernel_rfl) (by kernel_rfl) rfl (by kernel_rfl),eQ hT 4 j64 (k:=1) (N:=1) ([0]:List Int) (by kernel_rfl) (by kernel_rfl) rfl (by kernel_rfl),trivial⟩ (dS1 17 ⟨(.bsl 5 [] 0 1 0 1),5,.var (.arr 1 1 (List.map j64 (([0]:List Int)))),.dead⟩ [[.var oB,.var (aA.enc p2.1),.var (aA.enc p2.2.1),.dead,.dead,.dead,.dead],[.var oB,.var (aA.enc p2.1),.var (aA.enc p2.2.1),.dead,.dead,.dead,.var oB],[.var oB,.var (aA.enc p2.1),.var (aA.enc p2.2.1),.dead,.var (.arr 1 1 (List.map j64 (([0]:List Int)))),.dead,.dead],[.var oB,.var (aA.enc p2.1),.var (aA.enc p2.2.1),.dead,.var (.arr 1 1 (List.map j64 (([0]:List Int)))),.dead,.var oB],[.var oB,.var (aA.enc p2.1),.var (aA.enc p2.2.1),.var (.arr 1 1 (List.map j64 (([0]:List Int)))),.dead,.dead,.dead],[.var oB,.var (aA.enc p2.1),.var (aA.enc p2.2.1),.var (.arr 1 1 (List.map j64 (([0]:List Int)))),.dead,.dead,.var oB],[.var oB,.var (aA.enc p2.1),.var (aA.enc p2.2.1),.var (.arr 1 1 (List.map j64 (([0]:List Int)))),.var (.arr 1 1 (List.map j64 (([0]:List Int)))),.dead,.dead],[.var oB,.var (aA.enc p2.1),.var (aA.enc p2.2.1),.var (.arr 1 1 (List.map j64 (([0]:List Int)))),.var (.arr 1 1 (List.map j64 (([0]:List Int)))),.dead,.var oB]] ⟨eQ hT 5 j64 (k:=1) (N:=1) ([0]:List Int) (by kernel_rfl) (by kernel_rfl) rfl (by kernel_rfl),eQ hT 5 j64 (k:=1) (N:=1) ([0]:List Int) (by kernel_rfl) (by kernel_rfl) rfl (by kernel_rfl),eQ hT 5 j64 (k:=1) (N:=1) ([0]:List Int) (by kernel_rfl) (by kernel_rfl) rfl (by kernel_rfl),eQ hT 5 j64 (k:=1) (N:=1) ([0]:List Int) (by kernel_rfl) (by kernel_rfl) rfl (by kernel_rfl),eQ hT 5 j64 (k:=1) (N:=1) ([0]:List Int) (by kernel_rfl) (by kernel_rfl) rfl (by kernel_rfl),eQ hT 5 j64 (k:=1) (N:=1) ([0]:List Int) (by kernel_rfl) (by kernel_rfl) rfl (by kernel_rfl),eQ hT 5 j64 (k:=1) (N:=1) ([0]:List Int) (by kernel_rfl) (by kernel_rfl) rfl (by kernel_rfl),eQ hT 5 j64 (k:=1) (N:=1) ([0]:List Int) (by kernel_rfl) (by kernel_rfl) rfl (by kernel_rfl),trivial⟩ (dS1 19 ⟨(.ref 6 [] 0),6,.var oB,.dead⟩ [[.var oB,.var (aA.enc p2.1),.var (aA.enc p2.2.1),.dead,.dead,.dead,.dead],[.var oB,.var (aA.enc p2.1),.var (aA.enc p2.2.1),.dead,.dead,.var (.arr 1 1 (List.map j64 (([0]:List Int)))),.dead],[.var oB,.var (aA.enc p2.1),.var (aA.enc p2.2.1),.dead,.var (.arr 1 1 (List.map j64 (([0]:List Int)))),.dead,.dead],[.var oB,.var (aA.enc p2.1),.var (aA.enc p2.2.1),.dead,.var (.arr 1 1 (List.map j64 (([0]:List Int)))),.var (.arr 1 1 (List.map j64 (([0]:List Int)))),.dead],[.var oB,.var (aA.enc p2.1),.var (aA.enc p2.2.1),.var (.arr 1 1 (List.map j64 (([0]:List Int)))),.dead,.dead,.dead],[.var oB,.var (aA.enc p2.1),.var (aA.enc p2.2.1),.var (.arr 1 1 (List.map j64 (([0]:List Int)))),.dead,.var (.arr 1 1 (List.map j64 (([0]:List Int)))),.dead],[.var oB,.var (aA.enc p2.1),.var (aA.enc p2.2.1),.var (.arr 1 1 (List.map j64 (([0]:List Int)))),.var (.arr 1 1 (List.map j64 (([0]:List Int)))),.dead,.dead],[.var oB,.var (aA.enc p2.1),.var (aA.enc p2.2.1),.var (.arr 1 1 (List.map j64 (([0]:List Int)))),.var (.arr 1 1 (List.map j64 (([0]:List Int)))),.var (.arr 1 1 (List.map j64 (([0]:List Int)))),.dead]] ⟨aW hT 6 (by kernel_rfl) (by kernel_rfl) (by kernel_rfl),aW hT 6 (by kernel_rfl) (by kernel_rfl) (by kernel_rfl),aW hT 6 (by kernel_rfl) (by kernel_rfl) (by kernel_rfl),aW hT 6 (by kernel_rfl) (by kernel_rfl) (by kernel_rfl),aW hT 6 (by kernel_rfl) (by kernel_rfl) (by kernel_rfl),aW hT 6 (by kernel_rfl) (by kernel_rfl) (by kernel_rfl),aW hT 6 (by kernel_rfl) (by kernel_rfl) (by kernel_rfl),aW hT 6 (by kernel_rfl) (by kernel_rfl) (by kernel_rfl),trivial⟩ dS0)))) ?_
   refine At.J 0 1 [4,16] 7 (fun p24=>([],[(3,.var (.arr 1 1 (List.map j64 p24.1))),(4,.var (.arr 1 1 (List.map j64 p24.2.1))),(5,.var (.arr 1 1 (List.map j64 p24.2.2)))],[])) (fun p24=>?_) fun p24=>?_
   ·refine lx ?_;intro x25
    refine At.c 2 ?_ ?_
    ·refine bi fun r26 hr26=>?_
     refine bi fun r27 hr27=>?_
     refine bi fun r28 hr28=>?_
     refine bi fun u29 hu29=>?_
     refine bi fun e30 he30=>?_
     refine At.d 0 (dE2 4 (j64 r26) (fun _=>aO (iQ hr26)) (dE2 5 (j64 r27) (fun _=>aO (lK hr27)) (dE2 6 (j64 r28) (fun _=>aO (aFH hr28)) (dE1 7 (fun _=>aF2 hT 3 [] 0 0 1 (k:=1) hu29 (by kernel_rfl) (by kernel_rfl)) dE0)))) (dF 8 (.v (.bool false)) [(3,.var (.arr 1 1 (List.map j64 ((([0]:List Int)).set ((Int.toNat 0)) r28))))] [] (bG (aGG hT j64 0 he30 r28 (by kernel_rfl) (by kernel_rfl) (by kernel_rfl))) dF0) ?_
     refine lx ?_;intro x31
     refine bi fun e32 he32=>?_
     refine lx ?_;intro x33
     refine bi fun u34 hu34=>?_
     refine bi fun e35 he35=>?_
     refine bi fun u36 hu36=>?_
     refine bi fun e37 he37=>?_
     refine At.d 0 (dE1 10 (fun _=>bF hT k32 he32) (dE1 14 (fun _=>aF2 hT 4 [] 0 0 1 (k:=1) hu34 (by kernel_rfl) (by kernel_rfl)) (dE1 16 (fun _=>aF2 hT 5 [] 0 0 1 (k:=1) hu36 (by kernel_rfl) (by kernel_rfl)) dE0))) (dF 15 (.v (.bool false)) [(4,.var (.arr 1 1 (List.map j64 ((([0]:List Int)).set ((Int.toNat 0)) x31))))] [] (bG (aGG hT j64 0 he35 x31 (by kernel_rfl) (by kernel_rfl) (by kernel_rfl))) (dF 17 (.v (.bool false)) [(5,.var (.arr 1 1 (List.map j64 ((([0]:List Int)).set ((Int.toNat 0)) x33))))] [] (bG (aGG hT j64 0 he37 x33 (by kernel_rfl) (by kernel_rfl) (by kernel_rfl))) dF0)) ?_
     apply rt;exact At.jn 0
    ·apply rt;exact At.jn 0
   ·refine bi fun u38 hu38=>?_
    refine At.fz 3 3 1 1 _ (List.map j64 p24.1) (List.length_map _) (lenM j64 hu38) ?_
    refine bi fun u39 hu39=>?_
    refine At.fz 0 4 1 1 _ (List.map j64 p24.2.1) (List.length_map _) (lenM j64 hu39) ?_
    refine bi fun u40 hu40=>?_
    refine At.fz 0 5 1 1 _ (List.map j64 p24.2.2) (List.length_map _) (lenM j64 hu40) ?_
    apply rt;exact At.r 0
def rT (N:Nat) (a0:aJ):Option (Int):=
 Option.bind (iH N a0) fun r1=>
 cond r1 (some 0) (some a0.gD4.gn)
theorem aBd {N a0 r} (h:rT N a0=some r):FnM Tryz.prog 366 [.var (aJ.enc a0)] [(.ref 0 [] 0)] (j64 r) [.var (aJ.enc a0)]:=by
 unfold rT at h
 refine At.f cQ hT hmo Tryz.func366 rfl h ?_
 refine At.b 2 (fun _ e=>aM [0] (rQ e)) fun r1=>?_
 refine At.c 0 ?_ ?_
 ·apply rt;exact At.r 1
 ·apply rt;exact At.r 6
def jD (N:Nat) (b2:(List (List aD))) (a1:aE) (a2:aI) (a3:aA) (a4:aH) (a5:aJ):Option (aH):=
 Option.bind (rT N a5) fun r1=>
 some (aH.mk r1 a4.gN a4.gF)
theorem aAW {N b2 a1 a2 a3 a4 a5 r} (h:jD N b2 a1 a2 a3 a4 a5=some r):FnM Tryz.prog 49 [.var (.st 38 [(aE.enc a1),(aI.enc a2),(.ifc 178 (.ref 1 [] 0)),(eO 2 1 (eL 2 aD.enc) b2),(aA.enc a3),(aH.enc a4)]),.var (aJ.enc a5),.tail (b2.length*1)] [(.ref 0 [] 0)] (aH.enc r) [.var (.st 38 [(aE.enc a1),(aI.enc a2),(.ifc 178 (.ref 1 [] 0)),(eO 2 1 (eL 2 aD.enc) b2),(aA.enc a3),(aH.enc a4)]),.var (aJ.enc a5),.tail (b2.length*1)]:=by
 unfold jD at h
 refine At.f cQ hT hmo Tryz.func49 rfl h ?_
 refine At.o 2 (aBl hT (t:=62) (x:=(.ref 0 [] 0)) (b:=true) (by kernel_rfl) rfl rfl (by kernel_rfl)) ?_
 refine At.g [6] 5 ?_
 refine At.o 0 (aGH (t:=172) (u:=178) (x:=(.ref 1 [] 0)) (by kernel_rfl) rfl rfl .eql false (by decide) (by kernel_rfl)) ?_
 refine At.g [6] 12 ?_
 refine At.b 0 (fun _ e=>aM [1] (aBd e)) fun r1=>?_
 apply rt;exact At.r 4
def dM (N:Nat) (b4:(List (List aD))) (a1:Int) (a2:aK) (a3 a4:aA) (a5:Int) (a6:Bool) (a7:aG) (a8:aE) (a9:aI) (a10:aA) (a11:aH) (a12:aB) (a13:aL):Option (aU×Int):=
 Option.bind (fP N a5 a1 a12) fun r1=>
 some ((r1.1,r1.2))
theorem cS {N b4 a1 a2 a3 a4 a5 a6 a7 a8 a9 a10 a11 a12 a13 r} (h:dM N b4 a1 a2 a3 a4 a5 a6 a7 a8 a9 a10 a11 a12 a13=some r):FnM Tryz.prog 105 [.var (.st 26 [(aK.enc a2),(.ref 1 [] 0),(.ref 2 [] 0),(aA.enc a3),(aA.enc a4),(j64 a5),(eB a6),(aG.enc a7)]),.var (.st 38 [(aE.enc a8),(aI.enc a9),(.ifc 181 (.ref 3 [] 0)),(eO 4 1 (eL 2 aD.enc) b4),(aA.enc a10),(aH.enc a11)]),.var (aB.enc a12),.var (aL.enc a13),.tail (b4.length*1)] [(.ref 0 [] 0),(j64 a1)] (k32 r.2) [.var (.st 26 [(aK.enc a2),(.ref 1 [] 0),(.ref 2 [] 0),(aA.enc a3),(aA.enc a4),(j64 a5),(eB a6),(aG.enc a7)]),.var (.st 38 [(aE.enc a8),(aI.enc a9),(.ifc 181 (.ref 3 [] 0)),(eO 4 1 (eL 2 aD.enc) b4),(aA.enc a10),(aH.enc a11)]),.var (.st 72 [(aU.enc r.1),(eB a12.gA),(k64 a12.gC),(j64 a12.gB),(j64 a12.gD)]),.var (aL.enc a13),.tail (b4.length*1)]:=by
 unfold dM at h
 refine At.f cQ hT hmo Tryz.func105 rfl h ?_
 refine bi fun r1 hr1=>?_
 refine At.d 1 dE0 (dF 9 (k32 r1.2) [(2,.var (.st 72 [(aU.enc r1.1),(eB a12.gA),(k64 a12.gC),(j64 a12.gB),(j64 a12.gD)]))] [] (bG (aM [2] (tY hr1))) dF0) ?_
 apply rt;exact At.r 0
def jN (N:Nat) (a0:aL):Option (Bool):=
 some (!a0.gA)
theorem uE {N a0 r} (h:jN N a0=some r):FnM Tryz.prog 379 [.var (aL.enc a0)] [(.ref 0 [] 0)] (eB r) [.var (aL.enc a0)]:=by
 unfold jN at h
 refine At.f cQ hT hmo Tryz.func379 rfl h ?_
 refine At.o 2 (aBl hT (t:=181) (x:=(.ref 0 [] 0)) (b:=true) (by kernel_rfl) rfl rfl (by kernel_rfl)) ?_
 refine At.g [5] 8 ?_
 apply rt;exact At.r 0
def aDq : Nat→Bool:=imL [2,3]
def fB (N:Nat) (a0 a1:bB):Option (Bool):=
 Option.bind (iI N a0.gn a1.gd) fun r1=>
 Option.bind (iI N a1.gn a0.gd) fun r2=>
 Option.bind (sJ N r1 r2) fun r3=>
 some (decide (r3 < 0))
theorem lH {N a0 a1 r} (h:fB N a0 a1=some r):FnM Tryz.prog 382 [] [(bB.enc a0),(bB.enc a1)] (eB r) []:=by
 unfold fB at h
 refine At.f aDq hT hmo Tryz.func382 rfl h ?_
 refine bi fun r1 hr1=>?_
 refine bi fun r2 hr2=>?_
 refine bi fun r3 hr3=>?_
 refine At.d 3 (dE2 4 (aQ.enc r1) (fun _=>aO (kU hr1)) (dE2 9 (aQ.enc r2) (fun _=>aO (kU hr2)) (dE2 10 (j64 r3) (fun _=>aO (aAi hr3)) dE0))) dF0 ?_
 apply rt;exact At.r 0
def aKT : Nat→Bool:=imL [4,5,6,7]
def qH (N:Nat) (a0 a1 a2 a3:aC):Nat→bB→bB→Bool→Int→Option (Sum (bB×bB×Bool) (bB×Bool))
 | 0,_,_,_,_=>none
 | k+1,s2,s3,s4,s5=>
  cond (decide (s5 < 3)) (
   Option.bind (Option.bind (idx (#v[#v[a0.gX,a1.gX,a2.gX,a3.gX],#v[a0.gY,a1.gY,a2.gY,a3.gY],#v[a0.gZ,a1.gZ,a2.gZ,a3.gZ]]).toList s5) fun e7=>
   Option.bind (eY 0 4) fun _=>
   Option.bind (e7.toList[(Int.toNat 0)]?) fun e9=>
   Option.bind (eY 2 4) fun _=>
   Option.bind (e7.toList[(Int.toNat 2)]?) fun e11=>
   Option.bind (eY 1 4) fun _=>
   Option.bind (e7.toList[(Int.toNat 1)]?) fun e13=>
   Option.bind (eY 2 4) fun _=>
   Option.bind (e7.toList[(Int.toNat 2)]?) fun e15=>
   Option.bind (eY 3 4) fun _=>
   Option.bind (e7.toList[(Int.toNat 3)]?) fun e17=>
   aT (decide ((I64 (e9 - e11)) > (I64 (e13 - e15)))) fun x18=>
   cond x18 (
    some (Sum.inr ((s2,false)))) (
    Option.bind (cond (e17==0) (
     aT (decide ((I64 (e9 - e11)) > 0)) fun x20=>
     aT (decide ((I64 (e13 - e15)) < 0)) fun x21=>
     some (cond x20 true x21)) (
     some false)) fun p19=>
    cond p19 (
     some (Sum.inr ((s2,false)))) (
     cond (e17==0) (
      some (Sum.inl ((s2,s3,e7,s4)))) (
      cond (decide (e17 < 0)) (
       aT (I64 (0 - (I64 (e13 - e15)))) fun x22=>
       aT (I64 (0 - (I64 (e9 - e11)))) fun x23=>
       Option.bind (Option.bind (fB N s2 (bB.mk x22 (I64 (0 - e17)))) fun r25=>
       cond r25 (some (bB.mk x22 (I64 (0 - e17)))) (some s2)) fun p24=>
       Option.bind (cond (!s4) (
        some true) (
        Option.bind (fB N (bB.mk x23 (I64 (0 - e17))) s3) fun r27=>
        some r27)) fun p26=>
       cond p26 (
        some (Sum.inl ((p24,bB.mk x23 (I64 (0 - e17)),e7,true)))) (
        some (Sum.inl ((p24,s3,e7,s4))))) (
       Option.bind (Option.bind (fB N s2 (bB.mk (I64 (e9 - e11)) e17)) fun r29=>
       cond r29 (some (bB.mk (I64 (e9 - e11)) e17)) (some s2)) fun p28=>
       Option.bind (cond (!s4) (
        some true) (
        Option.bind (fB N (bB.mk (I64 (e13 - e15)) e17) s3) fun r31=>
        some r31)) fun p30=>
       cond p30 (
        some (Sum.inl ((p28,bB.mk (I64 (e13 - e15)) e17,e7,true)))) (
        some (Sum.inl ((p28,s3,e7,s4))))))))) fun o=>nS o (fun p6=>
    qH N a0 a1 a2 a3 k p6.1 p6.2.1 p6.2.2.2 (I64 (s5+1))) (fun r=>some (Sum.inr r))) (
   some (Sum.inl ((s2,s3,s4))))
def vG (N:Nat) (a0 a1 a2 a3:aC):Option (bB×Bool):=
 Option.bind (qH N a0 a1 a2 a3 N (bB.mk 0 1) (bB.mk 0 0) false 0) fun o=>nS o (fun p1=>
  Option.bind (cond (!p1.2.2) (
   some true) (
   Option.bind (fB N p1.2.1 p1.1) fun r33=>
   some (!r33))) fun p32=>
  some ((p1.1,p32))) (fun r=>some r)
theorem aEY {N a0 a1 a2 a3 r} (h:vG N a0 a1 a2 a3=some r):FnM Tryz.prog 380 [] [(aC.enc a0),(aC.enc a1),(aC.enc a2),(aC.enc a3)] (.tup [(bB.enc r.1),(eB r.2)]) []:=by
 unfold vG at h
 refine At.f aKT hT hmo Tryz.func380 rfl h ?_
 refine At.LS 41 [8,10] 2 (fun p1=>([(11,(eB p1.2.2))],[(0,.var (bB.enc p1.1)),(1,.var (bB.enc p1.2.1))],[])) (fun op1 J k=>∃ s2 s3 s4 s5,qH N a0 a1 a2 a3 k s2 s3 s4 s5=some op1∧J [8,10,48] 2 [(11,(eB s4)),(49,(j64 s5))] [(0,.var (bB.enc s2)),(1,.var (bB.enc s3))] []) N (fun _ h=>⟨_,_,_,_,h,jr⟩) (fun op1 g1 k s hI=>?_) fun p1=>?_
 ·obtain ⟨s2,s3,s4,s5,h,hj⟩:=hI
  cases k with
  | zero=>cases h
  | succ k=>
   refine At.jr hj ?_ h
   refine At.c 1 ?_ ?_
   ·refine At.JS 0 2 [8,10,48,49] 2 (fun p6=>([(11,(eB p6.2.2.2))],[(0,.var (bB.enc p6.1)),(1,.var (bB.enc p6.2.1))],[.var (eA 4 1 j64 p6.2.2.1)])) (fun op6 g6=>?_) fun p6=>?_
    ·refine At.b 0 (fun _ e=>aAc hT (eA 4 1 j64) (#v[#v[a0.gX,a1.gX,a2.gX,a3.gX],#v[a0.gY,a1.gY,a2.gY,a3.gY],#v[a0.gZ,a1.gZ,a2.gZ,a3.gZ]]) e (by kernel_rfl) (by kernel_rfl)) fun e7=>?_
     refine bi fun u8 hu8=>?_
     refine bi fun e9 he9=>?_
     refine bi fun u10 hu10=>?_
     refine bi fun e11 he11=>?_
     refine bi fun u12 hu12=>?_
     refine bi fun e13 he13=>?_
     refine bi fun u14 hu14=>?_
     refine bi fun e15 he15=>?_
     refine bi fun u16 hu16=>?_
     refine bi fun e17 he17=>?_
     refine At.d 2 (dE1 0 (fun _=>bH hT (k:=1) 2 [] 0 hu8) (dEL hT 1 (j64 e9) j64 0 he9 (dE1 2 (fun _=>bH hT (k:=1) 2 [] 0 hu10) (dEL hT 3 (j64 e11) j64 0 he11 (dE1 5 (fun _=>bH hT (k:=1) 2 [] 0 hu12) (dEL hT 6 (j64 e13) j64 0 he13 (dE1 7 (fun _=>bH hT (k:=1) 2 [] 0 hu14) (dEL hT 8 (j64 e15) j64 0 he15 (dE1 10 (fun _=>bH hT (k:=1) 2 [] 0 hu16) (dEL hT 11 (j64 e17) j64 0 he17 dE0)))))))))) dF0 ?_
     refine lx ?_;intro x18
     refine At.c 4 ?_ ?_
     ·intro e;apply rtS2 g6 g1 e;exact At.r 3
     ·refine At.J 0 0 [8,10,11,14,15,16,48,49] 3 (fun p19=>([(69,(eB p19))],[],[])) (fun p19=>?_) fun p19=>?_
      ·refine At.s 72 3 ?_ ?_
       ·refine lx ?_;intro x20
        refine lx ?_;intro x21
        refine At.g [72] 8 ?_
        apply rt;exact At.jn 0
       ·refine At.g [72,75] 8 ?_
        apply rt;exact At.jn 0
      ·refine At.c 0 ?_ ?_
       ·intro e;apply rtS2 g6 g1 e;exact At.r 3
       ·refine At.c 3 ?_ ?_
        ·apply rt;exact At.jsn 0
        ·refine At.c 3 ?_ ?_
         ·refine lx ?_;intro x22
          refine lx ?_;intro x23
          refine At.J 9 1 [8,10,11,15,16,48,49] 3 (fun p24=>([],[(0,.var (bB.enc p24))],[.var (.st 2 [(j64 x22),(j64 (I64 (0 - e17)))])])) (fun p24=>?_) fun p24=>?_
          ·refine At.b 7 (fun _ e=>aM [] (lH e)) fun r25=>?_
           refine At.c 0 ?_ ?_
           ·apply rt;exact At.jn 2
           ·apply rt;exact At.jn 0
          ·refine At.J 5 0 [8,10,11,18,48,49] 5 (fun p26=>([(109,(eB p26))],[],[])) (fun p26=>?_) fun p26=>?_
           ·refine At.s 105 3 ?_ ?_
            ·refine At.g [105] 4 ?_
             apply rt;exact At.jn 0
            ·refine At.g [105] 2 ?_
             refine At.b 0 (fun _ e=>aM [] (lH e)) fun r27=>?_
             refine At.g [105] 1 ?_
             apply rt;exact At.jn 0
           ·refine At.c 0 ?_ ?_
            ·apply rt;exact At.jsn 3
            ·apply rt;exact At.jsn 0
         ·refine At.J 0 1 [8,10,11,15,16,48,49] 3 (fun p28=>([],[(0,.var (bB.enc p28))],[.var (.st 2 [(j64 (I64 (e9 - e11))),(j64 e17)])])) (fun p28=>?_) fun p28=>?_
          ·refine At.b 7 (fun _ e=>aM [] (lH e)) fun r29=>?_
           refine At.c 0 ?_ ?_
           ·apply rt;exact At.jn 2
           ·apply rt;exact At.jn 0
          ·refine At.J 5 0 [8,10,11,18,48,49] 5 (fun p30=>([(109,(eB p30))],[],[])) (fun p30=>?_) fun p30=>?_
           ·refine At.s 105 3 ?_ ?_
            ·refine At.g [105] 4 ?_
             apply rt;exact At.jn 0
            ·refine At.g [105] 2 ?_
             refine At.b 0 (fun _ e=>aM [] (lH e)) fun r31=>?_
             refine At.g [105] 1 ?_
             apply rt;exact At.jn 0
           ·refine At.c 0 ?_ ?_
            ·apply rt;exact At.jsn 3
            ·apply rt;exact At.jsn 0
    ·exact fun h=>At.k 2 ⟨_,_,_,_,h,jr⟩
   ·apply rt;exact At.xs 0
 ·refine At.J 0 0 [8] 2 (fun p32=>([(9,(eB p32))],[],[])) (fun p32=>?_) fun p32=>?_
  ·refine boI (fun hc3=>?_) (fun hc3=>?_)
   ·refine At.d 0 (dE1 3 (fun _=>cD hc3 rfl (bY hT (im:=false) (by kernel_rfl))) dE0) dF0 ?_
    apply rt;exact At.jn 0
   ·refine bi fun r33 hr33=>?_
    refine At.d 0 (dE1 3 (fun _=>cD hc3 rfl (bY hT (im:=false) (by kernel_rfl))) (dE2 6 (eB r33) (fun _=>aO (lH hr33)) dE0)) dF0 ?_
    apply rt;exact At.jn 0
  ·apply rt;exact At.r 0
def aA2 : Nat→Bool:=imL [7,8]
def cY (N:Nat) (a0 a1:aC) (a2 a3 a4:Int) (a5:aL):Option (aS×Bool):=
 Option.bind (idx a5.gl a4) fun e1=>
 aT ((iK .u8 e1.gD2 a2)==0) fun x2=>
 aT (cond x2 true (a4==a3)) fun x3=>
 cond x3 (
  some ((aS.mk 0 0 0 0,false))) (
  Option.bind (idx a5.gl a4) fun e4=>
  Option.bind (zW N a0 a1 e4.gP) fun r5=>
  some ((r5.1,r5.2)))
theorem tZ {N a0 a1 a2 a3 a4 a5 r} (h:cY N a0 a1 a2 a3 a4 a5=some r):FnM Tryz.prog 381 [.var (aL.enc a5)] [(.ref 0 [] 0),(aC.enc a0),(aC.enc a1),(k8 a2),(j64 a3),(j64 a4)] (.tup [(aS.enc r.1),(eB r.2)]) [.var (aL.enc a5)]:=by
 unfold cY at h
 refine At.f aA2 hT hmo Tryz.func381 rfl h ?_
 refine At.b 9 (fun _ e=>bF hT aF.enc e) fun e1=>?_
 refine lx ?_;intro x2
 refine lx ?_;intro x3
 refine At.c 10 ?_ ?_
 ·apply rt;exact At.r 3
 ·refine bi fun e4 he4=>?_
  refine bi fun r5 hr5=>?_
  refine At.d 0 (dE1 7 (fun _=>bF hT aF.enc he4) (dE2 10 (.tup [(aS.enc r5.1),(eB r5.2)]) (fun _=>aO (aGx hr5)) dE0)) dF0 ?_
  apply rt;exact At.r 0
def aAV : Nat→Bool:=imL [6,7]
def dG (N:Nat) (s23:(List Int)) (a0 a1:aC) (a2 a3:Int) (a4:aL):Nat→Int→aS→Int→Int→Option (Int×aS×Int)
 | 0,_,_,_,_=>none
 | k+1,s25,s26,s27,s28=>
  aT (decide (s28 < ((s23.length:Int)))) fun x29=>
  cond x29 (
   Option.bind (Option.bind (idx s23 s28) fun e31=>
   Option.bind (cY N a0 a1 a2 a3 e31 (aL.mk a4.gO a4.gA a4.gl (I64 (s25+1)))) fun r32=>
   Option.bind (cond r32.2 (
    cond (decide (s27 < 0)) (
     some true) (
     Option.bind (uW N r32.1 s26) fun r34=>
     cond r34 (
      some true) (
      cond (decide (e31 < s27)) (
       Option.bind (uW N s26 r32.1) fun r35=>
       some (!r35)) (
       some false)))) (
    some false)) fun p33=>
   cond p33 (some ((r32.1,r32.1,e31))) (some ((s26,r32.1,s27)))) fun p30=>
   dG N s23 a0 a1 a2 a3 a4 k (I64 (s25+1)) p30.1 p30.2.2 (I64 (s28+1))) (
   some ((s25,s26,s27)))
def dE (N:Nat) (a4:aL) (a0 a1:aC) (a2 a3:Int):Nat→(List Int)→Int→aS→Int→Nat→Option ((List Int)×Int×aS×Int)
 | 0,_,_,_,_,_=>none
 | k+1,s6,s7,s8,s9,s10=>
  aT (decide (((s10:Int)) > 0)) fun x11=>
  cond x11 (
   aT (I64 (((s10:Int)) - 1)) fun x12=>
   Option.bind (yR s6.length 0 s10 x12) fun _=>
   Option.bind (s6[x12.toNat]?) fun e14=>
   Option.bind (idx a4.gO.gA6 e14) fun e15=>
   aT (I64 (((s10:Int)) - 1)) fun x16=>
   Option.bind (aJ3 s6.length 0 s10 0 x16) fun _=>
   Option.bind (vG N e15.gLo e15.gHi a0 a1) fun r18=>
   Option.bind (cond (!r18.2) (
    some true) (
    cond (decide (s9≥0)) (
     Option.bind (fB N (bB.mk s8.gC1 s8.gB7) r18.1) fun r20=>
     some r20) (
     some false))) fun p19=>
   cond p19 (
    dE N a4 a0 a1 a2 a3 k s6 (I64 (s7+1)) s8 s9 x16.toNat) (
    cond (decide (e15.gB0≥0)) (
     Option.bind (aK4 8 s6 x16.toNat (([e15.gB3,e15.gB0]:List Int))) fun z21=>
     dE N a4 a0 a1 a2 a3 k z21 (I64 (s7+1)) s8 s9 (x16.toNat+2)) (
     aT (I64 (e15.gC6+e15.gC0)) fun x22=>
     Option.bind (vU a4.gO.gC9 e15.gC6 x22) fun s23=>
     Option.bind (dG N s23 a0 a1 a2 a3 a4 N (I64 (s7+1)) s8 s9 0) fun p24=>
     dE N a4 a0 a1 a2 a3 k s6 p24.1 p24.2.1 p24.2.2 x16.toNat))) (
   some ((s6,s7,s8,s9)))
def iR (N:Nat) (a0 a1:aC) (a2 a3:Int) (a4:aL):Option (Int×Int×aS):=
 Option.bind (Option.bind (jN N a4) fun r2=>
 aT ((a4.gO.gA6.length:Int)) fun x3=>
 cond (cond r2 true (x3==0)) (
  some true) (
  Option.bind (tM N a0 a1) fun r4=>
  some (!r4))) fun p1=>
 cond p1 (
  some ((a4.gD0,-1,aS.mk 0 0 0 0))) (
  Option.bind (dE N a4 a0 a1 a2 a3 N (([0]:List Int)) a4.gD0 (aS.mk 0 0 0 0) (-1) ((([0]:List Int)).length)) fun p5=>
  some ((p5.2.1,p5.2.2.2,p5.2.2.1)))
theorem tC {N a0 a1 a2 a3 a4 r} (h:iR N a0 a1 a2 a3 a4=some r):FnM Tryz.prog 377 [.var (aL.enc a4)] [(.ref 0 [] 0),(aC.enc a0),(aC.enc a1),(k8 a2),(j64 a3)] (.tup [(j64 r.2.1),(aS.enc r.2.2)]) [.var (.st 5 [(aX.enc a4.gO),(eB a4.gA),(eL 19 aF.enc a4.gl),(j64 r.1)])]:=by
 unfold iR at h
 refine At.f aAV hT hmo Tryz.func377 rfl h ?_
 refine At.J 5 0 [0,3,4,6,7,10,11] 2 (fun p1=>([(36,(eB p1))],[],[])) (fun p1=>?_) fun p1=>?_
 ·refine At.b 1 (fun _ e=>aM [0] (uE e)) fun r2=>?_
  refine lx ?_;intro x3
  refine At.s 31 10 ?_ ?_
  ·refine At.g [31] 5 ?_
   apply rt;exact At.jn 0
  ·refine At.g [31] 2 ?_
   refine At.b 0 (fun _ e=>aM [] (zY e)) fun r4=>?_
   refine At.g [31] 2 ?_
   apply rt;exact At.jn 0
 ·refine At.c 0 ?_ ?_
  ·refine At.d 0 dE0 dF0 ?_
   apply rt;exact At.r 0
  ·refine At.o 0 (aD5 hT j64 (k:=1) ([0]:List Int) (by kernel_rfl) (by kernel_rfl)) ?_
   refine At.gsub 1 12 ?_
   refine At.L 0 [11] 3 (fun p5=>([(10,(j64 p5.2.2.2))],[(0,.var (.st 5 [(aX.enc a4.gO),(eB a4.gA),(eL 19 aF.enc a4.gl),(j64 p5.2.1)])),(1,.var (aS.enc p5.2.2.1)),(2,.gro 1 (List.map j64 p5.1))],[])) (fun p5 J k=>∃ s6 s7 s8 s9 s10,dE N a4 a0 a1 a2 a3 k s6 s7 s8 s9 s10=some p5∧J [0,3,4,6,7,11] 3 [(10,(j64 s9)),(12,(.gro 2 1 s6.length (.sub 0 s10)))] [(0,.var (.st 5 [(aX.enc a4.gO),(eB a4.gA),(eL 19 aF.enc a4.gl),(j64 s7)])),(1,.var (aS.enc s8)),(2,.gro 1 (List.map j64 s6))] []) N (fun _ h=>⟨_,_,_,_,_,h,jr⟩) (fun p5 k s hI=>?_) fun p5=>?_
   ·obtain ⟨s6,s7,s8,s9,s10,h,hj⟩:=hI
    cases k with
    | zero=>cases h
    | succ k=>
     refine At.jr hj ?_ h
     refine lx ?_;intro x11
     refine At.c 3 ?_ ?_
     ·refine lx ?_;intro x12
      refine bi fun u13 hu13=>?_
      refine bi fun e14 he14=>?_
      refine bi fun e15 he15=>?_
      refine At.d 0 (dE1 9 (fun _=>kL hT (id:=2) (k:=1) hu13 (by kernel_rfl) (by kernel_rfl)) (dET 10 (j64 e14) [[.var (.st 5 [(aX.enc a4.gO),(eB a4.gA),(eL 19 aF.enc a4.gl),(j64 s7)]),.var (aS.enc s8),.gro 1 (List.map j64 s6)],[.var (.st 5 [(aX.enc a4.gO),(eB a4.gA),(eL 19 aF.enc a4.gl),(j64 s7)]),.var (aS.enc s8),.gro 1 (List.map j64 s6),.var cv_9]] ⟨bG (oQ hT j64 [] he14 rfl (by kernel_rfl) (by kernel_rfl)),bG (oQ hT j64 [] he14 rfl (by kernel_rfl) (by kernel_rfl)),trivial⟩ (dE1 11 (fun _=>bF hT bA.enc he15) dE0))) dF0 ?_
      refine lx ?_;intro x16
      refine At.b 4 (fun _ e=>aGA hT (id:=2) (k:=1) (L:=s6.length) (lo0:=0) (m:=s10) e (by kernel_rfl) (by kernel_rfl)) fun s17=>?_
      refine At.b 15 (fun _ e=>aM [] (aEY e)) fun r18=>?_
      refine At.J 6 0 [0,3,4,6,7,10,11,12,13] 5 (fun p19=>([(92,(eB p19))],[],[])) (fun p19=>?_) fun p19=>?_
      ·refine At.s 80 3 ?_ ?_
       ·refine At.g [80,83] 12 ?_
        apply rt;exact At.jn 0
       ·refine At.g [80] 3 ?_
        refine At.s 83 0 ?_ ?_
        ·refine At.g [83] 6 ?_
         refine At.b 0 (fun _ e=>aM [] (lH e)) fun r20=>?_
         refine At.g [80,83] 2 ?_
         apply rt;exact At.jn 0
        ·refine At.g [83,80] 9 ?_
         apply rt;exact At.jn 0
      ·refine At.c 0 ?_ ?_
       ·exact fun h=>At.k 0 ⟨_,_,_,_,_,h,jr⟩
       ·refine At.c 3 ?_ ?_
        ·refine At.o 5 (bQ hT (x:=(.sl 1 2 [(j64 e15.gB3),(j64 e15.gB0)]))) ?_
         refine At.b 0 (fun z21 e=>aEr hT j64 (id:=2) (k:=1) e (by kernel_rfl) (by kernel_rfl) (H':=[.var (.st 5 [(aX.enc a4.gO),(eB a4.gA),(eL 19 aF.enc a4.gl),(j64 (I64 (s7+1)))]),.var (aS.enc s8),.gro 1 (List.map j64 z21),.var (bA.enc e15),.var (bB.enc r18.1)]) (by kernel_rfl)) fun z21=>?_
         exact fun h=>At.k 1 ⟨_,_,_,_,_,h,jr⟩
        ·refine lx ?_;intro x22
         refine bi fun s23 hs23=>?_
         refine At.d 0 (dE1 12 (fun _=>aAd hT (k:=1) j64 hs23) dE0) dF0 ?_
         refine At.L 0 [0,3,4,6,7,11,12] 5 (fun p24=>([(10,(j64 p24.2.2))],[(0,.var (.st 5 [(aX.enc a4.gO),(eB a4.gA),(eL 19 aF.enc a4.gl),(j64 p24.1)])),(1,.var (aS.enc p24.2.1))],[])) (fun p24 J k=>∃ s25 s26 s27 s28,dG N s23 a0 a1 a2 a3 a4 k s25 s26 s27 s28=some p24∧J [0,3,4,6,7,11,12,115,116] 5 [(10,(j64 s27)),(117,(j64 s28))] [(0,.var (.st 5 [(aX.enc a4.gO),(eB a4.gA),(eL 19 aF.enc a4.gl),(j64 s25)])),(1,.var (aS.enc s26))] []) N (fun _ h=>⟨_,_,_,_,h,jr⟩) (fun p24 k s hI=>?_) fun p24=>?_
         ·obtain ⟨s25,s26,s27,s28,h,hj⟩:=hI
          cases k with
          | zero=>cases h
          | succ k=>
           refine At.jr hj ?_ h
           refine lx ?_;intro x29
           refine At.c 1 ?_ ?_
           ·refine At.J 0 2 [0,3,4,6,7,11,12,115,116,117] 5 (fun p30=>([(10,(j64 p30.2.2))],[(0,.var (.st 5 [(aX.enc a4.gO),(eB a4.gA),(eL 19 aF.enc a4.gl),(j64 (I64 (s25+1)))])),(1,.var (aS.enc p30.1))],[.var (aS.enc p30.2.1)])) (fun p30=>?_) fun p30=>?_
            ·refine At.b 0 (fun _ e=>bF hT j64 e) fun e31=>?_
             refine At.b 16 (fun _ e=>aM [0] (tZ e)) fun r32=>?_
             refine At.J 6 0 [0,3,4,6,7,10,11,12,17,18,115,116,117] 6 (fun p33=>([(158,(eB p33))],[],[])) (fun p33=>?_) fun p33=>?_
             ·refine At.s 139 2 ?_ ?_
              ·refine At.g [139] 3 ?_
               refine At.s 142 0 ?_ ?_
               ·refine At.g [142,139,147,151] 16 ?_
                apply rt;exact At.jn 0
               ·refine At.g [142] 2 ?_
                refine At.b 0 (fun _ e=>aM [] (aCT e)) fun r34=>?_
                refine At.g [139,142] 2 ?_
                refine At.s 147 0 ?_ ?_
                ·refine At.g [147,151,139] 11 ?_
                 apply rt;exact At.jn 0
                ·refine At.g [147] 4 ?_
                 refine At.s 151 0 ?_ ?_
                 ·refine At.g [151] 2 ?_
                  refine At.b 0 (fun _ e=>aM [] (aCT e)) fun r35=>?_
                  refine At.g [151,147,139] 4 ?_
                  apply rt;exact At.jn 0
                 ·refine At.g [151,147,139] 7 ?_
                  apply rt;exact At.jn 0
              ·refine At.g [139,142,147,151] 19 ?_
               apply rt;exact At.jn 0
             ·refine At.c 0 ?_ ?_
              ·refine At.d 0 dE0 dF0 ?_
               apply rt;exact At.jn 0
              ·apply rt;exact At.jn 0
            ·exact fun h=>At.k 2 ⟨_,_,_,_,h,jr⟩
           ·apply rt;exact At.x 0
         ·exact fun h=>At.k 0 ⟨_,_,_,_,_,h,jr⟩
     ·apply rt;exact At.x 0
   ·refine At.d 0 dE0 dF0 ?_
    apply rt;exact At.r 0
def mZ (N:Nat) (b4:(List (List aD))) (a1:aK) (a2 a3:aA) (a4:Int) (a5:Bool) (a6:aG) (a7:aE) (a8:aI) (a9:aA) (a10:aH) (a11:aB) (a12:aL):Option (aG×Int×Int×aV×Bool):=
 Option.bind (cond (a4==0) (some 9) (some 4)) fun p1=>
 Option.bind (iR N a1.go a1.gd p1 a1.gE4 a12) fun r2=>
 Option.bind (cond a8.gS (some (I64 (a10.gN+4))) (some a10.gN)) fun p3=>
 cond (decide (r2.2.1 < 0)) (
  some ((a6,p3,r2.1,aV.mk 0 (aC.mk 0 0 0) (aA.mk 0 0 0) (aA.mk 0 0 0) (aN.mk 0 (#v[0,0,0]) 0) false,false))) (
  Option.bind (idx a7.gK r2.2.1) fun e4=>
  Option.bind (eY 1 3) fun _=>
  Option.bind (e4.gP.toList[(Int.toNat 1)]?) fun e6=>
  Option.bind (eY 0 3) fun _=>
  Option.bind (e4.gP.toList[(Int.toNat 0)]?) fun e8=>
  Option.bind (pV N e6 e8) fun r9=>
  Option.bind (eY 2 3) fun _=>
  Option.bind (e4.gP.toList[(Int.toNat 2)]?) fun e11=>
  Option.bind (eY 0 3) fun _=>
  Option.bind (e4.gP.toList[(Int.toNat 0)]?) fun e13=>
  Option.bind (pV N e11 e13) fun r14=>
  Option.bind (sP N r9 r14) fun r15=>
  Option.bind (hP N r15) fun r16=>
  Option.bind (Option.bind (sU N a1.go a1.gd r2.2.2) fun r18=>
  Option.bind (lR N r16 a1.gd) fun r19=>
  Option.bind (idx a7.gA1 e4.gC3) fun e20=>
  cond (a4==0) (
   aT ((iK .u8 e4.gD2 8) != 0) fun x21=>
   some (aV.mk r2.2.1 r18 r19 (aA.mk 0 0 0) e20 x21)) (
   some (aV.mk r2.2.1 r18 r19 (aA.mk 0 0 0) e20 false))) fun p17=>
  Option.bind (cond (decide (e4.gB4≥0)) (
   Option.bind (idx b4 e4.gB4) fun e23=>
   cond (!a8.gS) (some ((I64 (p3+4),e23))) (some ((p3,e23)))) (
   some ((p3,[])))) fun p22=>
  Option.bind (mS N p17.gB1.gA4 p22.2 e4.gUv r2.2.2 a4) fun r24=>
  Option.bind (aT (cond (a4==0) (!a5) false) fun x26=>
  cond x26 (
   Option.bind (pD N p17.gat) fun r27=>
   Option.bind (pD N a1.go) fun r28=>
   Option.bind (vJ N r27 r28) fun r29=>
   Option.bind (oP N r29) fun r30=>
   cond p17.gB8 (
    some (aG.mk (aA.mk 0 0 0) 0 r30 p17.gn e4.gA0)) (
    some (aG.mk (aA.mk 0 0 0) 1 r30 p17.gn e4.gA0))) (
   some a6)) fun p25=>
  some ((p25,p22.1,r2.1,aV.mk p17.gi p17.gat p17.gn r24 p17.gB1 p17.gB8,true)))
theorem aCW {N b4 a1 a2 a3 a4 a5 a6 a7 a8 a9 a10 a11 a12 r} (h:mZ N b4 a1 a2 a3 a4 a5 a6 a7 a8 a9 a10 a11 a12=some r):FnM Tryz.prog 191 [.var (.st 26 [(aK.enc a1),(.ref 1 [] 0),(.ref 2 [] 0),(aA.enc a2),(aA.enc a3),(j64 a4),(eB a5),(aG.enc a6)]),.var (.st 38 [(aE.enc a7),(aI.enc a8),(.ifc 181 (.ref 3 [] 0)),(eO 4 1 (eL 2 aD.enc) b4),(aA.enc a9),(aH.enc a10)]),.var (aB.enc a11),.var (aL.enc a12),.tail (b4.length*1)] [(.ref 0 [] 0)] (.tup [(aV.enc r.2.2.2.1),(eB r.2.2.2.2)]) [.var (.st 26 [(aK.enc a1),(.ref 1 [] 0),(.ref 2 [] 0),(aA.enc a2),(aA.enc a3),(j64 a4),(eB a5),(aG.enc r.1)]),.var (.st 38 [(aE.enc a7),(aI.enc a8),(.ifc 181 (.ref 3 [] 0)),(eO 4 1 (eL 2 aD.enc) b4),(aA.enc a9),(.st 3 [(j64 a10.gG),(j64 r.2.1),(j64 (I64 (a10.gF+1)))])]),.var (aB.enc a11),.var (.st 5 [(aX.enc a12.gO),(eB a12.gA),(eL 19 aF.enc a12.gl),(j64 r.2.2.1)]),.tail (b4.length*1)]:=by
 unfold mZ at h
 refine At.f cQ hT hmo Tryz.func191 rfl h ?_
 refine At.J 3 1 [0,2] 6 (fun p1=>([(4,(k8 p1))],[],[])) (fun p1=>?_) fun p1=>?_
 ·refine At.c 5 ?_ ?_
  ·apply rt;exact At.jn 1
  ·apply rt;exact At.jn 0
 ·refine bi fun r2 hr2=>?_
  refine At.d2 0 [false] dC0 (dS1 25 ⟨(.tup [(j64 r2.2.1),(aS.enc r2.2.2)]),3,.var (.st 5 [(aX.enc a12.gO),(eB a12.gA),(eL 19 aF.enc a12.gl),(j64 r2.1)]),.var (aL.enc a12)⟩ [[.var (.st 26 [(aK.enc a1),(.ref 1 [] 0),(.ref 2 [] 0),(aA.enc a2),(aA.enc a3),(j64 a4),(eB a5),(aG.enc a6)]),.var (.st 38 [(aE.enc a7),(aI.enc a8),(.ifc 181 (.ref 3 [] 0)),(eO 4 1 (eL 2 aD.enc) b4),(aA.enc a9),(aH.enc a10)]),.var (aB.enc a11),.var (aL.enc a12),.tail (b4.length*1),.var aKi,.dead],[.var (.st 26 [(aK.enc a1),(.ref 1 [] 0),(.ref 2 [] 0),(aA.enc a2),(aA.enc a3),(j64 a4),(eB a5),(aG.enc a6)]),.var (.st 38 [(aE.enc a7),(aI.enc a8),(.ifc 181 (.ref 3 [] 0)),(eO 4 1 (eL 2 aD.enc) b4),(aA.enc a9),(aH.enc a10)]),.var (aB.enc a11),.var (aL.enc a12),.tail (b4.length*1),.var aKi,.var (.st 4 [(j64 0),(j64 0),(j64 0),(j64 0)])]] ⟨bG (aM [3] (tC hr2)),bG (aM [3] (tC hr2)),trivial⟩ (dS1 29 ⟨(.ref 6 [] 0),6,.var (.st 4 [(j64 0),(j64 0),(j64 0),(j64 0)]),.dead⟩ [[.var (.st 26 [(aK.enc a1),(.ref 1 [] 0),(.ref 2 [] 0),(aA.enc a2),(aA.enc a3),(j64 a4),(eB a5),(aG.enc a6)]),.var (.st 38 [(aE.enc a7),(aI.enc a8),(.ifc 181 (.ref 3 [] 0)),(eO 4 1 (eL 2 aD.enc) b4),(aA.enc a9),(aH.enc a10)]),.var (aB.enc a11),.var (aL.enc a12),.tail (b4.length*1),.var aKi,.dead],[.var (.st 26 [(aK.enc a1),(.ref 1 [] 0),(.ref 2 [] 0),(aA.enc a2),(aA.enc a3),(j64 a4),(eB a5),(aG.enc a6)]),.var (.st 38 [(aE.enc a7),(aI.enc a8),(.ifc 181 (.ref 3 [] 0)),(eO 4 1 (eL 2 aD.enc) b4),(aA.enc a9),(aH.enc a10)]),.var (aB.enc a11),.var (.st 5 [(aX.enc a12.gO),(eB a12.gA),(eL 19 aF.enc a12.gl),(j64 r2.1)]),.tail (b4.length*1),.var aKi,.dead]] ⟨aW hT 6 (by kernel_rfl) (by kernel_rfl) (by kernel_rfl),aW hT 6 (by kernel_rfl) (by kernel_rfl) (by kernel_rfl),trivial⟩ dS0)) ?_
  refine At.J 13 1 [0,2,5,6] 7 (fun p3=>([],[(1,.var (.st 38 [(aE.enc a7),(aI.enc a8),(.ifc 181 (.ref 3 [] 0)),(eO 4 1 (eL 2 aD.enc) b4),(aA.enc a9),(.st 3 [(j64 a10.gG),(j64 p3),(j64 (I64 (a10.gF+1)))])]))],[])) (fun p3=>?_) fun p3=>?_
  ·refine At.c 8 ?_ ?_
   ·apply rt;exact At.jn 13
   ·apply rt;exact At.jn 0
  ·refine At.c 2 ?_ ?_
   ·apply rt;exact At.r 3
   ·refine At.b 9 (fun _ e=>bF hT aF.enc e) fun e4=>?_
    refine bi fun u5 hu5=>?_
    refine bi fun e6 he6=>?_
    refine bi fun u7 hu7=>?_
    refine bi fun e8 he8=>?_
    refine bi fun r9 hr9=>?_
    refine bi fun u10 hu10=>?_
    refine bi fun e11 he11=>?_
    refine bi fun u12 hu12=>?_
    refine bi fun e13 he13=>?_
    refine bi fun r14 hr14=>?_
    refine bi fun r15 hr15=>?_
    refine bi fun r16 hr16=>?_
    refine At.d 3 (dE1 1 (fun _=>bH hT (k:=3) 7 [0] 0 hu5) (dEL hT 2 (aC.enc e6) aC.enc 1 he6 (dE1 4 (fun _=>bH hT (k:=3) 7 [0] 0 hu7) (dEL hT 5 (aC.enc e8) aC.enc 1 he8 (dE2 6 (aC.enc r9) (fun _=>aO (sR hr9)) (dE1 8 (fun _=>bH hT (k:=3) 7 [0] 0 hu10) (dEL hT 9 (aC.enc e11) aC.enc 1 he11 (dE1 11 (fun _=>bH hT (k:=3) 7 [0] 0 hu12) (dEL hT 12 (aC.enc e13) aC.enc 1 he13 (dE2 13 (aC.enc r14) (fun _=>aO (sR hr14)) (dE2 14 (aC.enc r15) (fun _=>aO (yY hr15)) (dE2 15 (aA.enc r16) (fun _=>aO (lU hr16)) dE0)))))))))))) dF0 ?_
    refine At.J 0 0 [0,2,6,7] 9 (fun p17=>([],[(5,.var (aV.enc p17))],[])) (fun p17=>?_) fun p17=>?_
    ·refine bi fun r18 hr18=>?_
     refine bi fun r19 hr19=>?_
     refine bi fun e20 he20=>?_
     refine boI (fun hc37=>?_) (fun hc37=>?_)
     ·refine lx ?_;intro x21
      refine At.d 0 (dE2 12 (aC.enc r18) (fun _=>aO (zC hr18)) (dE2 19 (aA.enc r19) (fun _=>aO (rV hr19)) (dE1 30 (fun _=>bF hT aN.enc he20) (dE1 37 (fun _=>cD hc37 rfl (bY hT (im:=false) (by kernel_rfl))) dE0)))) dF0 ?_
      apply rt;exact At.jn 0
     ·refine At.d 0 (dE2 12 (aC.enc r18) (fun _=>aO (zC hr18)) (dE2 19 (aA.enc r19) (fun _=>aO (rV hr19)) (dE1 30 (fun _=>bF hT aN.enc he20) (dE1 37 (fun _=>cD hc37 rfl (bY hT (im:=false) (by kernel_rfl))) dE0)))) dF0 ?_
      apply rt;exact At.jn 0
    ·refine At.J 1 1 [0,2,6,7] 9 (fun p22=>([(9,(eL 2 aD.enc p22.2))],[(1,.var (.st 38 [(aE.enc a7),(aI.enc a8),(.ifc 181 (.ref 3 [] 0)),(eO 4 1 (eL 2 aD.enc) b4),(aA.enc a9),(.st 3 [(j64 a10.gG),(j64 p22.1),(j64 (I64 (a10.gF+1)))])]))],[])) (fun p22=>?_) fun p22=>?_
     ·refine At.c 3 ?_ ?_
      ·refine bi fun e23 he23=>?_
       refine At.d 0 (dE1 9 (fun _=>bF hT (eL 2 aD.enc) he23) dE0) dF0 ?_
       refine At.c 9 ?_ ?_
       ·apply rt;exact At.jn 13
       ·apply rt;exact At.jn 0
      ·apply rt;exact At.jn 0
     ·refine bi fun r24 hr24=>?_
      refine At.d 0 (dE2 11 (aA.enc r24) (fun _=>aO (aBP hr24)) dE0) dF0 ?_
      refine At.J 0 1 [2] 9 (fun p25=>([],[(0,.var (.st 26 [(aK.enc a1),(.ref 1 [] 0),(.ref 2 [] 0),(aA.enc a2),(aA.enc a3),(j64 a4),(eB a5),(aG.enc p25)]))],[])) (fun p25=>?_) fun p25=>?_
      ·refine lx ?_;intro x26
       refine At.c 12 ?_ ?_
       ·refine bi fun r27 hr27=>?_
        refine bi fun r28 hr28=>?_
        refine bi fun r29 hr29=>?_
        refine bi fun r30 hr30=>?_
        refine At.d 0 (dE2 3 (aA.enc r27) (fun _=>aO (rM hr27)) (dE2 9 (aA.enc r28) (fun _=>aO (rM hr28)) (dE2 10 (aA.enc r29) (fun _=>aO (aBc hr29)) (dE2 11 (j64 r30) (fun _=>aO (aA3 hr30)) dE0)))) dF0 ?_
        refine At.c 2 ?_ ?_
        ·apply rt;exact At.jn 5
        ·apply rt;exact At.jn 0
       ·apply rt;exact At.jn 0
      ·apply rt;exact At.r 3
def iV (N:Nat) (b4:(List (List aD))) (a1:(List aA)) (a2:aK) (a3 a4:aA) (a5:Int) (a6:Bool) (a7:aG) (a8:aE) (a9:aI) (a10:aA) (a11:aH) (a12:aB) (a13:aL):Option (aA):=
 cond (!a6) (
  Option.bind (rF 24 (([a3]:List aA)) a1) fun z1=>
  Option.bind (iX N z1) fun r2=>
  Option.bind (kP N ([a4,r2])) fun r3=>
  some r3) (
  some a4)
theorem sC {N b4 a1 a2 a3 a4 a5 a6 a7 a8 a9 a10 a11 a12 a13 r} (h:iV N b4 a1 a2 a3 a4 a5 a6 a7 a8 a9 a10 a11 a12 a13=some r):FnM Tryz.prog 192 [.var (.st 26 [(aK.enc a2),(.ref 1 [] 0),(.ref 2 [] 0),(aA.enc a3),(aA.enc a4),(j64 a5),(eB a6),(aG.enc a7)]),.var (.st 38 [(aE.enc a8),(aI.enc a9),(.ifc 181 (.ref 3 [] 0)),(eO 4 1 (eL 2 aD.enc) b4),(aA.enc a10),(aH.enc a11)]),.var (aB.enc a12),.var (aL.enc a13),.tail (b4.length*1)] [(.ref 0 [] 0),(eL 3 aA.enc a1)] (.tup []) [.var (.st 26 [(aK.enc a2),(.ref 1 [] 0),(.ref 2 [] 0),(aA.enc a3),(aA.enc r),(j64 a5),(eB a6),(aG.enc a7)]),.var (.st 38 [(aE.enc a8),(aI.enc a9),(.ifc 181 (.ref 3 [] 0)),(eO 4 1 (eL 2 aD.enc) b4),(aA.enc a10),(aH.enc a11)]),.var (aB.enc a12),.var (aL.enc a13),.tail (b4.length*1)]:=by
 unfold iV at h
 refine At.f cQ hT hmo Tryz.func192 rfl h ?_
 refine At.c 5 ?_ ?_
 ·refine bi fun z1 hz1=>?_
  refine bi fun r2 hr2=>?_
  refine bi fun r3 hr3=>?_
  refine At.d 0 (dE2 12 (aA.enc r2) (fun _=>aO (qS hr2)) (dE1 13 (fun _=>bQ hT (x:=(.sl 3 2 [(aA.enc a4),(aA.enc r2)]))) (dE2 14 (aA.enc r3) (fun _=>aO (rZ hr3)) dE0))) (dF 9 (eO 5 3 aA.enc (([a3]:List aA))) [] [.tail ((([a3]:List aA)).length*3)] (bG (xV hT aA.enc (k:=3) ([a3]:List aA) (by kernel_rfl) (by kernel_rfl))) (dF 11 (eO 5 3 aA.enc z1) [(5,.tail (z1.length*3))] [] (bG (iA hT aA.enc (id:=5) (k:=3) hz1)) dF0)) ?_
  apply rt;exact At.z 0
 ·apply rt;exact At.z 0
def eW (N:Nat) (b4:(List (List aD))) (a1:Bool) (a2:aK) (a3 a4:aA) (a5:Int) (a6:Bool) (a7:aG) (a8:aE) (a9:aI) (a10:aA) (a11:aH) (a12:aB) (a13:aL):Option (Unit):=
 some (())
theorem jT {N b4 a1 a2 a3 a4 a5 a6 a7 a8 a9 a10 a11 a12 a13 r} (h:eW N b4 a1 a2 a3 a4 a5 a6 a7 a8 a9 a10 a11 a12 a13=some r):FnM Tryz.prog 193 [.var (.st 26 [(aK.enc a2),(.ref 1 [] 0),(.ref 2 [] 0),(aA.enc a3),(aA.enc a4),(j64 a5),(eB a6),(aG.enc a7)]),.var (.st 38 [(aE.enc a8),(aI.enc a9),(.ifc 181 (.ref 3 [] 0)),(eO 4 1 (eL 2 aD.enc) b4),(aA.enc a10),(aH.enc a11)]),.var (aB.enc a12),.var (aL.enc a13),.tail (b4.length*1)] [(.ref 0 [] 0),(eB a1)] (.tup []) [.var (.st 26 [(aK.enc a2),(.ref 1 [] 0),(.ref 2 [] 0),(aA.enc a3),(aA.enc a4),(j64 a5),(eB (cond a6 true a1)),(aG.enc a7)]),.var (.st 38 [(aE.enc a8),(aI.enc a9),(.ifc 181 (.ref 3 [] 0)),(eO 4 1 (eL 2 aD.enc) b4),(aA.enc a10),(aH.enc a11)]),.var (aB.enc a12),.var (aL.enc a13),.tail (b4.length*1)]:=by
 unfold eW at h
 refine At.f cQ hT hmo Tryz.func193 rfl h ?_
 apply rt;exact At.z 11
def aBo : Nat→Bool:=imL [7,8]
def eD (N:Nat) (s17:(List Int)) (a0 a1:aC) (a2 a3:Int) (a5:aL) (a4:Bool):Nat→Int→Int→Option (Sum (Int) (Int×Bool))
 | 0,_,_=>none
 | k+1,s19,s20=>
  aT (decide (s20 < ((s17.length:Int)))) fun x21=>
  cond x21 (
   Option.bind (idx s17 s20) fun e22=>
   Option.bind (cY N a0 a1 a2 a3 e22 (aL.mk a5.gO a5.gA a5.gl (I64 (s19+1)))) fun r23=>
   Option.bind (cond r23.2 (
    aT (decide (r23.1.gC1 < r23.1.gB7)) fun x25=>
    some (cond (!a4) true x25)) (
    some false)) fun p24=>
   cond p24 (
    some (Sum.inr ((I64 (s19+1),true)))) (
    eD N s17 a0 a1 a2 a3 a5 a4 k (I64 (s19+1)) (I64 (s20+1)))) (
   some (Sum.inl s19))
def eE (N:Nat) (a5:aL) (a0 a1:aC) (a2 a3:Int) (a4:Bool):Nat→(List Int)→Int→Nat→Option (Sum ((List Int)×Int) (Int×Bool))
 | 0,_,_,_=>none
 | k+1,s6,s7,s8=>
  aT (decide (((s8:Int)) > 0)) fun x9=>
  cond x9 (
   Option.bind (yR s6.length 0 s8 (I64 (((s8:Int)) - 1))) fun _=>
   Option.bind (s6[((I64 (((s8:Int)) - 1)).toNat)]?) fun e11=>
   Option.bind (idx a5.gO.gA6 e11) fun e12=>
   Option.bind (aJ3 s6.length 0 s8 0 (I64 (((s8:Int)) - 1))) fun _=>
   Option.bind (vG N e12.gLo e12.gHi a0 a1) fun r14=>
   cond (!r14.2) (
    eE N a5 a0 a1 a2 a3 a4 k s6 (I64 (s7+1)) ((I64 (((s8:Int)) - 1)).toNat)) (
    cond (decide (e12.gB0≥0)) (
     Option.bind (aK4 8 s6 ((I64 (((s8:Int)) - 1)).toNat) (([e12.gB3,e12.gB0]:List Int))) fun z15=>
     eE N a5 a0 a1 a2 a3 a4 k z15 (I64 (s7+1)) ((I64 (((s8:Int)) - 1)).toNat+2)) (
     aT (I64 (e12.gC6+e12.gC0)) fun x16=>
     Option.bind (vU a5.gO.gC9 e12.gC6 x16) fun s17=>
     Option.bind (eD N s17 a0 a1 a2 a3 a5 a4 N (I64 (s7+1)) 0) fun o=>nS o (fun p18=>
      eE N a5 a0 a1 a2 a3 a4 k s6 p18 ((I64 (((s8:Int)) - 1)).toNat)) (fun r=>some (Sum.inr r))))) (
   some (Sum.inl ((s6,s7))))
def iO (N:Nat) (a0 a1:aC) (a2 a3:Int) (a4:Bool) (a5:aL):Option (Int×Bool):=
 Option.bind (Option.bind (jN N a5) fun r2=>
 aT ((a5.gO.gA6.length:Int)) fun x3=>
 cond (cond r2 true (x3==0)) (
  some true) (
  Option.bind (tM N a0 a1) fun r4=>
  some (!r4))) fun p1=>
 cond p1 (
  some ((a5.gD0,false))) (
  Option.bind (eE N a5 a0 a1 a2 a3 a4 N (([0]:List Int)) a5.gD0 ((([0]:List Int)).length)) fun o=>nS o (fun p5=>
   some ((p5.2,false))) (fun r=>some r))
theorem mI {N a0 a1 a2 a3 a4 a5 r} (h:iO N a0 a1 a2 a3 a4 a5=some r):FnM Tryz.prog 376 [.var (aL.enc a5)] [(.ref 0 [] 0),(aC.enc a0),(aC.enc a1),(k8 a2),(j64 a3),(eB a4)] (eB r.2) [.var (.st 5 [(aX.enc a5.gO),(eB a5.gA),(eL 19 aF.enc a5.gl),(j64 r.1)])]:=by
 unfold iO at h
 refine At.f aBo hT hmo Tryz.func376 rfl h ?_
 refine At.J 3 0 [0,3,4,5,7,8] 1 (fun p1=>([(37,(eB p1))],[],[])) (fun p1=>?_) fun p1=>?_
 ·refine At.b 1 (fun _ e=>aM [0] (uE e)) fun r2=>?_
  refine lx ?_;intro x3
  refine At.s 32 10 ?_ ?_
  ·refine At.g [32] 5 ?_
   apply rt;exact At.jn 0
  ·refine At.g [32] 2 ?_
   refine At.b 0 (fun _ e=>aM [] (zY e)) fun r4=>?_
   refine At.g [32] 2 ?_
   apply rt;exact At.jn 0
 ·refine At.c 0 ?_ ?_
  ·apply rt;exact At.r 1
  ·refine At.o 0 (aD5 hT j64 (k:=1) ([0]:List Int) (by kernel_rfl) (by kernel_rfl)) ?_
   refine At.gsub 1 13 ?_
   refine At.LS 0 [] 2 (fun p5=>([],[(0,.var (.st 5 [(aX.enc a5.gO),(eB a5.gA),(eL 19 aF.enc a5.gl),(j64 p5.2)])),(1,.gro 1 (List.map j64 p5.1))],[])) (fun op5 J k=>∃ s6 s7 s8,eE N a5 a0 a1 a2 a3 a4 k s6 s7 s8=some op5∧J [0,3,4,5,7,8] 2 [(13,(.gro 1 1 s6.length (.sub 0 s8)))] [(0,.var (.st 5 [(aX.enc a5.gO),(eB a5.gA),(eL 19 aF.enc a5.gl),(j64 s7)])),(1,.gro 1 (List.map j64 s6))] []) N (fun _ h=>⟨_,_,_,h,jr⟩) (fun op5 g5 k s hI=>?_) fun p5=>?_
   ·obtain ⟨s6,s7,s8,h,hj⟩:=hI
    cases k with
    | zero=>cases h
    | succ k=>
     refine At.jr hj ?_ h
     refine lx ?_;intro x9
     refine At.c 3 ?_ ?_
     ·refine bi fun u10 hu10=>?_
      refine bi fun e11 he11=>?_
      refine bi fun e12 he12=>?_
      refine At.d 0 (dE1 9 (fun _=>kL hT (id:=1) (k:=1) hu10 (by kernel_rfl) (by kernel_rfl)) (dET 10 (j64 e11) [[.var (.st 5 [(aX.enc a5.gO),(eB a5.gA),(eL 19 aF.enc a5.gl),(j64 s7)]),.gro 1 (List.map j64 s6)],[.var (.st 5 [(aX.enc a5.gO),(eB a5.gA),(eL 19 aF.enc a5.gl),(j64 s7)]),.gro 1 (List.map j64 s6),.var cv_9]] ⟨bG (oQ hT j64 [] he11 rfl (by kernel_rfl) (by kernel_rfl)),bG (oQ hT j64 [] he11 rfl (by kernel_rfl) (by kernel_rfl)),trivial⟩ (dE1 11 (fun _=>bF hT bA.enc he12) dE0))) dF0 ?_
      refine At.b 4 (fun _ e=>aGA hT (id:=1) (k:=1) (L:=s6.length) (lo0:=0) (m:=s8) e (by kernel_rfl) (by kernel_rfl)) fun s13=>?_
      refine At.b 15 (fun _ e=>aM [] (aEY e)) fun r14=>?_
      refine At.c 8 ?_ ?_
      ·exact fun h=>At.k 0 ⟨_,_,_,h,jr⟩
      ·refine At.c 3 ?_ ?_
       ·refine At.o 5 (bQ hT (x:=(.sl 1 2 [(j64 e12.gB3),(j64 e12.gB0)]))) ?_
        refine At.b 0 (fun z15 e=>aEr hT j64 (id:=1) (k:=1) e (by kernel_rfl) (by kernel_rfl) (H':=[.var (.st 5 [(aX.enc a5.gO),(eB a5.gA),(eL 19 aF.enc a5.gl),(j64 (I64 (s7+1)))]),.gro 1 (List.map j64 z15),.var (bA.enc e12),.var (bB.enc r14.1)]) (by kernel_rfl)) fun z15=>?_
        exact fun h=>At.k 1 ⟨_,_,_,h,jr⟩
       ·refine lx ?_;intro x16
        refine bi fun s17 hs17=>?_
        refine At.d 0 (dE1 12 (fun _=>aAd hT (k:=1) j64 hs17) dE0) dF0 ?_
        refine At.LS 0 [0,3,4,5,7,8,13] 4 (fun p18=>([],[(0,.var (.st 5 [(aX.enc a5.gO),(eB a5.gA),(eL 19 aF.enc a5.gl),(j64 p18)]))],[])) (fun op18 J k=>∃ s19 s20,eD N s17 a0 a1 a2 a3 a5 a4 k s19 s20=some op18∧J [0,3,4,5,7,8,13,101,102] 4 [(103,(j64 s20))] [(0,.var (.st 5 [(aX.enc a5.gO),(eB a5.gA),(eL 19 aF.enc a5.gl),(j64 s19)]))] []) N (fun _ h=>⟨_,_,h,jr⟩) (fun op18 g18 k s hI=>?_) fun p18=>?_
        ·obtain ⟨s19,s20,h,hj⟩:=hI
         cases k with
         | zero=>cases h
         | succ k=>
          refine At.jr hj ?_ h
          refine lx ?_;intro x21
          refine At.c 1 ?_ ?_
          ·refine At.b 0 (fun _ e=>bF hT j64 e) fun e22=>?_
           refine At.b 16 (fun _ e=>aM [0] (tZ e)) fun r23=>?_
           refine At.J 6 0 [0,3,4,5,7,8,13,101,102,103] 5 (fun p24=>([(135,(eB p24))],[],[])) (fun p24=>?_) fun p24=>?_
           ·refine At.s 125 2 ?_ ?_
            ·refine lx ?_;intro x25
             refine At.g [125] 10 ?_
             apply rt;exact At.jn 0
            ·refine At.g [125,128] 10 ?_
             apply rt;exact At.jn 0
           ·refine At.c 0 ?_ ?_
            ·intro e;apply rtS2 g18 g5 e;exact At.r 1
            ·exact fun h=>At.k 2 ⟨_,_,h,jr⟩
          ·apply rt;exact At.xs 0
        ·exact fun h=>At.k 0 ⟨_,_,_,h,jr⟩
     ·apply rt;exact At.xs 0
   ·apply rt;exact At.r 1
def aA9 : Nat→Bool:=imL [3]
def fS (N:Nat) (x1:Int) (a8:aE) (b4:(List (List aD))) (a2:aK) (a3:aA) (a5:Int) (a6:Bool) (a7:aG) (a9:aI) (a10:aA) (a11:aH) (a1:aV):Nat→aA→aB→aL→Int→Option (aA×aB×aL)
 | 0,_,_,_,_=>none
 | k+1,s3,s4,s5,s6=>
  cond (decide (s6 < x1)) (
   Option.bind (Option.bind (idx a8.gI s6) fun e8=>
   aT (I64 (8+(I64 (2*s6)))) fun x9=>
   Option.bind (dM N b4 x9 a2 a3 s3 a5 a6 a7 a8 a9 a10 a11 s4 s5) fun r10=>
   aT (I64 (9+(I64 (2*s6)))) fun x11=>
   Option.bind (dM N b4 x11 a2 a3 s3 a5 a6 a7 a8 a9 a10 a11 (aB.mk r10.1 s4.gA s4.gC s4.gB s4.gD) s5) fun r12=>
   Option.bind (pL N e8 a1.gat a1.gn (#v[r10.2,r12.2])) fun r13=>
   aT (cond r13.gE3 (!a9.gS) false) fun x14=>
   cond x14 (
    some ((s3,aB.mk r12.1 ((aB.mk r10.1 s4.gA s4.gC s4.gB s4.gD).gA) ((aB.mk r10.1 s4.gA s4.gC s4.gB s4.gD).gC) ((aB.mk r10.1 s4.gA s4.gC s4.gB s4.gD).gB) ((aB.mk r10.1 s4.gA s4.gC s4.gB s4.gD).gD),s5.gD0,e8,r13))) (
    Option.bind (Option.bind (iO N a1.gat r13.gE5 2 a1.gi (!r13.gE6) s5) fun r16=>
    cond (!r16.2) (
     cond (!r13.gE3) (
      some ((r16.1,a1.gB1.gA7==0))) (
      some ((r16.1,false)))) (
     some ((r16.1,false)))) fun p15=>
    cond p15.2 (
     Option.bind (iV N b4 ([a1.gc,r13.gC2]) a2 a3 s3 a5 a6 a7 a8 a9 a10 a11 (aB.mk r12.1 ((aB.mk r10.1 s4.gA s4.gC s4.gB s4.gD).gA) ((aB.mk r10.1 s4.gA s4.gC s4.gB s4.gD).gC) ((aB.mk r10.1 s4.gA s4.gC s4.gB s4.gD).gB) ((aB.mk r10.1 s4.gA s4.gC s4.gB s4.gD).gD)) (aL.mk s5.gO s5.gA s5.gl p15.1)) fun r17=>
     some ((r17,aB.mk r12.1 ((aB.mk r10.1 s4.gA s4.gC s4.gB s4.gD).gA) ((aB.mk r10.1 s4.gA s4.gC s4.gB s4.gD).gC) ((aB.mk r10.1 s4.gA s4.gC s4.gB s4.gD).gB) ((aB.mk r10.1 s4.gA s4.gC s4.gB s4.gD).gD),p15.1,e8,r13))) (
     some ((s3,aB.mk r12.1 ((aB.mk r10.1 s4.gA s4.gC s4.gB s4.gD).gA) ((aB.mk r10.1 s4.gA s4.gC s4.gB s4.gD).gC) ((aB.mk r10.1 s4.gA s4.gC s4.gB s4.gD).gB) ((aB.mk r10.1 s4.gA s4.gC s4.gB s4.gD).gD),p15.1,e8,r13))))) fun p7=>
   fS N x1 a8 b4 a2 a3 a5 a6 a7 a9 a10 a11 a1 k p7.1 p7.2.1 (aL.mk s5.gO s5.gA s5.gl p7.2.2.1) (I64 (s6+1))) (
   some ((s3,s4,s5)))
def pJ (N:Nat) (r18:Int×Int) (x19:Int) (a1:aV):Nat→aL→Int→Option (aL)
 | 0,_,_=>none
 | k+1,s21,s22=>
  aT (decide (s22 < (I64 (r18.2 - x19)))) fun x23=>
  cond x23 (
   Option.bind (iO N a1.gat (aC.mk 0 0 0) 2 a1.gi false s21) fun r24=>
   pJ N r18 x19 a1 k (aL.mk s21.gO s21.gA s21.gl r24.1) (I64 (s22+1))) (
   some s21)
def lC (N:Nat) (b4:(List (List aD))) (a1:aV) (a2:aK) (a3 a4:aA) (a5:Int) (a6:Bool) (a7:aG) (a8:aE) (a9:aI) (a10:aA) (a11:aH) (a12:aB) (a13:aL):Option (aA×aB×aL):=
 aT ((a8.gI.length:Int)) fun x1=>
 Option.bind (fS N x1 a8 b4 a2 a3 a5 a6 a7 a9 a10 a11 a1 N a4 a12 a13 0) fun p2=>
 cond (!a9.gS) (
  some ((p2.1,p2.2.1,p2.2.2))) (
  Option.bind (jI N a9.gJ) fun r18=>
  aT ((a8.gI.length:Int)) fun x19=>
  Option.bind (pJ N r18 x19 a1 N p2.2.2 0) fun p20=>
  some ((p2.1,p2.2.1,p20)))
theorem aBU {N b4 a1 a2 a3 a4 a5 a6 a7 a8 a9 a10 a11 a12 a13 r} (h:lC N b4 a1 a2 a3 a4 a5 a6 a7 a8 a9 a10 a11 a12 a13=some r):FnM Tryz.prog 194 [.var (.st 26 [(aK.enc a2),(.ref 1 [] 0),(.ref 2 [] 0),(aA.enc a3),(aA.enc a4),(j64 a5),(eB a6),(aG.enc a7)]),.var (.st 38 [(aE.enc a8),(aI.enc a9),(.ifc 181 (.ref 3 [] 0)),(eO 4 1 (eL 2 aD.enc) b4),(aA.enc a10),(aH.enc a11)]),.var (aB.enc a12),.var (aL.enc a13),.tail (b4.length*1)] [(.ref 0 [] 0),(aV.enc a1)] (.tup []) [.var (.st 26 [(aK.enc a2),(.ref 1 [] 0),(.ref 2 [] 0),(aA.enc a3),(aA.enc r.1),(j64 a5),(eB a6),(aG.enc a7)]),.var (.st 38 [(aE.enc a8),(aI.enc a9),(.ifc 181 (.ref 3 [] 0)),(eO 4 1 (eL 2 aD.enc) b4),(aA.enc a10),(aH.enc a11)]),.var (aB.enc r.2.1),.var (aL.enc r.2.2),.tail (b4.length*1)]:=by
 unfold lC at h
 refine At.f aA9 hT hmo Tryz.func194 rfl h ?_
 refine lx ?_;intro x1
 refine At.L 11 [0,3] 5 (fun p2=>([],[(0,.var (.st 26 [(aK.enc a2),(.ref 1 [] 0),(.ref 2 [] 0),(aA.enc a3),(aA.enc p2.1),(j64 a5),(eB a6),(aG.enc a7)])),(2,.var (aB.enc p2.2.1)),(3,.var (aL.enc p2.2.2))],[])) (fun p2 J k=>∃ s3 s4 s5 s6,fS N x1 a8 b4 a2 a3 a5 a6 a7 a9 a10 a11 a1 k s3 s4 s5 s6=some p2∧J [0,3,16,17] 5 [(18,(j64 s6))] [(0,.var (.st 26 [(aK.enc a2),(.ref 1 [] 0),(.ref 2 [] 0),(aA.enc a3),(aA.enc s3),(j64 a5),(eB a6),(aG.enc a7)])),(2,.var (aB.enc s4)),(3,.var (aL.enc s5))] []) N (fun _ h=>⟨_,_,_,_,h,jr⟩) (fun p2 k s hI=>?_) fun p2=>?_
 ·obtain ⟨s3,s4,s5,s6,h,hj⟩:=hI
  cases k with
  | zero=>cases h
  | succ k=>
   refine At.jr hj ?_ h
   refine At.c 1 ?_ ?_
   ·refine At.J 0 2 [0,3,16,17,18] 5 (fun p7=>([],[(0,.var (.st 26 [(aK.enc a2),(.ref 1 [] 0),(.ref 2 [] 0),(aA.enc a3),(aA.enc p7.1),(j64 a5),(eB a6),(aG.enc a7)])),(2,.var (aB.enc p7.2.1)),(3,.var (.st 5 [(aX.enc s5.gO),(eB s5.gA),(eL 19 aF.enc s5.gl),(j64 p7.2.2.1)]))],[.var (aP.enc p7.2.2.2.1),.var (jL.enc p7.2.2.2.2)])) (fun p7=>?_) fun p7=>?_
    ·refine At.b 1 (fun _ e=>bF hT aP.enc e) fun e8=>?_
     refine lx ?_;intro x9
     refine bi fun r10 hr10=>?_
     refine lx ?_;intro x11
     refine bi fun r12 hr12=>?_
     refine bi fun r13 hr13=>?_
     refine At.d2 4 [false] (dC2 16 (jL.enc r13) (fun _=>aO (aCQ hr13)) dC0) (dS1 9 ⟨(k32 r10.2),2,.var (.st 72 [(aU.enc r10.1),(eB s4.gA),(k64 s4.gC),(j64 s4.gB),(j64 s4.gD)]),.var (aB.enc s4)⟩ [[.var (.st 26 [(aK.enc a2),(.ref 1 [] 0),(.ref 2 [] 0),(aA.enc a3),(aA.enc s3),(j64 a5),(eB a6),(aG.enc a7)]),.var (.st 38 [(aE.enc a8),(aI.enc a9),(.ifc 181 (.ref 3 [] 0)),(eO 4 1 (eL 2 aD.enc) b4),(aA.enc a10),(aH.enc a11)]),.var (aB.enc s4),.var (aL.enc s5),.tail (b4.length*1),.var (aP.enc e8),.dead],[.var (.st 26 [(aK.enc a2),(.ref 1 [] 0),(.ref 2 [] 0),(aA.enc a3),(aA.enc s3),(j64 a5),(eB a6),(aG.enc a7)]),.var (.st 38 [(aE.enc a8),(aI.enc a9),(.ifc 181 (.ref 3 [] 0)),(eO 4 1 (eL 2 aD.enc) b4),(aA.enc a10),(aH.enc a11)]),.var (aB.enc s4),.var (aL.enc s5),.tail (b4.length*1),.var (aP.enc e8),.var aNu]] ⟨bG (aM [0,1,2,3,4] (cS hr10)),bG (aM [0,1,2,3,4] (cS hr10)),trivial⟩ (dS1 14 ⟨(k32 r12.2),2,.var (.st 72 [(aU.enc r12.1),(eB ((aB.mk r10.1 s4.gA s4.gC s4.gB s4.gD).gA)),(k64 ((aB.mk r10.1 s4.gA s4.gC s4.gB s4.gD).gC)),(j64 ((aB.mk r10.1 s4.gA s4.gC s4.gB s4.gD).gB)),(j64 ((aB.mk r10.1 s4.gA s4.gC s4.gB s4.gD).gD))]),.var (.st 72 [(aU.enc r10.1),(eB s4.gA),(k64 s4.gC),(j64 s4.gB),(j64 s4.gD)])⟩ [[.var (.st 26 [(aK.enc a2),(.ref 1 [] 0),(.ref 2 [] 0),(aA.enc a3),(aA.enc s3),(j64 a5),(eB a6),(aG.enc a7)]),.var (.st 38 [(aE.enc a8),(aI.enc a9),(.ifc 181 (.ref 3 [] 0)),(eO 4 1 (eL 2 aD.enc) b4),(aA.enc a10),(aH.enc a11)]),.var (.st 72 [(aU.enc r10.1),(eB s4.gA),(k64 s4.gC),(j64 s4.gB),(j64 s4.gD)]),.var (aL.enc s5),.tail (b4.length*1),.var (aP.enc e8),.dead],[.var (.st 26 [(aK.enc a2),(.ref 1 [] 0),(.ref 2 [] 0),(aA.enc a3),(aA.enc s3),(j64 a5),(eB a6),(aG.enc a7)]),.var (.st 38 [(aE.enc a8),(aI.enc a9),(.ifc 181 (.ref 3 [] 0)),(eO 4 1 (eL 2 aD.enc) b4),(aA.enc a10),(aH.enc a11)]),.var (.st 72 [(aU.enc r10.1),(eB s4.gA),(k64 s4.gC),(j64 s4.gB),(j64 s4.gD)]),.var (aL.enc s5),.tail (b4.length*1),.var (aP.enc e8),.var aNu]] ⟨bG (aM [0,1,2,3,4] (cS hr12)),bG (aM [0,1,2,3,4] (cS hr12)),trivial⟩ (dS1 17 ⟨(.ref 6 [] 0),6,.var aNu,.dead⟩ [[.var (.st 26 [(aK.enc a2),(.ref 1 [] 0),(.ref 2 [] 0),(aA.enc a3),(aA.enc s3),(j64 a5),(eB a6),(aG.enc a7)]),.var (.st 38 [(aE.enc a8),(aI.enc a9),(.ifc 181 (.ref 3 [] 0)),(eO 4 1 (eL 2 aD.enc) b4),(aA.enc a10),(aH.enc a11)]),.var (aB.enc s4),.var (aL.enc s5),.tail (b4.length*1),.var (aP.enc e8),.dead],[.var (.st 26 [(aK.enc a2),(.ref 1 [] 0),(.ref 2 [] 0),(aA.enc a3),(aA.enc s3),(j64 a5),(eB a6),(aG.enc a7)]),.var (.st 38 [(aE.enc a8),(aI.enc a9),(.ifc 181 (.ref 3 [] 0)),(eO 4 1 (eL 2 aD.enc) b4),(aA.enc a10),(aH.enc a11)]),.var (.st 72 [(aU.enc r12.1),(eB ((aB.mk r10.1 s4.gA s4.gC s4.gB s4.gD).gA)),(k64 ((aB.mk r10.1 s4.gA s4.gC s4.gB s4.gD).gC)),(j64 ((aB.mk r10.1 s4.gA s4.gC s4.gB s4.gD).gB)),(j64 ((aB.mk r10.1 s4.gA s4.gC s4.gB s4.gD).gD))]),.var (aL.enc s5),.tail (b4.length*1),.var (aP.enc e8),.dead],[.var (.st 26 [(aK.enc a2),(.ref 1 [] 0),(.ref 2 [] 0),(aA.enc a3),(aA.enc s3),(j64 a5),(eB a6),(aG.enc a7)]),.var (.st 38 [(aE.enc a8),(aI.enc a9),(.ifc 181 (.ref 3 [] 0)),(eO 4 1 (eL 2 aD.enc) b4),(aA.enc a10),(aH.enc a11)]),.var (.st 72 [(aU.enc r10.1),(eB s4.gA),(k64 s4.gC),(j64 s4.gB),(j64 s4.gD)]),.var (aL.enc s5),.tail (b4.length*1),.var (aP.enc e8),.dead],[.var (.st 26 [(aK.enc a2),(.ref 1 [] 0),(.ref 2 [] 0),(aA.enc a3),(aA.enc s3),(j64 a5),(eB a6),(aG.enc a7)]),.var (.st 38 [(aE.enc a8),(aI.enc a9),(.ifc 181 (.ref 3 [] 0)),(eO 4 1 (eL 2 aD.enc) b4),(aA.enc a10),(aH.enc a11)]),.var (.st 72 [(aU.enc r12.1),(eB ((aB.mk r10.1 s4.gA s4.gC s4.gB s4.gD).gA)),(k64 ((aB.mk r10.1 s4.gA s4.gC s4.gB s4.gD).gC)),(j64 ((aB.mk r10.1 s4.gA s4.gC s4.gB s4.gD).gB)),(j64 ((aB.mk r10.1 s4.gA s4.gC s4.gB s4.gD).gD))]),.var (aL.enc s5),.tail (b4.length*1),.var (aP.enc e8),.dead]] ⟨aW hT 6 (by kernel_rfl) (by kernel_rfl) (by kernel_rfl),aW hT 6 (by kernel_rfl) (by kernel_rfl) (by kernel_rfl),aW hT 6 (by kernel_rfl) (by kernel_rfl) (by kernel_rfl),aW hT 6 (by kernel_rfl) (by kernel_rfl) (by kernel_rfl),trivial⟩ dS0))) ?_
     refine lx ?_;intro x14
     refine At.c 13 ?_ ?_
     ·apply rt;exact At.jn 0
     ·refine At.J 0 0 [0,3,6,16,17,18] 7 (fun p15=>([(81,(eB p15.2))],[(3,.var (.st 5 [(aX.enc s5.gO),(eB s5.gA),(eL 19 aF.enc s5.gl),(j64 p15.1)]))],[])) (fun p15=>?_) fun p15=>?_
      ·refine bi fun r16 hr16=>?_
       refine boI (fun hc18=>?_) (fun hc18=>?_)
       ·refine boI (fun hc23=>?_) (fun hc23=>?_)
        ·refine At.d 0 (dE1 18 (fun _=>cD hc18 rfl (bY hT (im:=false) (by kernel_rfl))) (dE1 23 (fun _=>cD hc23 rfl (bY hT (im:=false) (by kernel_rfl))) dE0)) (dF 16 (eB r16.2) [(3,.var (.st 5 [(aX.enc s5.gO),(eB s5.gA),(eL 19 aF.enc s5.gl),(j64 r16.1)]))] [] (bG (aM [3] (mI hr16))) dF0) ?_
         apply rt;exact At.jn 0
        ·refine At.d 0 (dE1 18 (fun _=>cD hc18 rfl (bY hT (im:=false) (by kernel_rfl))) (dE1 23 (fun _=>cD hc23 rfl (bY hT (im:=false) (by kernel_rfl))) dE0)) (dF 16 (eB r16.2) [(3,.var (.st 5 [(aX.enc s5.gO),(eB s5.gA),(eL 19 aF.enc s5.gl),(j64 r16.1)]))] [] (bG (aM [3] (mI hr16))) dF0) ?_
         apply rt;exact At.jn 0
       ·refine At.d 0 (dE1 18 (fun _=>cD hc18 rfl (bY hT (im:=false) (by kernel_rfl))) dE0) (dF 16 (eB r16.2) [(3,.var (.st 5 [(aX.enc s5.gO),(eB s5.gA),(eL 19 aF.enc s5.gl),(j64 r16.1)]))] [] (bG (aM [3] (mI hr16))) dF0) ?_
        apply rt;exact At.jn 0
      ·refine At.c 0 ?_ ?_
       ·refine At.o 5 (bQ hT (x:=(.sl 3 2 [(aA.enc a1.gc),(aA.enc r13.gC2)]))) ?_
        refine At.b 0 (fun _ e=>aM [0,1,2,3,4] (sC e)) fun r17=>?_
        apply rt;exact At.jn 0
       ·apply rt;exact At.jn 0
    ·exact fun h=>At.k 2 ⟨_,_,_,_,h,jr⟩
   ·apply rt;exact At.x 0
 ·refine At.c 9 ?_ ?_
  ·apply rt;exact At.r 0
  ·refine At.b 8 (fun _ e=>aM [] (tE e)) fun r18=>?_
   refine lx ?_;intro x19
   refine At.L 17 [] 5 (fun p20=>([],[(3,.var (aL.enc p20))],[])) (fun p20 J k=>∃ s21 s22,pJ N r18 x19 a1 k s21 s22=some p20∧J [0,3,121] 5 [(122,(j64 s22))] [(3,.var (aL.enc s21))] []) N (fun _ h=>⟨_,_,h,jr⟩) (fun p20 k s hI=>?_) fun p20=>?_
   ·obtain ⟨s21,s22,h,hj⟩:=hI
    cases k with
    | zero=>cases h
    | succ k=>
     refine At.jr hj ?_ h
     refine lx ?_;intro x23
     refine At.c 1 ?_ ?_
     ·refine bi fun r24 hr24=>?_
      refine At.d 0 dE0 (dF 12 (eB r24.2) [(3,.var (.st 5 [(aX.enc s21.gO),(eB s21.gA),(eL 19 aF.enc s21.gl),(j64 r24.1)]))] [] (bG (aM [3] (mI hr24))) dF0) ?_
      exact fun h=>At.k 2 ⟨_,_,h,jr⟩
     ·apply rt;exact At.x 0
   ·apply rt;exact At.z 0
def nB (N:Nat) (b4:(List (List aD))) (a1:aK) (a2 a3:aA) (a4:Int) (a5:Bool) (a6:aG) (a7:aE) (a8:aI) (a9:aA) (a10:aH) (a11:aB) (a12:aL):Option (aK×aA×aA×Bool×aG×Int×aB×aL):=
 Option.bind (mZ N b4 a1 a2 a3 a4 a5 a6 a7 a8 a9 a10 a11 a12) fun r1=>
 Option.bind (cond (!r1.2.2.2.2) (
  Option.bind (iV N b4 ([a9]) a1 a2 a3 a4 a5 r1.1 a7 a8 a9 (aH.mk a10.gG r1.2.1 (I64 (a10.gF+1))) a11 (aL.mk a12.gO a12.gA a12.gl r1.2.2.1)) fun r3=>
  Option.bind (eW N b4 true a1 a2 r3 a4 a5 r1.1 a7 a8 a9 (aH.mk a10.gG r1.2.1 (I64 (a10.gF+1))) a11 (aL.mk a12.gO a12.gA a12.gl r1.2.2.1)) fun r4=>
  some ((r3,cond a5 true true))) (
  some ((a3,a5)))) fun p2=>
 Option.bind (eW N b4 r1.2.2.2.1.gB8 a1 a2 p2.1 a4 p2.2 r1.1 a7 a8 a9 (aH.mk a10.gG r1.2.1 (I64 (a10.gF+1))) a11 (aL.mk a12.gO a12.gA a12.gl r1.2.2.1)) fun r5=>
 Option.bind (aT (r1.2.2.2.1.gB1.gA7==4) fun x7=>
 cond x7 (
  Option.bind (iV N b4 ([r1.2.2.2.1.gc]) a1 a2 p2.1 a4 (cond p2.2 true r1.2.2.2.1.gB8) r1.1 a7 a8 a9 (aH.mk a10.gG r1.2.1 (I64 (a10.gF+1))) a11 (aL.mk a12.gO a12.gA a12.gl r1.2.2.1)) fun r8=>
  Option.bind (eW N b4 true a1 a2 r8 a4 ((cond p2.2 true r1.2.2.2.1.gB8)) r1.1 a7 a8 a9 (aH.mk a10.gG r1.2.1 (I64 (a10.gF+1))) a11 (aL.mk a12.gO a12.gA a12.gl r1.2.2.1)) fun r9=>
  some ((r8,cond ((cond p2.2 true r1.2.2.2.1.gB8)) true true))) (
  some ((p2.1,cond p2.2 true r1.2.2.2.1.gB8)))) fun p6=>
 Option.bind (Option.bind (cond a8.gS (
  some true) (
  aT (r1.2.2.2.1.gB1.gA7==0) fun x12=>
  some (cond (!p6.2) x12 false))) fun p11=>
 cond p11 (
  Option.bind (lC N b4 r1.2.2.2.1 a1 a2 p6.1 a4 p6.2 r1.1 a7 a8 a9 (aH.mk a10.gG r1.2.1 (I64 (a10.gF+1))) a11 (aL.mk a12.gO a12.gA a12.gl r1.2.2.1)) fun r13=>
  some ((r13.1,r13.2.1,r13.2.2))) (
  some ((p6.1,a11,aL.mk a12.gO a12.gA a12.gl r1.2.2.1)))) fun p10=>
 Option.bind (cond p6.2 (
  some true) (
  some (a4==a8.gM))) fun p14=>
 cond p14 (
  Option.bind (eW N b4 true a1 a2 p10.1 a4 p6.2 r1.1 a7 a8 a9 (aH.mk a10.gG r1.2.1 (I64 (a10.gF+1))) p10.2.1 p10.2.2) fun r15=>
  some ((a1,a2,p10.1,cond p6.2 true true,r1.1,r1.2.1,p10.2.1,p10.2.2))) (
  Option.bind (dM N b4 4 a1 a2 p10.1 a4 p6.2 r1.1 a7 a8 a9 (aH.mk a10.gG r1.2.1 (I64 (a10.gF+1))) p10.2.1 p10.2.2) fun r16=>
  Option.bind (dM N b4 5 a1 a2 p10.1 a4 p6.2 r1.1 a7 a8 a9 (aH.mk a10.gG r1.2.1 (I64 (a10.gF+1))) (aB.mk r16.1 p10.2.1.gA p10.2.1.gC p10.2.1.gB p10.2.1.gD) p10.2.2) fun r17=>
  Option.bind (kI N r1.2.2.2.1.gB1 r1.2.2.2.1.gc r1.2.2.2.1.gn a1.gd (#v[r16.2,r17.2])) fun r18=>
  Option.bind (iX N ([a2,r18.gC2])) fun r19=>
  Option.bind (eW N b4 r18.gB6 a1 r19 p10.1 a4 p6.2 r1.1 a7 a8 a9 (aH.mk a10.gG r1.2.1 (I64 (a10.gF+1))) (aB.mk r17.1 ((aB.mk r16.1 p10.2.1.gA p10.2.1.gC p10.2.1.gB p10.2.1.gD).gA) ((aB.mk r16.1 p10.2.1.gA p10.2.1.gC p10.2.1.gB p10.2.1.gD).gC) ((aB.mk r16.1 p10.2.1.gA p10.2.1.gC p10.2.1.gB p10.2.1.gD).gB) ((aB.mk r16.1 p10.2.1.gA p10.2.1.gC p10.2.1.gB p10.2.1.gD).gD)) p10.2.2) fun r20=>
  Option.bind (cond (decide (a4≥2)) (
   Option.bind (dM N b4 7 a1 r19 p10.1 a4 (cond p6.2 true r18.gB6) r1.1 a7 a8 a9 (aH.mk a10.gG r1.2.1 (I64 (a10.gF+1))) (aB.mk r17.1 ((aB.mk r16.1 p10.2.1.gA p10.2.1.gC p10.2.1.gB p10.2.1.gD).gA) ((aB.mk r16.1 p10.2.1.gA p10.2.1.gC p10.2.1.gB p10.2.1.gD).gC) ((aB.mk r16.1 p10.2.1.gA p10.2.1.gC p10.2.1.gB p10.2.1.gD).gB) ((aB.mk r16.1 p10.2.1.gA p10.2.1.gC p10.2.1.gB p10.2.1.gD).gD)) p10.2.2) fun r22=>
   Option.bind (jM N r19 r22.2) fun r23=>
   Option.bind (eW N b4 (!r23.2) a1 r23.1 p10.1 a4 (cond p6.2 true r18.gB6) r1.1 a7 a8 a9 (aH.mk a10.gG r1.2.1 (I64 (a10.gF+1))) (aB.mk r22.1 ((aB.mk r17.1 ((aB.mk r16.1 p10.2.1.gA p10.2.1.gC p10.2.1.gB p10.2.1.gD).gA) ((aB.mk r16.1 p10.2.1.gA p10.2.1.gC p10.2.1.gB p10.2.1.gD).gC) ((aB.mk r16.1 p10.2.1.gA p10.2.1.gC p10.2.1.gB p10.2.1.gD).gB) ((aB.mk r16.1 p10.2.1.gA p10.2.1.gC p10.2.1.gB p10.2.1.gD).gD)).gA) ((aB.mk r17.1 ((aB.mk r16.1 p10.2.1.gA p10.2.1.gC p10.2.1.gB p10.2.1.gD).gA) ((aB.mk r16.1 p10.2.1.gA p10.2.1.gC p10.2.1.gB p10.2.1.gD).gC) ((aB.mk r16.1 p10.2.1.gA p10.2.1.gC p10.2.1.gB p10.2.1.gD).gB) ((aB.mk r16.1 p10.2.1.gA p10.2.1.gC p10.2.1.gB p10.2.1.gD).gD)).gC) ((aB.mk r17.1 ((aB.mk r16.1 p10.2.1.gA p10.2.1.gC p10.2.1.gB p10.2.1.gD).gA) ((aB.mk r16.1 p10.2.1.gA p10.2.1.gC p10.2.1.gB p10.2.1.gD).gC) ((aB.mk r16.1 p10.2.1.gA p10.2.1.gC p10.2.1.gB p10.2.1.gD).gB) ((aB.mk r16.1 p10.2.1.gA p10.2.1.gC p10.2.1.gB p10.2.1.gD).gD)).gB) ((aB.mk r17.1 ((aB.mk r16.1 p10.2.1.gA p10.2.1.gC p10.2.1.gB p10.2.1.gD).gA) ((aB.mk r16.1 p10.2.1.gA p10.2.1.gC p10.2.1.gB p10.2.1.gD).gC) ((aB.mk r16.1 p10.2.1.gA p10.2.1.gC p10.2.1.gB p10.2.1.gD).gB) ((aB.mk r16.1 p10.2.1.gA p10.2.1.gC p10.2.1.gB p10.2.1.gD).gD)).gD)) p10.2.2) fun r24=>
   some ((r23.1,cond (cond p6.2 true r18.gB6) true (!r23.2),aB.mk r22.1 ((aB.mk r17.1 ((aB.mk r16.1 p10.2.1.gA p10.2.1.gC p10.2.1.gB p10.2.1.gD).gA) ((aB.mk r16.1 p10.2.1.gA p10.2.1.gC p10.2.1.gB p10.2.1.gD).gC) ((aB.mk r16.1 p10.2.1.gA p10.2.1.gC p10.2.1.gB p10.2.1.gD).gB) ((aB.mk r16.1 p10.2.1.gA p10.2.1.gC p10.2.1.gB p10.2.1.gD).gD)).gA) ((aB.mk r17.1 ((aB.mk r16.1 p10.2.1.gA p10.2.1.gC p10.2.1.gB p10.2.1.gD).gA) ((aB.mk r16.1 p10.2.1.gA p10.2.1.gC p10.2.1.gB p10.2.1.gD).gC) ((aB.mk r16.1 p10.2.1.gA p10.2.1.gC p10.2.1.gB p10.2.1.gD).gB) ((aB.mk r16.1 p10.2.1.gA p10.2.1.gC p10.2.1.gB p10.2.1.gD).gD)).gC) ((aB.mk r17.1 ((aB.mk r16.1 p10.2.1.gA p10.2.1.gC p10.2.1.gB p10.2.1.gD).gA) ((aB.mk r16.1 p10.2.1.gA p10.2.1.gC p10.2.1.gB p10.2.1.gD).gC) ((aB.mk r16.1 p10.2.1.gA p10.2.1.gC p10.2.1.gB p10.2.1.gD).gB) ((aB.mk r16.1 p10.2.1.gA p10.2.1.gC p10.2.1.gB p10.2.1.gD).gD)).gB) ((aB.mk r17.1 ((aB.mk r16.1 p10.2.1.gA p10.2.1.gC p10.2.1.gB p10.2.1.gD).gA) ((aB.mk r16.1 p10.2.1.gA p10.2.1.gC p10.2.1.gB p10.2.1.gD).gC) ((aB.mk r16.1 p10.2.1.gA p10.2.1.gC p10.2.1.gB p10.2.1.gD).gB) ((aB.mk r16.1 p10.2.1.gA p10.2.1.gC p10.2.1.gB p10.2.1.gD).gD)).gD)))) (
   some ((r19,cond p6.2 true r18.gB6,aB.mk r17.1 ((aB.mk r16.1 p10.2.1.gA p10.2.1.gC p10.2.1.gB p10.2.1.gD).gA) ((aB.mk r16.1 p10.2.1.gA p10.2.1.gC p10.2.1.gB p10.2.1.gD).gC) ((aB.mk r16.1 p10.2.1.gA p10.2.1.gC p10.2.1.gB p10.2.1.gD).gB) ((aB.mk r16.1 p10.2.1.gA p10.2.1.gC p10.2.1.gB p10.2.1.gD).gD))))) fun p21=>
  some ((aK.mk r1.2.2.2.1.gat r18.gE7 r1.2.2.2.1.gi,p21.1,p10.1,p21.2.1,r1.1,r1.2.1,p21.2.2,p10.2.2)))
theorem aCV {N b4 a1 a2 a3 a4 a5 a6 a7 a8 a9 a10 a11 a12 r} (h:nB N b4 a1 a2 a3 a4 a5 a6 a7 a8 a9 a10 a11 a12=some r):FnM Tryz.prog 107 [.var (.st 26 [(aK.enc a1),(.ref 1 [] 0),(.ref 2 [] 0),(aA.enc a2),(aA.enc a3),(j64 a4),(eB a5),(aG.enc a6)]),.var (.st 38 [(aE.enc a7),(aI.enc a8),(.ifc 181 (.ref 3 [] 0)),(eO 4 1 (eL 2 aD.enc) b4),(aA.enc a9),(aH.enc a10)]),.var (aB.enc a11),.var (aL.enc a12),.tail (b4.length*1)] [(.ref 0 [] 0)] (.tup []) [.var (.st 26 [(aK.enc r.1),(.ref 1 [] 0),(.ref 2 [] 0),(aA.enc r.2.1),(aA.enc r.2.2.1),(j64 a4),(eB r.2.2.2.1),(aG.enc r.2.2.2.2.1)]),.var (.st 38 [(aE.enc a7),(aI.enc a8),(.ifc 181 (.ref 3 [] 0)),(eO 4 1 (eL 2 aD.enc) b4),(aA.enc a9),(.st 3 [(j64 a10.gG),(j64 r.2.2.2.2.2.1),(j64 (I64 (a10.gF+1)))])]),.var (aB.enc r.2.2.2.2.2.2.1),.var (aL.enc r.2.2.2.2.2.2.2),.tail (b4.length*1)]:=by
 unfold nB at h
 refine At.f cQ hT hmo Tryz.func107 rfl h ?_
 refine At.b 1 (fun _ e=>aM [0,1,2,3,4] (aCW e)) fun r1=>?_
 refine At.J 6 1 [0,2] 6 (fun p2=>([],[(0,.var (.st 26 [(aK.enc a1),(.ref 1 [] 0),(.ref 2 [] 0),(aA.enc a2),(aA.enc p2.1),(j64 a4),(eB p2.2),(aG.enc r1.1)]))],[])) (fun p2=>?_) fun p2=>?_
 ·refine At.c 2 ?_ ?_
  ·refine At.o 8 (bQ hT (x:=(.sl 3 1 [(aA.enc a9)]))) ?_
   refine At.b 0 (fun _ e=>aM [0,1,2,3,4] (sC e)) fun r3=>?_
   refine At.b 1 (fun _ e=>aM [0,1,2,3,4] (jT e)) fun r4=>?_
   apply rt;exact At.jn 0
  ·apply rt;exact At.jn 0
 ·refine At.b 3 (fun _ e=>aM [0,1,2,3,4] (jT e)) fun r5=>?_
  refine At.J 0 1 [0,2] 6 (fun p6=>([],[(0,.var (.st 26 [(aK.enc a1),(.ref 1 [] 0),(.ref 2 [] 0),(aA.enc a2),(aA.enc p6.1),(j64 a4),(eB p6.2),(aG.enc r1.1)]))],[])) (fun p6=>?_) fun p6=>?_
  ·refine lx ?_;intro x7
   refine At.c 4 ?_ ?_
   ·refine At.o 3 (bQ hT (x:=(.sl 3 1 [(aA.enc r1.2.2.2.1.gc)]))) ?_
    refine At.b 0 (fun _ e=>aM [0,1,2,3,4] (sC e)) fun r8=>?_
    refine At.b 1 (fun _ e=>aM [0,1,2,3,4] (jT e)) fun r9=>?_
    apply rt;exact At.jn 0
   ·apply rt;exact At.jn 0
  ·refine At.J 0 1 [0,2] 6 (fun p10=>([],[(0,.var (.st 26 [(aK.enc a1),(.ref 1 [] 0),(.ref 2 [] 0),(aA.enc a2),(aA.enc p10.1),(j64 a4),(eB p6.2),(aG.enc r1.1)])),(2,.var (aB.enc p10.2.1)),(3,.var (aL.enc p10.2.2))],[])) (fun p10=>?_) fun p10=>?_
   ·refine At.J 0 0 [0,2] 6 (fun p11=>([(61,(eB p11))],[],[])) (fun p11=>?_) fun p11=>?_
    ·refine At.s 49 9 ?_ ?_
     ·refine At.g [49,55] 12 ?_
      apply rt;exact At.jn 0
     ·refine lx ?_;intro x12
      refine At.g [49] 12 ?_
      apply rt;exact At.jn 0
    ·refine At.c 0 ?_ ?_
     ·refine At.b 2 (fun _ e=>aM [0,1,2,3,4] (aBU e)) fun r13=>?_
      apply rt;exact At.jn 0
     ·apply rt;exact At.jn 0
   ·refine At.J 0 0 [0,2] 6 (fun p14=>([(83,(eB p14))],[],[])) (fun p14=>?_) fun p14=>?_
    ·refine boI (fun hc4=>?_) (fun hc4=>?_)
     ·refine At.d 0 (dE1 4 (fun _=>cD hc4 rfl (bY hT (im:=false) (by kernel_rfl))) dE0) dF0 ?_
      apply rt;exact At.jn 0
     ·refine At.d 0 (dE1 4 (fun _=>cD hc4 rfl (bY hT (im:=false) (by kernel_rfl))) dE0) dF0 ?_
      apply rt;exact At.jn 0
    ·refine At.c 0 ?_ ?_
     ·refine At.b 1 (fun _ e=>aM [0,1,2,3,4] (jT e)) fun r15=>?_
      apply rt;exact At.r 0
     ·refine bi fun r16 hr16=>?_
      refine bi fun r17 hr17=>?_
      refine bi fun r18 hr18=>?_
      refine At.d2 0 [false] (dC2 16 (cL.enc r18) (fun _=>aO (aAS hr18)) dC0) (dS1 12 ⟨(k32 r16.2),2,.var (.st 72 [(aU.enc r16.1),(eB p10.2.1.gA),(k64 p10.2.1.gC),(j64 p10.2.1.gB),(j64 p10.2.1.gD)]),.var (aB.enc p10.2.1)⟩ [[.var (.st 26 [(aK.enc a1),(.ref 1 [] 0),(.ref 2 [] 0),(aA.enc a2),(aA.enc p10.1),(j64 a4),(eB p6.2),(aG.enc r1.1)]),.var (.st 38 [(aE.enc a7),(aI.enc a8),(.ifc 181 (.ref 3 [] 0)),(eO 4 1 (eL 2 aD.enc) b4),(aA.enc a9),(.st 3 [(j64 a10.gG),(j64 r1.2.1),(j64 (I64 (a10.gF+1)))])]),.var (aB.enc p10.2.1),.var (aL.enc p10.2.2),.tail (b4.length*1),.var (aV.enc r1.2.2.2.1),.dead],[.var (.st 26 [(aK.enc a1),(.ref 1 [] 0),(.ref 2 [] 0),(aA.enc a2),(aA.enc p10.1),(j64 a4),(eB p6.2),(aG.enc r1.1)]),.var (.st 38 [(aE.enc a7),(aI.enc a8),(.ifc 181 (.ref 3 [] 0)),(eO 4 1 (eL 2 aD.enc) b4),(aA.enc a9),(.st 3 [(j64 a10.gG),(j64 r1.2.1),(j64 (I64 (a10.gF+1)))])]),.var (aB.enc p10.2.1),.var (aL.enc p10.2.2),.tail (b4.length*1),.var (aV.enc r1.2.2.2.1),.var aNk]] ⟨bG (aM [0,1,2,3,4] (cS hr16)),bG (aM [0,1,2,3,4] (cS hr16)),trivial⟩ (dS1 14 ⟨(k32 r17.2),2,.var (.st 72 [(aU.enc r17.1),(eB ((aB.mk r16.1 p10.2.1.gA p10.2.1.gC p10.2.1.gB p10.2.1.gD).gA)),(k64 ((aB.mk r16.1 p10.2.1.gA p10.2.1.gC p10.2.1.gB p10.2.1.gD).gC)),(j64 ((aB.mk r16.1 p10.2.1.gA p10.2.1.gC p10.2.1.gB p10.2.1.gD).gB)),(j64 ((aB.mk r16.1 p10.2.1.gA p10.2.1.gC p10.2.1.gB p10.2.1.gD).gD))]),.var (.st 72 [(aU.enc r16.1),(eB p10.2.1.gA),(k64 p10.2.1.gC),(j64 p10.2.1.gB),(j64 p10.2.1.gD)])⟩ [[.var (.st 26 [(aK.enc a1),(.ref 1 [] 0),(.ref 2 [] 0),(aA.enc a2),(aA.enc p10.1),(j64 a4),(eB p6.2),(aG.enc r1.1)]),.var (.st 38 [(aE.enc a7),(aI.enc a8),(.ifc 181 (.ref 3 [] 0)),(eO 4 1 (eL 2 aD.enc) b4),(aA.enc a9),(.st 3 [(j64 a10.gG),(j64 r1.2.1),(j64 (I64 (a10.gF+1)))])]),.var (.st 72 [(aU.enc r16.1),(eB p10.2.1.gA),(k64 p10.2.1.gC),(j64 p10.2.1.gB),(j64 p10.2.1.gD)]),.var (aL.enc p10.2.2),.tail (b4.length*1),.var (aV.enc r1.2.2.2.1),.dead],[.var (.st 26 [(aK.enc a1),(.ref 1 [] 0),(.ref 2 [] 0),(aA.enc a2),(aA.enc p10.1),(j64 a4),(eB p6.2),(aG.enc r1.1)]),.var (.st 38 [(aE.enc a7),(aI.enc a8),(.ifc 181 (.ref 3 [] 0)),(eO 4 1 (eL 2 aD.enc) b4),(aA.enc a9),(.st 3 [(j64 a10.gG),(j64 r1.2.1),(j64 (I64 (a10.gF+1)))])]),.var (.st 72 [(aU.enc r16.1),(eB p10.2.1.gA),(k64 p10.2.1.gC),(j64 p10.2.1.gB),(j64 p10.2.1.gD)]),.var (aL.enc p10.2.2),.tail (b4.length*1),.var (aV.enc r1.2.2.2.1),.var aNk]] ⟨bG (aM [0,1,2,3,4] (cS hr17)),bG (aM [0,1,2,3,4] (cS hr17)),trivial⟩ (dS1 17 ⟨(.ref 6 [] 0),6,.var aNk,.dead⟩ [[.var (.st 26 [(aK.enc a1),(.ref 1 [] 0),(.ref 2 [] 0),(aA.enc a2),(aA.enc p10.1),(j64 a4),(eB p6.2),(aG.enc r1.1)]),.var (.st 38 [(aE.enc a7),(aI.enc a8),(.ifc 181 (.ref 3 [] 0)),(eO 4 1 (eL 2 aD.enc) b4),(aA.enc a9),(.st 3 [(j64 a10.gG),(j64 r1.2.1),(j64 (I64 (a10.gF+1)))])]),.var (aB.enc p10.2.1),.var (aL.enc p10.2.2),.tail (b4.length*1),.var (aV.enc r1.2.2.2.1),.dead],[.var (.st 26 [(aK.enc a1),(.ref 1 [] 0),(.ref 2 [] 0),(aA.enc a2),(aA.enc p10.1),(j64 a4),(eB p6.2),(aG.enc r1.1)]),.var (.st 38 [(aE.enc a7),(aI.enc a8),(.ifc 181 (.ref 3 [] 0)),(eO 4 1 (eL 2 aD.enc) b4),(aA.enc a9),(.st 3 [(j64 a10.gG),(j64 r1.2.1),(j64 (I64 (a10.gF+1)))])]),.var (.st 72 [(aU.enc r17.1),(eB ((aB.mk r16.1 p10.2.1.gA p10.2.1.gC p10.2.1.gB p10.2.1.gD).gA)),(k64 ((aB.mk r16.1 p10.2.1.gA p10.2.1.gC p10.2.1.gB p10.2.1.gD).gC)),(j64 ((aB.mk r16.1 p10.2.1.gA p10.2.1.gC p10.2.1.gB p10.2.1.gD).gB)),(j64 ((aB.mk r16.1 p10.2.1.gA p10.2.1.gC p10.2.1.gB p10.2.1.gD).gD))]),.var (aL.enc p10.2.2),.tail (b4.length*1),.var (aV.enc r1.2.2.2.1),.dead],[.var (.st 26 [(aK.enc a1),(.ref 1 [] 0),(.ref 2 [] 0),(aA.enc a2),(aA.enc p10.1),(j64 a4),(eB p6.2),(aG.enc r1.1)]),.var (.st 38 [(aE.enc a7),(aI.enc a8),(.ifc 181 (.ref 3 [] 0)),(eO 4 1 (eL 2 aD.enc) b4),(aA.enc a9),(.st 3 [(j64 a10.gG),(j64 r1.2.1),(j64 (I64 (a10.gF+1)))])]),.var (.st 72 [(aU.enc r16.1),(eB p10.2.1.gA),(k64 p10.2.1.gC),(j64 p10.2.1.gB),(j64 p10.2.1.gD)]),.var (aL.enc p10.2.2),.tail (b4.length*1),.var (aV.enc r1.2.2.2.1),.dead],[.var (.st 26 [(aK.enc a1),(.ref 1 [] 0),(.ref 2 [] 0),(aA.enc a2),(aA.enc p10.1),(j64 a4),(eB p6.2),(aG.enc r1.1)]),.var (.st 38 [(aE.enc a7),(aI.enc a8),(.ifc 181 (.ref 3 [] 0)),(eO 4 1 (eL 2 aD.enc) b4),(aA.enc a9),(.st 3 [(j64 a10.gG),(j64 r1.2.1),(j64 (I64 (a10.gF+1)))])]),.var (.st 72 [(aU.enc r17.1),(eB ((aB.mk r16.1 p10.2.1.gA p10.2.1.gC p10.2.1.gB p10.2.1.gD).gA)),(k64 ((aB.mk r16.1 p10.2.1.gA p10.2.1.gC p10.2.1.gB p10.2.1.gD).gC)),(j64 ((aB.mk r16.1 p10.2.1.gA p10.2.1.gC p10.2.1.gB p10.2.1.gD).gB)),(j64 ((aB.mk r16.1 p10.2.1.gA p10.2.1.gC p10.2.1.gB p10.2.1.gD).gD))]),.var (aL.enc p10.2.2),.tail (b4.length*1),.var (aV.enc r1.2.2.2.1),.dead]] ⟨aW hT 6 (by kernel_rfl) (by kernel_rfl) (by kernel_rfl),aW hT 6 (by kernel_rfl) (by kernel_rfl) (by kernel_rfl),aW hT 6 (by kernel_rfl) (by kernel_rfl) (by kernel_rfl),aW hT 6 (by kernel_rfl) (by kernel_rfl) (by kernel_rfl),trivial⟩ dS0))) ?_
      refine bi fun r19 hr19=>?_
      refine At.d 0 (dE1 7 (fun _=>bQ hT (x:=(.sl 3 2 [(aA.enc a2),(aA.enc r18.gC2)]))) (dE2 8 (aA.enc r19) (fun _=>aO (qS hr19)) dE0)) dF0 ?_
      refine At.b 3 (fun _ e=>aM [0,1,2,3,4] (jT e)) fun r20=>?_
      refine At.J 0 1 [0,2,4] 7 (fun p21=>([],[(0,.var (.st 26 [(aK.enc a1),(.ref 1 [] 0),(.ref 2 [] 0),(aA.enc p21.1),(aA.enc p10.1),(j64 a4),(eB p21.2.1),(aG.enc r1.1)])),(2,.var (aB.enc p21.2.2))],[])) (fun p21=>?_) fun p21=>?_
      ·refine At.c 5 ?_ ?_
       ·refine bi fun r22 hr22=>?_
        refine bi fun r23 hr23=>?_
        refine At.d2 0 [false] (dC2 6 (.tup [(aA.enc r23.1),(eB r23.2)]) (fun _=>aO (yU hr23)) dC0) (dS1 5 ⟨(k32 r22.2),2,.var (.st 72 [(aU.enc r22.1),(eB ((aB.mk r17.1 ((aB.mk r16.1 p10.2.1.gA p10.2.1.gC p10.2.1.gB p10.2.1.gD).gA) ((aB.mk r16.1 p10.2.1.gA p10.2.1.gC p10.2.1.gB p10.2.1.gD).gC) ((aB.mk r16.1 p10.2.1.gA p10.2.1.gC p10.2.1.gB p10.2.1.gD).gB) ((aB.mk r16.1 p10.2.1.gA p10.2.1.gC p10.2.1.gB p10.2.1.gD).gD)).gA)),(k64 ((aB.mk r17.1 ((aB.mk r16.1 p10.2.1.gA p10.2.1.gC p10.2.1.gB p10.2.1.gD).gA) ((aB.mk r16.1 p10.2.1.gA p10.2.1.gC p10.2.1.gB p10.2.1.gD).gC) ((aB.mk r16.1 p10.2.1.gA p10.2.1.gC p10.2.1.gB p10.2.1.gD).gB) ((aB.mk r16.1 p10.2.1.gA p10.2.1.gC p10.2.1.gB p10.2.1.gD).gD)).gC)),(j64 ((aB.mk r17.1 ((aB.mk r16.1 p10.2.1.gA p10.2.1.gC p10.2.1.gB p10.2.1.gD).gA) ((aB.mk r16.1 p10.2.1.gA p10.2.1.gC p10.2.1.gB p10.2.1.gD).gC) ((aB.mk r16.1 p10.2.1.gA p10.2.1.gC p10.2.1.gB p10.2.1.gD).gB) ((aB.mk r16.1 p10.2.1.gA p10.2.1.gC p10.2.1.gB p10.2.1.gD).gD)).gB)),(j64 ((aB.mk r17.1 ((aB.mk r16.1 p10.2.1.gA p10.2.1.gC p10.2.1.gB p10.2.1.gD).gA) ((aB.mk r16.1 p10.2.1.gA p10.2.1.gC p10.2.1.gB p10.2.1.gD).gC) ((aB.mk r16.1 p10.2.1.gA p10.2.1.gC p10.2.1.gB p10.2.1.gD).gB) ((aB.mk r16.1 p10.2.1.gA p10.2.1.gC p10.2.1.gB p10.2.1.gD).gD)).gD))]),.var (.st 72 [(aU.enc r17.1),(eB ((aB.mk r16.1 p10.2.1.gA p10.2.1.gC p10.2.1.gB p10.2.1.gD).gA)),(k64 ((aB.mk r16.1 p10.2.1.gA p10.2.1.gC p10.2.1.gB p10.2.1.gD).gC)),(j64 ((aB.mk r16.1 p10.2.1.gA p10.2.1.gC p10.2.1.gB p10.2.1.gD).gB)),(j64 ((aB.mk r16.1 p10.2.1.gA p10.2.1.gC p10.2.1.gB p10.2.1.gD).gD))])⟩ [[.var (.st 26 [(aK.enc a1),(.ref 1 [] 0),(.ref 2 [] 0),(aA.enc r19),(aA.enc p10.1),(j64 a4),(eB (cond p6.2 true r18.gB6)),(aG.enc r1.1)]),.var (.st 38 [(aE.enc a7),(aI.enc a8),(.ifc 181 (.ref 3 [] 0)),(eO 4 1 (eL 2 aD.enc) b4),(aA.enc a9),(.st 3 [(j64 a10.gG),(j64 r1.2.1),(j64 (I64 (a10.gF+1)))])]),.var (.st 72 [(aU.enc r17.1),(eB ((aB.mk r16.1 p10.2.1.gA p10.2.1.gC p10.2.1.gB p10.2.1.gD).gA)),(k64 ((aB.mk r16.1 p10.2.1.gA p10.2.1.gC p10.2.1.gB p10.2.1.gD).gC)),(j64 ((aB.mk r16.1 p10.2.1.gA p10.2.1.gC p10.2.1.gB p10.2.1.gD).gB)),(j64 ((aB.mk r16.1 p10.2.1.gA p10.2.1.gC p10.2.1.gB p10.2.1.gD).gD))]),.var (aL.enc p10.2.2),.tail (b4.length*1),.var (aV.enc r1.2.2.2.1),.var (cL.enc r18),.dead],[.var (.st 26 [(aK.enc a1),(.ref 1 [] 0),(.ref 2 [] 0),(aA.enc r19),(aA.enc p10.1),(j64 a4),(eB (cond p6.2 true r18.gB6)),(aG.enc r1.1)]),.var (.st 38 [(aE.enc a7),(aI.enc a8),(.ifc 181 (.ref 3 [] 0)),(eO 4 1 (eL 2 aD.enc) b4),(aA.enc a9),(.st 3 [(j64 a10.gG),(j64 r1.2.1),(j64 (I64 (a10.gF+1)))])]),.var (.st 72 [(aU.enc r17.1),(eB ((aB.mk r16.1 p10.2.1.gA p10.2.1.gC p10.2.1.gB p10.2.1.gD).gA)),(k64 ((aB.mk r16.1 p10.2.1.gA p10.2.1.gC p10.2.1.gB p10.2.1.gD).gC)),(j64 ((aB.mk r16.1 p10.2.1.gA p10.2.1.gC p10.2.1.gB p10.2.1.gD).gB)),(j64 ((aB.mk r16.1 p10.2.1.gA p10.2.1.gC p10.2.1.gB p10.2.1.gD).gD))]),.var (aL.enc p10.2.2),.tail (b4.length*1),.var (aV.enc r1.2.2.2.1),.var (cL.enc r18),.var (.st 3 [(j64 0),(j64 0),(j64 0)])]] ⟨bG (aM [0,1,2,3,4] (cS hr22)),bG (aM [0,1,2,3,4] (cS hr22)),trivial⟩ (dS1 10 ⟨(.ref 7 [] 0),7,.var (.st 3 [(j64 0),(j64 0),(j64 0)]),.dead⟩ [[.var (.st 26 [(aK.enc a1),(.ref 1 [] 0),(.ref 2 [] 0),(aA.enc r19),(aA.enc p10.1),(j64 a4),(eB (cond p6.2 true r18.gB6)),(aG.enc r1.1)]),.var (.st 38 [(aE.enc a7),(aI.enc a8),(.ifc 181 (.ref 3 [] 0)),(eO 4 1 (eL 2 aD.enc) b4),(aA.enc a9),(.st 3 [(j64 a10.gG),(j64 r1.2.1),(j64 (I64 (a10.gF+1)))])]),.var (.st 72 [(aU.enc r17.1),(eB ((aB.mk r16.1 p10.2.1.gA p10.2.1.gC p10.2.1.gB p10.2.1.gD).gA)),(k64 ((aB.mk r16.1 p10.2.1.gA p10.2.1.gC p10.2.1.gB p10.2.1.gD).gC)),(j64 ((aB.mk r16.1 p10.2.1.gA p10.2.1.gC p10.2.1.gB p10.2.1.gD).gB)),(j64 ((aB.mk r16.1 p10.2.1.gA p10.2.1.gC p10.2.1.gB p10.2.1.gD).gD))]),.var (aL.enc p10.2.2),.tail (b4.length*1),.var (aV.enc r1.2.2.2.1),.var (cL.enc r18),.dead],[.var (.st 26 [(aK.enc a1),(.ref 1 [] 0),(.ref 2 [] 0),(aA.enc r19),(aA.enc p10.1),(j64 a4),(eB (cond p6.2 true r18.gB6)),(aG.enc r1.1)]),.var (.st 38 [(aE.enc a7),(aI.enc a8),(.ifc 181 (.ref 3 [] 0)),(eO 4 1 (eL 2 aD.enc) b4),(aA.enc a9),(.st 3 [(j64 a10.gG),(j64 r1.2.1),(j64 (I64 (a10.gF+1)))])]),.var (.st 72 [(aU.enc r22.1),(eB ((aB.mk r17.1 ((aB.mk r16.1 p10.2.1.gA p10.2.1.gC p10.2.1.gB p10.2.1.gD).gA) ((aB.mk r16.1 p10.2.1.gA p10.2.1.gC p10.2.1.gB p10.2.1.gD).gC) ((aB.mk r16.1 p10.2.1.gA p10.2.1.gC p10.2.1.gB p10.2.1.gD).gB) ((aB.mk r16.1 p10.2.1.gA p10.2.1.gC p10.2.1.gB p10.2.1.gD).gD)).gA)),(k64 ((aB.mk r17.1 ((aB.mk r16.1 p10.2.1.gA p10.2.1.gC p10.2.1.gB p10.2.1.gD).gA) ((aB.mk r16.1 p10.2.1.gA p10.2.1.gC p10.2.1.gB p10.2.1.gD).gC) ((aB.mk r16.1 p10.2.1.gA p10.2.1.gC p10.2.1.gB p10.2.1.gD).gB) ((aB.mk r16.1 p10.2.1.gA p10.2.1.gC p10.2.1.gB p10.2.1.gD).gD)).gC)),(j64 ((aB.mk r17.1 ((aB.mk r16.1 p10.2.1.gA p10.2.1.gC p10.2.1.gB p10.2.1.gD).gA) ((aB.mk r16.1 p10.2.1.gA p10.2.1.gC p10.2.1.gB p10.2.1.gD).gC) ((aB.mk r16.1 p10.2.1.gA p10.2.1.gC p10.2.1.gB p10.2.1.gD).gB) ((aB.mk r16.1 p10.2.1.gA p10.2.1.gC p10.2.1.gB p10.2.1.gD).gD)).gB)),(j64 ((aB.mk r17.1 ((aB.mk r16.1 p10.2.1.gA p10.2.1.gC p10.2.1.gB p10.2.1.gD).gA) ((aB.mk r16.1 p10.2.1.gA p10.2.1.gC p10.2.1.gB p10.2.1.gD).gC) ((aB.mk r16.1 p10.2.1.gA p10.2.1.gC p10.2.1.gB p10.2.1.gD).gB) ((aB.mk r16.1 p10.2.1.gA p10.2.1.gC p10.2.1.gB p10.2.1.gD).gD)).gD))]),.var (aL.enc p10.2.2),.tail (b4.length*1),.var (aV.enc r1.2.2.2.1),.var (cL.enc r18),.dead]] ⟨aW hT 7 (by kernel_rfl) (by kernel_rfl) (by kernel_rfl),aW hT 7 (by kernel_rfl) (by kernel_rfl) (by kernel_rfl),trivial⟩ dS0)) ?_
        refine At.b 8 (fun _ e=>aM [0,1,2,3,4] (jT e)) fun r24=>?_
        apply rt;exact At.jn 0
       ·apply rt;exact At.jn 0
      ·apply rt;exact At.z 11
def hJ (N:Nat) (b2:(List (List aD))) (a4:aE) (a5:aI) (a6:aA) (a7:aH) (a8:aL):Nat→aB→(Vector Int 4)→Int→Option (aB×(Vector Int 4))
 | 0,_,_,_=>none
 | k+1,s9,s10,s11=>
  cond (decide (s11 < 4)) (
   Option.bind (dM N b2 s11 (aK.mk (aC.mk 0 0 0) (aC.mk 0 0 0) 0) (aA.mk 4294967296 4294967296 4294967296) (aA.mk 0 0 0) 0 false (aG.mk (aA.mk 0 0 0) 0 0 (aA.mk 0 0 0) (-1)) a4 a5 a6 a7 s9 a8) fun r12=>
   Option.bind (eY s11 4) fun _=>
   Option.bind (s10.toList[s11.toNat]?) fun e14=>
   hJ N b2 a4 a5 a6 a7 a8 k (aB.mk r12.1 s9.gA s9.gC s9.gB s9.gD) (s10.setIfInBounds s11.toNat r12.2) (I64 (s11+1))) (
   some ((s9,s10)))
def eP (N:Nat) (a5:aI) (b2:(List (List aD))) (a4:aE) (a6:aA):Nat→aH→aL→aB→aK→aA→aA→Int→Bool→aG→Option (aH×aL×aB×aK×aA×aA×Int×Bool×aG)
 | 0,_,_,_,_,_,_,_,_,_=>none
 | k+1,s17,s18,s19,s20,s21,s22,s23,s24,s25=>
  Option.bind (aT (decide (s23≤a5.gM)) fun x27=>
  cond x27 (
   cond (!s24) (
    some true) (
    some a5.gS)) (
   some false)) fun p26=>
  cond p26 (
   Option.bind (nB N b2 s20 s21 s22 s23 s24 s25 a4 a5 a6 s17 s19 s18) fun r28=>
   eP N a5 b2 a4 a6 k (aH.mk s17.gG r28.2.2.2.2.2.1 (I64 (s17.gF+1))) r28.2.2.2.2.2.2.2 r28.2.2.2.2.2.2.1 r28.1 r28.2.1 r28.2.2.1 (I64 (s23+1)) r28.2.2.2.1 r28.2.2.2.2.1) (
   some ((s17,s18,s19,s20,s21,s22,s23,s24,s25)))
def fQ (N:Nat) (b2:(List (List aD))) (a1 a2 a3:Int) (a4:aE) (a5:aI) (a6:aA) (a7:aH) (a8:aL):Option (aH×aL×aG×Int):=
 aT (cond (decide (a1 < 0)) true (decide (a1≥a5.gW))) fun x1=>
 aT (cond x1 true (decide (a2 < 0))) fun x2=>
 aT (cond x2 true (decide (a2≥a5.gH))) fun x3=>
 aT (cond x3 true (decide (a3 < 0))) fun x4=>
 aT (decide (a3≥a5.gB2)) fun x5=>
 cond (cond x4 true x5) (
  some ((a7,a8,aG.mk (aA.mk 0 0 0) 0 0 (aA.mk 0 0 0) 0,2))) (
  aT (I64 ((I64 (a2*a5.gW))+a1)) fun x6=>
  Option.bind (tI N a5.gC5 x6 a3) fun r7=>
  Option.bind (hJ N b2 a4 a5 a6 a7 a8 N (aB.mk (aU.mk (bS.mk 0 0 0) false (Vector.replicate 64 0)) true a5.gC5 x6 a3) (#v[0,0,0,0]) 0) fun p8=>
  Option.bind (vA N a5.gC8 a5.gW a5.gH a1 a2 p8.2) fun r15=>
  Option.bind (eP N a5 b2 a4 a6 N a7 a8 p8.1 (aK.mk r15.1 r15.2.1 (-1)) (aA.mk 4294967296 4294967296 4294967296) (aA.mk 0 0 0) 0 false (aG.mk (aA.mk 0 0 0) 0 0 (aA.mk 0 0 0) (-1))) fun p16=>
  some ((p16.1,p16.2.1,aG.mk p16.2.2.2.2.2.1 p16.2.2.2.2.2.2.2.2.gA8 p16.2.2.2.2.2.2.2.2.gM p16.2.2.2.2.2.2.2.2.gB9 p16.2.2.2.2.2.2.2.2.gA0,0)))
theorem aAX {N b2 a1 a2 a3 a4 a5 a6 a7 a8 r} (h:fQ N b2 a1 a2 a3 a4 a5 a6 a7 a8=some r):FnM Tryz.prog 47 [.var (.st 38 [(aE.enc a4),(aI.enc a5),(.ifc 181 (.ref 1 [] 0)),(eO 2 1 (eL 2 aD.enc) b2),(aA.enc a6),(aH.enc a7)]),.var (aL.enc a8),.tail (b2.length*1)] [(.ref 0 [] 0),(j64 a1),(j64 a2),(j64 a3)] (.tup [(aG.enc r.2.2.1),(j64 r.2.2.2)]) [.var (.st 38 [(aE.enc a4),(aI.enc a5),(.ifc 181 (.ref 1 [] 0)),(eO 2 1 (eL 2 aD.enc) b2),(aA.enc a6),(aH.enc r.1)]),.var (aL.enc r.2.1),.tail (b2.length*1)]:=by
 unfold fQ at h
 refine At.f cQ hT hmo Tryz.func47 rfl h ?_
 refine At.o 3 (aBl hT (t:=62) (x:=(.ref 0 [] 0)) (b:=true) (by kernel_rfl) rfl rfl (by kernel_rfl)) ?_
 refine At.g [16] 5 ?_
 refine At.o 0 (aGH (t:=172) (u:=181) (x:=(.ref 1 [] 0)) (by kernel_rfl) rfl rfl .eql false (by decide) (by kernel_rfl)) ?_
 refine lx ?_;intro x1
 refine lx ?_;intro x2
 refine lx ?_;intro x3
 refine lx ?_;intro x4
 refine lx ?_;intro x5
 refine At.g [16] 41 ?_
 refine At.c 0 ?_ ?_
 ·apply rt;exact At.r 3
 ·refine lx ?_;intro x6
  refine bi fun r7 hr7=>?_
  refine At.d 0 dE0 (dF 16 (.ref 4 [] 0) [] [.var (.st 72 [cv_6,(eB true),(k64 a5.gC5),(j64 x6),(j64 a3)])] (bG (aM [] (aDD hr7))) dF0) ?_
  refine At.L 2 [0,1,2,8,10,11] 7 (fun p8=>([],[(4,.var (aB.enc p8.1)),(6,.var (eA 4 1 k32 p8.2))],[])) (fun p8 J k=>∃ s9 s10 s11,hJ N b2 a4 a5 a6 a7 a8 k s9 s10 s11=some p8∧J [0,1,2,8,10,11] 7 [(84,(j64 s11))] [(4,.var (aB.enc s9)),(6,.var (eA 4 1 k32 s10))] []) N (fun _ h=>⟨_,_,_,h,jr⟩) (fun p8 k s hI=>?_) fun p8=>?_
  ·obtain ⟨s9,s10,s11,h,hj⟩:=hI
   cases k with
   | zero=>cases h
   | succ k=>
    refine At.jr hj ?_ h
    refine At.c 1 ?_ ?_
    ·refine At.b 5 (fun _ e=>aM [5,0,4,1,2] (cS e)) fun r12=>?_
     refine At.b 0 (fun _ e=>bH hT (k:=1) 6 [] 0 e) fun u13=>?_
     refine At.b 0 (fun _ e=>oA hT k32 0 s10 e r12.2 (by kernel_rfl) (by kernel_rfl) (H':=[.var (.st 38 [(aE.enc a4),(aI.enc a5),(.ifc 181 (.ref 1 [] 0)),(eO 2 1 (eL 2 aD.enc) b2),(aA.enc a6),(aH.enc a7)]),.var (aL.enc a8),.tail (b2.length*1),.var cv_7,.var (.st 72 [(aU.enc r12.1),(eB s9.gA),(k64 s9.gC),(j64 s9.gB),(j64 s9.gD)]),.var cv_8,.var (eA 4 1 k32 (s10.setIfInBounds s11.toNat r12.2))])) fun e14=>?_
     exact fun h=>At.k 2 ⟨_,_,_,h,jr⟩
    ·apply rt;exact At.x 0
  ·refine bi fun r15 hr15=>?_
   refine At.d 5 (dE2 20 (.tup [(aC.enc r15.1),(aC.enc r15.2.1),(j64 r15.2.2)]) (fun _=>aO (aFK hr15)) dE0) dF0 ?_
   refine At.L 0 [8,10] 7 (fun p16=>([],[(0,.var (.st 38 [(aE.enc a4),(aI.enc a5),(.ifc 181 (.ref 1 [] 0)),(eO 2 1 (eL 2 aD.enc) b2),(aA.enc a6),(aH.enc p16.1)])),(1,.var (aL.enc p16.2.1)),(4,.var (aB.enc p16.2.2.1)),(5,.var (.st 26 [(aK.enc p16.2.2.2.1),(.ref 0 [] 0),(.ref 4 [] 0),(aA.enc p16.2.2.2.2.1),(aA.enc p16.2.2.2.2.2.1),(j64 p16.2.2.2.2.2.2.1),(eB p16.2.2.2.2.2.2.2.1),(aG.enc p16.2.2.2.2.2.2.2.2)]))],[])) (fun p16 J k=>∃ s17 s18 s19 s20 s21 s22 s23 s24 s25,eP N a5 b2 a4 a6 k s17 s18 s19 s20 s21 s22 s23 s24 s25=some p16∧J [0,8,10] 7 [] [(0,.var (.st 38 [(aE.enc a4),(aI.enc a5),(.ifc 181 (.ref 1 [] 0)),(eO 2 1 (eL 2 aD.enc) b2),(aA.enc a6),(aH.enc s17)])),(1,.var (aL.enc s18)),(4,.var (aB.enc s19)),(5,.var (.st 26 [(aK.enc s20),(.ref 0 [] 0),(.ref 4 [] 0),(aA.enc s21),(aA.enc s22),(j64 s23),(eB s24),(aG.enc s25)]))] []) N (fun _ h=>⟨_,_,_,_,_,_,_,_,_,h,jr⟩) (fun p16 k s hI=>?_) fun p16=>?_
   ·obtain ⟨s17,s18,s19,s20,s21,s22,s23,s24,s25,h,hj⟩:=hI
    cases k with
    | zero=>cases h
    | succ k=>
     refine At.jr hj ?_ h
     refine At.J 0 0 [0,8,10] 7 (fun p26=>([(151,(eB p26))],[],[])) (fun p26=>?_) fun p26=>?_
     ·refine lx ?_;intro x27
      refine boI (fun hc10=>?_) (fun hc10=>?_)
      ·refine boI (fun hc16=>?_) (fun hc16=>?_)
       ·refine At.d 0 (dE1 10 (fun _=>cD hc10 rfl (bY hT (im:=false) (by kernel_rfl))) (dE1 16 (fun _=>cD hc16 rfl (bY hT (im:=false) (by kernel_rfl))) dE0)) dF0 ?_
        apply rt;exact At.jn 0
       ·refine At.d 0 (dE1 10 (fun _=>cD hc10 rfl (bY hT (im:=false) (by kernel_rfl))) (dE1 16 (fun _=>cD hc16 rfl (bY hT (im:=false) (by kernel_rfl))) dE0)) dF0 ?_
        apply rt;exact At.jn 0
      ·refine At.d 0 (dE1 10 (fun _=>cD hc10 rfl (bY hT (im:=false) (by kernel_rfl))) dE0) dF0 ?_
       apply rt;exact At.jn 0
     ·refine At.c 0 ?_ ?_
      ·refine At.b 1 (fun _ e=>aM [5,0,4,1,2] (aCV e)) fun r28=>?_
       exact fun h=>At.k 8 ⟨_,_,_,_,_,_,_,_,_,h,jr⟩
      ·apply rt;exact At.x 0
   ·apply rt;exact At.r 15
def uB (N:Nat) (a0:aL):Option (Int):=
 Option.bind (jN N a0) fun r1=>
 cond r1 (some 0) (some a0.gD0)
theorem aB9 {N a0 r} (h:uB N a0=some r):FnM Tryz.prog 378 [.var (aL.enc a0)] [(.ref 0 [] 0)] (j64 r) [.var (aL.enc a0)]:=by
 unfold uB at h
 refine At.f cQ hT hmo Tryz.func378 rfl h ?_
 refine At.b 2 (fun _ e=>aM [0] (uE e)) fun r1=>?_
 refine At.c 0 ?_ ?_
 ·apply rt;exact At.r 1
 ·apply rt;exact At.r 5
def kM (N:Nat) (b2:(List (List aD))) (a1:aE) (a2:aI) (a3:aA) (a4:aH) (a5:aL):Option (aH):=
 Option.bind (uB N a5) fun r1=>
 some (aH.mk r1 a4.gN a4.gF)
theorem aBA {N b2 a1 a2 a3 a4 a5 r} (h:kM N b2 a1 a2 a3 a4 a5=some r):FnM Tryz.prog 49 [.var (.st 38 [(aE.enc a1),(aI.enc a2),(.ifc 181 (.ref 1 [] 0)),(eO 2 1 (eL 2 aD.enc) b2),(aA.enc a3),(aH.enc a4)]),.var (aL.enc a5),.tail (b2.length*1)] [(.ref 0 [] 0)] (aH.enc r) [.var (.st 38 [(aE.enc a1),(aI.enc a2),(.ifc 181 (.ref 1 [] 0)),(eO 2 1 (eL 2 aD.enc) b2),(aA.enc a3),(aH.enc a4)]),.var (aL.enc a5),.tail (b2.length*1)]:=by
 unfold kM at h
 refine At.f cQ hT hmo Tryz.func49 rfl h ?_
 refine At.o 2 (aBl hT (t:=62) (x:=(.ref 0 [] 0)) (b:=true) (by kernel_rfl) rfl rfl (by kernel_rfl)) ?_
 refine At.g [6] 5 ?_
 refine At.o 0 (aGH (t:=172) (u:=181) (x:=(.ref 1 [] 0)) (by kernel_rfl) rfl rfl .eql false (by decide) (by kernel_rfl)) ?_
 refine At.g [6] 12 ?_
 refine At.b 0 (fun _ e=>aM [1] (aB9 e)) fun r1=>?_
 apply rt;exact At.r 4
def aIx : Nat→Bool:=imL [2,3]
def yN (N:Nat) (a1:aI):Nat→Option (Unit)
 | 0=>none
 | k+1=>
  aT (decide (0 < a1.gB2)) fun x11=>
  cond x11 (none) (some (()))
def yL (N:Nat) (a1:aI):Nat→Option (Unit)
 | 0=>none
 | k+1=>
  cond (decide (0 < a1.gW)) (
   Option.bind (yN N a1 N ) fun p10=>
   none) (
   some (()))
def yE (N:Nat) (a1:aI):Nat→Int→Option (Unit)
 | 0,_=>none
 | k+1,s8=>
  cond (decide (s8 < a1.gH)) (
   Option.bind (yL N a1 N ) fun p9=>
   yE N a1 k (I64 (s8+1))) (
   some (()))
def yO (N:Nat) (a1:aI):Nat→Option (Unit)
 | 0=>none
 | k+1=>
  aT (decide (0 < a1.gB2)) fun x16=>
  cond x16 (none) (some (()))
def yJ (N:Nat) (a1:aI):Nat→Option (Unit)
 | 0=>none
 | k+1=>
  cond (decide (0 < a1.gW)) (
   Option.bind (yO N a1 N ) fun p15=>
   none) (
   some (()))
def yH (N:Nat) (a1:aI):Nat→Int→Option (Unit)
 | 0,_=>none
 | k+1,s13=>
  cond (decide (s13 < a1.gH)) (
   Option.bind (yJ N a1 N ) fun p14=>
   yH N a1 k (I64 (s13+1))) (
   some (()))
def mX (N:Nat) (a1:aI) (r4:(List aF)×(List aN)×(List aP)×(List (List aD))×aA×(List aF)×Int) (s46 s35:Int) (s43:aE):Nat→(List aG)→aH→aJ→Int→Option ((List aG)×aH×aJ)
 | 0,_,_,_,_=>none
 | k+1,s48,s49,s50,s51=>
  aT (decide (s51 < a1.gB2)) fun x52=>
  cond x52 (
   Option.bind (eX N r4.2.2.2.1 s46 s35 s51 s43 a1 r4.2.2.2.2.1 s49 s50) fun r53=>
   Option.bind (rF 72 s48 (([r53.2.2.1]:List aG))) fun z54=>
   mX N a1 r4 s46 s35 s43 k z54 r53.1 r53.2.1 (I64 (s51+1))) (
   some ((s48,s49,s50)))
def mR (N:Nat) (a1:aI) (r4:(List aF)×(List aN)×(List aP)×(List (List aD))×aA×(List aF)×Int) (s35:Int) (a0:aE):Nat→(List (Vector Int 3))→(List Int)→(List Int)→(List (Vector Int 3))→(List Int)→(List Int)→aE→aH→aJ→Int→Option ((List (Vector Int 3))×(List Int)×(List Int)×(List (Vector Int 3))×(List Int)×(List Int)×aE×aH×aJ)
 | 0,_,_,_,_,_,_,_,_,_,_=>none
 | k+1,s37,s38,s39,s40,s41,s42,s43,s44,s45,s46=>
  cond (decide (s46 < a1.gW)) (
   Option.bind (mX N a1 r4 s46 s35 s43 N [] s44 s45 0) fun p47=>
   Option.bind (oR N p47.1 a0) fun r55=>
   Option.bind (rF 24 s37 r55.1.gD7) fun z56=>
   Option.bind (rF 24 s40 r55.1.gB9) fun z57=>
   Option.bind (rF 8 s38 r55.1.gA8) fun z58=>
   Option.bind (rF 8 s39 r55.1.gM) fun z59=>
   Option.bind (rF 8 s41 r55.1.gD1) fun z60=>
   Option.bind (rF 8 s42 r55.1.gA9) fun z61=>
   mR N a1 r4 s35 a0 k z56 z58 z59 z57 z60 z61 s43 p47.2.1 p47.2.2 (I64 (s46+1))) (
   some ((s37,s38,s39,s40,s41,s42,s43,s44,s45)))
def mP (N:Nat) (a1:aI) (r4:(List aF)×(List aN)×(List aP)×(List (List aD))×aA×(List aF)×Int) (a0:aE):Nat→(List (Vector Int 3))→(List Int)→(List Int)→(List (Vector Int 3))→(List Int)→(List Int)→(List aF)→(List aN)→(List aD)→(List aP)→(List Int)→(List Int)→Int→Int→Int→aH→aJ→Int→Option ((List (Vector Int 3))×(List Int)×(List Int)×(List (Vector Int 3))×(List Int)×(List Int)×aE×aH×aJ)
 | 0,_,_,_,_,_,_,_,_,_,_,_,_,_,_,_,_,_,_=>none
 | k+1,s18,s19,s20,s21,s22,s23,s24,s25,s26,s27,s28,s29,s30,s31,s32,s33,s34,s35=>
  cond (decide (s35 < a1.gH)) (
   Option.bind (mR N a1 r4 s35 a0 N s18 s19 s20 s21 s22 s23 (aE.mk s24 s25 s26 s27 s28 s29 s30 s31 s32) s33 s34 0) fun p36=>
   mP N a1 r4 a0 k p36.1 p36.2.1 p36.2.2.1 p36.2.2.2.1 p36.2.2.2.2.1 p36.2.2.2.2.2.1 p36.2.2.2.2.2.2.1.gK p36.2.2.2.2.2.2.1.gA1 p36.2.2.2.2.2.2.1.gQ p36.2.2.2.2.2.2.1.gI p36.2.2.2.2.2.2.1.gL p36.2.2.2.2.2.2.1.gA5 p36.2.2.2.2.2.2.1.gA9 p36.2.2.2.2.2.2.1.gB5 p36.2.2.2.2.2.2.1.gTo p36.2.2.2.2.2.2.2.1 p36.2.2.2.2.2.2.2.2 (I64 (s35+1))) (
   some ((s18,s19,s20,s21,s22,s23,aE.mk s24 s25 s26 s27 s28 s29 s30 s31 s32,s33,s34)))
def xK (N:Nat) (a1:aI):Nat→Option (Unit)
 | 0=>none
 | k+1=>
  aT (decide (0 < a1.gB2)) fun x67=>
  cond x67 (none) (some (()))
def xB (N:Nat) (a1:aI):Nat→Option (Unit)
 | 0=>none
 | k+1=>
  cond (decide (0 < a1.gW)) (
   Option.bind (xK N a1 N ) fun p66=>
   none) (
   some (()))
def xH (N:Nat) (a1:aI):Nat→Int→Option (Unit)
 | 0,_=>none
 | k+1,s64=>
  cond (decide (s64 < a1.gH)) (
   Option.bind (xB N a1 N ) fun p65=>
   xH N a1 k (I64 (s64+1))) (
   some (()))
def lM (N:Nat) (a1:aI) (r6:(List aF)×(List aN)×(List aP)×(List (List aD))×aA×aX×aL×Int) (s97 s86:Int) (s94:aE):Nat→(List aG)→aH→aL→Int→Option ((List aG)×aH×aL)
 | 0,_,_,_,_=>none
 | k+1,s99,s100,s101,s102=>
  aT (decide (s102 < a1.gB2)) fun x103=>
  cond x103 (
   Option.bind (fQ N r6.2.2.2.1 s97 s86 s102 s94 a1 r6.2.2.2.2.1 s100 s101) fun r104=>
   Option.bind (rF 72 s99 (([r104.2.2.1]:List aG))) fun z105=>
   lM N a1 r6 s97 s86 s94 k z105 r104.1 r104.2.1 (I64 (s102+1))) (
   some ((s99,s100,s101)))
def lP (N:Nat) (a1:aI) (r6:(List aF)×(List aN)×(List aP)×(List (List aD))×aA×aX×aL×Int) (s86:Int) (a0:aE):Nat→(List (Vector Int 3))→(List Int)→(List Int)→(List (Vector Int 3))→(List Int)→(List Int)→aE→aH→aL→Int→Option ((List (Vector Int 3))×(List Int)×(List Int)×(List (Vector Int 3))×(List Int)×(List Int)×aE×aH×aL)
 | 0,_,_,_,_,_,_,_,_,_,_=>none
 | k+1,s88,s89,s90,s91,s92,s93,s94,s95,s96,s97=>
  cond (decide (s97 < a1.gW)) (
   Option.bind (lM N a1 r6 s97 s86 s94 N [] s95 s96 0) fun p98=>
   Option.bind (oR N p98.1 a0) fun r106=>
   Option.bind (rF 24 s88 r106.1.gD7) fun z107=>
   Option.bind (rF 24 s91 r106.1.gB9) fun z108=>
   Option.bind (rF 8 s89 r106.1.gA8) fun z109=>
   Option.bind (rF 8 s90 r106.1.gM) fun z110=>
   Option.bind (rF 8 s92 r106.1.gD1) fun z111=>
   Option.bind (rF 8 s93 r106.1.gA9) fun z112=>
   lP N a1 r6 s86 a0 k z107 z109 z110 z108 z111 z112 s94 p98.2.1 p98.2.2 (I64 (s97+1))) (
   some ((s88,s89,s90,s91,s92,s93,s94,s95,s96)))
def lG (N:Nat) (a1:aI) (r6:(List aF)×(List aN)×(List aP)×(List (List aD))×aA×aX×aL×Int) (a0:aE):Nat→(List (Vector Int 3))→(List Int)→(List Int)→(List (Vector Int 3))→(List Int)→(List Int)→(List aF)→(List aN)→(List aD)→(List aP)→(List Int)→(List Int)→Int→Int→Int→aH→aL→Int→Option ((List (Vector Int 3))×(List Int)×(List Int)×(List (Vector Int 3))×(List Int)×(List Int)×aE×aH×aL)
 | 0,_,_,_,_,_,_,_,_,_,_,_,_,_,_,_,_,_,_=>none
 | k+1,s69,s70,s71,s72,s73,s74,s75,s76,s77,s78,s79,s80,s81,s82,s83,s84,s85,s86=>
  cond (decide (s86 < a1.gH)) (
   Option.bind (lP N a1 r6 s86 a0 N s69 s70 s71 s72 s73 s74 (aE.mk s75 s76 s77 s78 s79 s80 s81 s82 s83) s84 s85 0) fun p87=>
   lG N a1 r6 a0 k p87.1 p87.2.1 p87.2.2.1 p87.2.2.2.1 p87.2.2.2.2.1 p87.2.2.2.2.2.1 p87.2.2.2.2.2.2.1.gK p87.2.2.2.2.2.2.1.gA1 p87.2.2.2.2.2.2.1.gQ p87.2.2.2.2.2.2.1.gI p87.2.2.2.2.2.2.1.gL p87.2.2.2.2.2.2.1.gA5 p87.2.2.2.2.2.2.1.gA9 p87.2.2.2.2.2.2.1.gB5 p87.2.2.2.2.2.2.1.gTo p87.2.2.2.2.2.2.2.1 p87.2.2.2.2.2.2.2.2 (I64 (s86+1))) (
   some ((s69,s70,s71,s72,s73,s74,aE.mk s75 s76 s77 s78 s79 s80 s81 s82 s83,s84,s85)))
def lS (N:Nat) (a0:aE) (a1:aI):Option (bT×aH×Int):=
 Option.bind (jQ N a0 a1) fun q=>
 nS q (fun r2=>
  cond (r2 != 0) (
   some ((bT.mk 0 0 [] [] [] [] [] [],aH.mk 0 0 0,r2))) (
   Option.bind (yE N a1 N 0) fun p7=>
   none)) (fun q=>
 nS q (fun r3=>
  cond (r3.2.2.2.2.2 != 0) (
   some ((bT.mk 0 0 [] [] [] [] [] [],aH.mk 0 0 0,r3.2.2.2.2.2))) (
   Option.bind (yH N a1 N 0) fun p12=>
   none)) (fun q=>
 nS q (fun r4=>
  cond (r4.2.2.2.2.2.2 != 0) (
   some ((bT.mk 0 0 [] [] [] [] [] [],aH.mk 0 0 0,r4.2.2.2.2.2.2))) (
   Option.bind (mP N a1 r4 a0 N [] [] [] [] [] [] r4.1 r4.2.1 a0.gQ r4.2.2.1 a0.gL a0.gA5 a0.gA9 a0.gB5 a0.gTo (aH.mk 0 0 0) (aJ.mk (jW.mk 0) true r4.2.2.2.2.2.1) 0) fun p17=>
   Option.bind (jD N r4.2.2.2.1 p17.2.2.2.2.2.2.1 a1 r4.2.2.2.2.1 p17.2.2.2.2.2.2.2.1 p17.2.2.2.2.2.2.2.2) fun r62=>
   some ((bT.mk a1.gW a1.gH p17.1 p17.2.1 p17.2.2.1 p17.2.2.2.1 p17.2.2.2.2.1 p17.2.2.2.2.2.1,r62,0)))) (fun q=>
 nS q (fun r5=>
  cond (r5.2.2.2.2.2 != 0) (
   some ((bT.mk 0 0 [] [] [] [] [] [],aH.mk 0 0 0,r5.2.2.2.2.2))) (
   Option.bind (xH N a1 N 0) fun p63=>
   none)) (fun r6=>
  cond (r6.2.2.2.2.2.2.2 != 0) (
   some ((bT.mk 0 0 [] [] [] [] [] [],aH.mk 0 0 0,r6.2.2.2.2.2.2.2))) (
   Option.bind (lG N a1 r6 a0 N [] [] [] [] [] [] r6.1 r6.2.1 a0.gQ r6.2.2.1 a0.gL a0.gA5 a0.gA9 a0.gB5 a0.gTo (aH.mk 0 0 0) r6.2.2.2.2.2.2.1 0) fun p68=>
   Option.bind (kM N r6.2.2.2.1 p68.2.2.2.2.2.2.1 a1 r6.2.2.2.2.1 p68.2.2.2.2.2.2.2.1 p68.2.2.2.2.2.2.2.2) fun r113=>
   some ((bT.mk a1.gW a1.gH p68.1 p68.2.1 p68.2.2.1 p68.2.2.2.1 p68.2.2.2.2.1 p68.2.2.2.2.2.1,r113,0)))))))
theorem aH5 {N a0 a1 r} (h:lS N a0 a1=some r):FnM Tryz.prog 18 [] [(aE.enc a0),(aI.enc a1)] (.tup [(bT.enc r.1),(aH.enc r.2.1),(j64 r.2.2)]) []:=by
 unfold lS at h
 refine At.f aIx hT hmo Tryz.func18 rfl h ?_
 refine sumI (fun r2 hr2=>?_) (fun q hq=>?_)
 ·refine At.o 7 (aM [] (aHZ hr2)) ?_
  refine At.c 7 ?_ ?_
  ·apply rt;exact At.r 6
  ·refine At.L 10 [4,5,7,9] 3 (fun p7=>([],[],[])) (fun p7 J k=>∃ s8,yE N a1 k s8=some p7∧J [2,3,4,5,7,9,35] 3 [(36,(j64 s8))] [] []) N (fun _ h=>⟨_,h,jr⟩) (fun p7 k s hI=>?_) fun p7=>?_
   ·obtain ⟨s8,h,hj⟩:=hI
    cases k with
    | zero=>cases h
    | succ k=>
     refine At.jr hj ?_ h
     refine At.c 1 ?_ ?_
     ·refine At.L 5 [2,3,4,5,7,9,35,36] 3 (fun p9=>([],[],[])) (fun p9 J k=>yL N a1 k  = some p9∧J [2,3,4,5,7,9,10,35,36,40,41] 3 [] [] []) N (fun _ h=>⟨h,jr⟩) (fun p9 k s hI=>?_) fun p9=>?_
      ·obtain ⟨h,hj⟩:=hI
       cases k with
       | zero=>cases h
       | succ k=>
        unfold yL at h
        dsimp only at h
        refine At.jr hj ?_ h
        refine At.c 1 ?_ ?_
        ·refine At.L 6 [2,3,4,5,7,9,10,12,35,36,40,41] 3 (fun p10=>([],[],[])) (fun p10 J k=>yN N a1 k  = some p10∧J [2,3,4,5,7,9,10,11,12,35,36,40,41,45,46] 3 [] [] []) N (fun _ h=>⟨h,jr⟩) (fun p10 k s hI=>?_) fun p10=>?_
         ·obtain ⟨h,hj⟩:=hI
          cases k with
          | zero=>cases h
          | succ k=>
           unfold yN at h
           dsimp only at h
           refine At.jr hj ?_ h
           refine lx ?_;intro x11
           refine At.c 1 ?_ ?_
           ·exact nn
           ·apply rt;exact At.x 0
         ·exact nn
        ·apply rt;exact At.x 0
      ·exact fun h=>At.k 2 ⟨_,h,jr⟩
     ·apply rt;exact At.x 0
   ·exact nn
 ·refine sumK (fun r3 e=>?_) (fun q e=>?_)
  ·subst e
   have hr3:=hq
   refine At.o 7 (aM [] (aGp hr3)) ?_
   refine At.c 7 ?_ ?_
   ·apply rt;exact At.r 6
   ·refine At.L 10 [4,5,7,9] 4 (fun p12=>([],[],[])) (fun p12 J k=>∃ s13,yH N a1 k s13=some p12∧J [2,3,4,5,7,9,35] 4 [(36,(j64 s13))] [] []) N (fun _ h=>⟨_,h,jr⟩) (fun p12 k s hI=>?_) fun p12=>?_
    ·obtain ⟨s13,h,hj⟩:=hI
     cases k with
     | zero=>cases h
     | succ k=>
      refine At.jr hj ?_ h
      refine At.c 1 ?_ ?_
      ·refine At.L 5 [2,3,4,5,7,9,35,36] 4 (fun p14=>([],[],[])) (fun p14 J k=>yJ N a1 k  = some p14∧J [2,3,4,5,7,9,10,35,36,40,41] 4 [] [] []) N (fun _ h=>⟨h,jr⟩) (fun p14 k s hI=>?_) fun p14=>?_
       ·obtain ⟨h,hj⟩:=hI
        cases k with
        | zero=>cases h
        | succ k=>
         unfold yJ at h
         dsimp only at h
         refine At.jr hj ?_ h
         refine At.c 1 ?_ ?_
         ·refine At.L 6 [2,3,4,5,7,9,10,12,35,36,40,41] 4 (fun p15=>([],[],[])) (fun p15 J k=>yO N a1 k  = some p15∧J [2,3,4,5,7,9,10,11,12,35,36,40,41,45,46] 4 [] [] []) N (fun _ h=>⟨h,jr⟩) (fun p15 k s hI=>?_) fun p15=>?_
          ·obtain ⟨h,hj⟩:=hI
           cases k with
           | zero=>cases h
           | succ k=>
            unfold yO at h
            dsimp only at h
            refine At.jr hj ?_ h
            refine lx ?_;intro x16
            refine At.c 1 ?_ ?_
            ·exact nn
            ·apply rt;exact At.x 0
          ·exact nn
         ·apply rt;exact At.x 0
       ·exact fun h=>At.k 2 ⟨_,h,jr⟩
      ·apply rt;exact At.x 0
    ·exact nn
  ·subst e
   have hq:=hq
   refine sumK (fun r4 e=>?_) (fun q e=>?_)
   ·subst e
    have hr4:=hq
    refine At.o 7 (aM [] (aGr hr4)) ?_
    refine At.c 7 ?_ ?_
    ·apply rt;exact At.r 6
    ·refine At.ownb 10 9 3 [2] ?_
     refine At.ownb 0 9 1 [3] ?_
     refine At.ownb 0 9 1 [4] ?_
     refine At.ownb 0 9 3 [5] ?_
     refine At.ownb 0 9 1 [6] ?_
     refine At.ownb 0 9 1 [7] ?_
     refine At.L 0 [4,5,7,9] 16 (fun p17=>([],[(2,.var (.st 38 [(aE.enc p17.2.2.2.2.2.2.1),(aI.enc a1),(.ifc 178 (.ref 8 [] 0)),(eO 6 1 (eL 2 aD.enc) r4.2.2.2.1),(aA.enc r4.2.2.2.2.1),(aH.enc p17.2.2.2.2.2.2.2.1)])),(8,.var (aJ.enc p17.2.2.2.2.2.2.2.2)),(9,.var (.st 8 [(j64 a1.gW),(j64 a1.gH),(eO 10 3 (eA 3 1 j64) p17.1),(eO 11 1 j64 p17.2.1),(eO 12 1 j64 p17.2.2.1),(eO 13 3 (eA 3 1 j64) p17.2.2.2.1),(eO 14 1 j64 p17.2.2.2.2.1),(eO 15 1 j64 p17.2.2.2.2.2.1)])),(10,.tail (p17.1.length*3)),(11,.tail (p17.2.1.length*1)),(12,.tail (p17.2.2.1.length*1)),(13,.tail (p17.2.2.2.1.length*3)),(14,.tail (p17.2.2.2.2.1.length*1)),(15,.tail (p17.2.2.2.2.2.1.length*1))],[])) (fun p17 J k=>∃ s18 s19 s20 s21 s22 s23 s24 s25 s26 s27 s28 s29 s30 s31 s32 s33 s34 s35,mP N a1 r4 a0 k s18 s19 s20 s21 s22 s23 s24 s25 s26 s27 s28 s29 s30 s31 s32 s33 s34 s35=some p17∧J [2,3,4,5,7,9,35] 16 [(36,(j64 s35))] [(2,.var (.st 38 [(.st 9 [(eL 19 aF.enc s24),(eL 5 aN.enc s25),(eL 2 aD.enc s26),(eL 13 aP.enc s27),(eL 1 k64 s28),(eL 1 k32 s29),(k32 s30),(k32 s31),(k32 s32)]),(aI.enc a1),(.ifc 178 (.ref 8 [] 0)),(eO 6 1 (eL 2 aD.enc) r4.2.2.2.1),(aA.enc r4.2.2.2.2.1),(aH.enc s33)])),(8,.var (aJ.enc s34)),(9,.var (.st 8 [(j64 a1.gW),(j64 a1.gH),(eO 10 3 (eA 3 1 j64) s18),(eO 11 1 j64 s19),(eO 12 1 j64 s20),(eO 13 3 (eA 3 1 j64) s21),(eO 14 1 j64 s22),(eO 15 1 j64 s23)])),(10,.tail (s18.length*3)),(11,.tail (s19.length*1)),(12,.tail (s20.length*1)),(13,.tail (s21.length*3)),(14,.tail (s22.length*1)),(15,.tail (s23.length*1))] []) N (fun _ h=>⟨_,_,_,_,_,_,_,_,_,_,_,_,_,_,_,_,_,_,h,jr⟩) (fun p17 k s hI=>?_) fun p17=>?_
     ·obtain ⟨s18,s19,s20,s21,s22,s23,s24,s25,s26,s27,s28,s29,s30,s31,s32,s33,s34,s35,h,hj⟩:=hI
      cases k with
      | zero=>cases h
      | succ k=>
       refine At.jr hj ?_ h
       refine At.c 1 ?_ ?_
       ·refine At.L 5 [2,3,4,5,7,9,35,36] 16 (fun p36=>([],[(2,.var (.st 38 [(aE.enc p36.2.2.2.2.2.2.1),(aI.enc a1),(.ifc 178 (.ref 8 [] 0)),(eO 6 1 (eL 2 aD.enc) r4.2.2.2.1),(aA.enc r4.2.2.2.2.1),(aH.enc p36.2.2.2.2.2.2.2.1)])),(8,.var (aJ.enc p36.2.2.2.2.2.2.2.2)),(9,.var (.st 8 [(j64 a1.gW),(j64 a1.gH),(eO 10 3 (eA 3 1 j64) p36.1),(eO 11 1 j64 p36.2.1),(eO 12 1 j64 p36.2.2.1),(eO 13 3 (eA 3 1 j64) p36.2.2.2.1),(eO 14 1 j64 p36.2.2.2.2.1),(eO 15 1 j64 p36.2.2.2.2.2.1)])),(10,.tail (p36.1.length*3)),(11,.tail (p36.2.1.length*1)),(12,.tail (p36.2.2.1.length*1)),(13,.tail (p36.2.2.2.1.length*3)),(14,.tail (p36.2.2.2.2.1.length*1)),(15,.tail (p36.2.2.2.2.2.1.length*1))],[])) (fun p36 J k=>∃ s37 s38 s39 s40 s41 s42 s43 s44 s45 s46,mR N a1 r4 s35 a0 k s37 s38 s39 s40 s41 s42 s43 s44 s45 s46=some p36∧J [2,3,4,5,7,9,10,35,36,40] 16 [(41,(j64 s46))] [(2,.var (.st 38 [(aE.enc s43),(aI.enc a1),(.ifc 178 (.ref 8 [] 0)),(eO 6 1 (eL 2 aD.enc) r4.2.2.2.1),(aA.enc r4.2.2.2.2.1),(aH.enc s44)])),(8,.var (aJ.enc s45)),(9,.var (.st 8 [(j64 a1.gW),(j64 a1.gH),(eO 10 3 (eA 3 1 j64) s37),(eO 11 1 j64 s38),(eO 12 1 j64 s39),(eO 13 3 (eA 3 1 j64) s40),(eO 14 1 j64 s41),(eO 15 1 j64 s42)])),(10,.tail (s37.length*3)),(11,.tail (s38.length*1)),(12,.tail (s39.length*1)),(13,.tail (s40.length*3)),(14,.tail (s41.length*1)),(15,.tail (s42.length*1))] []) N (fun _ h=>⟨_,_,_,_,_,_,_,_,_,_,h,jr⟩) (fun p36 k s hI=>?_) fun p36=>?_
        ·obtain ⟨s37,s38,s39,s40,s41,s42,s43,s44,s45,s46,h,hj⟩:=hI
         cases k with
         | zero=>cases h
         | succ k=>
          refine At.jr hj ?_ h
          refine At.c 1 ?_ ?_
          ·refine At.ownn 6 12 9 ?_
           refine At.L 0 [2,3,4,5,7,9,10,35,36,40,41] 17 (fun p47=>([(12,(eO 16 9 aG.enc p47.1))],[(2,.var (.st 38 [(aE.enc s43),(aI.enc a1),(.ifc 178 (.ref 8 [] 0)),(eO 6 1 (eL 2 aD.enc) r4.2.2.2.1),(aA.enc r4.2.2.2.2.1),(aH.enc p47.2.1)])),(8,.var (aJ.enc p47.2.2)),(16,.tail (p47.1.length*9))],[])) (fun p47 J k=>∃ s48 s49 s50 s51,mX N a1 r4 s46 s35 s43 k s48 s49 s50 s51=some p47∧J [2,3,4,5,7,9,10,11,35,36,40,41,45] 17 [(12,(eO 16 9 aG.enc s48)),(46,(j64 s51))] [(2,.var (.st 38 [(aE.enc s43),(aI.enc a1),(.ifc 178 (.ref 8 [] 0)),(eO 6 1 (eL 2 aD.enc) r4.2.2.2.1),(aA.enc r4.2.2.2.2.1),(aH.enc s49)])),(8,.var (aJ.enc s50)),(16,.tail (s48.length*9))] []) N (fun _ h=>⟨_,_,_,_,h,jr⟩) (fun p47 k s hI=>?_) fun p47=>?_
           ·obtain ⟨s48,s49,s50,s51,h,hj⟩:=hI
            cases k with
            | zero=>cases h
            | succ k=>
             refine At.jr hj ?_ h
             refine lx ?_;intro x52
             refine At.c 1 ?_ ?_
             ·refine At.b 6 (fun _ e=>aM [2,8,6] (zA e)) fun r53=>?_
              refine At.o 8 (bQ hT (x:=(.sl 9 1 [(aG.enc r53.2.2.1)]))) ?_
              refine At.b 0 (fun _ e=>iA hT aG.enc (id:=16) (k:=9) e) fun z54=>?_
              exact fun h=>At.k 3 ⟨_,_,_,_,h,jr⟩
             ·apply rt;exact At.x 0
           ·refine At.b 2 (fun _ e=>aM [] (aC5 e)) fun r55=>?_
            refine bi fun z56 hz56=>?_
            refine bi fun z57 hz57=>?_
            refine At.d 6 dE0 (dF 4 (eO 10 3 (eA 3 1 j64) z56) [(10,.tail (z56.length*3))] [] (bG (iA hT (eA 3 1 j64) (id:=10) (k:=3) hz56)) (dF 9 (eO 13 3 (eA 3 1 j64) z57) [(13,.tail (z57.length*3))] [] (bG (iA hT (eA 3 1 j64) (id:=13) (k:=3) hz57)) dF0)) ?_
            refine bi fun z58 hz58=>?_
            refine bi fun z59 hz59=>?_
            refine At.d 0 dE0 (dF 4 (eO 11 1 j64 z58) [(11,.tail (z58.length*1))] [] (bG (iA hT j64 (id:=11) (k:=1) hz58)) (dF 9 (eO 12 1 j64 z59) [(12,.tail (z59.length*1))] [] (bG (iA hT j64 (id:=12) (k:=1) hz59)) dF0)) ?_
            refine bi fun z60 hz60=>?_
            refine bi fun z61 hz61=>?_
            refine At.d 0 dE0 (dF 4 (eO 14 1 j64 z60) [(14,.tail (z60.length*1))] [] (bG (iA hT j64 (id:=14) (k:=1) hz60)) (dF 9 (eO 15 1 j64 z61) [(15,.tail (z61.length*1))] [] (bG (iA hT j64 (id:=15) (k:=1) hz61)) dF0)) ?_
            exact fun h=>At.k 2 ⟨_,_,_,_,_,_,_,_,_,_,h,jr⟩
          ·apply rt;exact At.x 0
        ·exact fun h=>At.k 2 ⟨_,_,_,_,_,_,_,_,_,_,_,_,_,_,_,_,_,_,h,jr⟩
       ·apply rt;exact At.x 0
     ·refine bi fun r62 hr62=>?_
      refine At.d 0 dE0 (dF 2 (aH.enc r62) [] [] (bG (aM [2,8,6] (aAW hr62))) dF0) ?_
      apply rt;exact At.r 0
   ·subst e
    have hq:=hq
    refine sumK (fun r5 e=>?_) (fun r6 e=>?_)
    ·subst e
     have hr5:=hq
     refine At.o 7 (aM [] (aGc hr5)) ?_
     refine At.c 7 ?_ ?_
     ·apply rt;exact At.r 6
     ·refine At.L 10 [4,5,7,9] 4 (fun p63=>([],[],[])) (fun p63 J k=>∃ s64,xH N a1 k s64=some p63∧J [2,3,4,5,7,9,35] 4 [(36,(j64 s64))] [] []) N (fun _ h=>⟨_,h,jr⟩) (fun p63 k s hI=>?_) fun p63=>?_
      ·obtain ⟨s64,h,hj⟩:=hI
       cases k with
       | zero=>cases h
       | succ k=>
        refine At.jr hj ?_ h
        refine At.c 1 ?_ ?_
        ·refine At.L 5 [2,3,4,5,7,9,35,36] 4 (fun p65=>([],[],[])) (fun p65 J k=>xB N a1 k  = some p65∧J [2,3,4,5,7,9,10,35,36,40,41] 4 [] [] []) N (fun _ h=>⟨h,jr⟩) (fun p65 k s hI=>?_) fun p65=>?_
         ·obtain ⟨h,hj⟩:=hI
          cases k with
          | zero=>cases h
          | succ k=>
           unfold xB at h
           dsimp only at h
           refine At.jr hj ?_ h
           refine At.c 1 ?_ ?_
           ·refine At.L 6 [2,3,4,5,7,9,10,12,35,36,40,41] 4 (fun p66=>([],[],[])) (fun p66 J k=>xK N a1 k  = some p66∧J [2,3,4,5,7,9,10,11,12,35,36,40,41,45,46] 4 [] [] []) N (fun _ h=>⟨h,jr⟩) (fun p66 k s hI=>?_) fun p66=>?_
            ·obtain ⟨h,hj⟩:=hI
             cases k with
             | zero=>cases h
             | succ k=>
              unfold xK at h
              dsimp only at h
              refine At.jr hj ?_ h
              refine lx ?_;intro x67
              refine At.c 1 ?_ ?_
              ·exact nn
              ·apply rt;exact At.x 0
            ·exact nn
           ·apply rt;exact At.x 0
         ·exact fun h=>At.k 2 ⟨_,h,jr⟩
        ·apply rt;exact At.x 0
      ·exact nn
    ·subst e
     have hr6:=hq
     refine At.o 7 (aM [] (aHU hr6)) ?_
     refine At.c 7 ?_ ?_
     ·apply rt;exact At.r 6
     ·refine At.ownb 10 9 3 [2] ?_
      refine At.ownb 0 9 1 [3] ?_
      refine At.ownb 0 9 1 [4] ?_
      refine At.ownb 0 9 3 [5] ?_
      refine At.ownb 0 9 1 [6] ?_
      refine At.ownb 0 9 1 [7] ?_
      refine At.L 0 [4,5,7,9] 16 (fun p68=>([],[(2,.var (.st 38 [(aE.enc p68.2.2.2.2.2.2.1),(aI.enc a1),(.ifc 181 (.ref 8 [] 0)),(eO 6 1 (eL 2 aD.enc) r6.2.2.2.1),(aA.enc r6.2.2.2.2.1),(aH.enc p68.2.2.2.2.2.2.2.1)])),(8,.var (aL.enc p68.2.2.2.2.2.2.2.2)),(9,.var (.st 8 [(j64 a1.gW),(j64 a1.gH),(eO 10 3 (eA 3 1 j64) p68.1),(eO 11 1 j64 p68.2.1),(eO 12 1 j64 p68.2.2.1),(eO 13 3 (eA 3 1 j64) p68.2.2.2.1),(eO 14 1 j64 p68.2.2.2.2.1),(eO 15 1 j64 p68.2.2.2.2.2.1)])),(10,.tail (p68.1.length*3)),(11,.tail (p68.2.1.length*1)),(12,.tail (p68.2.2.1.length*1)),(13,.tail (p68.2.2.2.1.length*3)),(14,.tail (p68.2.2.2.2.1.length*1)),(15,.tail (p68.2.2.2.2.2.1.length*1))],[])) (fun p68 J k=>∃ s69 s70 s71 s72 s73 s74 s75 s76 s77 s78 s79 s80 s81 s82 s83 s84 s85 s86,lG N a1 r6 a0 k s69 s70 s71 s72 s73 s74 s75 s76 s77 s78 s79 s80 s81 s82 s83 s84 s85 s86=some p68∧J [2,3,4,5,7,9,35] 16 [(36,(j64 s86))] [(2,.var (.st 38 [(.st 9 [(eL 19 aF.enc s75),(eL 5 aN.enc s76),(eL 2 aD.enc s77),(eL 13 aP.enc s78),(eL 1 k64 s79),(eL 1 k32 s80),(k32 s81),(k32 s82),(k32 s83)]),(aI.enc a1),(.ifc 181 (.ref 8 [] 0)),(eO 6 1 (eL 2 aD.enc) r6.2.2.2.1),(aA.enc r6.2.2.2.2.1),(aH.enc s84)])),(8,.var (aL.enc s85)),(9,.var (.st 8 [(j64 a1.gW),(j64 a1.gH),(eO 10 3 (eA 3 1 j64) s69),(eO 11 1 j64 s70),(eO 12 1 j64 s71),(eO 13 3 (eA 3 1 j64) s72),(eO 14 1 j64 s73),(eO 15 1 j64 s74)])),(10,.tail (s69.length*3)),(11,.tail (s70.length*1)),(12,.tail (s71.length*1)),(13,.tail (s72.length*3)),(14,.tail (s73.length*1)),(15,.tail (s74.length*1))] []) N (fun _ h=>⟨_,_,_,_,_,_,_,_,_,_,_,_,_,_,_,_,_,_,h,jr⟩) (fun p68 k s hI=>?_) fun p68=>?_
      ·obtain ⟨s69,s70,s71,s72,s73,s74,s75,s76,s77,s78,s79,s80,s81,s82,s83,s84,s85,s86,h,hj⟩:=hI
       cases k with
       | zero=>cases h
       | succ k=>
        refine At.jr hj ?_ h
        refine At.c 1 ?_ ?_
        ·refine At.L 5 [2,3,4,5,7,9,35,36] 16 (fun p87=>([],[(2,.var (.st 38 [(aE.enc p87.2.2.2.2.2.2.1),(aI.enc a1),(.ifc 181 (.ref 8 [] 0)),(eO 6 1 (eL 2 aD.enc) r6.2.2.2.1),(aA.enc r6.2.2.2.2.1),(aH.enc p87.2.2.2.2.2.2.2.1)])),(8,.var (aL.enc p87.2.2.2.2.2.2.2.2)),(9,.var (.st 8 [(j64 a1.gW),(j64 a1.gH),(eO 10 3 (eA 3 1 j64) p87.1),(eO 11 1 j64 p87.2.1),(eO 12 1 j64 p87.2.2.1),(eO 13 3 (eA 3 1 j64) p87.2.2.2.1),(eO 14 1 j64 p87.2.2.2.2.1),(eO 15 1 j64 p87.2.2.2.2.2.1)])),(10,.tail (p87.1.length*3)),(11,.tail (p87.2.1.length*1)),(12,.tail (p87.2.2.1.length*1)),(13,.tail (p87.2.2.2.1.length*3)),(14,.tail (p87.2.2.2.2.1.length*1)),(15,.tail (p87.2.2.2.2.2.1.length*1))],[])) (fun p87 J k=>∃ s88 s89 s90 s91 s92 s93 s94 s95 s96 s97,lP N a1 r6 s86 a0 k s88 s89 s90 s91 s92 s93 s94 s95 s96 s97=some p87∧J [2,3,4,5,7,9,10,35,36,40] 16 [(41,(j64 s97))] [(2,.var (.st 38 [(aE.enc s94),(aI.enc a1),(.ifc 181 (.ref 8 [] 0)),(eO 6 1 (eL 2 aD.enc) r6.2.2.2.1),(aA.enc r6.2.2.2.2.1),(aH.enc s95)])),(8,.var (aL.enc s96)),(9,.var (.st 8 [(j64 a1.gW),(j64 a1.gH),(eO 10 3 (eA 3 1 j64) s88),(eO 11 1 j64 s89),(eO 12 1 j64 s90),(eO 13 3 (eA 3 1 j64) s91),(eO 14 1 j64 s92),(eO 15 1 j64 s93)])),(10,.tail (s88.length*3)),(11,.tail (s89.length*1)),(12,.tail (s90.length*1)),(13,.tail (s91.length*3)),(14,.tail (s92.length*1)),(15,.tail (s93.length*1))] []) N (fun _ h=>⟨_,_,_,_,_,_,_,_,_,_,h,jr⟩) (fun p87 k s hI=>?_) fun p87=>?_
         ·obtain ⟨s88,s89,s90,s91,s92,s93,s94,s95,s96,s97,h,hj⟩:=hI
          cases k with
          | zero=>cases h
          | succ k=>
           refine At.jr hj ?_ h
           refine At.c 1 ?_ ?_
           ·refine At.ownn 6 12 9 ?_
            refine At.L 0 [2,3,4,5,7,9,10,35,36,40,41] 17 (fun p98=>([(12,(eO 16 9 aG.enc p98.1))],[(2,.var (.st 38 [(aE.enc s94),(aI.enc a1),(.ifc 181 (.ref 8 [] 0)),(eO 6 1 (eL 2 aD.enc) r6.2.2.2.1),(aA.enc r6.2.2.2.2.1),(aH.enc p98.2.1)])),(8,.var (aL.enc p98.2.2)),(16,.tail (p98.1.length*9))],[])) (fun p98 J k=>∃ s99 s100 s101 s102,lM N a1 r6 s97 s86 s94 k s99 s100 s101 s102=some p98∧J [2,3,4,5,7,9,10,11,35,36,40,41,45] 17 [(12,(eO 16 9 aG.enc s99)),(46,(j64 s102))] [(2,.var (.st 38 [(aE.enc s94),(aI.enc a1),(.ifc 181 (.ref 8 [] 0)),(eO 6 1 (eL 2 aD.enc) r6.2.2.2.1),(aA.enc r6.2.2.2.2.1),(aH.enc s100)])),(8,.var (aL.enc s101)),(16,.tail (s99.length*9))] []) N (fun _ h=>⟨_,_,_,_,h,jr⟩) (fun p98 k s hI=>?_) fun p98=>?_
            ·obtain ⟨s99,s100,s101,s102,h,hj⟩:=hI
             cases k with
             | zero=>cases h
             | succ k=>
              refine At.jr hj ?_ h
              refine lx ?_;intro x103
              refine At.c 1 ?_ ?_
              ·refine At.b 6 (fun _ e=>aM [2,8,6] (aAX e)) fun r104=>?_
               refine At.o 8 (bQ hT (x:=(.sl 9 1 [(aG.enc r104.2.2.1)]))) ?_
               refine At.b 0 (fun _ e=>iA hT aG.enc (id:=16) (k:=9) e) fun z105=>?_
               exact fun h=>At.k 3 ⟨_,_,_,_,h,jr⟩
              ·apply rt;exact At.x 0
            ·refine At.b 2 (fun _ e=>aM [] (aC5 e)) fun r106=>?_
             refine bi fun z107 hz107=>?_
             refine bi fun z108 hz108=>?_
             refine At.d 6 dE0 (dF 4 (eO 10 3 (eA 3 1 j64) z107) [(10,.tail (z107.length*3))] [] (bG (iA hT (eA 3 1 j64) (id:=10) (k:=3) hz107)) (dF 9 (eO 13 3 (eA 3 1 j64) z108) [(13,.tail (z108.length*3))] [] (bG (iA hT (eA 3 1 j64) (id:=13) (k:=3) hz108)) dF0)) ?_
             refine bi fun z109 hz109=>?_
             refine bi fun z110 hz110=>?_
             refine At.d 0 dE0 (dF 4 (eO 11 1 j64 z109) [(11,.tail (z109.length*1))] [] (bG (iA hT j64 (id:=11) (k:=1) hz109)) (dF 9 (eO 12 1 j64 z110) [(12,.tail (z110.length*1))] [] (bG (iA hT j64 (id:=12) (k:=1) hz110)) dF0)) ?_
             refine bi fun z111 hz111=>?_
             refine bi fun z112 hz112=>?_
             refine At.d 0 dE0 (dF 4 (eO 14 1 j64 z111) [(14,.tail (z111.length*1))] [] (bG (iA hT j64 (id:=14) (k:=1) hz111)) (dF 9 (eO 15 1 j64 z112) [(15,.tail (z112.length*1))] [] (bG (iA hT j64 (id:=15) (k:=1) hz112)) dF0)) ?_
             exact fun h=>At.k 2 ⟨_,_,_,_,_,_,_,_,_,_,h,jr⟩
           ·apply rt;exact At.x 0
         ·exact fun h=>At.k 2 ⟨_,_,_,_,_,_,_,_,_,_,_,_,_,_,_,_,_,_,h,jr⟩
        ·apply rt;exact At.x 0
      ·refine bi fun r113 hr113=>?_
       refine At.d 0 dE0 (dF 2 (aH.enc r113) [] [] (bG (aM [2,8,6] (aBA hr113))) dF0) ?_
       apply rt;exact At.r 0
def aH2 : Nat→Bool:=imL [2,3]
def xR (N:Nat) (a0:aE) (a1:aI):Option (bT×aH×Int):=
 Option.bind (lS N a0 a1) fun r1=>
 Option.bind (cond (!a1.gS) (some (aH.mk 0 0 0)) (some r1.2.1)) fun p2=>
 some ((r1.1,p2,r1.2.2))
theorem aGn {N a0 a1 r} (h:xR N a0 a1=some r):FnM Tryz.prog 12 [] [(aE.enc a0),(aI.enc a1)] (.tup [(bT.enc r.1),(aH.enc r.2.1),(j64 r.2.2)]) []:=by
 unfold xR at h
 refine At.f aH2 hT hmo Tryz.func12 rfl h ?_
 refine At.b 7 (fun _ e=>aM [] (aH5 e)) fun r1=>?_
 refine At.J 9 1 [4,5,7,8,9] 4 (fun p2=>([],[(3,.var (aH.enc p2))],[])) (fun p2=>?_) fun p2=>?_
 ·refine At.c 3 ?_ ?_
  ·apply rt;exact At.jn 2
  ·apply rt;exact At.jn 0
 ·refine At.d 0 dE0 dF0 ?_
  apply rt;exact At.r 0
def rS (N:Nat) (a0 a1:(List (Vector Int 3))):Nat→Int→Option (Sum (Unit) (Bool))
 | 0,_=>none
 | k+1,s3=>
  aT (decide (s3 < ((a0.length:Int)))) fun x4=>
  cond x4 (
   Option.bind (idx a0 s3) fun e5=>
   Option.bind (idx a1 s3) fun e6=>
   cond (!((eqV (fun a b=>a==b)) e5 e6)) (
    some (Sum.inr false)) (
    rS N a0 a1 k (I64 (s3+1)))) (
   some (Sum.inl (())))
def qY (N:Nat) (a0 a1:(List (Vector Int 3))):Option (Bool):=
 aT (((a0.length:Int)) != ((a1.length:Int))) fun x1=>
 cond x1 (
  some false) (
  Option.bind (rS N a0 a1 N 0) fun o=>nS o (fun p2=>
   some true) (fun r=>some r))
theorem yW {N a0 a1 r} (h:qY N a0 a1=some r):FnM Tryz.prog 42 [] [(eL 3 (eA 3 1 j64) a0),(eL 3 (eA 3 1 j64) a1)] (eB r) []:=by
 unfold qY at h
 refine At.f cQ hT hmo Tryz.func42 rfl h ?_
 refine lx ?_;intro x1
 refine At.c 6 ?_ ?_
 ·apply rt;exact At.r 1
 ·refine At.LS 3 [] 0 (fun p2=>([],[],[])) (fun op2 J k=>∃ s3,rS N a0 a1 k s3=some op2∧J [0,1,12] 0 [(13,(j64 s3))] [] []) N (fun _ h=>⟨_,h,jr⟩) (fun op2 g2 k s hI=>?_) fun p2=>?_
  ·obtain ⟨s3,h,hj⟩:=hI
   cases k with
   | zero=>cases h
   | succ k=>
    refine At.jr hj ?_ h
    refine lx ?_;intro x4
    refine At.c 1 ?_ ?_
    ·refine bi fun e5 he5=>?_
     refine bi fun e6 he6=>?_
     refine At.d 2 (dE1 2 (fun _=>bF hT (eA 3 1 j64) he5) (dE1 6 (fun _=>bF hT (eA 3 1 j64) he6) (dE1 8 (fun _=>zN aR5 (e5:(Vector Int 3)) (e6:(Vector Int 3)) (by kernel_rfl) (by kernel_rfl) (fun _=>rfl) (fun _=>rfl) (by kernel_rfl) (by kernel_rfl)) dE0))) dF0 ?_
     refine At.c 0 ?_ ?_
     ·intro e;apply aBM g2 e;exact At.r 1
     ·exact fun h=>At.k 2 ⟨_,h,jr⟩
    ·apply rt;exact At.xs 0
  ·apply rt;exact At.r 1
def uF (N:Nat) (a0 a1:(List Int)):Nat→Int→Option (Sum (Unit) (Bool))
 | 0,_=>none
 | k+1,s3=>
  aT (decide (s3 < ((a0.length:Int)))) fun x4=>
  cond x4 (
   Option.bind (idx a0 s3) fun e5=>
   Option.bind (idx a1 s3) fun e6=>
   cond (e5 != e6) (
    some (Sum.inr false)) (
    uF N a0 a1 k (I64 (s3+1)))) (
   some (Sum.inl (())))
def nN (N:Nat) (a0 a1:(List Int)):Option (Bool):=
 aT (((a0.length:Int)) != ((a1.length:Int))) fun x1=>
 cond x1 (
  some false) (
  Option.bind (uF N a0 a1 N 0) fun o=>nS o (fun p2=>
   some true) (fun r=>some r))
theorem rW {N a0 a1 r} (h:nN N a0 a1=some r):FnM Tryz.prog 43 [] [(eL 1 j64 a0),(eL 1 j64 a1)] (eB r) []:=by
 unfold nN at h
 refine At.f cQ hT hmo Tryz.func43 rfl h ?_
 refine lx ?_;intro x1
 refine At.c 6 ?_ ?_
 ·apply rt;exact At.r 1
 ·refine At.LS 3 [] 0 (fun p2=>([],[],[])) (fun op2 J k=>∃ s3,uF N a0 a1 k s3=some op2∧J [0,1,12] 0 [(13,(j64 s3))] [] []) N (fun _ h=>⟨_,h,jr⟩) (fun op2 g2 k s hI=>?_) fun p2=>?_
  ·obtain ⟨s3,h,hj⟩:=hI
   cases k with
   | zero=>cases h
   | succ k=>
    refine At.jr hj ?_ h
    refine lx ?_;intro x4
    refine At.c 1 ?_ ?_
    ·refine bi fun e5 he5=>?_
     refine bi fun e6 he6=>?_
     refine At.d 2 (dE1 2 (fun _=>bF hT j64 he5) (dE1 6 (fun _=>bF hT j64 he6) dE0)) dF0 ?_
     refine At.c 0 ?_ ?_
     ·intro e;apply aBM g2 e;exact At.r 1
     ·exact fun h=>At.k 2 ⟨_,h,jr⟩
    ·apply rt;exact At.xs 0
  ·apply rt;exact At.r 1
def aKj : Nat→Bool:=imL [2,3]
def aAh (N:Nat) (a0 a1:bT):Option (Bool):=
 Option.bind (aT (cond (a0.gW==a1.gW) (a0.gH==a1.gH) false) fun x2=>
 cond x2 (
  Option.bind (qY N a0.gD7 a1.gD7) fun r3=>
  cond r3 (
   Option.bind (nN N a0.gA8 a1.gA8) fun r4=>
   cond r4 (
    Option.bind (nN N a0.gM a1.gM) fun r5=>
    cond r5 (
     Option.bind (qY N a0.gB9 a1.gB9) fun r6=>
     cond r6 (
      Option.bind (nN N a0.gD1 a1.gD1) fun r7=>
      cond r7 (
       Option.bind (nN N a0.gA9 a1.gA9) fun r8=>
       some r8) (
       some false)) (
      some false)) (
     some false)) (
    some false)) (
   some false)) (
  some false)) fun p1=>
 some p1
theorem aJz {N a0 a1 r} (h:aAh N a0 a1=some r):FnM Tryz.prog 16 [] [(bT.enc a0),(bT.enc a1)] (eB r) []:=by
 unfold aAh at h
 refine At.f aKj hT hmo Tryz.func16 rfl h ?_
 refine At.J 3 0 [] 0 (fun p1=>([(4,(eB p1))],[],[])) (fun p1=>?_) fun p1=>?_
 ·refine lx ?_;intro x2
  refine At.s 17 13 ?_ ?_
  ·refine At.g [17] 4 ?_
   refine At.b 0 (fun _ e=>aM [] (yW e)) fun r3=>?_
   refine At.g [17] 2 ?_
   refine At.s 24 0 ?_ ?_
   ·refine At.g [24] 4 ?_
    refine At.b 0 (fun _ e=>aM [] (rW e)) fun r4=>?_
    refine At.g [24] 2 ?_
    refine At.s 31 0 ?_ ?_
    ·refine At.g [31] 4 ?_
     refine At.b 0 (fun _ e=>aM [] (rW e)) fun r5=>?_
     refine At.g [31] 2 ?_
     refine At.s 38 0 ?_ ?_
     ·refine At.g [38] 4 ?_
      refine At.b 0 (fun _ e=>aM [] (yW e)) fun r6=>?_
      refine At.g [38] 2 ?_
      refine At.s 45 0 ?_ ?_
      ·refine At.g [45] 4 ?_
       refine At.b 0 (fun _ e=>aM [] (rW e)) fun r7=>?_
       refine At.g [45] 2 ?_
       refine At.s 52 0 ?_ ?_
       ·refine At.g [52] 4 ?_
        refine At.b 0 (fun _ e=>aM [] (rW e)) fun r8=>?_
        refine At.g [52] 2 ?_
        apply rt;exact At.jn 0
       ·refine At.g [52] 7 ?_
        apply rt;exact At.jn 0
      ·refine At.g [45,52] 14 ?_
       apply rt;exact At.jn 0
     ·refine At.g [38,45,52] 21 ?_
      apply rt;exact At.jn 0
    ·refine At.g [31,38,45,52] 28 ?_
     apply rt;exact At.jn 0
   ·refine At.g [24,31,38,45,52] 35 ?_
    apply rt;exact At.jn 0
  ·refine At.g [17,24,31,38,45,52] 42 ?_
   apply rt;exact At.jn 0
 ·apply rt;exact At.r 0
def jK (N:Nat):Option (Bool):=
 Option.bind (Option.bind (qR N 4294967296) fun r2=>
 cond (r2==32767) (
  Option.bind (qQ N 0) fun r3=>
  cond (r3==32767) (
   Option.bind (wU N 300647710720000) fun r4=>
   some (r4==65535)) (
   some false)) (
  some false)) fun p1=>
 some p1
theorem yX {N r} (h:jK N=some r):FnM Tryz.prog 15 [] [] (eB r) []:=by
 unfold jK at h
 refine At.f cQ hT hmo Tryz.func15 rfl h ?_
 refine At.J 1 0 [] 0 (fun p1=>([(0,(eB p1))],[],[])) (fun p1=>?_) fun p1=>?_
 ·refine At.b 0 (fun _ e=>aM [] (zR e)) fun r2=>?_
  refine At.s 3 2 ?_ ?_
  ·refine At.b 0 (fun _ e=>aM [] (zP e)) fun r3=>?_
   refine At.g [3] 3 ?_
   refine At.s 7 0 ?_ ?_
   ·refine At.b 0 (fun _ e=>aM [] (aFH e)) fun r4=>?_
    refine At.g [7] 3 ?_
    apply rt;exact At.jn 0
   ·refine At.g [7] 4 ?_
    apply rt;exact At.jn 0
  ·refine At.g [3,7] 8 ?_
   apply rt;exact At.jn 0
 ·apply rt;exact At.r 0
def dH (N:Nat) (z35:(List Int)):Nat→Int→Option (Sum (Unit) (Bool))
 | 0,_=>none
 | k+1,s37=>
  aT (decide (s37 < ((z35.length:Int)))) fun x38=>
  cond x38 (
   Option.bind (idx z35 s37) fun e39=>
   aT (cond (decide (e39 < 0)) true (decide (e39 > 65535))) fun x40=>
   cond x40 (
    some (Sum.inr false)) (
    dH N z35 k (I64 (s37+1)))) (
   some (Sum.inl (())))
def fG (N:Nat) (r2:aI) (r3:bT×aH×Int) (r1:aE):Nat→Int→Option (Sum (Unit) (Bool))
 | 0,_=>none
 | k+1,s24=>
  aT (decide (s24 < (I64 (r2.gW*r2.gH)))) fun x25=>
  cond x25 (
   Option.bind (idx r3.1.gA8 s24) fun e26=>
   Option.bind (idx r3.1.gM s24) fun e27=>
   Option.bind (idx r3.1.gD1 s24) fun e28=>
   Option.bind (idx r3.1.gA9 s24) fun e29=>
   Option.bind (idx r3.1.gD7 s24) fun e30=>
   Option.bind (vU e30.toList 0 3) fun s31=>
   Option.bind (rF 8 (([e26,e27,e28,e29]:List Int)) s31) fun z32=>
   Option.bind (idx r3.1.gB9 s24) fun e33=>
   Option.bind (vU e33.toList 0 3) fun s34=>
   Option.bind (rF 8 z32 s34) fun z35=>
   Option.bind (dH N z35 N 0) fun o=>nS o (fun p36=>
    Option.bind (Option.bind (idx r3.1.gD1 s24) fun e42=>
    aT (decide (e42 > ((r1.gL.length:Int)))) fun x43=>
    cond x43 (
     some true) (
     Option.bind (idx r3.1.gD1 s24) fun e44=>
     cond (e44==0) (
      Option.bind (idx r3.1.gA8 s24) fun e45=>
      cond (e45 != 0) (
       some true) (
       Option.bind (idx r3.1.gM s24) fun e46=>
       some (e46 != 0))) (
      some false))) fun p41=>
    cond p41 (
     some (Sum.inr false)) (
     fG N r2 r3 r1 k (I64 (s24+1)))) (fun r=>some (Sum.inr r))) (
   some (Sum.inl (())))
def kE (N:Nat) (a0:aE) (a1:aI):Option (Bool):=
 Option.bind (pZ N a0) fun r1=>
 Option.bind (rA N a1) fun r2=>
 Option.bind (xR N r1 r2) fun r3=>
 cond (r3.2.2 != 0) (
  Option.bind (Option.bind (aAh N r3.1 (bT.mk 0 0 [] [] [] [] [] [])) fun r5=>
  cond r5 (
   Option.bind (jK N ) fun r6=>
   some r6) (
   some false)) fun p4=>
  some p4) (
  aT (cond (r3.1.gW != r2.gW) true (r3.1.gH != r2.gH)) fun x7=>
  aT ((r3.1.gD7.length:Int)) fun x8=>
  aT (x8 != (I64 (r2.gW*r2.gH))) fun x9=>
  aT ((r3.1.gB9.length:Int)) fun x10=>
  aT (x10 != (I64 (r2.gW*r2.gH))) fun x11=>
  aT (cond (cond x7 true x9) true x11) fun x12=>
  aT ((r3.1.gA8.length:Int)) fun x13=>
  aT (x13 != (I64 (r2.gW*r2.gH))) fun x14=>
  aT ((r3.1.gM.length:Int)) fun x15=>
  aT (x15 != (I64 (r2.gW*r2.gH))) fun x16=>
  aT (cond (cond x12 true x14) true x16) fun x17=>
  aT ((r3.1.gD1.length:Int)) fun x18=>
  aT (x18 != (I64 (r2.gW*r2.gH))) fun x19=>
  aT ((r3.1.gA9.length:Int)) fun x20=>
  aT (x20 != (I64 (r2.gW*r2.gH))) fun x21=>
  aT (cond (cond x17 true x19) true x21) fun x22=>
  cond x22 (
   some false) (
   Option.bind (fG N r2 r3 r1 N 0) fun o=>nS o (fun p23=>
    Option.bind (jK N ) fun r47=>
    some r47) (fun r=>some r)))
theorem aBC {N a0 a1 r} (h:kE N a0 a1=some r):FnM Tryz.prog 4 [] [(aE.enc a0),(aI.enc a1)] (eB r) []:=by
 unfold kE at h
 refine At.f cQ hT hmo Tryz.func4 rfl h ?_
 refine bi fun r1 hr1=>?_
 refine bi fun r2 hr2=>?_
 refine At.d 3 (dE2 1 (aE.enc r1) (fun _=>aO (aD7 hr1)) (dE2 3 (aI.enc r2) (fun _=>aO (aC0 hr2)) dE0)) dF0 ?_
 refine At.b 2 (fun _ e=>aM [] (aGn e)) fun r3=>?_
 refine At.c 11 ?_ ?_
 ·refine At.J 0 0 [] 4 (fun p4=>([(4,(eB p4))],[],[])) (fun p4=>?_) fun p4=>?_
  ·refine At.b 2 (fun _ e=>aM [] (aJz e)) fun r5=>?_
   refine At.s 29 1 ?_ ?_
   ·refine At.b 0 (fun _ e=>aM [] (yX e)) fun r6=>?_
    refine At.g [29] 2 ?_
    apply rt;exact At.jn 0
   ·refine At.g [29] 3 ?_
    apply rt;exact At.jn 0
  ·apply rt;exact At.r 0
 ·refine lx ?_;intro x7
  refine lx ?_;intro x8
  refine lx ?_;intro x9
  refine lx ?_;intro x10
  refine lx ?_;intro x11
  refine lx ?_;intro x12
  refine lx ?_;intro x13
  refine lx ?_;intro x14
  refine lx ?_;intro x15
  refine lx ?_;intro x16
  refine lx ?_;intro x17
  refine lx ?_;intro x18
  refine lx ?_;intro x19
  refine lx ?_;intro x20
  refine lx ?_;intro x21
  refine lx ?_;intro x22
  refine At.c 60 ?_ ?_
  ·apply rt;exact At.r 1
  ·refine At.LS 2 [] 4 (fun p23=>([],[],[])) (fun op23 J k=>∃ s24,fG N r2 r3 r1 k s24=some op23∧J [2,5,91] 4 [(92,(j64 s24))] [] []) N (fun _ h=>⟨_,h,jr⟩) (fun op23 g23 k s hI=>?_) fun p23=>?_
   ·obtain ⟨s24,h,hj⟩:=hI
    cases k with
    | zero=>cases h
    | succ k=>
     refine At.jr hj ?_ h
     refine lx ?_;intro x25
     refine At.c 1 ?_ ?_
     ·refine bi fun e26 he26=>?_
      refine bi fun e27 he27=>?_
      refine bi fun e28 he28=>?_
      refine bi fun e29 he29=>?_
      refine At.d 2 (dE1 3 (fun _=>bF hT j64 he26) (dE1 8 (fun _=>bF hT j64 he27) (dE1 13 (fun _=>bF hT j64 he28) (dE1 18 (fun _=>bF hT j64 he29) dE0)))) (dF 20 (eO 4 1 j64 (([e26,e27,e28,e29]:List Int))) [] [.tail ((([e26,e27,e28,e29]:List Int)).length*1)] (bG (xV hT j64 (k:=1) ([e26,e27,e28,e29]:List Int) (by kernel_rfl) (by kernel_rfl))) dF0) ?_
      refine bi fun e30 he30=>?_
      refine bi fun s31 hs31=>?_
      refine bi fun z32 hz32=>?_
      refine bi fun e33 he33=>?_
      refine bi fun s34 hs34=>?_
      refine bi fun z35 hz35=>?_
      refine At.d 0 (dE1 4 (fun _=>bF hT (eA 3 1 j64) he30) (dE1 5 (fun _=>zI hT (N:=3) (k:=1) j64 e30 hs31) (dE1 10 (fun _=>bF hT (eA 3 1 j64) he33) (dE1 11 (fun _=>zI hT (N:=3) (k:=1) j64 e33 hs34) dE0)))) (dF 6 (eO 4 1 j64 z32) [(4,.tail (z32.length*1))] [] (bG (iA hT j64 (id:=4) (k:=1) hz32)) (dF 12 (eO 4 1 j64 z35) [(4,.tail (z35.length*1))] [] (bG (iA hT j64 (id:=4) (k:=1) hz35)) dF0)) ?_
      refine At.LS 3 [2,5,9,91,92] 5 (fun p36=>([],[],[])) (fun op36 J k=>∃ s37,dH N z35 k s37=some op36∧J [2,5,9,91,92,129,130] 5 [(131,(j64 s37))] [] []) N (fun _ h=>⟨_,h,jr⟩) (fun op36 g36 k s hI=>?_) fun p36=>?_
      ·obtain ⟨s37,h,hj⟩:=hI
       cases k with
       | zero=>cases h
       | succ k=>
        refine At.jr hj ?_ h
        refine lx ?_;intro x38
        refine At.c 1 ?_ ?_
        ·refine At.b 0 (fun _ e=>bF hT j64 e) fun e39=>?_
         refine lx ?_;intro x40
         refine At.c 8 ?_ ?_
         ·intro e;apply rtS2 g36 g23 e;exact At.r 1
         ·exact fun h=>At.k 2 ⟨_,h,jr⟩
        ·apply rt;exact At.xs 0
      ·refine At.J 0 0 [2,5,91,92] 5 (fun p41=>([(174,(eB p41))],[],[])) (fun p41=>?_) fun p41=>?_
       ·refine bi fun e42 he42=>?_
        refine lx ?_;intro x43
        refine boI (fun hc9=>?_) (fun hc9=>?_)
        ·refine At.d 0 (dE1 3 (fun _=>bF hT j64 he42) (dE1 9 (fun _=>cD hc9 rfl (bY hT (im:=false) (by kernel_rfl))) dE0)) dF0 ?_
         apply rt;exact At.jn 0
        ·refine bi fun e44 he44=>?_
         refine boI (fun hc16=>?_) (fun hc16=>?_)
         ·refine bi fun e45 he45=>?_
          refine boI (fun hc23=>?_) (fun hc23=>?_)
          ·refine At.d 0 (dE1 3 (fun _=>bF hT j64 he42) (dE1 9 (fun _=>cD hc9 rfl (bY hT (im:=false) (by kernel_rfl))) (dE1 13 (fun _=>bF hT j64 he44) (dE1 16 (fun _=>cD hc16 rfl (bY hT (im:=false) (by kernel_rfl))) (dE1 20 (fun _=>bF hT j64 he45) (dE1 23 (fun _=>cD hc23 rfl (bY hT (im:=false) (by kernel_rfl))) dE0)))))) dF0 ?_
           apply rt;exact At.jn 0
          ·refine bi fun e46 he46=>?_
           refine At.d 0 (dE1 3 (fun _=>bF hT j64 he42) (dE1 9 (fun _=>cD hc9 rfl (bY hT (im:=false) (by kernel_rfl))) (dE1 13 (fun _=>bF hT j64 he44) (dE1 16 (fun _=>cD hc16 rfl (bY hT (im:=false) (by kernel_rfl))) (dE1 20 (fun _=>bF hT j64 he45) (dE1 23 (fun _=>cD hc23 rfl (bY hT (im:=false) (by kernel_rfl))) (dE1 27 (fun _=>bF hT j64 he46) dE0))))))) dF0 ?_
           apply rt;exact At.jn 0
         ·refine At.d 0 (dE1 3 (fun _=>bF hT j64 he42) (dE1 9 (fun _=>cD hc9 rfl (bY hT (im:=false) (by kernel_rfl))) (dE1 13 (fun _=>bF hT j64 he44) (dE1 16 (fun _=>cD hc16 rfl (bY hT (im:=false) (by kernel_rfl))) dE0)))) dF0 ?_
          apply rt;exact At.jn 0
       ·refine At.c 0 ?_ ?_
        ·intro e;apply aBM g23 e;exact At.r 1
        ·exact fun h=>At.k 2 ⟨_,h,jr⟩
     ·apply rt;exact At.xs 0
   ·refine At.b 0 (fun _ e=>aM [] (yX e)) fun r47=>?_
    apply rt;exact At.r 1
end Go.UK
