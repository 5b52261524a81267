/- A part of the proof: what the functions of the program compute. -/
import Derived.Test.YtghnafefpogjjaaGreatAJ1
open Int renaming toNat→bm
open List renaming length_map→bd,map→ai
open Option renaming bind→aa
namespace Go.UK
open Go Go.Proofs
set_option maxRecDepth 20000
set_option maxHeartbeats 40000000
set_option linter.all false
attribute [local irreducible] adv aLa aKS aBf brPt aNn aHN qS aBM aNf fA pN iD aLU aKZ lPt owp awl aw FnM aHr opS Stab TOK Big
def aGE : Nat->Bool:=imL [5,7,8]
def lC(N:Nat)(a0:(Vector Int 3))(a1:(List aD))(a2:(Vector (Vector Int 2) 3))(a3:aN)(a4:Int):Option (aA):=
 aa (sE N a0 65535) λr1=>
 aa (wU N a1 a4) λr2=>
 cond (!r2.2) (
  some r1) (
  aa (wV N a3 a2) λr3=>
  aU (fN (jR r3.1 0) 65535) λx4=>
  aU (fN (jR r3.2 0) 65535) λx5=>
  aa (tJ N r2.1 x4 x5) λr6=>
  cond (r6.2 != 0) (
   some r1) (
   aa (iA N ([r1,r6.1])) λr7=>
   some r7))
theorem aBg{N a0 a1 a2 a3 a4 r}(h:lC N a0 a1 a2 a3 a4=some r):FnM Tryz.prog 260 [] [(eA 3 1 j64 a0),(eL 2 aD.enc a1),(eA 6 2 (eA 2 1 j64) a2),(aN.enc a3),(j64 a4)] (aA.enc r) []:=by
 unfold lC at h;refine At.f aGE hT hmo Tryz.func260 rfl h ?_;refine At.b 5 (λ_ e=>aM [] (aCb e)) λr1=>?_;refine At.b 4 (λ_ e=>aM [] (aIM e)) λr2=>?_;refine At.c 8 ?_ ?_
 ·apply rt;exact At.r 2
 ·refine At.b 2 (λ_ e=>aM [] (aIl e)) λr3=>?_;refine lx ?_;intro x4;refine lx ?_;intro x5;refine At.b 12 (λ_ e=>aM [] (aGK e)) λr6=>?_;refine At.c 8 ?_ ?_
  ·apply rt;exact At.r 2
  ·refine At.o 2 (bS hT (x:=(.sl 3 2 [(aA.enc r1),(aA.enc r6.1)]))) ?_;refine At.b 0 (λ_ e=>aM [] (rO e)) λr7=>?_;apply rt;exact At.r 1
def oB(N:Nat)(a0:Int):Option (aS):=
 aa (fS N a0 a0) λr1=>
 some r1
theorem yW{N a0 r}(h:oB N a0=some r):FnM Tryz.prog 269 [] [(j64 a0)] (aS.enc r) []:=by
 unfold oB at h;refine At.f dG hT hmo Tryz.func269 rfl h ?_;refine At.b 3 (λ_ e=>aM [] (lB e)) λr1=>?_;apply rt;exact At.r 1
def aKo : Nat->Bool:=imL [1]
def nN(N:Nat)(a0:aA):Option (Int):=
 aa (oB N a0.gX) λr1=>
 aa (oB N a0.gY) λr2=>
 aa (oB N a0.gZ) λr3=>
 aa (vP N ([r1,r2,r3])) λr4=>
 cond (!r4.2) (
  some 9223372036854775807) (
  aa (sS N r4.1) λr5=>
  aU (fN r5 9223372036854775807) λx6=>
  some (I64 x6))
theorem aBB{N a0 r}(h:nN N a0=some r):FnM Tryz.prog 200 [] [(aA.enc a0)] (j64 r) []:=by
 unfold nN at h;refine At.f aKo hT hmo Tryz.func200 rfl h ?_;refine bi λr1 hr1=>?_;refine bi λr2 hr2=>?_;refine bi λr3 hr3=>?_;refine bi λr4 hr4=>?_;refine At.d 3 (dE2 3 (aS.enc r1) (λ_=>aO (yW hr1)) (dE2 7 (aS.enc r2) (λ_=>aO (yW hr2)) (dE2 11 (aS.enc r3) (λ_=>aO (yW hr3)) (dE1 12 (λ_=>bS hT (x:=(.sl 2 3 [(aS.enc r1),(aS.enc r2),(aS.enc r3)]))) (dE2 13 (.tup [(aS.enc r4.1),(eB r4.2)]) (λ_=>aO (aCl hr4)) dE0))))) dF0 ?_;refine At.c 2 ?_ ?_
 ·apply rt;exact At.r 1
 ·refine At.b 1 (λ_ e=>aM [] (aEz e)) λr5=>?_;refine lx ?_;intro x6;apply rt;exact At.r 3
def iI(N:Nat)(b4:(List (List aD)))(a1:aJ)(a2 a3:aA)(a4:Int)(a5:Bool)(a6:aF)(a7:aG)(a8:aI)(a9:aA)(a10:aE)(a11:aB)(a12:aK):Option (aF×Int×aK×aT×Bool):=
 aa (cond (a4==0) (some 9) (some 4)) λp1=>
 aa (cA N a1.go a1.gd p1 a1.gD2 a12) λr2=>
 aa (cond a8.gT (some (I64 (a10.gQ+4))) (some a10.gQ)) λp3=>
 cond (decide (r2.2.1 < 0)) (
  some ((a6,p3,r2.1,aT.mk 0 (aC.mk 0 0 0) (aA.mk 0 0 0) (aA.mk 0 0 0) (aP.mk 0 (#v[0,0,0]) 0) false,false))) (
  aa (idx a7.gE r2.2.1) λe4=>
  aa (fM 1 3) λ_=>
  aa (e4.gP.toList[(bm 1)]?) λe6=>
  aa (fM 0 3) λ_=>
  aa (e4.gP.toList[(bm 0)]?) λe8=>
  aa (lO N e6 e8) λr9=>
  aa (fM 2 3) λ_=>
  aa (e4.gP.toList[(bm 2)]?) λe11=>
  aa (fM 0 3) λ_=>
  aa (e4.gP.toList[(bm 0)]?) λe13=>
  aa (lO N e11 e13) λr14=>
  aa (nR N r9 r14) λr15=>
  aa (fT N r15) λr16=>
  aa (aa (rG N a1.go a1.gd r2.2.2) λr18=>
  aa (kA N r16 a1.gd) λr19=>
  aa (idx a7.gA6 e4.gD0) λe20=>
  cond (a4==0) (
   aU ((fI .u8 e4.gC0 8) != 0) λx21=>
   some (aT.mk r2.2.1 r18 r19 (aA.mk 0 0 0) e20 x21)) (
   some (aT.mk r2.2.1 r18 r19 (aA.mk 0 0 0) e20 false))) λp17=>
  aa (cond (decide (e4.gB3>=0)) (
   aa (idx b4 e4.gB3) λe23=>
   cond (!a8.gT) (some ((I64 (p3+4),e23))) (some ((p3,e23)))) (
   some ((p3,[])))) λp22=>
  aa (lC N p17.gG.gB5 p22.2 e4.gUv r2.2.2 a4) λr24=>
  aa (aU (cond (a4==0) (!a5) false) λx26=>
  cond x26 (
   aa (nH N p17.gat) λr27=>
   aa (nH N a1.go) λr28=>
   aa (tZ N r27 r28) λr29=>
   aa (nN N r29) λr30=>
   cond p17.gB7 (
    some (aF.mk (aA.mk 0 0 0) 0 r30 p17.gn e4.gA4)) (
    some (aF.mk (aA.mk 0 0 0) 1 r30 p17.gn e4.gA4))) (
   some a6)) λp25=>
  some ((p25,p22.1,r2.1,aT.mk p17.gi p17.gat p17.gn r24 p17.gG p17.gB7,true)))
theorem aCB{N b4 a1 a2 a3 a4 a5 a6 a7 a8 a9 a10 a11 a12 r}(h:iI N b4 a1 a2 a3 a4 a5 a6 a7 a8 a9 a10 a11 a12=some r):FnM Tryz.prog 191 [.var (.st 26 [(aJ.enc a1),(.ref 1 [] 0),(.ref 2 [] 0),(aA.enc a2),(aA.enc a3),(j64 a4),(eB a5),(aF.enc a6)]),.var (.st 38 [(aG.enc a7),(aI.enc a8),(.ifc 178 (.ref 3 [] 0)),(eO 4 1 (eL 2 aD.enc) b4),(aA.enc a9),(aE.enc a10)]),.var (aB.enc a11),.var (aK.enc a12),.tail (b4.length*1)] [(.ref 0 [] 0)] (.tup [(aT.enc r.2.2.2.1),(eB r.2.2.2.2)]) [.var (.st 26 [(aJ.enc a1),(.ref 1 [] 0),(.ref 2 [] 0),(aA.enc a2),(aA.enc a3),(j64 a4),(eB a5),(aF.enc r.1)]),.var (.st 38 [(aG.enc a7),(aI.enc a8),(.ifc 178 (.ref 3 [] 0)),(eO 4 1 (eL 2 aD.enc) b4),(aA.enc a9),(.st 3 [(j64 a10.gN),(j64 r.2.1),(j64 (I64 (a10.gM+1)))])]),.var (aB.enc a11),.var (aK.enc r.2.2.1),.tail (b4.length*1)]:=by
 unfold iI at h;refine At.f dG hT hmo Tryz.func191 rfl h ?_;refine At.J 3 1 [0,2] 6 (λp1=>([(4,(k8 p1))],[],[])) (λp1=>?_) λp1=>?_
 ·refine At.c 5 ?_ ?_
  ·apply rt;exact At.jn 1
  ·apply rt;exact At.jn 0
 ·refine bi λr2 hr2=>?_;refine At.d2 0 [false] dC0 (dS1 25 ⟨(.tup [(j64 r2.2.1),(aN.enc r2.2.2)]),3,.var (aK.enc r2.1),.var (aK.enc a12)⟩ [[.var (.st 26 [(aJ.enc a1),(.ref 1 [] 0),(.ref 2 [] 0),(aA.enc a2),(aA.enc a3),(j64 a4),(eB a5),(aF.enc a6)]),.var (.st 38 [(aG.enc a7),(aI.enc a8),(.ifc 178 (.ref 3 [] 0)),(eO 4 1 (eL 2 aD.enc) b4),(aA.enc a9),(aE.enc a10)]),.var (aB.enc a11),.var (aK.enc a12),.tail (b4.length*1),.var aLJ,.dead],[.var (.st 26 [(aJ.enc a1),(.ref 1 [] 0),(.ref 2 [] 0),(aA.enc a2),(aA.enc a3),(j64 a4),(eB a5),(aF.enc a6)]),.var (.st 38 [(aG.enc a7),(aI.enc a8),(.ifc 178 (.ref 3 [] 0)),(eO 4 1 (eL 2 aD.enc) b4),(aA.enc a9),(aE.enc a10)]),.var (aB.enc a11),.var (aK.enc a12),.tail (b4.length*1),.var aLJ,.var (.st 4 [(j64 0),(j64 0),(j64 0),(j64 0)])]] ⟨bG (aM [3] (rV hr2)),bG (aM [3] (rV hr2)),trivial⟩ (dS1 29 ⟨(.ref 6 [] 0),6,.var (.st 4 [(j64 0),(j64 0),(j64 0),(j64 0)]),.dead⟩ [[.var (.st 26 [(aJ.enc a1),(.ref 1 [] 0),(.ref 2 [] 0),(aA.enc a2),(aA.enc a3),(j64 a4),(eB a5),(aF.enc a6)]),.var (.st 38 [(aG.enc a7),(aI.enc a8),(.ifc 178 (.ref 3 [] 0)),(eO 4 1 (eL 2 aD.enc) b4),(aA.enc a9),(aE.enc a10)]),.var (aB.enc a11),.var (aK.enc a12),.tail (b4.length*1),.var aLJ,.dead],[.var (.st 26 [(aJ.enc a1),(.ref 1 [] 0),(.ref 2 [] 0),(aA.enc a2),(aA.enc a3),(j64 a4),(eB a5),(aF.enc a6)]),.var (.st 38 [(aG.enc a7),(aI.enc a8),(.ifc 178 (.ref 3 [] 0)),(eO 4 1 (eL 2 aD.enc) b4),(aA.enc a9),(aE.enc a10)]),.var (aB.enc a11),.var (aK.enc r2.1),.tail (b4.length*1),.var aLJ,.dead]] ⟨aW hT 6 (by kernel_rfl) (by kernel_rfl) (by kernel_rfl),aW hT 6 (by kernel_rfl) (by kernel_rfl) (by kernel_rfl),trivial⟩ dS0)) ?_;refine At.J 13 1 [0,2,5,6] 7 (λp3=>([],[(1,.var (.st 38 [(aG.enc a7),(aI.enc a8),(.ifc 178 (.ref 3 [] 0)),(eO 4 1 (eL 2 aD.enc) b4),(aA.enc a9),(.st 3 [(j64 a10.gN),(j64 p3),(j64 (I64 (a10.gM+1)))])]))],[])) (λp3=>?_) λp3=>?_
  ·refine At.c 8 ?_ ?_
   ·apply rt;exact At.jn 13
   ·apply rt;exact At.jn 0
  ·refine At.c 2 ?_ ?_
   ·apply rt;exact At.r 3
   ·refine At.b 9 (λ_ e=>bT hT aH.enc e) λe4=>?_;refine bi λu5 hu5=>?_;refine bi λe6 he6=>?_;refine bi λu7 hu7=>?_;refine bi λe8 he8=>?_;refine bi λr9 hr9=>?_;refine bi λu10 hu10=>?_;refine bi λe11 he11=>?_;refine bi λu12 hu12=>?_;refine bi λe13 he13=>?_;refine bi λr14 hr14=>?_;refine bi λr15 hr15=>?_;refine bi λr16 hr16=>?_;refine At.d 3 (dE1 1 (λ_=>bH hT (k:=3) 7 [0] 0 hu5) (dEL hT 2 (aC.enc e6) aC.enc 1 he6 (dE1 4 (λ_=>bH hT (k:=3) 7 [0] 0 hu7) (dEL hT 5 (aC.enc e8) aC.enc 1 he8 (dE2 6 (aC.enc r9) (λ_=>aO (tT hr9)) (dE1 8 (λ_=>bH hT (k:=3) 7 [0] 0 hu10) (dEL hT 9 (aC.enc e11) aC.enc 1 he11 (dE1 11 (λ_=>bH hT (k:=3) 7 [0] 0 hu12) (dEL hT 12 (aC.enc e13) aC.enc 1 he13 (dE2 13 (aC.enc r14) (λ_=>aO (tT hr14)) (dE2 14 (aC.enc r15) (λ_=>aO (aAE hr15)) (dE2 15 (aA.enc r16) (λ_=>aO (mB hr16)) dE0)))))))))))) dF0 ?_;refine At.J 0 0 [0,2,6,7] 9 (λp17=>([],[(5,.var (aT.enc p17))],[])) (λp17=>?_) λp17=>?_
    ·refine bi λr18 hr18=>?_;refine bi λr19 hr19=>?_;refine bi λe20 he20=>?_;refine boI (λhc37=>?_) (λhc37=>?_)
     ·refine lx ?_;intro x21;refine At.d 0 (dE2 12 (aC.enc r18) (λ_=>aO (aAJ hr18)) (dE2 19 (aA.enc r19) (λ_=>aO (sM hr19)) (dE1 30 (λ_=>bT hT aP.enc he20) (dE1 37 (λ_=>cO hc37 rfl (cF hT (im:=false) (by kernel_rfl))) dE0)))) dF0 ?_;apply rt;exact At.jn 0
     ·refine At.d 0 (dE2 12 (aC.enc r18) (λ_=>aO (aAJ hr18)) (dE2 19 (aA.enc r19) (λ_=>aO (sM hr19)) (dE1 30 (λ_=>bT hT aP.enc he20) (dE1 37 (λ_=>cO hc37 rfl (cF hT (im:=false) (by kernel_rfl))) dE0)))) dF0 ?_;apply rt;exact At.jn 0
    ·refine At.J 1 1 [0,2,6,7] 9 (λp22=>([(9,(eL 2 aD.enc p22.2))],[(1,.var (.st 38 [(aG.enc a7),(aI.enc a8),(.ifc 178 (.ref 3 [] 0)),(eO 4 1 (eL 2 aD.enc) b4),(aA.enc a9),(.st 3 [(j64 a10.gN),(j64 p22.1),(j64 (I64 (a10.gM+1)))])]))],[])) (λp22=>?_) λp22=>?_
     ·refine At.c 3 ?_ ?_
      ·refine bi λe23 he23=>?_;refine At.d 0 (dE1 9 (λ_=>bT hT (eL 2 aD.enc) he23) dE0) dF0 ?_;refine At.c 9 ?_ ?_
       ·apply rt;exact At.jn 13
       ·apply rt;exact At.jn 0
      ·apply rt;exact At.jn 0
     ·refine bi λr24 hr24=>?_;refine At.d 0 (dE2 11 (aA.enc r24) (λ_=>aO (aBg hr24)) dE0) dF0 ?_;refine At.J 0 1 [2] 9 (λp25=>([],[(0,.var (.st 26 [(aJ.enc a1),(.ref 1 [] 0),(.ref 2 [] 0),(aA.enc a2),(aA.enc a3),(j64 a4),(eB a5),(aF.enc p25)]))],[])) (λp25=>?_) λp25=>?_
      ·refine lx ?_;intro x26;refine At.c 12 ?_ ?_
       ·refine bi λr27 hr27=>?_;refine bi λr28 hr28=>?_;refine bi λr29 hr29=>?_;refine bi λr30 hr30=>?_;refine At.d 0 (dE2 3 (aA.enc r27) (λ_=>aO (sB hr27)) (dE2 9 (aA.enc r28) (λ_=>aO (sB hr28)) (dE2 10 (aA.enc r29) (λ_=>aO (aCA hr29)) (dE2 11 (j64 r30) (λ_=>aO (aBB hr30)) dE0)))) dF0 ?_;refine At.c 2 ?_ ?_
        ·apply rt;exact At.jn 5
        ·apply rt;exact At.jn 0
       ·apply rt;exact At.jn 0
      ·apply rt;exact At.r 3
def eP(N:Nat)(b4:(List (List aD)))(a1:(List aA))(a2:aJ)(a3 a4:aA)(a5:Int)(a6:Bool)(a7:aF)(a8:aG)(a9:aI)(a10:aA)(a11:aE)(a12:aB)(a13:aK):Option (aA):=
 cond (!a6) (
  aa (sP 24 (([a3]:List aA)) a1) λz1=>
  aa (iA N z1) λr2=>
  aa (kC N ([a4,r2])) λr3=>
  some r3) (
  some a4)
theorem rK{N b4 a1 a2 a3 a4 a5 a6 a7 a8 a9 a10 a11 a12 a13 r}(h:eP N b4 a1 a2 a3 a4 a5 a6 a7 a8 a9 a10 a11 a12 a13=some r):FnM Tryz.prog 192 [.var (.st 26 [(aJ.enc a2),(.ref 1 [] 0),(.ref 2 [] 0),(aA.enc a3),(aA.enc a4),(j64 a5),(eB a6),(aF.enc a7)]),.var (.st 38 [(aG.enc a8),(aI.enc a9),(.ifc 178 (.ref 3 [] 0)),(eO 4 1 (eL 2 aD.enc) b4),(aA.enc a10),(aE.enc a11)]),.var (aB.enc a12),.var (aK.enc a13),.tail (b4.length*1)] [(.ref 0 [] 0),(eL 3 aA.enc a1)] (.tup []) [.var (.st 26 [(aJ.enc a2),(.ref 1 [] 0),(.ref 2 [] 0),(aA.enc a3),(aA.enc r),(j64 a5),(eB a6),(aF.enc a7)]),.var (.st 38 [(aG.enc a8),(aI.enc a9),(.ifc 178 (.ref 3 [] 0)),(eO 4 1 (eL 2 aD.enc) b4),(aA.enc a10),(aE.enc a11)]),.var (aB.enc a12),.var (aK.enc a13),.tail (b4.length*1)]:=by
 unfold eP at h;refine At.f dG hT hmo Tryz.func192 rfl h ?_;refine At.c 5 ?_ ?_
 ·refine bi λz1 hz1=>?_;refine bi λr2 hr2=>?_;refine bi λr3 hr3=>?_;refine At.d 0 (dE2 12 (aA.enc r2) (λ_=>aO (rO hr2)) (dE1 13 (λ_=>bS hT (x:=(.sl 3 2 [(aA.enc a4),(aA.enc r2)]))) (dE2 14 (aA.enc r3) (λ_=>aO (tM hr3)) dE0))) (dF 9 (eO 5 3 aA.enc (([a3]:List aA))) [] [.tail ((([a3]:List aA)).length*3)] (bG (aAW hT aA.enc (k:=3) ([a3]:List aA) (by kernel_rfl) (by kernel_rfl))) (dF 11 (eO 5 3 aA.enc z1) [(5,.tail (z1.length*3))] [] (bG (iW hT aA.enc (id:=5) (k:=3) hz1)) dF0)) ?_;apply rt;exact At.z 0
 ·apply rt;exact At.z 0
def eQ(N:Nat)(b4:(List (List aD)))(a1:Bool)(a2:aJ)(a3 a4:aA)(a5:Int)(a6:Bool)(a7:aF)(a8:aG)(a9:aI)(a10:aA)(a11:aE)(a12:aB)(a13:aK):Option (Unit):=
 some (())
theorem jA{N b4 a1 a2 a3 a4 a5 a6 a7 a8 a9 a10 a11 a12 a13 r}(h:eQ N b4 a1 a2 a3 a4 a5 a6 a7 a8 a9 a10 a11 a12 a13=some r):FnM Tryz.prog 193 [.var (.st 26 [(aJ.enc a2),(.ref 1 [] 0),(.ref 2 [] 0),(aA.enc a3),(aA.enc a4),(j64 a5),(eB a6),(aF.enc a7)]),.var (.st 38 [(aG.enc a8),(aI.enc a9),(.ifc 178 (.ref 3 [] 0)),(eO 4 1 (eL 2 aD.enc) b4),(aA.enc a10),(aE.enc a11)]),.var (aB.enc a12),.var (aK.enc a13),.tail (b4.length*1)] [(.ref 0 [] 0),(eB a1)] (.tup []) [.var (.st 26 [(aJ.enc a2),(.ref 1 [] 0),(.ref 2 [] 0),(aA.enc a3),(aA.enc a4),(j64 a5),(eB (cond a6 true a1)),(aF.enc a7)]),.var (.st 38 [(aG.enc a8),(aI.enc a9),(.ifc 178 (.ref 3 [] 0)),(eO 4 1 (eL 2 aD.enc) b4),(aA.enc a10),(aE.enc a11)]),.var (aB.enc a12),.var (aK.enc a13),.tail (b4.length*1)]:=by
 unfold eQ at h;refine At.f dG hT hmo Tryz.func193 rfl h ?_;apply rt;exact At.z 11
def jG(N:Nat)(a0 a1 a2:Int)(a3:(Vector Int 2)):Option (Int):=
 aa (idx a3.toList 0) λe1=>
 aa (jO N a1 (I64 e1) 4294967296) λr2=>
 aa (idx a3.toList 1) λe3=>
 aa (jO N a2 (I64 e3) 4294967296) λr4=>
 aU (I64 ((I64 (a0+r2))+r4)) λx5=>
 some x5
theorem sZ{N a0 a1 a2 a3 r}(h:jG N a0 a1 a2 a3=some r):FnM Tryz.prog 336 [] [(j64 a0),(j64 a1),(j64 a2),(.im (eA 2 1 k32 a3))] (j64 r) []:=by
 unfold jG at h;refine At.f dG hT hmo Tryz.func336 rfl h ?_;refine bi λe1 he1=>?_;refine bi λr2 hr2=>?_;refine bi λe3 he3=>?_;refine bi λr4 hr4=>?_;refine lx ?_;intro x5;refine At.d 1 (dE1 2 (λ_=>eM hT (N:=2) (k:=1) k32 a3 he1) (dE2 5 (j64 r2) (λ_=>aO (tS hr2)) (dE1 8 (λ_=>eM hT (N:=2) (k:=1) k32 a3 he3) (dE2 11 (j64 r4) (λ_=>aO (tS hr4)) dE0)))) dF0 ?_;apply rt;exact At.r 0
def aKO : Nat->Bool:=imL [2,3]
def wK(N:Nat)(a0:aQ)(a1:(Vector Int 2)):Option (aC):=
 cond (a0.gJ != 1) (
  some a0.gAt) (
  aa (jG N a0.gAt.gX a0.gU.gX a0.gV.gX a1) λr1=>
  aa (jG N a0.gAt.gY a0.gU.gY a0.gV.gY a1) λr2=>
  aa (jG N a0.gAt.gZ a0.gU.gZ a0.gV.gZ a1) λr3=>
  some (aC.mk r1 r2 r3))
theorem aIX{N a0 a1 r}(h:wK N a0 a1=some r):FnM Tryz.prog 320 [] [(aQ.enc a0),(eA 2 1 k32 a1)] (aC.enc r) []:=by
 unfold wK at h;refine At.f aKO hT hmo Tryz.func320 rfl h ?_;refine At.c 6 ?_ ?_
 ·apply rt;exact At.r 3
 ·refine At.o 0 (rR (x:=(.fn (.func 336) [] [(.im (eA 2 1 k32 a1))])) (by kernel_rfl) (by kernel_rfl)) ?_;refine bi λr1 hr1=>?_;refine bi λr2 hr2=>?_;refine bi λr3 hr3=>?_;refine At.d 1 (dE2 10 (j64 r1) (λ_=>aO (sZ hr1)) (dE2 21 (j64 r2) (λ_=>aO (sZ hr2)) (dE2 32 (j64 r3) (λ_=>aO (sZ hr3)) dE0))) dF0 ?_;apply rt;exact At.r 0
def uW(N:Nat)(a0:Int):Option (Int):=
 aU (shr .u32 (U32 (a0*32769)) 16) λx1=>
 some x1
theorem aCg{N a0 r}(h:uW N a0=some r):FnM Tryz.prog 322 [] [(k32 a0)] (k32 r) []:=by
 unfold uW at h;refine At.f dG hT hmo Tryz.func322 rfl h ?_;refine lx ?_;intro x1;apply rt;exact At.r 5
def oY(N:Nat)(a0:Int):Option (Int):=
 aU (I64 ((fN (I64 a0) 32768) - 16384)) λx1=>
 some x1
theorem aBU{N a0 r}(h:oY N a0=some r):FnM Tryz.prog 337 [] [(k32 a0)] (j64 r) []:=by
 unfold oY at h;refine At.f dG hT hmo Tryz.func337 rfl h ?_;refine lx ?_;intro x1;apply rt;exact At.r 6
def mD(N:Nat)(a0:Int):Option (Int):=
 cond (decide (a0 < 0)) (some (I64 (0 - a0))) (some a0)
theorem vF{N a0 r}(h:mD N a0=some r):FnM Tryz.prog 338 [] [(j64 a0)] (j64 r) []:=by
 unfold mD at h;refine At.f dG hT hmo Tryz.func338 rfl h ?_;refine At.c 3 ?_ ?_
 ·apply rt;exact At.r 3
 ·apply rt;exact At.r 2
def rX(N:Nat)(a0 a1:Int):Option (Int):=
 cond (decide (a1 < 0)) (some (I64 (0 - a0))) (some a0)
theorem aC1{N a0 a1 r}(h:rX N a0 a1=some r):FnM Tryz.prog 345 [] [(j64 a0),(j64 a1)] (j64 r) []:=by
 unfold rX at h;refine At.f dG hT hmo Tryz.func345 rfl h ?_;refine At.c 3 ?_ ?_
 ·apply rt;exact At.r 3
 ·apply rt;exact At.r 2
def yL(N:Nat)(a0 a1:Int):Option (Int×Int):=
 aa (mD N a1) λr1=>
 aa (rX N (I64 (16384 - r1)) a0) λr2=>
 aa (mD N a0) λr3=>
 aa (rX N (I64 (16384 - r3)) a1) λr4=>
 some ((r2,r4))
theorem aKi{N a0 a1 r}(h:yL N a0 a1=some r):FnM Tryz.prog 339 [] [(j64 a0),(j64 a1)] (.tup [(j64 r.1),(j64 r.2)]) []:=by
 unfold yL at h;refine At.f dG hT hmo Tryz.func339 rfl h ?_;refine At.b 5 (λ_ e=>aM [] (vF e)) λr1=>?_;refine At.b 2 (λ_ e=>aM [] (aC1 e)) λr2=>?_;refine At.b 2 (λ_ e=>aM [] (vF e)) λr3=>?_;refine At.b 2 (λ_ e=>aM [] (aC1 e)) λr4=>?_;apply rt;exact At.r 2
def uX(N:Nat)(a0:Int):Option (aC):=
 aa (oY N (shr .u32 a0 16)) λr1=>
 aa (oY N (fI .u32 a0 65535)) λr2=>
 aa (mD N r1) λr3=>
 aa (mD N r2) λr4=>
 aU (I64 ((I64 (16384 - r3)) - r4)) λx5=>
 aa (cond (decide (x5 < 0)) (
  aa (yL N r1 r2) λr7=>
  some ((r7.1,r7.2))) (
  some ((r1,r2)))) λp6=>
 some (aC.mk p6.1 p6.2 x5)
theorem aHx{N a0 r}(h:uX N a0=some r):FnM Tryz.prog 323 [] [(k32 a0)] (aC.enc r) []:=by
 unfold uX at h;refine At.f dG hT hmo Tryz.func323 rfl h ?_;refine At.b 5 (λ_ e=>aM [] (aBU e)) λr1=>?_;refine At.b 3 (λ_ e=>aM [] (aBU e)) λr2=>?_;refine At.b 3 (λ_ e=>aM [] (vF e)) λr3=>?_;refine At.b 2 (λ_ e=>aM [] (vF e)) λr4=>?_;refine lx ?_;intro x5;refine At.J 2 1 [2,6] 1 (λp6=>([(4,(j64 p6.1)),(5,(j64 p6.2))],[],[])) (λp6=>?_) λp6=>?_
 ·refine At.c 2 ?_ ?_
  ·refine At.b 2 (λ_ e=>aM [] (aKi e)) λr7=>?_;apply rt;exact At.jn 5
  ·apply rt;exact At.jn 0
 ·apply rt;exact At.r 5
def tL(N:Nat)(a0:Int):Option (aC):=
 aa (uW N (shr .u32 a0 16)) λr1=>
 aa (uW N (fI .u32 a0 65535)) λr2=>
 aU (bor .u32 (shl .u32 r1 16) r2) λx3=>
 aa (uX N x3) λr4=>
 some r4
theorem aBu{N a0 r}(h:tL N a0=some r):FnM Tryz.prog 264 [] [(k32 a0)] (aC.enc r) []:=by
 unfold tL at h;refine At.f dG hT hmo Tryz.func264 rfl h ?_;refine At.b 5 (λ_ e=>aM [] (aCg e)) λr1=>?_;refine At.b 4 (λ_ e=>aM [] (aCg e)) λr2=>?_;refine lx ?_;intro x3;refine At.b 1 (λ_ e=>aM [] (aHx e)) λr4=>?_;apply rt;exact At.r 1
def aFL : Nat->Bool:=imL [3,4,5]
def qH(N:Nat)(a0:vR)(a1:aC)(a2:aA):Option (aC×Int):=
 aa (fT N a0.gE1) λr1=>
 aa (sA N a2 r1) λr2=>
 cond (decide (r2 < 0)) (
  aa (uL N r2) λr3=>
  aa (uL N r2) λr4=>
  aa (kF N ([r3,r4])) λr5=>
  some ((aC.mk (I64 (0 - a0.gE1.gX)) (I64 (0 - a0.gE1.gY)) (I64 (0 - a0.gE1.gZ)),r5))) (
  aa (kF N ([r2,r2])) λr6=>
  some ((a0.gE1,r6)))
theorem aEy{N a0 a1 a2 r}(h:qH N a0 a1 a2=some r):FnM Tryz.prog 384 [] [(vR.enc a0),(aC.enc a1),(aA.enc a2)] (.tup [(aC.enc r.1),(j64 r.2)]) []:=by
 unfold qH at h;refine At.f aFL hT hmo Tryz.func384 rfl h ?_;refine bi λr1 hr1=>?_;refine bi λr2 hr2=>?_;refine At.d 5 (dE2 3 (aA.enc r1) (λ_=>aO (mB hr1)) (dE2 4 (j64 r2) (λ_=>aO (xP hr2)) dE0)) dF0 ?_;refine At.c 2 ?_ ?_
 ·refine bi λr3 hr3=>?_;refine bi λr4 hr4=>?_;refine bi λr5 hr5=>?_;refine At.d 0 (dE2 14 (j64 r3) (λ_=>aO (aBz hr3)) (dE2 16 (j64 r4) (λ_=>aO (aBz hr4)) (dE1 17 (λ_=>bS hT (x:=(.sl 1 2 [(j64 r3),(j64 r4)]))) (dE2 18 (j64 r5) (λ_=>aO (pR hr5)) dE0)))) dF0 ?_;apply rt;exact At.r 0
 ·refine bi λr6 hr6=>?_;refine At.d 0 (dE1 4 (λ_=>bS hT (x:=(.sl 1 2 [(j64 r2),(j64 r2)]))) (dE2 5 (j64 r6) (λ_=>aO (pR hr6)) dE0)) dF0 ?_;apply rt;exact At.r 0
def aEq : Nat->Bool:=imL [3,4,5]
def oZ(N:Nat)(a0:vV)(a1:aC)(a2:aA):Option (aC×Int):=
 aa (lO N a0.gF0 a1) λr1=>
 aa (fT N r1) λr2=>
 aa (sA N a2 r2) λr3=>
 aU (aC.eq r1 (aC.mk 0 0 0)) λx4=>
 aU (cond x4 true (decide (r3<=0))) λx5=>
 cond x5 (
  some ((aC.mk 0 0 0,0))) (
  aa (rW N r1 r1) λr6=>
  aa (jO N r3 1048576 r6) λr7=>
  some ((r1,r7)))
theorem aDo{N a0 a1 a2 r}(h:oZ N a0 a1 a2=some r):FnM Tryz.prog 383 [] [(vV.enc a0),(aC.enc a1),(aA.enc a2)] (.tup [(aC.enc r.1),(j64 r.2)]) []:=by
 unfold oZ at h;refine At.f aEq hT hmo Tryz.func383 rfl h ?_;refine At.b 8 (λ_ e=>aM [] (tT e)) λr1=>?_;refine bi λr2 hr2=>?_;refine bi λr3 hr3=>?_;refine At.d 1 (dE2 2 (aA.enc r2) (λ_=>aO (mB hr2)) (dE2 3 (j64 r3) (λ_=>aO (xP hr3)) dE0)) dF0 ?_;refine At.o 2 (yG aB8 (r1:aC) (aC.mk 0 0 0:aC) (by kernel_rfl) (by kernel_rfl) (λ_=>rfl) (λ_=>rfl) (by kernel_rfl) (by kernel_rfl)) ?_;refine lx ?_;intro x4;refine lx ?_;intro x5;refine At.c 4 ?_ ?_
 ·apply rt;exact At.r 3
 ·refine bi λr6 hr6=>?_;refine bi λr7 hr7=>?_;refine At.d 0 (dE2 4 (j64 r6) (λ_=>aO (aAZ hr6)) (dE2 5 (j64 r7) (λ_=>aO (tS hr7)) dE0)) dF0 ?_;apply rt;exact At.r 0
def aIN : Nat->Bool:=imL [4,5,6,7]
def nW(N:Nat)(a0:aQ)(a1:aC)(a2:aA)(a3:(Vector Int 2)):Option (jH):=
 aa (aa (pU N a0) λr2=>
 cond (r2 != 0) (
  some true) (
  aa (qU N a1 (aC.mk 1 0 0)) λr3=>
  some (!r3))) λp1=>
 cond p1 (
  some (jH.mk (aC.mk 0 0 0) false true (aA.mk 0 0 0))) (
  aa (wK N a0 a3) λr4=>
  cond (a0.gJ==2) (
   aa (idx a3.toList 0) λe5=>
   aa (tL N e5) λr6=>
   aa (qH N (vR.mk r6) a1 a2) λr7=>
   cond (r7.2==0) (
    some (jH.mk (aC.mk 0 0 0) false true (aA.mk 0 0 0))) (
    aa (pS N a0) λr8=>
    aa (fP N r8 r7.2) λr9=>
    some (jH.mk r7.1 true false r9))) (
   aa (oZ N (vV.mk r4) a1 a2) λr10=>
   cond (aC.eq r10.1 (aC.mk 0 0 0)) (
    some (jH.mk (aC.mk 0 0 0) false true (aA.mk 0 0 0))) (
    aa (pS N a0) λr11=>
    aa (fP N r11 r10.2) λr12=>
    some (jH.mk r10.1 false false r12))))
theorem aCw{N a0 a1 a2 a3 r}(h:nW N a0 a1 a2 a3=some r):FnM Tryz.prog 261 [] [(aQ.enc a0),(aC.enc a1),(aA.enc a2),(eA 2 1 k32 a3)] (jH.enc r) []:=by
 unfold nW at h;refine At.f aIN hT hmo Tryz.func261 rfl h ?_;refine At.J 8 0 [4,5,6,7,8,9] 2 (λp1=>([(24,(eB p1))],[],[])) (λp1=>?_) λp1=>?_
 ·refine At.b 1 (λ_ e=>aM [] (aCn e)) λr2=>?_;refine At.s 19 2 ?_ ?_
  ·refine At.g [19] 5 ?_;apply rt;exact At.jn 0
  ·refine At.g [19] 2 ?_;refine At.b 0 (λ_ e=>aM [] (aAY e)) λr3=>?_;refine At.g [19] 2 ?_;apply rt;exact At.jn 0
 ·refine At.c 0 ?_ ?_
  ·apply rt;exact At.r 2
  ·refine At.b 2 (λ_ e=>aM [] (aIX e)) λr4=>?_;refine At.o 1 (aDE hT (t:=406) (x:=(.st 3 [(aC.enc r4)])) (by kernel_rfl) (by kernel_rfl)) ?_;refine At.c 4 ?_ ?_
   ·refine At.b 0 (λ_ e=>eM hT (N:=2) (k:=1) k32 a3 e) λe5=>?_;refine At.b 1 (λ_ e=>aM [] (aBu e)) λr6=>?_;refine At.o 1 (aDE hT (t:=410) (x:=(.st 3 [(aC.enc r6)])) (by kernel_rfl) (by kernel_rfl)) ?_;refine At.b 4 (λ_ e=>aM [] (aEy e)) λr7=>?_;refine At.o 7 (aNm hT (t:=410) (u:=410) (x:=(.st 3 [(aC.enc r6)])) (y:=(.tup [(.st 3 [(aC.enc r6)]),(eB true)])) (by kernel_rfl) (by kernel_rfl)) ?_;refine At.c 10 ?_ ?_
    ·apply rt;exact At.r 2
    ·refine bi λr8 hr8=>?_;refine bi λr9 hr9=>?_;refine At.d 0 (dE2 2 (aA.enc r8) (λ_=>aO (aAg hr8)) (dE2 4 (aA.enc r9) (λ_=>aO (jS hr9)) dE0)) dF0 ?_;apply rt;exact At.r 0
   ·refine At.b 3 (λ_ e=>aM [] (aDo e)) λr10=>?_;refine At.o 7 (aNm hT (t:=406) (u:=410) (x:=(.st 3 [(aC.enc r4)])) (y:=(.tup [(.st 3 [(.st 3 [(j64 0),(j64 0),(j64 0)])]),(eB false)])) (by kernel_rfl) (by kernel_rfl)) ?_;refine At.o 10 (yG aB8 (r10.1:aC) (aC.mk 0 0 0:aC) (by kernel_rfl) (by kernel_rfl) (λ_=>rfl) (λ_=>rfl) (by kernel_rfl) (by kernel_rfl)) ?_;refine At.c 0 ?_ ?_
    ·apply rt;exact At.r 2
    ·refine bi λr11 hr11=>?_;refine bi λr12 hr12=>?_;refine At.d 0 (dE2 2 (aA.enc r11) (λ_=>aO (aAg hr11)) (dE2 4 (aA.enc r12) (λ_=>aO (jS hr12)) dE0)) dF0 ?_;apply rt;exact At.r 0
def aBI : Nat->Bool:=imL [7,8]
def bZ(N:Nat)(a5:aK)(a0 a1:aC)(a2 a3:Int)(a4:Bool):Nat->aK->Bool->Int->Option (aK×Bool)
 | 0,_,_,_=>none
 | k+1,s3,s4,s5=>
  aU (decide (s5 < ((a5.gl.length:Int)))) λx6=>
  cond x6 (
   aa (dD N a0 a1 a2 a3 s5 s3) λr7=>
   cond r7.2 (
    aU (decide (r7.1.gA3 < r7.1.gO)) λx8=>
    aU (cond (cond (!a4) true x8) true s4) λx9=>
    bZ N a5 a0 a1 a2 a3 a4 k (aK.mk (kG.mk (I64 (s3.gD9.gn+1))) s3.gA s3.gl) x9 (I64 (s5+1))) (
    bZ N a5 a0 a1 a2 a3 a4 k (aK.mk (kG.mk (I64 (s3.gD9.gn+1))) s3.gA s3.gl) s4 (I64 (s5+1)))) (
   some ((s3,s4)))
def cH(N:Nat)(a0 a1:aC)(a2 a3:Int)(a4:Bool)(a5:aK):Option (aK×Bool):=
 aa (eZ N a5) λr1=>
 cond r1 (
  some ((a5,false))) (
  aa (bZ N a5 a0 a1 a2 a3 a4 N a5 false 0) λp2=>
  some ((p2.1,p2.2)))
theorem lG{N a0 a1 a2 a3 a4 a5 r}(h:cH N a0 a1 a2 a3 a4 a5=some r):FnM Tryz.prog 364 [.var (aK.enc a5)] [(.ref 0 [] 0),(aC.enc a0),(aC.enc a1),(k8 a2),(j64 a3),(eB a4)] (eB r.2) [.var (aK.enc r.1)]:=by
 unfold cH at h;refine At.f aBI hT hmo Tryz.func364 rfl h ?_;refine At.b 4 (λ_ e=>aM [0] (sK e)) λr1=>?_;refine At.c 0 ?_ ?_
 ·apply rt;exact At.r 1
 ·refine At.L 7 [] 1 (λp2=>([(13,(eB p2.2))],[(0,.var (aK.enc p2.1))],[])) (λp2 J k=>∃s3 s4 s5,bZ N a5 a0 a1 a2 a3 a4 k s3 s4 s5=some p2/\J [0,3,4,5,7,8,23] 1 [(13,(eB s4)),(24,(j64 s5))] [(0,.var (aK.enc s3))] []) N (λ_ h=>⟨_,_,_,h,jr⟩) (λp2 k s hI=>?_) λp2=>?_
  ·obtain⟨s3,s4,s5,h,hj⟩:=hI;cases k with
   | zero=>cases h
   | succ k=>
    refine At.jr hj ?_ h;refine lx ?_;intro x6;refine At.c 1 ?_ ?_
    ·refine At.b 8 (λ_ e=>aM [0] (sO e)) λr7=>?_;refine At.s 38 8 ?_ ?_
     ·refine lx ?_;intro x8;refine lx ?_;intro x9;refine At.g [38] 16 ?_;exact λh=>At.k 0 ⟨_,_,_,h,jr⟩
     ·refine At.g [38,41,49] 16 ?_;exact λh=>At.k 0 ⟨_,_,_,h,jr⟩
    ·apply rt;exact At.x 0
  ·apply rt;exact At.r 2
def aCN : Nat->Bool:=imL [3]
def dC(N:Nat)(x1:Int)(a8:aG)(b4:(List (List aD)))(a2:aJ)(a3:aA)(a5:Int)(a6:Bool)(a7:aF)(a9:aI)(a10:aA)(a11:aE)(a1:aT):Nat->aA->aB->aK->Int->Option (aA×aB×aK)
 | 0,_,_,_,_=>none
 | k+1,s3,s4,s5,s6=>
  cond (decide (s6 < x1)) (
   aa (aa (idx a8.gF s6) λe8=>
   aU (I64 (8+(I64 (2*s6)))) λx9=>
   aa (cM N b4 x9 a2 a3 s3 a5 a6 a7 a8 a9 a10 a11 s4 s5) λr10=>
   aU (I64 (9+(I64 (2*s6)))) λx11=>
   aa (cM N b4 x11 a2 a3 s3 a5 a6 a7 a8 a9 a10 a11 (aB.mk r10.1 s4.gA s4.gC s4.gB s4.gD) s5) λr12=>
   aa (nW N e8 a1.gat a1.gn (#v[r10.2,r12.2])) λr13=>
   aU (cond r13.gC3 (!a9.gT) false) λx14=>
   cond x14 (
    some ((s3,aB.mk r12.1 ((aB.mk r10.1 s4.gA s4.gC s4.gB s4.gD).gA) ((aB.mk r10.1 s4.gA s4.gC s4.gB s4.gD).gC) ((aB.mk r10.1 s4.gA s4.gC s4.gB s4.gD).gB) ((aB.mk r10.1 s4.gA s4.gC s4.gB s4.gD).gD),s5,e8,r13))) (
    aa (aa (cH N a1.gat r13.gC7 2 a1.gi (!r13.gC8) s5) λr16=>
    cond (!r16.2) (
     cond (!r13.gC3) (
      some ((r16.1,a1.gG.gJ==0))) (
      some ((r16.1,false)))) (
     some ((r16.1,false)))) λp15=>
    cond p15.2 (
     aa (eP N b4 ([a1.gc,r13.gC4]) a2 a3 s3 a5 a6 a7 a8 a9 a10 a11 (aB.mk r12.1 ((aB.mk r10.1 s4.gA s4.gC s4.gB s4.gD).gA) ((aB.mk r10.1 s4.gA s4.gC s4.gB s4.gD).gC) ((aB.mk r10.1 s4.gA s4.gC s4.gB s4.gD).gB) ((aB.mk r10.1 s4.gA s4.gC s4.gB s4.gD).gD)) p15.1) λr17=>
     some ((r17,aB.mk r12.1 ((aB.mk r10.1 s4.gA s4.gC s4.gB s4.gD).gA) ((aB.mk r10.1 s4.gA s4.gC s4.gB s4.gD).gC) ((aB.mk r10.1 s4.gA s4.gC s4.gB s4.gD).gB) ((aB.mk r10.1 s4.gA s4.gC s4.gB s4.gD).gD),p15.1,e8,r13))) (
     some ((s3,aB.mk r12.1 ((aB.mk r10.1 s4.gA s4.gC s4.gB s4.gD).gA) ((aB.mk r10.1 s4.gA s4.gC s4.gB s4.gD).gC) ((aB.mk r10.1 s4.gA s4.gC s4.gB s4.gD).gB) ((aB.mk r10.1 s4.gA s4.gC s4.gB s4.gD).gD),p15.1,e8,r13))))) λp7=>
   dC N x1 a8 b4 a2 a3 a5 a6 a7 a9 a10 a11 a1 k p7.1 p7.2.1 p7.2.2.1 (I64 (s6+1))) (
   some ((s3,s4,s5)))
def cZ(N:Nat)(r18:Int×Int)(x19:Int)(a1:aT):Nat->aK->Int->Option (aK)
 | 0,_,_=>none
 | k+1,s21,s22=>
  aU (decide (s22 < (I64 (r18.2 - x19)))) λx23=>
  cond x23 (
   aa (cH N a1.gat (aC.mk 0 0 0) 2 a1.gi false s21) λr24=>
   cZ N r18 x19 a1 k r24.1 (I64 (s22+1))) (
   some s21)
def fL(N:Nat)(b4:(List (List aD)))(a1:aT)(a2:aJ)(a3 a4:aA)(a5:Int)(a6:Bool)(a7:aF)(a8:aG)(a9:aI)(a10:aA)(a11:aE)(a12:aB)(a13:aK):Option (aA×aB×aK):=
 aU ((a8.gF.length:Int)) λx1=>
 aa (dC N x1 a8 b4 a2 a3 a5 a6 a7 a9 a10 a11 a1 N a4 a12 a13 0) λp2=>
 cond (!a9.gT) (
  some ((p2.1,p2.2.1,p2.2.2))) (
  aa (iV N a9.gL) λr18=>
  aU ((a8.gF.length:Int)) λx19=>
  aa (cZ N r18 x19 a1 N p2.2.2 0) λp20=>
  some ((p2.1,p2.2.1,p20)))
theorem aA9{N b4 a1 a2 a3 a4 a5 a6 a7 a8 a9 a10 a11 a12 a13 r}(h:fL N b4 a1 a2 a3 a4 a5 a6 a7 a8 a9 a10 a11 a12 a13=some r):FnM Tryz.prog 194 [.var (.st 26 [(aJ.enc a2),(.ref 1 [] 0),(.ref 2 [] 0),(aA.enc a3),(aA.enc a4),(j64 a5),(eB a6),(aF.enc a7)]),.var (.st 38 [(aG.enc a8),(aI.enc a9),(.ifc 178 (.ref 3 [] 0)),(eO 4 1 (eL 2 aD.enc) b4),(aA.enc a10),(aE.enc a11)]),.var (aB.enc a12),.var (aK.enc a13),.tail (b4.length*1)] [(.ref 0 [] 0),(aT.enc a1)] (.tup []) [.var (.st 26 [(aJ.enc a2),(.ref 1 [] 0),(.ref 2 [] 0),(aA.enc a3),(aA.enc r.1),(j64 a5),(eB a6),(aF.enc a7)]),.var (.st 38 [(aG.enc a8),(aI.enc a9),(.ifc 178 (.ref 3 [] 0)),(eO 4 1 (eL 2 aD.enc) b4),(aA.enc a10),(aE.enc a11)]),.var (aB.enc r.2.1),.var (aK.enc r.2.2),.tail (b4.length*1)]:=by
 unfold fL at h;refine At.f aCN hT hmo Tryz.func194 rfl h ?_;refine lx ?_;intro x1;refine At.L 11 [0,3] 5 (λp2=>([],[(0,.var (.st 26 [(aJ.enc a2),(.ref 1 [] 0),(.ref 2 [] 0),(aA.enc a3),(aA.enc p2.1),(j64 a5),(eB a6),(aF.enc a7)])),(2,.var (aB.enc p2.2.1)),(3,.var (aK.enc p2.2.2))],[])) (λp2 J k=>∃s3 s4 s5 s6,dC N x1 a8 b4 a2 a3 a5 a6 a7 a9 a10 a11 a1 k s3 s4 s5 s6=some p2/\J [0,3,16,17] 5 [(18,(j64 s6))] [(0,.var (.st 26 [(aJ.enc a2),(.ref 1 [] 0),(.ref 2 [] 0),(aA.enc a3),(aA.enc s3),(j64 a5),(eB a6),(aF.enc a7)])),(2,.var (aB.enc s4)),(3,.var (aK.enc s5))] []) N (λ_ h=>⟨_,_,_,_,h,jr⟩) (λp2 k s hI=>?_) λp2=>?_
 ·obtain⟨s3,s4,s5,s6,h,hj⟩:=hI;cases k with
  | zero=>cases h
  | succ k=>
   refine At.jr hj ?_ h;refine At.c 1 ?_ ?_
   ·refine At.J 0 2 [0,3,16,17,18] 5 (λp7=>([],[(0,.var (.st 26 [(aJ.enc a2),(.ref 1 [] 0),(.ref 2 [] 0),(aA.enc a3),(aA.enc p7.1),(j64 a5),(eB a6),(aF.enc a7)])),(2,.var (aB.enc p7.2.1)),(3,.var (aK.enc p7.2.2.1))],[.var (aQ.enc p7.2.2.2.1),.var (jH.enc p7.2.2.2.2)])) (λp7=>?_) λp7=>?_
    ·refine At.b 1 (λ_ e=>bT hT aQ.enc e) λe8=>?_;refine lx ?_;intro x9;refine bi λr10 hr10=>?_;refine lx ?_;intro x11;refine bi λr12 hr12=>?_;refine bi λr13 hr13=>?_;refine At.d2 4 [false] (dC2 16 (jH.enc r13) (λ_=>aO (aCw hr13)) dC0) (dS1 9 ⟨(k32 r10.2),2,.var (.st 72 [(aV.enc r10.1),(eB s4.gA),(k64 s4.gC),(j64 s4.gB),(j64 s4.gD)]),.var (aB.enc s4)⟩ [[.var (.st 26 [(aJ.enc a2),(.ref 1 [] 0),(.ref 2 [] 0),(aA.enc a3),(aA.enc s3),(j64 a5),(eB a6),(aF.enc a7)]),.var (.st 38 [(aG.enc a8),(aI.enc a9),(.ifc 178 (.ref 3 [] 0)),(eO 4 1 (eL 2 aD.enc) b4),(aA.enc a10),(aE.enc a11)]),.var (aB.enc s4),.var (aK.enc s5),.tail (b4.length*1),.var (aQ.enc e8),.dead],[.var (.st 26 [(aJ.enc a2),(.ref 1 [] 0),(.ref 2 [] 0),(aA.enc a3),(aA.enc s3),(j64 a5),(eB a6),(aF.enc a7)]),.var (.st 38 [(aG.enc a8),(aI.enc a9),(.ifc 178 (.ref 3 [] 0)),(eO 4 1 (eL 2 aD.enc) b4),(aA.enc a10),(aE.enc a11)]),.var (aB.enc s4),.var (aK.enc s5),.tail (b4.length*1),.var (aQ.enc e8),.var aO6]] ⟨bG (aM [0,1,2,3,4] (cP hr10)),bG (aM [0,1,2,3,4] (cP hr10)),trivial⟩ (dS1 14 ⟨(k32 r12.2),2,.var (.st 72 [(aV.enc r12.1),(eB ((aB.mk r10.1 s4.gA s4.gC s4.gB s4.gD).gA)),(k64 ((aB.mk r10.1 s4.gA s4.gC s4.gB s4.gD).gC)),(j64 ((aB.mk r10.1 s4.gA s4.gC s4.gB s4.gD).gB)),(j64 ((aB.mk r10.1 s4.gA s4.gC s4.gB s4.gD).gD))]),.var (.st 72 [(aV.enc r10.1),(eB s4.gA),(k64 s4.gC),(j64 s4.gB),(j64 s4.gD)])⟩ [[.var (.st 26 [(aJ.enc a2),(.ref 1 [] 0),(.ref 2 [] 0),(aA.enc a3),(aA.enc s3),(j64 a5),(eB a6),(aF.enc a7)]),.var (.st 38 [(aG.enc a8),(aI.enc a9),(.ifc 178 (.ref 3 [] 0)),(eO 4 1 (eL 2 aD.enc) b4),(aA.enc a10),(aE.enc a11)]),.var (.st 72 [(aV.enc r10.1),(eB s4.gA),(k64 s4.gC),(j64 s4.gB),(j64 s4.gD)]),.var (aK.enc s5),.tail (b4.length*1),.var (aQ.enc e8),.dead],[.var (.st 26 [(aJ.enc a2),(.ref 1 [] 0),(.ref 2 [] 0),(aA.enc a3),(aA.enc s3),(j64 a5),(eB a6),(aF.enc a7)]),.var (.st 38 [(aG.enc a8),(aI.enc a9),(.ifc 178 (.ref 3 [] 0)),(eO 4 1 (eL 2 aD.enc) b4),(aA.enc a10),(aE.enc a11)]),.var (.st 72 [(aV.enc r10.1),(eB s4.gA),(k64 s4.gC),(j64 s4.gB),(j64 s4.gD)]),.var (aK.enc s5),.tail (b4.length*1),.var (aQ.enc e8),.var aO6]] ⟨bG (aM [0,1,2,3,4] (cP hr12)),bG (aM [0,1,2,3,4] (cP hr12)),trivial⟩ (dS1 17 ⟨(.ref 6 [] 0),6,.var aO6,.dead⟩ [[.var (.st 26 [(aJ.enc a2),(.ref 1 [] 0),(.ref 2 [] 0),(aA.enc a3),(aA.enc s3),(j64 a5),(eB a6),(aF.enc a7)]),.var (.st 38 [(aG.enc a8),(aI.enc a9),(.ifc 178 (.ref 3 [] 0)),(eO 4 1 (eL 2 aD.enc) b4),(aA.enc a10),(aE.enc a11)]),.var (aB.enc s4),.var (aK.enc s5),.tail (b4.length*1),.var (aQ.enc e8),.dead],[.var (.st 26 [(aJ.enc a2),(.ref 1 [] 0),(.ref 2 [] 0),(aA.enc a3),(aA.enc s3),(j64 a5),(eB a6),(aF.enc a7)]),.var (.st 38 [(aG.enc a8),(aI.enc a9),(.ifc 178 (.ref 3 [] 0)),(eO 4 1 (eL 2 aD.enc) b4),(aA.enc a10),(aE.enc a11)]),.var (.st 72 [(aV.enc r12.1),(eB ((aB.mk r10.1 s4.gA s4.gC s4.gB s4.gD).gA)),(k64 ((aB.mk r10.1 s4.gA s4.gC s4.gB s4.gD).gC)),(j64 ((aB.mk r10.1 s4.gA s4.gC s4.gB s4.gD).gB)),(j64 ((aB.mk r10.1 s4.gA s4.gC s4.gB s4.gD).gD))]),.var (aK.enc s5),.tail (b4.length*1),.var (aQ.enc e8),.dead],[.var (.st 26 [(aJ.enc a2),(.ref 1 [] 0),(.ref 2 [] 0),(aA.enc a3),(aA.enc s3),(j64 a5),(eB a6),(aF.enc a7)]),.var (.st 38 [(aG.enc a8),(aI.enc a9),(.ifc 178 (.ref 3 [] 0)),(eO 4 1 (eL 2 aD.enc) b4),(aA.enc a10),(aE.enc a11)]),.var (.st 72 [(aV.enc r10.1),(eB s4.gA),(k64 s4.gC),(j64 s4.gB),(j64 s4.gD)]),.var (aK.enc s5),.tail (b4.length*1),.var (aQ.enc e8),.dead],[.var (.st 26 [(aJ.enc a2),(.ref 1 [] 0),(.ref 2 [] 0),(aA.enc a3),(aA.enc s3),(j64 a5),(eB a6),(aF.enc a7)]),.var (.st 38 [(aG.enc a8),(aI.enc a9),(.ifc 178 (.ref 3 [] 0)),(eO 4 1 (eL 2 aD.enc) b4),(aA.enc a10),(aE.enc a11)]),.var (.st 72 [(aV.enc r12.1),(eB ((aB.mk r10.1 s4.gA s4.gC s4.gB s4.gD).gA)),(k64 ((aB.mk r10.1 s4.gA s4.gC s4.gB s4.gD).gC)),(j64 ((aB.mk r10.1 s4.gA s4.gC s4.gB s4.gD).gB)),(j64 ((aB.mk r10.1 s4.gA s4.gC s4.gB s4.gD).gD))]),.var (aK.enc s5),.tail (b4.length*1),.var (aQ.enc e8),.dead]] ⟨aW hT 6 (by kernel_rfl) (by kernel_rfl) (by kernel_rfl),aW hT 6 (by kernel_rfl) (by kernel_rfl) (by kernel_rfl),aW hT 6 (by kernel_rfl) (by kernel_rfl) (by kernel_rfl),aW hT 6 (by kernel_rfl) (by kernel_rfl) (by kernel_rfl),trivial⟩ dS0))) ?_;refine lx ?_;intro x14;refine At.c 13 ?_ ?_
     ·apply rt;exact At.jn 0
     ·refine At.J 0 0 [0,3,6,16,17,18] 7 (λp15=>([(81,(eB p15.2))],[(3,.var (aK.enc p15.1))],[])) (λp15=>?_) λp15=>?_
      ·refine bi λr16 hr16=>?_;refine boI (λhc18=>?_) (λhc18=>?_)
       ·refine boI (λhc23=>?_) (λhc23=>?_)
        ·refine At.d 0 (dE1 18 (λ_=>cO hc18 rfl (cF hT (im:=false) (by kernel_rfl))) (dE1 23 (λ_=>cO hc23 rfl (cF hT (im:=false) (by kernel_rfl))) dE0)) (dF 16 (eB r16.2) [(3,.var (aK.enc r16.1))] [] (bG (aM [3] (lG hr16))) dF0) ?_;apply rt;exact At.jn 0
        ·refine At.d 0 (dE1 18 (λ_=>cO hc18 rfl (cF hT (im:=false) (by kernel_rfl))) (dE1 23 (λ_=>cO hc23 rfl (cF hT (im:=false) (by kernel_rfl))) dE0)) (dF 16 (eB r16.2) [(3,.var (aK.enc r16.1))] [] (bG (aM [3] (lG hr16))) dF0) ?_;apply rt;exact At.jn 0
       ·refine At.d 0 (dE1 18 (λ_=>cO hc18 rfl (cF hT (im:=false) (by kernel_rfl))) dE0) (dF 16 (eB r16.2) [(3,.var (aK.enc r16.1))] [] (bG (aM [3] (lG hr16))) dF0) ?_;apply rt;exact At.jn 0
      ·refine At.c 0 ?_ ?_
       ·refine At.o 5 (bS hT (x:=(.sl 3 2 [(aA.enc a1.gc),(aA.enc r13.gC4)]))) ?_;refine At.b 0 (λ_ e=>aM [0,1,2,3,4] (rK e)) λr17=>?_;apply rt;exact At.jn 0
       ·apply rt;exact At.jn 0
    ·exact λh=>At.k 2 ⟨_,_,_,_,h,jr⟩
   ·apply rt;exact At.x 0
 ·refine At.c 9 ?_ ?_
  ·apply rt;exact At.r 0
  ·refine At.b 8 (λ_ e=>aM [] (qR e)) λr18=>?_;refine lx ?_;intro x19;refine At.L 17 [] 5 (λp20=>([],[(3,.var (aK.enc p20))],[])) (λp20 J k=>∃s21 s22,cZ N r18 x19 a1 k s21 s22=some p20/\J [0,3,121] 5 [(122,(j64 s22))] [(3,.var (aK.enc s21))] []) N (λ_ h=>⟨_,_,h,jr⟩) (λp20 k s hI=>?_) λp20=>?_
   ·obtain⟨s21,s22,h,hj⟩:=hI;cases k with
    | zero=>cases h
    | succ k=>
     refine At.jr hj ?_ h;refine lx ?_;intro x23;refine At.c 1 ?_ ?_
     ·refine bi λr24 hr24=>?_;refine At.d 0 dE0 (dF 12 (eB r24.2) [(3,.var (aK.enc r24.1))] [] (bG (aM [3] (lG hr24))) dF0) ?_;exact λh=>At.k 2 ⟨_,_,h,jr⟩
     ·apply rt;exact At.x 0
   ·apply rt;exact At.z 0
def aEM : Nat->Bool:=imL [3,4]
def pJ(N:Nat)(a0 a1:aA)(a2:Int):Option (cX):=
 aa (tL N a2) λr1=>
 aa (fT N r1) λr2=>
 aa (sA N a1 r2) λr3=>
 aa (cond (decide (r3 < 0)) (
  aa (uL N r3) λr5=>
  some ((aC.mk (I64 (0 - r1.gX)) (I64 (0 - r1.gY)) (I64 (0 - r1.gZ)),r5))) (
  some ((r1,r3)))) λp4=>
 cond (p4.2==0) (
  some (cX.mk (aC.mk 0 0 0) (aA.mk 0 0 0) true)) (
  aa (kF N ([p4.2,p4.2])) λr6=>
  aa (fP N a0 r6) λr7=>
  some (cX.mk p4.1 r7 false))
theorem aDd{N a0 a1 a2 r}(h:pJ N a0 a1 a2=some r):FnM Tryz.prog 262 [] [(aA.enc a0),(aA.enc a1),(k32 a2)] (cX.enc r) []:=by
 unfold pJ at h;refine At.f aEM hT hmo Tryz.func262 rfl h ?_;refine At.b 4 (λ_ e=>aM [] (aBu e)) λr1=>?_;refine bi λr2 hr2=>?_;refine bi λr3 hr3=>?_;refine At.d 2 (dE2 2 (aA.enc r2) (λ_=>aO (mB hr2)) (dE2 3 (j64 r3) (λ_=>aO (xP hr3)) dE0)) dF0 ?_;refine At.J 0 1 [3,6,7] 2 (λp4=>([(8,(j64 p4.2))],[(1,.var (aC.enc p4.1))],[])) (λp4=>?_) λp4=>?_
 ·refine At.c 2 ?_ ?_
  ·refine bi λr5 hr5=>?_;refine At.d 0 (dE2 11 (j64 r5) (λ_=>aO (aBz hr5)) dE0) dF0 ?_;apply rt;exact At.jn 0
  ·apply rt;exact At.jn 0
 ·refine At.c 2 ?_ ?_
  ·apply rt;exact At.r 2
  ·refine bi λr6 hr6=>?_;refine bi λr7 hr7=>?_;refine At.d 0 (dE1 4 (λ_=>bS hT (x:=(.sl 1 2 [(j64 p4.2),(j64 p4.2)]))) (dE2 5 (j64 r6) (λ_=>aO (pR hr6)) (dE2 6 (aA.enc r7) (λ_=>aO (jS hr7)) dE0))) dF0 ?_;apply rt;exact At.r 0
def aFM : Nat->Bool:=imL [2,3]
def lL(N:Nat)(a0:aA)(a1:aC):Option (aA):=
 aa (fT N a1) λr1=>
 aa (sA N a0 r1) λr2=>
 aa (kF N ([r2,r2])) λr3=>
 aa (fP N a0 r3) λr4=>
 aa (tZ N r1 r4) λr5=>
 some r5
theorem wS{N a0 a1 r}(h:lL N a0 a1=some r):FnM Tryz.prog 263 [] [(aA.enc a0),(aC.enc a1)] (aA.enc r) []:=by
 unfold lL at h;refine At.f aFM hT hmo Tryz.func263 rfl h ?_;refine At.b 4 (λ_ e=>aM [] (mB e)) λr1=>?_;refine At.b 4 (λ_ e=>aM [] (xP e)) λr2=>?_;refine bi λr3 hr3=>?_;refine bi λr4 hr4=>?_;refine bi λr5 hr5=>?_;refine At.d 1 (dE1 4 (λ_=>bS hT (x:=(.sl 1 2 [(j64 r2),(j64 r2)]))) (dE2 5 (j64 r3) (λ_=>aO (pR hr3)) (dE2 6 (aA.enc r4) (λ_=>aO (jS hr4)) (dE2 7 (aA.enc r5) (λ_=>aO (aCA hr5)) dE0)))) dF0 ?_;apply rt;exact At.r 0
def aGJ : Nat->Bool:=imL [2,3]
def lA(N:Nat)(a0 a1:aA):Option (cX):=
 aa (uM N a0) λr1=>
 cond (r1.2 != 0) (
  some (cX.mk (aC.mk 0 0 0) (aA.mk 0 0 0) true)) (
  some (cX.mk r1.1 a1 false))
theorem uB{N a0 a1 r}(h:lA N a0 a1=some r):FnM Tryz.prog 266 [] [(aA.enc a0),(aA.enc a1)] (cX.enc r) []:=by
 unfold lA at h;refine At.f aGJ hT hmo Tryz.func266 rfl h ?_;refine At.b 4 (λ_ e=>aM [] (aDU e)) λr1=>?_;refine At.c 8 ?_ ?_
 ·apply rt;exact At.r 2
 ·apply rt;exact At.r 4
def aEO : Nat->Bool:=imL [5,6,7,8,9]
def jK(N:Nat)(a0:aP)(a1 a2:aA)(a3:aC)(a4:(Vector Int 2)):Option (cX):=
 cond (a0.gJ==0) (
  aa (idx a4.toList 0) λe1=>
  aa (pJ N a1 a2 e1) λr2=>
  some r2) (
  cond (a0.gJ==2) (
   aa (iR N a0.gD8) λr3=>
   aa (iR N 65535) λr4=>
   aa (iZ N r3 r4) λr5=>
   aa (lL N a2 a3) λr6=>
   aa (idx a4.toList 0) λe7=>
   aa (tL N e7) λr8=>
   aa (fT N r8) λr9=>
   aa (fP N r9 r5) λr10=>
   aa (kC N ([r6,r10])) λr11=>
   aa (sA N a2 r11) λr12=>
   cond (decide (r12<=0)) (
    some (cX.mk (aC.mk 0 0 0) (aA.mk 0 0 0) true)) (
    aa (lA N r11 a1) λr13=>
    some r13)) (
   cond (a0.gJ==3) (
    aa (idx a4.toList 1) λe14=>
    aa (qX N e14 65536) λr15=>
    aU (decide (r15>=a0.gD8)) λx16=>
    cond x16 (
     aa (fT N a3) λr17=>
     aa (lA N r17 a1) λr18=>
     some r18) (
     aa (lL N a2 a3) λr19=>
     aa (lA N r19 a1) λr20=>
     some r20)) (
    cond (a0.gJ==1) (
     aa (lL N a2 a3) λr21=>
     aa (lA N r21 a1) λr22=>
     some r22) (
     some (cX.mk (aC.mk 0 0 0) (aA.mk 0 0 0) true)))))
theorem aAb{N a0 a1 a2 a3 a4 r}(h:jK N a0 a1 a2 a3 a4=some r):FnM Tryz.prog 195 [] [(aP.enc a0),(aA.enc a1),(aA.enc a2),(aC.enc a3),(eA 2 1 k32 a4)] (cX.enc r) []:=by
 unfold jK at h;refine At.f aEO hT hmo Tryz.func195 rfl h ?_;refine At.c 10 ?_ ?_
 ·refine At.b 2 (λ_ e=>eM hT (N:=2) (k:=1) k32 a4 e) λe1=>?_;refine At.b 1 (λ_ e=>aM [] (aDd e)) λr2=>?_;apply rt;exact At.r 1
 ·refine At.c 2 ?_ ?_
  ·refine At.b 2 (λ_ e=>aM [] (iX e)) λr3=>?_;refine At.b 0 (λ_ e=>aM [] (iX e)) λr4=>?_;refine At.b 0 (λ_ e=>aM [] (lP e)) λr5=>?_;refine bi λr6 hr6=>?_;refine bi λe7 he7=>?_;refine bi λr8 hr8=>?_;refine bi λr9 hr9=>?_;refine bi λr10 hr10=>?_;refine bi λr11 hr11=>?_;refine At.d 1 (dE2 2 (aA.enc r6) (λ_=>aO (wS hr6)) (dE1 3 (λ_=>eM hT (N:=2) (k:=1) k32 a4 he7) (dE2 5 (aC.enc r8) (λ_=>aO (aBu hr8)) (dE2 6 (aA.enc r9) (λ_=>aO (mB hr9)) (dE2 8 (aA.enc r10) (λ_=>aO (jS hr10)) (dE1 9 (λ_=>bS hT (x:=(.sl 3 2 [(aA.enc r6),(aA.enc r10)]))) (dE2 10 (aA.enc r11) (λ_=>aO (tM hr11)) dE0))))))) dF0 ?_;refine At.b 2 (λ_ e=>aM [] (xP e)) λr12=>?_;refine At.c 1 ?_ ?_
   ·apply rt;exact At.r 2
   ·refine At.b 2 (λ_ e=>aM [] (uB e)) λr13=>?_;apply rt;exact At.r 1
  ·refine At.c 2 ?_ ?_
   ·refine bi λe14 he14=>?_;refine bi λr15 hr15=>?_;refine lx ?_;intro x16;refine At.d 0 (dE1 0 (λ_=>eM hT (N:=2) (k:=1) k32 a4 he14) (dE2 2 (j64 r15) (λ_=>aO (aCG hr15)) dE0)) dF0 ?_;refine At.c 0 ?_ ?_
    ·refine bi λr17 hr17=>?_;refine bi λr18 hr18=>?_;refine At.d 0 (dE2 1 (aA.enc r17) (λ_=>aO (mB hr17)) (dE2 3 (cX.enc r18) (λ_=>aO (uB hr18)) dE0)) dF0 ?_;apply rt;exact At.r 0
    ·refine bi λr19 hr19=>?_;refine bi λr20 hr20=>?_;refine At.d 0 (dE2 2 (aA.enc r19) (λ_=>aO (wS hr19)) (dE2 4 (cX.enc r20) (λ_=>aO (uB hr20)) dE0)) dF0 ?_;apply rt;exact At.r 0
   ·refine At.c 2 ?_ ?_
    ·refine bi λr21 hr21=>?_;refine bi λr22 hr22=>?_;refine At.d 0 (dE2 2 (aA.enc r21) (λ_=>aO (wS hr21)) (dE2 4 (cX.enc r22) (λ_=>aO (uB hr22)) dE0)) dF0 ?_;apply rt;exact At.r 0
    ·apply rt;exact At.r 2
def wC(N:Nat)(a0 a1 a2:Int):Option (Int):=
 some (fN (jR a0 a1) a2)
theorem aEL{N a0 a1 a2 r}(h:wC N a0 a1 a2=some r):FnM Tryz.prog 96 [] [(j64 a0),(j64 a1),(j64 a2)] (j64 r) []:=by
 unfold wC at h;refine At.f dG hT hmo Tryz.func96 rfl h ?_;apply rt;exact At.r 7
def iO(N:Nat)(a0 a1:Int):Option (Int):=
 aa (iZ N a0 a1) λr1=>
 some r1
theorem pZ{N a0 a1 r}(h:iO N a0 a1=some r):FnM Tryz.prog 268 [] [(j64 a0),(.im (j64 a1))] (j64 r) []:=by
 unfold iO at h;refine At.f dG hT hmo Tryz.func268 rfl h ?_;refine At.b 3 (λ_ e=>aM [] (lP e)) λr1=>?_;apply rt;exact At.r 1
def aDn : Nat->Bool:=imL [2]
def fB(N:Nat)(a0:aA)(a1:Int):Option (aA×Bool):=
 aa (xS N a0) λr1=>
 aa (wC N r1 268435456 4294967296) λr2=>
 aa (pX N a1) λr3=>
 cond (decide (r3>=r2)) (
  some ((aA.mk 0 0 0,false))) (
  aa (iO N a0.gX r2) λr4=>
  aa (iO N a0.gY r2) λr5=>
  aa (iO N a0.gZ r2) λr6=>
  some ((aA.mk r4 r5 r6,true)))
theorem zL{N a0 a1 r}(h:fB N a0 a1=some r):FnM Tryz.prog 197 [] [(aA.enc a0),(k32 a1)] (.tup [(aA.enc r.1),(eB r.2)]) []:=by
 unfold fB at h;refine At.f aDn hT hmo Tryz.func197 rfl h ?_;refine At.b 4 (λ_ e=>aM [] (aF5 e)) λr1=>?_;refine At.b 0 (λ_ e=>aM [] (aEL e)) λr2=>?_;refine bi λr3 hr3=>?_;refine At.d 2 (dE2 1 (j64 r3) (λ_=>aO (aAQ hr3)) dE0) dF0 ?_;refine At.c 0 ?_ ?_
 ·apply rt;exact At.r 3
 ·refine At.gz 0 1 ((j64 r2)) ?_;refine At.o 0 (rR (x:=(.fn (.func 268) [] [(.im (j64 r2))])) (by kernel_rfl) (by kernel_rfl)) ?_;refine bi λr4 hr4=>?_;refine bi λr5 hr5=>?_;refine bi λr6 hr6=>?_;refine At.d 1 (dE2 3 (j64 r4) (λ_=>aO (pZ hr4)) (dE2 7 (j64 r5) (λ_=>aO (pZ hr5)) (dE2 11 (j64 r6) (λ_=>aO (pZ hr6)) dE0))) dF0 ?_;apply rt;exact At.r 0
def iH(N:Nat)(b4:(List (List aD)))(a1:aJ)(a2 a3:aA)(a4:Int)(a5:Bool)(a6:aF)(a7:aG)(a8:aI)(a9:aA)(a10:aE)(a11:aB)(a12:aK):Option (aJ×aA×aA×Bool×aF×Int×aB×aK):=
 aa (iI N b4 a1 a2 a3 a4 a5 a6 a7 a8 a9 a10 a11 a12) λr1=>
 aa (cond (!r1.2.2.2.2) (
  aa (eP N b4 ([a9]) a1 a2 a3 a4 a5 r1.1 a7 a8 a9 (aE.mk a10.gN r1.2.1 (I64 (a10.gM+1))) a11 r1.2.2.1) λr3=>
  aa (eQ N b4 true a1 a2 r3 a4 a5 r1.1 a7 a8 a9 (aE.mk a10.gN r1.2.1 (I64 (a10.gM+1))) a11 r1.2.2.1) λr4=>
  some ((r3,cond a5 true true))) (
  some ((a3,a5)))) λp2=>
 aa (eQ N b4 r1.2.2.2.1.gB7 a1 a2 p2.1 a4 p2.2 r1.1 a7 a8 a9 (aE.mk a10.gN r1.2.1 (I64 (a10.gM+1))) a11 r1.2.2.1) λr5=>
 aa (aU (r1.2.2.2.1.gG.gJ==4) λx7=>
 cond x7 (
  aa (eP N b4 ([r1.2.2.2.1.gc]) a1 a2 p2.1 a4 (cond p2.2 true r1.2.2.2.1.gB7) r1.1 a7 a8 a9 (aE.mk a10.gN r1.2.1 (I64 (a10.gM+1))) a11 r1.2.2.1) λr8=>
  aa (eQ N b4 true a1 a2 r8 a4 ((cond p2.2 true r1.2.2.2.1.gB7)) r1.1 a7 a8 a9 (aE.mk a10.gN r1.2.1 (I64 (a10.gM+1))) a11 r1.2.2.1) λr9=>
  some ((r8,cond ((cond p2.2 true r1.2.2.2.1.gB7)) true true))) (
  some ((p2.1,cond p2.2 true r1.2.2.2.1.gB7)))) λp6=>
 aa (aa (cond a8.gT (
  some true) (
  aU (r1.2.2.2.1.gG.gJ==0) λx12=>
  some (cond (!p6.2) x12 false))) λp11=>
 cond p11 (
  aa (fL N b4 r1.2.2.2.1 a1 a2 p6.1 a4 p6.2 r1.1 a7 a8 a9 (aE.mk a10.gN r1.2.1 (I64 (a10.gM+1))) a11 r1.2.2.1) λr13=>
  some ((r13.1,r13.2.1,r13.2.2))) (
  some ((p6.1,a11,r1.2.2.1)))) λp10=>
 aa (cond p6.2 (
  some true) (
  some (a4==a8.gK))) λp14=>
 cond p14 (
  aa (eQ N b4 true a1 a2 p10.1 a4 p6.2 r1.1 a7 a8 a9 (aE.mk a10.gN r1.2.1 (I64 (a10.gM+1))) p10.2.1 p10.2.2) λr15=>
  some ((a1,a2,p10.1,cond p6.2 true true,r1.1,r1.2.1,p10.2.1,p10.2.2))) (
  aa (cM N b4 4 a1 a2 p10.1 a4 p6.2 r1.1 a7 a8 a9 (aE.mk a10.gN r1.2.1 (I64 (a10.gM+1))) p10.2.1 p10.2.2) λr16=>
  aa (cM N b4 5 a1 a2 p10.1 a4 p6.2 r1.1 a7 a8 a9 (aE.mk a10.gN r1.2.1 (I64 (a10.gM+1))) (aB.mk r16.1 p10.2.1.gA p10.2.1.gC p10.2.1.gB p10.2.1.gD) p10.2.2) λr17=>
  aa (jK N r1.2.2.2.1.gG r1.2.2.2.1.gc r1.2.2.2.1.gn a1.gd (#v[r16.2,r17.2])) λr18=>
  aa (iA N ([a2,r18.gC4])) λr19=>
  aa (eQ N b4 r18.gB9 a1 r19 p10.1 a4 p6.2 r1.1 a7 a8 a9 (aE.mk a10.gN r1.2.1 (I64 (a10.gM+1))) (aB.mk r17.1 ((aB.mk r16.1 p10.2.1.gA p10.2.1.gC p10.2.1.gB p10.2.1.gD).gA) ((aB.mk r16.1 p10.2.1.gA p10.2.1.gC p10.2.1.gB p10.2.1.gD).gC) ((aB.mk r16.1 p10.2.1.gA p10.2.1.gC p10.2.1.gB p10.2.1.gD).gB) ((aB.mk r16.1 p10.2.1.gA p10.2.1.gC p10.2.1.gB p10.2.1.gD).gD)) p10.2.2) λr20=>
  aa (cond (decide (a4>=2)) (
   aa (cM N b4 7 a1 r19 p10.1 a4 (cond p6.2 true r18.gB9) r1.1 a7 a8 a9 (aE.mk a10.gN r1.2.1 (I64 (a10.gM+1))) (aB.mk r17.1 ((aB.mk r16.1 p10.2.1.gA p10.2.1.gC p10.2.1.gB p10.2.1.gD).gA) ((aB.mk r16.1 p10.2.1.gA p10.2.1.gC p10.2.1.gB p10.2.1.gD).gC) ((aB.mk r16.1 p10.2.1.gA p10.2.1.gC p10.2.1.gB p10.2.1.gD).gB) ((aB.mk r16.1 p10.2.1.gA p10.2.1.gC p10.2.1.gB p10.2.1.gD).gD)) p10.2.2) λr22=>
   aa (fB N r19 r22.2) λr23=>
   aa (eQ N b4 (!r23.2) a1 r23.1 p10.1 a4 (cond p6.2 true r18.gB9) r1.1 a7 a8 a9 (aE.mk a10.gN r1.2.1 (I64 (a10.gM+1))) (aB.mk r22.1 ((aB.mk r17.1 ((aB.mk r16.1 p10.2.1.gA p10.2.1.gC p10.2.1.gB p10.2.1.gD).gA) ((aB.mk r16.1 p10.2.1.gA p10.2.1.gC p10.2.1.gB p10.2.1.gD).gC) ((aB.mk r16.1 p10.2.1.gA p10.2.1.gC p10.2.1.gB p10.2.1.gD).gB) ((aB.mk r16.1 p10.2.1.gA p10.2.1.gC p10.2.1.gB p10.2.1.gD).gD)).gA) ((aB.mk r17.1 ((aB.mk r16.1 p10.2.1.gA p10.2.1.gC p10.2.1.gB p10.2.1.gD).gA) ((aB.mk r16.1 p10.2.1.gA p10.2.1.gC p10.2.1.gB p10.2.1.gD).gC) ((aB.mk r16.1 p10.2.1.gA p10.2.1.gC p10.2.1.gB p10.2.1.gD).gB) ((aB.mk r16.1 p10.2.1.gA p10.2.1.gC p10.2.1.gB p10.2.1.gD).gD)).gC) ((aB.mk r17.1 ((aB.mk r16.1 p10.2.1.gA p10.2.1.gC p10.2.1.gB p10.2.1.gD).gA) ((aB.mk r16.1 p10.2.1.gA p10.2.1.gC p10.2.1.gB p10.2.1.gD).gC) ((aB.mk r16.1 p10.2.1.gA p10.2.1.gC p10.2.1.gB p10.2.1.gD).gB) ((aB.mk r16.1 p10.2.1.gA p10.2.1.gC p10.2.1.gB p10.2.1.gD).gD)).gB) ((aB.mk r17.1 ((aB.mk r16.1 p10.2.1.gA p10.2.1.gC p10.2.1.gB p10.2.1.gD).gA) ((aB.mk r16.1 p10.2.1.gA p10.2.1.gC p10.2.1.gB p10.2.1.gD).gC) ((aB.mk r16.1 p10.2.1.gA p10.2.1.gC p10.2.1.gB p10.2.1.gD).gB) ((aB.mk r16.1 p10.2.1.gA p10.2.1.gC p10.2.1.gB p10.2.1.gD).gD)).gD)) p10.2.2) λr24=>
   some ((r23.1,cond (cond p6.2 true r18.gB9) true (!r23.2),aB.mk r22.1 ((aB.mk r17.1 ((aB.mk r16.1 p10.2.1.gA p10.2.1.gC p10.2.1.gB p10.2.1.gD).gA) ((aB.mk r16.1 p10.2.1.gA p10.2.1.gC p10.2.1.gB p10.2.1.gD).gC) ((aB.mk r16.1 p10.2.1.gA p10.2.1.gC p10.2.1.gB p10.2.1.gD).gB) ((aB.mk r16.1 p10.2.1.gA p10.2.1.gC p10.2.1.gB p10.2.1.gD).gD)).gA) ((aB.mk r17.1 ((aB.mk r16.1 p10.2.1.gA p10.2.1.gC p10.2.1.gB p10.2.1.gD).gA) ((aB.mk r16.1 p10.2.1.gA p10.2.1.gC p10.2.1.gB p10.2.1.gD).gC) ((aB.mk r16.1 p10.2.1.gA p10.2.1.gC p10.2.1.gB p10.2.1.gD).gB) ((aB.mk r16.1 p10.2.1.gA p10.2.1.gC p10.2.1.gB p10.2.1.gD).gD)).gC) ((aB.mk r17.1 ((aB.mk r16.1 p10.2.1.gA p10.2.1.gC p10.2.1.gB p10.2.1.gD).gA) ((aB.mk r16.1 p10.2.1.gA p10.2.1.gC p10.2.1.gB p10.2.1.gD).gC) ((aB.mk r16.1 p10.2.1.gA p10.2.1.gC p10.2.1.gB p10.2.1.gD).gB) ((aB.mk r16.1 p10.2.1.gA p10.2.1.gC p10.2.1.gB p10.2.1.gD).gD)).gB) ((aB.mk r17.1 ((aB.mk r16.1 p10.2.1.gA p10.2.1.gC p10.2.1.gB p10.2.1.gD).gA) ((aB.mk r16.1 p10.2.1.gA p10.2.1.gC p10.2.1.gB p10.2.1.gD).gC) ((aB.mk r16.1 p10.2.1.gA p10.2.1.gC p10.2.1.gB p10.2.1.gD).gB) ((aB.mk r16.1 p10.2.1.gA p10.2.1.gC p10.2.1.gB p10.2.1.gD).gD)).gD)))) (
   some ((r19,cond p6.2 true r18.gB9,aB.mk r17.1 ((aB.mk r16.1 p10.2.1.gA p10.2.1.gC p10.2.1.gB p10.2.1.gD).gA) ((aB.mk r16.1 p10.2.1.gA p10.2.1.gC p10.2.1.gB p10.2.1.gD).gC) ((aB.mk r16.1 p10.2.1.gA p10.2.1.gC p10.2.1.gB p10.2.1.gD).gB) ((aB.mk r16.1 p10.2.1.gA p10.2.1.gC p10.2.1.gB p10.2.1.gD).gD))))) λp21=>
  some ((aJ.mk r1.2.2.2.1.gat r18.gD7 r1.2.2.2.1.gi,p21.1,p10.1,p21.2.1,r1.1,r1.2.1,p21.2.2,p10.2.2)))
theorem aBv{N b4 a1 a2 a3 a4 a5 a6 a7 a8 a9 a10 a11 a12 r}(h:iH N b4 a1 a2 a3 a4 a5 a6 a7 a8 a9 a10 a11 a12=some r):FnM Tryz.prog 107 [.var (.st 26 [(aJ.enc a1),(.ref 1 [] 0),(.ref 2 [] 0),(aA.enc a2),(aA.enc a3),(j64 a4),(eB a5),(aF.enc a6)]),.var (.st 38 [(aG.enc a7),(aI.enc a8),(.ifc 178 (.ref 3 [] 0)),(eO 4 1 (eL 2 aD.enc) b4),(aA.enc a9),(aE.enc a10)]),.var (aB.enc a11),.var (aK.enc a12),.tail (b4.length*1)] [(.ref 0 [] 0)] (.tup []) [.var (.st 26 [(aJ.enc r.1),(.ref 1 [] 0),(.ref 2 [] 0),(aA.enc r.2.1),(aA.enc r.2.2.1),(j64 a4),(eB r.2.2.2.1),(aF.enc r.2.2.2.2.1)]),.var (.st 38 [(aG.enc a7),(aI.enc a8),(.ifc 178 (.ref 3 [] 0)),(eO 4 1 (eL 2 aD.enc) b4),(aA.enc a9),(.st 3 [(j64 a10.gN),(j64 r.2.2.2.2.2.1),(j64 (I64 (a10.gM+1)))])]),.var (aB.enc r.2.2.2.2.2.2.1),.var (aK.enc r.2.2.2.2.2.2.2),.tail (b4.length*1)]:=by
 unfold iH at h;refine At.f dG hT hmo Tryz.func107 rfl h ?_;refine At.b 1 (λ_ e=>aM [0,1,2,3,4] (aCB e)) λr1=>?_;refine At.J 6 1 [0,2] 6 (λp2=>([],[(0,.var (.st 26 [(aJ.enc a1),(.ref 1 [] 0),(.ref 2 [] 0),(aA.enc a2),(aA.enc p2.1),(j64 a4),(eB p2.2),(aF.enc r1.1)]))],[])) (λp2=>?_) λp2=>?_
 ·refine At.c 2 ?_ ?_
  ·refine At.o 8 (bS hT (x:=(.sl 3 1 [(aA.enc a9)]))) ?_;refine At.b 0 (λ_ e=>aM [0,1,2,3,4] (rK e)) λr3=>?_;refine At.b 1 (λ_ e=>aM [0,1,2,3,4] (jA e)) λr4=>?_;apply rt;exact At.jn 0
  ·apply rt;exact At.jn 0
 ·refine At.b 3 (λ_ e=>aM [0,1,2,3,4] (jA e)) λr5=>?_;refine At.J 0 1 [0,2] 6 (λp6=>([],[(0,.var (.st 26 [(aJ.enc a1),(.ref 1 [] 0),(.ref 2 [] 0),(aA.enc a2),(aA.enc p6.1),(j64 a4),(eB p6.2),(aF.enc r1.1)]))],[])) (λp6=>?_) λp6=>?_
  ·refine lx ?_;intro x7;refine At.c 4 ?_ ?_
   ·refine At.o 3 (bS hT (x:=(.sl 3 1 [(aA.enc r1.2.2.2.1.gc)]))) ?_;refine At.b 0 (λ_ e=>aM [0,1,2,3,4] (rK e)) λr8=>?_;refine At.b 1 (λ_ e=>aM [0,1,2,3,4] (jA e)) λr9=>?_;apply rt;exact At.jn 0
   ·apply rt;exact At.jn 0
  ·refine At.J 0 1 [0,2] 6 (λp10=>([],[(0,.var (.st 26 [(aJ.enc a1),(.ref 1 [] 0),(.ref 2 [] 0),(aA.enc a2),(aA.enc p10.1),(j64 a4),(eB p6.2),(aF.enc r1.1)])),(2,.var (aB.enc p10.2.1)),(3,.var (aK.enc p10.2.2))],[])) (λp10=>?_) λp10=>?_
   ·refine At.J 0 0 [0,2] 6 (λp11=>([(61,(eB p11))],[],[])) (λp11=>?_) λp11=>?_
    ·refine At.s 49 9 ?_ ?_
     ·refine At.g [49,55] 12 ?_;apply rt;exact At.jn 0
     ·refine lx ?_;intro x12;refine At.g [49] 12 ?_;apply rt;exact At.jn 0
    ·refine At.c 0 ?_ ?_
     ·refine At.b 2 (λ_ e=>aM [0,1,2,3,4] (aA9 e)) λr13=>?_;apply rt;exact At.jn 0
     ·apply rt;exact At.jn 0
   ·refine At.J 0 0 [0,2] 6 (λp14=>([(83,(eB p14))],[],[])) (λp14=>?_) λp14=>?_
    ·refine boI (λhc4=>?_) (λhc4=>?_)
     ·refine At.d 0 (dE1 4 (λ_=>cO hc4 rfl (cF hT (im:=false) (by kernel_rfl))) dE0) dF0 ?_;apply rt;exact At.jn 0
     ·refine At.d 0 (dE1 4 (λ_=>cO hc4 rfl (cF hT (im:=false) (by kernel_rfl))) dE0) dF0 ?_;apply rt;exact At.jn 0
    ·refine At.c 0 ?_ ?_
     ·refine At.b 1 (λ_ e=>aM [0,1,2,3,4] (jA e)) λr15=>?_;apply rt;exact At.r 0
     ·refine bi λr16 hr16=>?_;refine bi λr17 hr17=>?_;refine bi λr18 hr18=>?_;refine At.d2 0 [false] (dC2 16 (cX.enc r18) (λ_=>aO (aAb hr18)) dC0) (dS1 12 ⟨(k32 r16.2),2,.var (.st 72 [(aV.enc r16.1),(eB p10.2.1.gA),(k64 p10.2.1.gC),(j64 p10.2.1.gB),(j64 p10.2.1.gD)]),.var (aB.enc p10.2.1)⟩ [[.var (.st 26 [(aJ.enc a1),(.ref 1 [] 0),(.ref 2 [] 0),(aA.enc a2),(aA.enc p10.1),(j64 a4),(eB p6.2),(aF.enc r1.1)]),.var (.st 38 [(aG.enc a7),(aI.enc a8),(.ifc 178 (.ref 3 [] 0)),(eO 4 1 (eL 2 aD.enc) b4),(aA.enc a9),(.st 3 [(j64 a10.gN),(j64 r1.2.1),(j64 (I64 (a10.gM+1)))])]),.var (aB.enc p10.2.1),.var (aK.enc p10.2.2),.tail (b4.length*1),.var (aT.enc r1.2.2.2.1),.dead],[.var (.st 26 [(aJ.enc a1),(.ref 1 [] 0),(.ref 2 [] 0),(aA.enc a2),(aA.enc p10.1),(j64 a4),(eB p6.2),(aF.enc r1.1)]),.var (.st 38 [(aG.enc a7),(aI.enc a8),(.ifc 178 (.ref 3 [] 0)),(eO 4 1 (eL 2 aD.enc) b4),(aA.enc a9),(.st 3 [(j64 a10.gN),(j64 r1.2.1),(j64 (I64 (a10.gM+1)))])]),.var (aB.enc p10.2.1),.var (aK.enc p10.2.2),.tail (b4.length*1),.var (aT.enc r1.2.2.2.1),.var aOo]] ⟨bG (aM [0,1,2,3,4] (cP hr16)),bG (aM [0,1,2,3,4] (cP hr16)),trivial⟩ (dS1 14 ⟨(k32 r17.2),2,.var (.st 72 [(aV.enc r17.1),(eB ((aB.mk r16.1 p10.2.1.gA p10.2.1.gC p10.2.1.gB p10.2.1.gD).gA)),(k64 ((aB.mk r16.1 p10.2.1.gA p10.2.1.gC p10.2.1.gB p10.2.1.gD).gC)),(j64 ((aB.mk r16.1 p10.2.1.gA p10.2.1.gC p10.2.1.gB p10.2.1.gD).gB)),(j64 ((aB.mk r16.1 p10.2.1.gA p10.2.1.gC p10.2.1.gB p10.2.1.gD).gD))]),.var (.st 72 [(aV.enc r16.1),(eB p10.2.1.gA),(k64 p10.2.1.gC),(j64 p10.2.1.gB),(j64 p10.2.1.gD)])⟩ [[.var (.st 26 [(aJ.enc a1),(.ref 1 [] 0),(.ref 2 [] 0),(aA.enc a2),(aA.enc p10.1),(j64 a4),(eB p6.2),(aF.enc r1.1)]),.var (.st 38 [(aG.enc a7),(aI.enc a8),(.ifc 178 (.ref 3 [] 0)),(eO 4 1 (eL 2 aD.enc) b4),(aA.enc a9),(.st 3 [(j64 a10.gN),(j64 r1.2.1),(j64 (I64 (a10.gM+1)))])]),.var (.st 72 [(aV.enc r16.1),(eB p10.2.1.gA),(k64 p10.2.1.gC),(j64 p10.2.1.gB),(j64 p10.2.1.gD)]),.var (aK.enc p10.2.2),.tail (b4.length*1),.var (aT.enc r1.2.2.2.1),.dead],[.var (.st 26 [(aJ.enc a1),(.ref 1 [] 0),(.ref 2 [] 0),(aA.enc a2),(aA.enc p10.1),(j64 a4),(eB p6.2),(aF.enc r1.1)]),.var (.st 38 [(aG.enc a7),(aI.enc a8),(.ifc 178 (.ref 3 [] 0)),(eO 4 1 (eL 2 aD.enc) b4),(aA.enc a9),(.st 3 [(j64 a10.gN),(j64 r1.2.1),(j64 (I64 (a10.gM+1)))])]),.var (.st 72 [(aV.enc r16.1),(eB p10.2.1.gA),(k64 p10.2.1.gC),(j64 p10.2.1.gB),(j64 p10.2.1.gD)]),.var (aK.enc p10.2.2),.tail (b4.length*1),.var (aT.enc r1.2.2.2.1),.var aOo]] ⟨bG (aM [0,1,2,3,4] (cP hr17)),bG (aM [0,1,2,3,4] (cP hr17)),trivial⟩ (dS1 17 ⟨(.ref 6 [] 0),6,.var aOo,.dead⟩ [[.var (.st 26 [(aJ.enc a1),(.ref 1 [] 0),(.ref 2 [] 0),(aA.enc a2),(aA.enc p10.1),(j64 a4),(eB p6.2),(aF.enc r1.1)]),.var (.st 38 [(aG.enc a7),(aI.enc a8),(.ifc 178 (.ref 3 [] 0)),(eO 4 1 (eL 2 aD.enc) b4),(aA.enc a9),(.st 3 [(j64 a10.gN),(j64 r1.2.1),(j64 (I64 (a10.gM+1)))])]),.var (aB.enc p10.2.1),.var (aK.enc p10.2.2),.tail (b4.length*1),.var (aT.enc r1.2.2.2.1),.dead],[.var (.st 26 [(aJ.enc a1),(.ref 1 [] 0),(.ref 2 [] 0),(aA.enc a2),(aA.enc p10.1),(j64 a4),(eB p6.2),(aF.enc r1.1)]),.var (.st 38 [(aG.enc a7),(aI.enc a8),(.ifc 178 (.ref 3 [] 0)),(eO 4 1 (eL 2 aD.enc) b4),(aA.enc a9),(.st 3 [(j64 a10.gN),(j64 r1.2.1),(j64 (I64 (a10.gM+1)))])]),.var (.st 72 [(aV.enc r17.1),(eB ((aB.mk r16.1 p10.2.1.gA p10.2.1.gC p10.2.1.gB p10.2.1.gD).gA)),(k64 ((aB.mk r16.1 p10.2.1.gA p10.2.1.gC p10.2.1.gB p10.2.1.gD).gC)),(j64 ((aB.mk r16.1 p10.2.1.gA p10.2.1.gC p10.2.1.gB p10.2.1.gD).gB)),(j64 ((aB.mk r16.1 p10.2.1.gA p10.2.1.gC p10.2.1.gB p10.2.1.gD).gD))]),.var (aK.enc p10.2.2),.tail (b4.length*1),.var (aT.enc r1.2.2.2.1),.dead],[.var (.st 26 [(aJ.enc a1),(.ref 1 [] 0),(.ref 2 [] 0),(aA.enc a2),(aA.enc p10.1),(j64 a4),(eB p6.2),(aF.enc r1.1)]),.var (.st 38 [(aG.enc a7),(aI.enc a8),(.ifc 178 (.ref 3 [] 0)),(eO 4 1 (eL 2 aD.enc) b4),(aA.enc a9),(.st 3 [(j64 a10.gN),(j64 r1.2.1),(j64 (I64 (a10.gM+1)))])]),.var (.st 72 [(aV.enc r16.1),(eB p10.2.1.gA),(k64 p10.2.1.gC),(j64 p10.2.1.gB),(j64 p10.2.1.gD)]),.var (aK.enc p10.2.2),.tail (b4.length*1),.var (aT.enc r1.2.2.2.1),.dead],[.var (.st 26 [(aJ.enc a1),(.ref 1 [] 0),(.ref 2 [] 0),(aA.enc a2),(aA.enc p10.1),(j64 a4),(eB p6.2),(aF.enc r1.1)]),.var (.st 38 [(aG.enc a7),(aI.enc a8),(.ifc 178 (.ref 3 [] 0)),(eO 4 1 (eL 2 aD.enc) b4),(aA.enc a9),(.st 3 [(j64 a10.gN),(j64 r1.2.1),(j64 (I64 (a10.gM+1)))])]),.var (.st 72 [(aV.enc r17.1),(eB ((aB.mk r16.1 p10.2.1.gA p10.2.1.gC p10.2.1.gB p10.2.1.gD).gA)),(k64 ((aB.mk r16.1 p10.2.1.gA p10.2.1.gC p10.2.1.gB p10.2.1.gD).gC)),(j64 ((aB.mk r16.1 p10.2.1.gA p10.2.1.gC p10.2.1.gB p10.2.1.gD).gB)),(j64 ((aB.mk r16.1 p10.2.1.gA p10.2.1.gC p10.2.1.gB p10.2.1.gD).gD))]),.var (aK.enc p10.2.2),.tail (b4.length*1),.var (aT.enc r1.2.2.2.1),.dead]] ⟨aW hT 6 (by kernel_rfl) (by kernel_rfl) (by kernel_rfl),aW hT 6 (by kernel_rfl) (by kernel_rfl) (by kernel_rfl),aW hT 6 (by kernel_rfl) (by kernel_rfl) (by kernel_rfl),aW hT 6 (by kernel_rfl) (by kernel_rfl) (by kernel_rfl),trivial⟩ dS0))) ?_;refine bi λr19 hr19=>?_;refine At.d 0 (dE1 7 (λ_=>bS hT (x:=(.sl 3 2 [(aA.enc a2),(aA.enc r18.gC4)]))) (dE2 8 (aA.enc r19) (λ_=>aO (rO hr19)) dE0)) dF0 ?_;refine At.b 3 (λ_ e=>aM [0,1,2,3,4] (jA e)) λr20=>?_;refine At.J 0 1 [0,2,4] 7 (λp21=>([],[(0,.var (.st 26 [(aJ.enc a1),(.ref 1 [] 0),(.ref 2 [] 0),(aA.enc p21.1),(aA.enc p10.1),(j64 a4),(eB p21.2.1),(aF.enc r1.1)])),(2,.var (aB.enc p21.2.2))],[])) (λp21=>?_) λp21=>?_
      ·refine At.c 5 ?_ ?_
       ·refine bi λr22 hr22=>?_;refine bi λr23 hr23=>?_;refine At.d2 0 [false] (dC2 6 (.tup [(aA.enc r23.1),(eB r23.2)]) (λ_=>aO (zL hr23)) dC0) (dS1 5 ⟨(k32 r22.2),2,.var (.st 72 [(aV.enc r22.1),(eB ((aB.mk r17.1 ((aB.mk r16.1 p10.2.1.gA p10.2.1.gC p10.2.1.gB p10.2.1.gD).gA) ((aB.mk r16.1 p10.2.1.gA p10.2.1.gC p10.2.1.gB p10.2.1.gD).gC) ((aB.mk r16.1 p10.2.1.gA p10.2.1.gC p10.2.1.gB p10.2.1.gD).gB) ((aB.mk r16.1 p10.2.1.gA p10.2.1.gC p10.2.1.gB p10.2.1.gD).gD)).gA)),(k64 ((aB.mk r17.1 ((aB.mk r16.1 p10.2.1.gA p10.2.1.gC p10.2.1.gB p10.2.1.gD).gA) ((aB.mk r16.1 p10.2.1.gA p10.2.1.gC p10.2.1.gB p10.2.1.gD).gC) ((aB.mk r16.1 p10.2.1.gA p10.2.1.gC p10.2.1.gB p10.2.1.gD).gB) ((aB.mk r16.1 p10.2.1.gA p10.2.1.gC p10.2.1.gB p10.2.1.gD).gD)).gC)),(j64 ((aB.mk r17.1 ((aB.mk r16.1 p10.2.1.gA p10.2.1.gC p10.2.1.gB p10.2.1.gD).gA) ((aB.mk r16.1 p10.2.1.gA p10.2.1.gC p10.2.1.gB p10.2.1.gD).gC) ((aB.mk r16.1 p10.2.1.gA p10.2.1.gC p10.2.1.gB p10.2.1.gD).gB) ((aB.mk r16.1 p10.2.1.gA p10.2.1.gC p10.2.1.gB p10.2.1.gD).gD)).gB)),(j64 ((aB.mk r17.1 ((aB.mk r16.1 p10.2.1.gA p10.2.1.gC p10.2.1.gB p10.2.1.gD).gA) ((aB.mk r16.1 p10.2.1.gA p10.2.1.gC p10.2.1.gB p10.2.1.gD).gC) ((aB.mk r16.1 p10.2.1.gA p10.2.1.gC p10.2.1.gB p10.2.1.gD).gB) ((aB.mk r16.1 p10.2.1.gA p10.2.1.gC p10.2.1.gB p10.2.1.gD).gD)).gD))]),.var (.st 72 [(aV.enc r17.1),(eB ((aB.mk r16.1 p10.2.1.gA p10.2.1.gC p10.2.1.gB p10.2.1.gD).gA)),(k64 ((aB.mk r16.1 p10.2.1.gA p10.2.1.gC p10.2.1.gB p10.2.1.gD).gC)),(j64 ((aB.mk r16.1 p10.2.1.gA p10.2.1.gC p10.2.1.gB p10.2.1.gD).gB)),(j64 ((aB.mk r16.1 p10.2.1.gA p10.2.1.gC p10.2.1.gB p10.2.1.gD).gD))])⟩ [[.var (.st 26 [(aJ.enc a1),(.ref 1 [] 0),(.ref 2 [] 0),(aA.enc r19),(aA.enc p10.1),(j64 a4),(eB (cond p6.2 true r18.gB9)),(aF.enc r1.1)]),.var (.st 38 [(aG.enc a7),(aI.enc a8),(.ifc 178 (.ref 3 [] 0)),(eO 4 1 (eL 2 aD.enc) b4),(aA.enc a9),(.st 3 [(j64 a10.gN),(j64 r1.2.1),(j64 (I64 (a10.gM+1)))])]),.var (.st 72 [(aV.enc r17.1),(eB ((aB.mk r16.1 p10.2.1.gA p10.2.1.gC p10.2.1.gB p10.2.1.gD).gA)),(k64 ((aB.mk r16.1 p10.2.1.gA p10.2.1.gC p10.2.1.gB p10.2.1.gD).gC)),(j64 ((aB.mk r16.1 p10.2.1.gA p10.2.1.gC p10.2.1.gB p10.2.1.gD).gB)),(j64 ((aB.mk r16.1 p10.2.1.gA p10.2.1.gC p10.2.1.gB p10.2.1.gD).gD))]),.var (aK.enc p10.2.2),.tail (b4.length*1),.var (aT.enc r1.2.2.2.1),.var (cX.enc r18),.dead],[.var (.st 26 [(aJ.enc a1),(.ref 1 [] 0),(.ref 2 [] 0),(aA.enc r19),(aA.enc p10.1),(j64 a4),(eB (cond p6.2 true r18.gB9)),(aF.enc r1.1)]),.var (.st 38 [(aG.enc a7),(aI.enc a8),(.ifc 178 (.ref 3 [] 0)),(eO 4 1 (eL 2 aD.enc) b4),(aA.enc a9),(.st 3 [(j64 a10.gN),(j64 r1.2.1),(j64 (I64 (a10.gM+1)))])]),.var (.st 72 [(aV.enc r17.1),(eB ((aB.mk r16.1 p10.2.1.gA p10.2.1.gC p10.2.1.gB p10.2.1.gD).gA)),(k64 ((aB.mk r16.1 p10.2.1.gA p10.2.1.gC p10.2.1.gB p10.2.1.gD).gC)),(j64 ((aB.mk r16.1 p10.2.1.gA p10.2.1.gC p10.2.1.gB p10.2.1.gD).gB)),(j64 ((aB.mk r16.1 p10.2.1.gA p10.2.1.gC p10.2.1.gB p10.2.1.gD).gD))]),.var (aK.enc p10.2.2),.tail (b4.length*1),.var (aT.enc r1.2.2.2.1),.var (cX.enc r18),.var (.st 3 [(j64 0),(j64 0),(j64 0)])]] ⟨bG (aM [0,1,2,3,4] (cP hr22)),bG (aM [0,1,2,3,4] (cP hr22)),trivial⟩ (dS1 10 ⟨(.ref 7 [] 0),7,.var (.st 3 [(j64 0),(j64 0),(j64 0)]),.dead⟩ [[.var (.st 26 [(aJ.enc a1),(.ref 1 [] 0),(.ref 2 [] 0),(aA.enc r19),(aA.enc p10.1),(j64 a4),(eB (cond p6.2 true r18.gB9)),(aF.enc r1.1)]),.var (.st 38 [(aG.enc a7),(aI.enc a8),(.ifc 178 (.ref 3 [] 0)),(eO 4 1 (eL 2 aD.enc) b4),(aA.enc a9),(.st 3 [(j64 a10.gN),(j64 r1.2.1),(j64 (I64 (a10.gM+1)))])]),.var (.st 72 [(aV.enc r17.1),(eB ((aB.mk r16.1 p10.2.1.gA p10.2.1.gC p10.2.1.gB p10.2.1.gD).gA)),(k64 ((aB.mk r16.1 p10.2.1.gA p10.2.1.gC p10.2.1.gB p10.2.1.gD).gC)),(j64 ((aB.mk r16.1 p10.2.1.gA p10.2.1.gC p10.2.1.gB p10.2.1.gD).gB)),(j64 ((aB.mk r16.1 p10.2.1.gA p10.2.1.gC p10.2.1.gB p10.2.1.gD).gD))]),.var (aK.enc p10.2.2),.tail (b4.length*1),.var (aT.enc r1.2.2.2.1),.var (cX.enc r18),.dead],[.var (.st 26 [(aJ.enc a1),(.ref 1 [] 0),(.ref 2 [] 0),(aA.enc r19),(aA.enc p10.1),(j64 a4),(eB (cond p6.2 true r18.gB9)),(aF.enc r1.1)]),.var (.st 38 [(aG.enc a7),(aI.enc a8),(.ifc 178 (.ref 3 [] 0)),(eO 4 1 (eL 2 aD.enc) b4),(aA.enc a9),(.st 3 [(j64 a10.gN),(j64 r1.2.1),(j64 (I64 (a10.gM+1)))])]),.var (.st 72 [(aV.enc r22.1),(eB ((aB.mk r17.1 ((aB.mk r16.1 p10.2.1.gA p10.2.1.gC p10.2.1.gB p10.2.1.gD).gA) ((aB.mk r16.1 p10.2.1.gA p10.2.1.gC p10.2.1.gB p10.2.1.gD).gC) ((aB.mk r16.1 p10.2.1.gA p10.2.1.gC p10.2.1.gB p10.2.1.gD).gB) ((aB.mk r16.1 p10.2.1.gA p10.2.1.gC p10.2.1.gB p10.2.1.gD).gD)).gA)),(k64 ((aB.mk r17.1 ((aB.mk r16.1 p10.2.1.gA p10.2.1.gC p10.2.1.gB p10.2.1.gD).gA) ((aB.mk r16.1 p10.2.1.gA p10.2.1.gC p10.2.1.gB p10.2.1.gD).gC) ((aB.mk r16.1 p10.2.1.gA p10.2.1.gC p10.2.1.gB p10.2.1.gD).gB) ((aB.mk r16.1 p10.2.1.gA p10.2.1.gC p10.2.1.gB p10.2.1.gD).gD)).gC)),(j64 ((aB.mk r17.1 ((aB.mk r16.1 p10.2.1.gA p10.2.1.gC p10.2.1.gB p10.2.1.gD).gA) ((aB.mk r16.1 p10.2.1.gA p10.2.1.gC p10.2.1.gB p10.2.1.gD).gC) ((aB.mk r16.1 p10.2.1.gA p10.2.1.gC p10.2.1.gB p10.2.1.gD).gB) ((aB.mk r16.1 p10.2.1.gA p10.2.1.gC p10.2.1.gB p10.2.1.gD).gD)).gB)),(j64 ((aB.mk r17.1 ((aB.mk r16.1 p10.2.1.gA p10.2.1.gC p10.2.1.gB p10.2.1.gD).gA) ((aB.mk r16.1 p10.2.1.gA p10.2.1.gC p10.2.1.gB p10.2.1.gD).gC) ((aB.mk r16.1 p10.2.1.gA p10.2.1.gC p10.2.1.gB p10.2.1.gD).gB) ((aB.mk r16.1 p10.2.1.gA p10.2.1.gC p10.2.1.gB p10.2.1.gD).gD)).gD))]),.var (aK.enc p10.2.2),.tail (b4.length*1),.var (aT.enc r1.2.2.2.1),.var (cX.enc r18),.dead]] ⟨aW hT 7 (by kernel_rfl) (by kernel_rfl) (by kernel_rfl),aW hT 7 (by kernel_rfl) (by kernel_rfl) (by kernel_rfl),trivial⟩ dS0)) ?_;refine At.b 8 (λ_ e=>aM [0,1,2,3,4] (jA e)) λr24=>?_;apply rt;exact At.jn 0
       ·apply rt;exact At.jn 0
      ·apply rt;exact At.z 11
def dS(N:Nat)(b2:(List (List aD)))(a4:aG)(a5:aI)(a6:aA)(a7:aE)(a8:aK):Nat->aB->(Vector Int 4)->Int->Option (aB×(Vector Int 4))
 | 0,_,_,_=>none
 | k+1,s9,s10,s11=>
  cond (decide (s11 < 4)) (
   aa (cM N b2 s11 (aJ.mk (aC.mk 0 0 0) (aC.mk 0 0 0) 0) (aA.mk 4294967296 4294967296 4294967296) (aA.mk 0 0 0) 0 false (aF.mk (aA.mk 0 0 0) 0 0 (aA.mk 0 0 0) (-1)) a4 a5 a6 a7 s9 a8) λr12=>
   aa (fM s11 4) λ_=>
   aa (s10.toList[s11.toNat]?) λe14=>
   dS N b2 a4 a5 a6 a7 a8 k (aB.mk r12.1 s9.gA s9.gC s9.gB s9.gD) (s10.setIfInBounds s11.toNat r12.2) (I64 (s11+1))) (
   some ((s9,s10)))
def cD(N:Nat)(a5:aI)(b2:(List (List aD)))(a4:aG)(a6:aA):Nat->aE->aK->aB->aJ->aA->aA->Int->Bool->aF->Option (aE×aK×aB×aJ×aA×aA×Int×Bool×aF)
 | 0,_,_,_,_,_,_,_,_,_=>none
 | k+1,s17,s18,s19,s20,s21,s22,s23,s24,s25=>
  aa (aU (decide (s23<=a5.gK)) λx27=>
  cond x27 (
   cond (!s24) (
    some true) (
    some a5.gT)) (
   some false)) λp26=>
  cond p26 (
   aa (iH N b2 s20 s21 s22 s23 s24 s25 a4 a5 a6 s17 s19 s18) λr28=>
   cD N a5 b2 a4 a6 k (aE.mk s17.gN r28.2.2.2.2.2.1 (I64 (s17.gM+1))) r28.2.2.2.2.2.2.2 r28.2.2.2.2.2.2.1 r28.1 r28.2.1 r28.2.2.1 (I64 (s23+1)) r28.2.2.2.1 r28.2.2.2.2.1) (
   some ((s17,s18,s19,s20,s21,s22,s23,s24,s25)))
def dW(N:Nat)(b2:(List (List aD)))(a1 a2 a3:Int)(a4:aG)(a5:aI)(a6:aA)(a7:aE)(a8:aK):Option (aE×aK×aF×Int):=
 aU (cond (decide (a1 < 0)) true (decide (a1>=a5.gW))) λx1=>
 aU (cond x1 true (decide (a2 < 0))) λx2=>
 aU (cond x2 true (decide (a2>=a5.gH))) λx3=>
 aU (cond x3 true (decide (a3 < 0))) λx4=>
 aU (decide (a3>=a5.gB1)) λx5=>
 cond (cond x4 true x5) (
  some ((a7,a8,aF.mk (aA.mk 0 0 0) 0 0 (aA.mk 0 0 0) 0,2))) (
  aU (I64 ((I64 (a2*a5.gW))+a1)) λx6=>
  aa (rM N a5.gS x6 a3) λr7=>
  aa (dS N b2 a4 a5 a6 a7 a8 N (aB.mk (aV.mk (bL.mk 0 0 0) false (Vector.replicate 64 0)) true a5.gS x6 a3) (#v[0,0,0,0]) 0) λp8=>
  aa (tF N a5.gC9 a5.gW a5.gH a1 a2 p8.2) λr15=>
  aa (cD N a5 b2 a4 a6 N a7 a8 p8.1 (aJ.mk r15.1 r15.2.1 (-1)) (aA.mk 4294967296 4294967296 4294967296) (aA.mk 0 0 0) 0 false (aF.mk (aA.mk 0 0 0) 0 0 (aA.mk 0 0 0) (-1))) λp16=>
  some ((p16.1,p16.2.1,aF.mk p16.2.2.2.2.2.1 p16.2.2.2.2.2.2.2.2.gB6 p16.2.2.2.2.2.2.2.2.gK p16.2.2.2.2.2.2.2.2.gC6 p16.2.2.2.2.2.2.2.2.gA4,0)))
theorem aAB{N b2 a1 a2 a3 a4 a5 a6 a7 a8 r}(h:dW N b2 a1 a2 a3 a4 a5 a6 a7 a8=some r):FnM Tryz.prog 47 [.var (.st 38 [(aG.enc a4),(aI.enc a5),(.ifc 178 (.ref 1 [] 0)),(eO 2 1 (eL 2 aD.enc) b2),(aA.enc a6),(aE.enc a7)]),.var (aK.enc a8),.tail (b2.length*1)] [(.ref 0 [] 0),(j64 a1),(j64 a2),(j64 a3)] (.tup [(aF.enc r.2.2.1),(j64 r.2.2.2)]) [.var (.st 38 [(aG.enc a4),(aI.enc a5),(.ifc 178 (.ref 1 [] 0)),(eO 2 1 (eL 2 aD.enc) b2),(aA.enc a6),(aE.enc r.1)]),.var (aK.enc r.2.1),.tail (b2.length*1)]:=by
 unfold dW at h;refine At.f dG hT hmo Tryz.func47 rfl h ?_;refine At.o 3 (aB1 hT (t:=62) (x:=(.ref 0 [] 0)) (b:=true) (by kernel_rfl) rfl rfl (by kernel_rfl)) ?_;refine At.g [16] 5 ?_;refine At.o 0 (aGY (t:=172) (u:=178) (x:=(.ref 1 [] 0)) (by kernel_rfl) rfl rfl .eql false (by decide) (by kernel_rfl)) ?_;refine lx ?_;intro x1;refine lx ?_;intro x2;refine lx ?_;intro x3;refine lx ?_;intro x4;refine lx ?_;intro x5;refine At.g [16] 41 ?_;refine At.c 0 ?_ ?_
 ·apply rt;exact At.r 3
 ·refine lx ?_;intro x6;refine bi λr7 hr7=>?_;refine At.d 0 dE0 (dF 16 (.ref 4 [] 0) [] [.var (.st 72 [cv_6,(eB true),(k64 a5.gS),(j64 x6),(j64 a3)])] (bG (aM [] (aDS hr7))) dF0) ?_;refine At.L 2 [0,1,2,8,10,11] 7 (λp8=>([],[(4,.var (aB.enc p8.1)),(6,.var (eA 4 1 k32 p8.2))],[])) (λp8 J k=>∃s9 s10 s11,dS N b2 a4 a5 a6 a7 a8 k s9 s10 s11=some p8/\J [0,1,2,8,10,11] 7 [(84,(j64 s11))] [(4,.var (aB.enc s9)),(6,.var (eA 4 1 k32 s10))] []) N (λ_ h=>⟨_,_,_,h,jr⟩) (λp8 k s hI=>?_) λp8=>?_
  ·obtain⟨s9,s10,s11,h,hj⟩:=hI;cases k with
   | zero=>cases h
   | succ k=>
    refine At.jr hj ?_ h;refine At.c 1 ?_ ?_
    ·refine At.b 5 (λ_ e=>aM [5,0,4,1,2] (cP e)) λr12=>?_;refine At.b 0 (λ_ e=>bH hT (k:=1) 6 [] 0 e) λu13=>?_;refine At.b 0 (λ_ e=>oL hT k32 0 s10 e r12.2 (by kernel_rfl) (by kernel_rfl) (H':=[.var (.st 38 [(aG.enc a4),(aI.enc a5),(.ifc 178 (.ref 1 [] 0)),(eO 2 1 (eL 2 aD.enc) b2),(aA.enc a6),(aE.enc a7)]),.var (aK.enc a8),.tail (b2.length*1),.var cv_7,.var (.st 72 [(aV.enc r12.1),(eB s9.gA),(k64 s9.gC),(j64 s9.gB),(j64 s9.gD)]),.var cv_8,.var (eA 4 1 k32 (s10.setIfInBounds s11.toNat r12.2))])) λe14=>?_;exact λh=>At.k 2 ⟨_,_,_,h,jr⟩
    ·apply rt;exact At.x 0
  ·refine bi λr15 hr15=>?_;refine At.d 5 (dE2 20 (.tup [(aC.enc r15.1),(aC.enc r15.2.1),(j64 r15.2.2)]) (λ_=>aO (aFz hr15)) dE0) dF0 ?_;refine At.L 0 [8,10] 7 (λp16=>([],[(0,.var (.st 38 [(aG.enc a4),(aI.enc a5),(.ifc 178 (.ref 1 [] 0)),(eO 2 1 (eL 2 aD.enc) b2),(aA.enc a6),(aE.enc p16.1)])),(1,.var (aK.enc p16.2.1)),(4,.var (aB.enc p16.2.2.1)),(5,.var (.st 26 [(aJ.enc p16.2.2.2.1),(.ref 0 [] 0),(.ref 4 [] 0),(aA.enc p16.2.2.2.2.1),(aA.enc p16.2.2.2.2.2.1),(j64 p16.2.2.2.2.2.2.1),(eB p16.2.2.2.2.2.2.2.1),(aF.enc p16.2.2.2.2.2.2.2.2)]))],[])) (λp16 J k=>∃s17 s18 s19 s20 s21 s22 s23 s24 s25,cD N a5 b2 a4 a6 k s17 s18 s19 s20 s21 s22 s23 s24 s25=some p16/\J [0,8,10] 7 [] [(0,.var (.st 38 [(aG.enc a4),(aI.enc a5),(.ifc 178 (.ref 1 [] 0)),(eO 2 1 (eL 2 aD.enc) b2),(aA.enc a6),(aE.enc s17)])),(1,.var (aK.enc s18)),(4,.var (aB.enc s19)),(5,.var (.st 26 [(aJ.enc s20),(.ref 0 [] 0),(.ref 4 [] 0),(aA.enc s21),(aA.enc s22),(j64 s23),(eB s24),(aF.enc s25)]))] []) N (λ_ h=>⟨_,_,_,_,_,_,_,_,_,h,jr⟩) (λp16 k s hI=>?_) λp16=>?_
   ·obtain⟨s17,s18,s19,s20,s21,s22,s23,s24,s25,h,hj⟩:=hI;cases k with
    | zero=>cases h
    | succ k=>
     refine At.jr hj ?_ h;refine At.J 0 0 [0,8,10] 7 (λp26=>([(151,(eB p26))],[],[])) (λp26=>?_) λp26=>?_
     ·refine lx ?_;intro x27;refine boI (λhc10=>?_) (λhc10=>?_)
      ·refine boI (λhc16=>?_) (λhc16=>?_)
       ·refine At.d 0 (dE1 10 (λ_=>cO hc10 rfl (cF hT (im:=false) (by kernel_rfl))) (dE1 16 (λ_=>cO hc16 rfl (cF hT (im:=false) (by kernel_rfl))) dE0)) dF0 ?_;apply rt;exact At.jn 0
       ·refine At.d 0 (dE1 10 (λ_=>cO hc10 rfl (cF hT (im:=false) (by kernel_rfl))) (dE1 16 (λ_=>cO hc16 rfl (cF hT (im:=false) (by kernel_rfl))) dE0)) dF0 ?_;apply rt;exact At.jn 0
      ·refine At.d 0 (dE1 10 (λ_=>cO hc10 rfl (cF hT (im:=false) (by kernel_rfl))) dE0) dF0 ?_;apply rt;exact At.jn 0
     ·refine At.c 0 ?_ ?_
      ·refine At.b 1 (λ_ e=>aM [5,0,4,1,2] (aBv e)) λr28=>?_;exact λh=>At.k 8 ⟨_,_,_,_,_,_,_,_,_,h,jr⟩
      ·apply rt;exact At.x 0
   ·apply rt;exact At.r 15
def aLw : Nat->Bool:=imL [3]
def sG(N:Nat)(a0:(List aF))(a1:aG):Nat->Int->Option (Sum (Unit) (Int))
 | 0,_=>none
 | k+1,s4=>
  aU (decide (s4 < ((a0.length:Int)))) λx5=>
  cond x5 (
   aa (idx a0 s4) λe6=>
   aa (aU (decide (e6.gA4 < (-1))) λx8=>
   aU ((a1.gB0.length:Int)) λx9=>
   aU (fN ((a1.gR.length:Int)) x9) λx10=>
   aU (cond x8 true (decide (e6.gA4>=x10))) λx11=>
   cond x11 (
    some true) (
    aU (cond (e6.gB6 != 0) (e6.gB6 != 1) false) λx12=>
    some x12)) λp7=>
   cond p7 (some (Sum.inr 5)) (sG N a0 a1 k (I64 (s4+1)))) (
   some (Sum.inl (())))
def xH(N:Nat)(a0:(List aF))(a1:aG):Option (Int):=
 aU (((a0.length:Int))==0) λx1=>
 aU (decide (((a0.length:Int)) > 16)) λx2=>
 cond (cond x1 true x2) (
  some 2) (
  aa (sG N a0 a1 N 0) λo=>pD o (λp3=>
   some 0) (λr=>some r))
theorem aLk{N a0 a1 r}(h:xH N a0 a1=some r):FnM Tryz.prog 108 [] [(eL 9 aF.enc a0),(aG.enc a1)] (j64 r) []:=by
 unfold xH at h;refine At.f aLw hT hmo Tryz.func108 rfl h ?_;refine lx ?_;intro x1;refine lx ?_;intro x2;refine At.c 10 ?_ ?_
 ·apply rt;exact At.r 1
 ·refine At.LS 3 [] 0 (λp3=>([],[],[])) (λop3 J k=>∃s4,sG N a0 a1 k s4=some op3/\J [3,15,16] 0 [(17,(j64 s4))] [] []) N (λ_ h=>⟨_,h,jr⟩) (λop3 g3 k s hI=>?_) λp3=>?_
  ·obtain⟨s4,h,hj⟩:=hI;cases k with
   | zero=>cases h
   | succ k=>
    refine At.jr hj ?_ h;refine lx ?_;intro x5;refine At.c 1 ?_ ?_
    ·refine At.b 0 (λ_ e=>bT hT aF.enc e) λe6=>?_;refine At.J 3 0 [3,15,16,17] 1 (λp7=>([(45,(eB p7))],[],[])) (λp7=>?_) λp7=>?_
     ·refine lx ?_;intro x8;refine lx ?_;intro x9;refine lx ?_;intro x10;refine lx ?_;intro x11;refine At.s 36 16 ?_ ?_
      ·refine At.g [36,40] 9 ?_;apply rt;exact At.jn 0
      ·refine lx ?_;intro x12;refine At.g [36] 9 ?_;apply rt;exact At.jn 0
     ·refine At.c 0 ?_ ?_
      ·intro e;apply aBm g3 e;exact At.r 1
      ·exact λh=>At.k 2 ⟨_,h,jr⟩
    ·apply rt;exact At.xs 0
  ·apply rt;exact At.r 1
def tK(N:Nat)(a0:Int):Option (Int):=
 some (shr .i64 a0 32)
theorem aBn{N a0 r}(h:tK N a0=some r):FnM Tryz.prog 91 [] [(j64 a0)] (j64 r) []:=by
 unfold tK at h;refine At.f dG hT hmo Tryz.func91 rfl h ?_;apply rt;exact At.r 4
def rH(N:Nat)(a0:Int):Option (Int):=
 cond (decide (a0<=0)) (
  some 0) (
  aa (kF N ([a0,4294967296])) λr1=>
  aa (iZ N a0 r1) λr2=>
  aa (iR N 65535) λr3=>
  aa (xJ N ([r2,r3])) λr4=>
  aa (tK N r4) λr5=>
  some r5)
theorem aAG{N a0 r}(h:rH N a0=some r):FnM Tryz.prog 39 [] [(j64 a0)] (j64 r) []:=by
 unfold rH at h;refine At.f dG hT hmo Tryz.func39 rfl h ?_;refine At.c 3 ?_ ?_
 ·apply rt;exact At.r 1
 ·refine At.o 2 (bS hT (x:=(.sl 1 2 [(j64 a0),(j64 4294967296)]))) ?_;refine At.b 0 (λ_ e=>aM [] (pR e)) λr1=>?_;refine At.b 0 (λ_ e=>aM [] (lP e)) λr2=>?_;refine At.b 0 (λ_ e=>aM [] (iX e)) λr3=>?_;refine At.o 0 (bS hT (x:=(.sl 1 2 [(j64 r2),(j64 r3)]))) ?_;refine At.b 0 (λ_ e=>aM [] (aDr e)) λr4=>?_;refine At.b 0 (λ_ e=>aM [] (aBn e)) λr5=>?_;apply rt;exact At.r 1
def aEF : Nat->Bool:=imL [2]
def pC(N:Nat)(a0:aA):Option ((Vector Int 3)):=
 aa (rH N a0.gX) λr1=>
 aa (rH N a0.gY) λr2=>
 aa (rH N a0.gZ) λr3=>
 some (#v[r1,r2,r3])
theorem aDx{N a0 r}(h:pC N a0=some r):FnM Tryz.prog 110 [] [(aA.enc a0),(.fn (.func 39) [] [])] (eA 3 1 j64 r) []:=by
 unfold pC at h;refine At.f aEF hT hmo Tryz.func110 rfl h ?_;refine bi λr1 hr1=>?_;refine bi λr2 hr2=>?_;refine bi λr3 hr3=>?_;refine At.d 2 (dE2 3 (j64 r1) (λ_=>aO (aAG hr1)) (dE2 7 (j64 r2) (λ_=>aO (aAG hr2)) (dE2 11 (j64 r3) (λ_=>aO (aAG hr3)) dE0))) dF0 ?_;apply rt;exact At.r 0
def aHR : Nat->Bool:=imL [3,4]
def wY(N:Nat)(a0 a1:aA):Option (aA):=
 aa (iZ N a0.gX a1.gX) λr1=>
 aa (iZ N a0.gY a1.gY) λr2=>
 aa (iZ N a0.gZ a1.gZ) λr3=>
 some (aA.mk r1 r2 r3)
theorem aGQ{N a0 a1 r}(h:wY N a0 a1=some r):FnM Tryz.prog 198 [] [(aA.enc a0),(aA.enc a1),(.fn (.func 93) [] [])] (aA.enc r) []:=by
 unfold wY at h;refine At.f aHR hT hmo Tryz.func198 rfl h ?_;refine bi λr1 hr1=>?_;refine bi λr2 hr2=>?_;refine bi λr3 hr3=>?_;refine At.d 3 (dE2 5 (j64 r1) (λ_=>aO (lP hr1)) (dE2 11 (j64 r2) (λ_=>aO (lP hr2)) (dE2 17 (j64 r3) (λ_=>aO (lP hr3)) dE0))) dF0 ?_;apply rt;exact At.r 0
def aMi : Nat->Bool:=imL [1]
def aAd(N:Nat)(a0:aA):Option (aA):=
 cond (aA.eq a0 (aA.mk 0 0 0)) (
  some a0) (
  aa (nN N a0) λr1=>
  aa (wY N a0 (aA.mk r1 r1 r1)) λr2=>
  some r2)
theorem aLn{N a0 r}(h:aAd N a0=some r):FnM Tryz.prog 112 [] [(aA.enc a0)] (aA.enc r) []:=by
 unfold aAd at h;refine At.f aMi hT hmo Tryz.func112 rfl h ?_;refine At.o 4 (yG aT9 (a0:aA) (aA.mk 0 0 0:aA) (by kernel_rfl) (by kernel_rfl) (λ_=>rfl) (λ_=>rfl) (by kernel_rfl) (by kernel_rfl)) ?_;refine At.c 0 ?_ ?_
 ·apply rt;exact At.r 2
 ·refine At.b 1 (λ_ e=>aM [] (aBB e)) λr1=>?_;refine At.b 6 (λ_ e=>aM [] (aGQ e)) λr2=>?_;apply rt;exact At.r 1
def rJ(N:Nat)(a0:Int):Option (Int):=
 aa (iR N 32767) λr1=>
 aa (wC N a0 (-4294967296) 4294967296) λr2=>
 aa (kF N ([4294967296,r2])) λr3=>
 aa (xJ N ([r1,r3])) λr4=>
 aa (tK N r4) λr5=>
 some r5
theorem zT{N a0 r}(h:rJ N a0=some r):FnM Tryz.prog 40 [] [(j64 a0)] (j64 r) []:=by
 unfold rJ at h;refine At.f dG hT hmo Tryz.func40 rfl h ?_;refine At.b 1 (λ_ e=>aM [] (iX e)) λr1=>?_;refine At.b 1 (λ_ e=>aM [] (aEL e)) λr2=>?_;refine At.o 0 (bS hT (x:=(.sl 1 2 [(j64 4294967296),(j64 r2)]))) ?_;refine At.b 0 (λ_ e=>aM [] (pR e)) λr3=>?_;refine At.o 0 (bS hT (x:=(.sl 1 2 [(j64 r1),(j64 r3)]))) ?_;refine At.b 0 (λ_ e=>aM [] (aDr e)) λr4=>?_;refine At.b 0 (λ_ e=>aM [] (aBn e)) λr5=>?_;apply rt;exact At.r 1
def aEh : Nat->Bool:=imL [2]
def pM(N:Nat)(a0:aA):Option ((Vector Int 3)):=
 aa (rJ N a0.gX) λr1=>
 aa (rJ N a0.gY) λr2=>
 aa (rJ N a0.gZ) λr3=>
 some (#v[r1,r2,r3])
theorem aDk{N a0 r}(h:pM N a0=some r):FnM Tryz.prog 110 [] [(aA.enc a0),(.fn (.func 40) [] [])] (eA 3 1 j64 r) []:=by
 unfold pM at h;refine At.f aEh hT hmo Tryz.func110 rfl h ?_;refine bi λr1 hr1=>?_;refine bi λr2 hr2=>?_;refine bi λr3 hr3=>?_;refine At.d 2 (dE2 3 (j64 r1) (λ_=>aO (zT hr1)) (dE2 7 (j64 r2) (λ_=>aO (zT hr2)) (dE2 11 (j64 r3) (λ_=>aO (zT hr3)) dE0))) dF0 ?_;apply rt;exact At.r 0
def xG(N:Nat)(a0:Int):Option (Int):=
 aa (tK N a0) λr1=>
 some (fN (jR r1 0) 65535)
theorem aFm{N a0 r}(h:xG N a0=some r):FnM Tryz.prog 41 [] [(j64 a0)] (j64 r) []:=by
 unfold xG at h;refine At.f dG hT hmo Tryz.func41 rfl h ?_;refine At.b 2 (λ_ e=>aM [] (aBn e)) λr1=>?_;apply rt;exact At.r 3
def aKJ : Nat->Bool:=imL [3]
def oU(N:Nat)(a0:(List aF)):Nat->aA->aA->Int->Int->Int->Int->Int->Option (aA×aA×Int×Int×Int×Int)
 | 0,_,_,_,_,_,_,_=>none
 | k+1,s3,s4,s5,s6,s7,s8,s9=>
  aU (decide (s9 < ((a0.length:Int)))) λx10=>
  cond x10 (
   aa (aa (idx a0 s9) λe12=>
   aa (kC N ([s3,e12.gB5])) λr13=>
   aa (kC N ([s4,e12.gC6])) λr14=>
   aa (kF N ([s5,e12.gK])) λr15=>
   cond (decide (e12.gA4>=0)) (
    cond (decide (s8 < 0)) (
     some ((r13,r14,e12,r15,I64 (s6+e12.gB6),I64 (s7+1),e12.gA4))) (
     some ((r13,r14,e12,r15,I64 (s6+e12.gB6),I64 (s7+1),s8)))) (
    some ((r13,r14,e12,r15,I64 (s6+e12.gB6),s7,s8)))) λp11=>
   oU N a0 k p11.1 p11.2.1 p11.2.2.2.1 p11.2.2.2.2.1 p11.2.2.2.2.2.1 p11.2.2.2.2.2.2 (I64 (s9+1))) (
   some ((s3,s4,s5,s6,s7,s8)))
def pI(N:Nat)(a0:(List aF))(a1:aG):Option (cK×Int):=
 aa (xH N a0 a1) λr1=>
 cond (r1 != 0) (
  some ((cK.mk 0 0 [] [] [] [] [] [],r1))) (
  aa (oU N a0 N (aA.mk 0 0 0) (aA.mk 0 0 0) 0 0 0 (-1) 0) λp2=>
  aa (iR N ((a0.length:Int))) λr16=>
  aa (iZ N 4294967296 r16) λr17=>
  aa (fP N p2.1 r17) λr18=>
  aa (pC N r18) λr19=>
  aU (I64 (65535*p2.2.2.2.1)) λx20=>
  aa (aIU .i64 x20 ((a0.length:Int))) λx21=>
  aa (aAd N p2.2.1) λr22=>
  aa (pM N r22) λr23=>
  aa (aU (decide (p2.2.2.2.2.1 > 0)) λx25=>
  cond x25 (
   aa (iR N p2.2.2.2.2.1) λr26=>
   aa (iZ N p2.2.2.1 r26) λr27=>
   aa (xG N r27) λr28=>
   aa (fM 0 1) λ_=>
   aa ((([0]:List Int))[(bm 0)]?) λe30=>
   aU (fN (I64 (p2.2.2.2.2.2+1)) 65535) λx31=>
   aa (idx a1.gB0 p2.2.2.2.2.2) λe32=>
   aU (I64 (fI .u32 e32 65535)) λx33=>
   aa (fM 0 1) λ_=>
   aa ((([0]:List Int))[(bm 0)]?) λe35=>
   aa (fM 0 1) λ_=>
   aa ((([0]:List Int))[(bm 0)]?) λe37=>
   some (((([0]:List Int)).set ((bm 0)) r28,(([0]:List Int)).set ((bm 0)) x31,(([0]:List Int)).set ((bm 0)) x33))) (
   some ((([0]:List Int),([0]:List Int),([0]:List Int))))) λp24=>
  aa (aAl p24.1 1) λ_=>
  aa (aAl p24.2.1 1) λ_=>
  aa (aAl p24.2.2 1) λ_=>
  some ((cK.mk 1 1 ([r19]) ([x21]) p24.1 ([r23]) p24.2.1 p24.2.2,0)))
theorem aDb{N a0 a1 r}(h:pI N a0 a1=some r):FnM Tryz.prog 48 [] [(eL 9 aF.enc a0),(aG.enc a1)] (.tup [(cK.enc r.1),(j64 r.2)]) []:=by
 unfold pI at h;refine At.f aKJ hT hmo Tryz.func48 rfl h ?_;refine At.b 5 (λ_ e=>aM [] (aLk e)) λr1=>?_;refine At.c 3 ?_ ?_
 ·apply rt;exact At.r 4
 ·refine At.L 9 [0,3,4,7,8] 3 (λp2=>([(9,(j64 p2.2.2.1)),(10,(j64 p2.2.2.2.1)),(11,(j64 p2.2.2.2.2.1)),(12,(j64 p2.2.2.2.2.2))],[(1,.var (aA.enc p2.1)),(2,.var (aA.enc p2.2.1))],[])) (λp2 J k=>∃s3 s4 s5 s6 s7 s8 s9,oU N a0 k s3 s4 s5 s6 s7 s8 s9=some p2/\J [0,3,4,7,8,24,25] 3 [(9,(j64 s5)),(10,(j64 s6)),(11,(j64 s7)),(12,(j64 s8)),(26,(j64 s9))] [(1,.var (aA.enc s3)),(2,.var (aA.enc s4))] []) N (λ_ h=>⟨_,_,_,_,_,_,_,h,jr⟩) (λp2 k s hI=>?_) λp2=>?_
  ·obtain⟨s3,s4,s5,s6,s7,s8,s9,h,hj⟩:=hI;cases k with
   | zero=>cases h
   | succ k=>
    refine At.jr hj ?_ h;refine lx ?_;intro x10;refine At.c 1 ?_ ?_
    ·refine At.J 0 2 [0,3,4,7,8,24,25,26] 3 (λp11=>([(9,(j64 p11.2.2.2.1)),(10,(j64 p11.2.2.2.2.1)),(11,(j64 p11.2.2.2.2.2.1)),(12,(j64 p11.2.2.2.2.2.2))],[(1,.var (aA.enc p11.1)),(2,.var (aA.enc p11.2.1))],[.var (aF.enc p11.2.2.1)])) (λp11=>?_) λp11=>?_
     ·refine At.b 0 (λ_ e=>bT hT aF.enc e) λe12=>?_;refine bi λr13 hr13=>?_;refine bi λr14 hr14=>?_;refine bi λr15 hr15=>?_;refine At.d 3 (dE1 3 (λ_=>bS hT (x:=(.sl 3 2 [(aA.enc s3),(aA.enc e12.gB5)]))) (dE2 4 (aA.enc r13) (λ_=>aO (tM hr13)) (dE1 8 (λ_=>bS hT (x:=(.sl 3 2 [(aA.enc s4),(aA.enc e12.gC6)]))) (dE2 9 (aA.enc r14) (λ_=>aO (tM hr14)) (dE1 13 (λ_=>bS hT (x:=(.sl 1 2 [(j64 s5),(j64 e12.gK)]))) (dE2 14 (j64 r15) (λ_=>aO (pR hr15)) dE0)))))) dF0 ?_;refine At.c 8 ?_ ?_
      ·refine At.c 5 ?_ ?_
       ·apply rt;exact At.jn 3
       ·apply rt;exact At.jn 0
      ·apply rt;exact At.jn 0
     ·exact λh=>At.k 2 ⟨_,_,_,_,_,_,_,h,jr⟩
    ·apply rt;exact At.x 0
  ·refine At.b 2 (λ_ e=>aM [] (iX e)) λr16=>?_;refine At.b 0 (λ_ e=>aM [] (lP e)) λr17=>?_;refine bi λr18 hr18=>?_;refine bi λr19 hr19=>?_;refine lx ?_;intro x20;refine bi λx21 hx21=>?_;refine bi λr22 hr22=>?_;refine bi λr23 hr23=>?_;refine At.d2 1 [false,false,false,false] (dC2 2 (aA.enc r18) (λ_=>aO (jS hr18)) (dC2 3 (eA 3 1 j64 r19) (λ_=>aO (aDx hr19)) (dC1 4 (λ_=>bS hT (x:=(.sl 3 1 [(eA 3 1 j64 r19)]))) (dC1 9 (λ_=>aDD hT hx21 (by kernel_rfl) (by kernel_rfl)) (dC1 10 (λ_=>bS hT (x:=(.sl 1 1 [(j64 x21)]))) (dC2 13 (aA.enc r22) (λ_=>aO (aLn hr22)) (dC2 14 (eA 3 1 j64 r23) (λ_=>aO (aDk hr23)) (dC1 15 (λ_=>bS hT (x:=(.sl 3 1 [(eA 3 1 j64 r23)]))) dC0)))))))) (dS1 11 ⟨(.bsl 3 [] 0 1 0 1),3,.var (.arr 1 1 (ai j64 (([0]:List Int)))),.dead⟩ [[.var oO,.var (aA.enc p2.1),.var (aA.enc p2.2.1),.dead,.dead,.dead,.dead],[.var oO,.var (aA.enc p2.1),.var (aA.enc p2.2.1),.dead,.dead,.dead,.var oO],[.var oO,.var (aA.enc p2.1),.var (aA.enc p2.2.1),.dead,.dead,.var (.arr 1 1 (ai j64 (([0]:List Int)))),.dead],[.var oO,.var (aA.enc p2.1),.var (aA.enc p2.2.1),.dead,.dead,.var (.arr 1 1 (ai j64 (([0]:List Int)))),.var oO],[.var oO,.var (aA.enc p2.1),.var (aA.enc p2.2.1),.dead,.var (.arr 1 1 (ai j64 (([0]:List Int)))),.dead,.dead],[.var oO,.var (aA.enc p2.1),.var (aA.enc p2.2.1),.dead,.var (.arr 1 1 (ai j64 (([0]:List Int)))),.dead,.var oO],[.var oO,.var (aA.enc p2.1),.var (aA.enc p2.2.1),.dead,.var (.arr 1 1 (ai j64 (([0]:List Int)))),.var (.arr 1 1 (ai j64 (([0]:List Int)))),.dead],[.var oO,.var (aA.enc p2.1),.var (aA.enc p2.2.1),.dead,.var (.arr 1 1 (ai j64 (([0]:List Int)))),.var (.arr 1 1 (ai j64 (([0]:List Int)))),.var oO]] ⟨fD hT 3 j64 (k:=1) (N:=1) ([0]:List Int) (by kernel_rfl) (by kernel_rfl) rfl (by kernel_rfl),fD hT 3 j64 (k:=1) (N:=1) ([0]:List Int) (by kernel_rfl) (by kernel_rfl) rfl (by kernel_rfl),fD hT 3 j64 (k:=1) (N:=1) ([0]:List Int) (by kernel_rfl) (by kernel_rfl) rfl (by kernel_rfl),fD hT 3 j64 (k:=1) (N:=1) ([0]:List Int) (by kernel_rfl) (by kernel_rfl) rfl (by kernel_rfl),fD hT 3 j64 (k:=1) (N:=1) ([0]:List Int) (by kernel_rfl) (by kernel_rfl) rfl (by kernel_rfl),fD hT 3 j64 (k:=1) (N:=1) ([0]:List Int) (by kernel_rfl) (by kernel_rfl) rfl (by kernel_rfl),fD hT 3 j64 (k:=1) (N:=1) ([0]:List Int) (by kernel_rfl) (by kernel_rfl) rfl (by kernel_rfl),fD hT 3 j64 (k:=1) (N:=1) ([0]:List Int) (by kernel_rfl) (by kernel_rfl) rfl (by kernel_rfl),trivial⟩ (dS1 16 ⟨(.bsl 4 [] 0 1 0 1),4,.var (.arr 1 1 (ai j64 (([0]:List Int)))),.dead⟩ [[.var oO,.var (aA.enc p2.1),.var (aA.enc p2.2.1),.dead,.dead,.dead,.dead],[.var oO,.var (aA.enc p2.1),.var (aA.enc p2.2.1),.dead,.dead,.dead,.var oO],[.var oO,.var (aA.enc p2.1),.var (aA.enc p2.2.1),.dead,.dead,.var (.arr 1 1 (ai j64 (([0]:List Int)))),.dead],[.var oO,.var (aA.enc p2.1),.var (aA.enc p2.2.1),.dead,.dead,.var (.arr 1 1 (ai j64 (([0]:List Int)))),.var oO],[.var oO,.var (aA.enc p2.1),.var (aA.enc p2.2.1),.var (.arr 1 1 (ai j64 (([0]:List Int)))),.dead,.dead,.dead],[.var oO,.var (aA.enc p2.1),.var (aA.enc p2.2.1),.var (.arr 1 1 (ai j64 (([0]:List Int)))),.dead,.dead,.var oO],[.var oO,.var (aA.enc p2.1),.var (aA.enc p2.2.1),.var (.arr 1 1 (ai j64 (([0]:List Int)))),.dead,.var (.arr 1 1 (ai j64 (([0]:List Int)))),.dead],[.var oO,.var (aA.enc p2.1),.var (aA.enc p2.2.1),.var (.arr 1 1 (ai j64 (([0]:List Int)))),.dead,.var (.arr 1 1 (ai j64 (([0]:List Int)))),.var oO]] ⟨fD hT 4 j64 (k:=1) (N:=1) ([0]:List Int) (by kernel_rfl) (by kernel_rfl) rfl (by kernel_rfl),fD hT 4 j64 (k:=1) (N:=1) ([0]:List Int) (by kernel_rfl) (by kernel_rfl) rfl (by kernel_rfl),fD hT 4 j64 (k:=1) (N:=1) ([0]:List Int) (by kernel_rfl) (by kernel_rfl) rfl (by kernel_rfl),fD hT 4 j64 (k:=1) (N:=1) ([0]:List Int) (by kernel_rfl) (by kernel_rfl) rfl (by kernel_rfl),fD hT 4 j64 (k:=1) (N:=1) ([0]:List Int) (by kernel_rfl) (by kernel_rfl) rfl (by kernel_rfl),fD hT 4 j64 (k:=1) (N:=1) ([0]:List Int) (by kernel_rfl) (by kernel_rfl) rfl (by kernel_rfl),fD hT 4 j64 (k:=1) (N:=1) ([0]:List Int) (by kernel_rfl) (by kernel_rfl) rfl (by kernel_rfl),fD hT 4 j64 (k:=1) (N:=1) ([0]:List Int) (by kernel_rfl) (by kernel_rfl) rfl (by kernel_rfl),trivial⟩ (dS1 17 ⟨(.bsl 5 [] 0 1 0 1),5,.var (.arr 1 1 (ai j64 (([0]:List Int)))),.dead⟩ [[.var oO,.var (aA.enc p2.1),.var (aA.enc p2.2.1),.dead,.dead,.dead,.dead],[.var oO,.var (aA.enc p2.1),.var (aA.enc p2.2.1),.dead,.dead,.dead,.var oO],[.var oO,.var (aA.enc p2.1),.var (aA.enc p2.2.1),.dead,.var (.arr 1 1 (ai j64 (([0]:List Int)))),.dead,.dead],[.var oO,.var (aA.enc p2.1),.var (aA.enc p2.2.1),.dead,.var (.arr 1 1 (ai j64 (([0]:List Int)))),.dead,.var oO],[.var oO,.var (aA.enc p2.1),.var (aA.enc p2.2.1),.var (.arr 1 1 (ai j64 (([0]:List Int)))),.dead,.dead,.dead],[.var oO,.var (aA.enc p2.1),.var (aA.enc p2.2.1),.var (.arr 1 1 (ai j64 (([0]:List Int)))),.dead,.dead,.var oO],[.var oO,.var (aA.enc p2.1),.var (aA.enc p2.2.1),.var (.arr 1 1 (ai j64 (([0]:List Int)))),.var (.arr 1 1 (ai j64 (([0]:List Int)))),.dead,.dead],[.var oO,.var (aA.enc p2.1),.var (aA.enc p2.2.1),.var (.arr 1 1 (ai j64 (([0]:List Int)))),.var (.arr 1 1 (ai j64 (([0]:List Int)))),.dead,.var oO]] ⟨fD hT 5 j64 (k:=1) (N:=1) ([0]:List Int) (by kernel_rfl) (by kernel_rfl) rfl (by kernel_rfl),fD hT 5 j64 (k:=1) (N:=1) ([0]:List Int) (by kernel_rfl) (by kernel_rfl) rfl (by kernel_rfl),fD hT 5 j64 (k:=1) (N:=1) ([0]:List Int) (by kernel_rfl) (by kernel_rfl) rfl (by kernel_rfl),fD hT 5 j64 (k:=1) (N:=1) ([0]:List Int) (by kernel_rfl) (by kernel_rfl) rfl (by kernel_rfl),fD hT 5 j64 (k:=1) (N:=1) ([0]:List Int) (by kernel_rfl) (by kernel_rfl) rfl (by kernel_rfl),fD hT 5 j64 (k:=1) (N:=1) ([0]:List Int) (by kernel_rfl) (by kernel_rfl) rfl (by kernel_rfl),fD hT 5 j64 (k:=1) (N:=1) ([0]:List Int) (by kernel_rfl) (by kernel_rfl) rfl (by kernel_rfl),fD hT 5 j64 (k:=1) (N:=1) ([0]:List Int) (by kernel_rfl) (by kernel_rfl) rfl (by kernel_rfl),trivial⟩ (dS1 19 ⟨(.ref 6 [] 0),6,.var oO,.dead⟩ [[.var oO,.var (aA.enc p2.1),.var (aA.enc p2.2.1),.dead,.dead,.dead,.dead],[.var oO,.var (aA.enc p2.1),.var (aA.enc p2.2.1),.dead,.dead,.var (.arr 1 1 (ai j64 (([0]:List Int)))),.dead],[.var oO,.var (aA.enc p2.1),.var (aA.enc p2.2.1),.dead,.var (.arr 1 1 (ai j64 (([0]:List Int)))),.dead,.dead],[.var oO,.var (aA.enc p2.1),.var (aA.enc p2.2.1),.dead,.var (.arr 1 1 (ai j64 (([0]:List Int)))),.var (.arr 1 1 (ai j64 (([0]:List Int)))),.dead],[.var oO,.var (aA.enc p2.1),.var (aA.enc p2.2.1),.var (.arr 1 1 (ai j64 (([0]:List Int)))),.dead,.dead,.dead],[.var oO,.var (aA.enc p2.1),.var (aA.enc p2.2.1),.var (.arr 1 1 (ai j64 (([0]:List Int)))),.dead,.var (.arr 1 1 (ai j64 (([0]:List Int)))),.dead],[.var oO,.var (aA.enc p2.1),.var (aA.enc p2.2.1),.var (.arr 1 1 (ai j64 (([0]:List Int)))),.var (.arr 1 1 (ai j64 (([0]:List Int)))),.dead,.dead],[.var oO,.var (aA.enc p2.1),.var (aA.enc p2.2.1),.var (.arr 1 1 (ai j64 (([0]:List Int)))),.var (.arr 1 1 (ai j64 (([0]:List Int)))),.var (.arr 1 1 (ai j64 (([0]:List Int)))),.dead]] ⟨aW hT 6 (by kernel_rfl) (by kernel_rfl) (by kernel_rfl),aW hT 6 (by kernel_rfl) (by kernel_rfl) (by kernel_rfl),aW hT 6 (by kernel_rfl) (by kernel_rfl) (by kernel_rfl),aW hT 6 (by kernel_rfl) (by kernel_rfl) (by kernel_rfl),aW hT 6 (by kernel_rfl) (by kernel_rfl) (by kernel_rfl),aW hT 6 (by kernel_rfl) (by kernel_rfl) (by kernel_rfl),aW hT 6 (by kernel_rfl) (by kernel_rfl) (by kernel_rfl),aW hT 6 (by kernel_rfl) (by kernel_rfl) (by kernel_rfl),trivial⟩ dS0)))) ?_;refine At.J 0 1 [4,16] 7 (λp24=>([],[(3,.var (.arr 1 1 (ai j64 p24.1))),(4,.var (.arr 1 1 (ai j64 p24.2.1))),(5,.var (.arr 1 1 (ai j64 p24.2.2)))],[])) (λp24=>?_) λp24=>?_
   ·refine lx ?_;intro x25;refine At.c 2 ?_ ?_
    ·refine bi λr26 hr26=>?_;refine bi λr27 hr27=>?_;refine bi λr28 hr28=>?_;refine bi λu29 hu29=>?_;refine bi λe30 he30=>?_;refine At.d 0 (dE2 4 (j64 r26) (λ_=>aO (iX hr26)) (dE2 5 (j64 r27) (λ_=>aO (lP hr27)) (dE2 6 (j64 r28) (λ_=>aO (aFm hr28)) (dE1 7 (λ_=>aGg hT 3 [] 0 0 1 (k:=1) hu29 (by kernel_rfl) (by kernel_rfl)) dE0)))) (dF 8 (.v (.bool false)) [(3,.var (.arr 1 1 (ai j64 ((([0]:List Int)).set ((bm 0)) r28))))] [] (bG (aGp hT j64 0 he30 r28 (by kernel_rfl) (by kernel_rfl) (by kernel_rfl))) dF0) ?_;refine lx ?_;intro x31;refine bi λe32 he32=>?_;refine lx ?_;intro x33;refine bi λu34 hu34=>?_;refine bi λe35 he35=>?_;refine bi λu36 hu36=>?_;refine bi λe37 he37=>?_;refine At.d 0 (dE1 10 (λ_=>bT hT k32 he32) (dE1 14 (λ_=>aGg hT 4 [] 0 0 1 (k:=1) hu34 (by kernel_rfl) (by kernel_rfl)) (dE1 16 (λ_=>aGg hT 5 [] 0 0 1 (k:=1) hu36 (by kernel_rfl) (by kernel_rfl)) dE0))) (dF 15 (.v (.bool false)) [(4,.var (.arr 1 1 (ai j64 ((([0]:List Int)).set ((bm 0)) x31))))] [] (bG (aGp hT j64 0 he35 x31 (by kernel_rfl) (by kernel_rfl) (by kernel_rfl))) (dF 17 (.v (.bool false)) [(5,.var (.arr 1 1 (ai j64 ((([0]:List Int)).set ((bm 0)) x33))))] [] (bG (aGp hT j64 0 he37 x33 (by kernel_rfl) (by kernel_rfl) (by kernel_rfl))) dF0)) ?_;apply rt;exact At.jn 0
    ·apply rt;exact At.jn 0
   ·refine bi λu38 hu38=>?_;refine At.fz 3 3 1 1 _ (ai j64 p24.1) (bd _) (lenM j64 hu38) ?_;refine bi λu39 hu39=>?_;refine At.fz 0 4 1 1 _ (ai j64 p24.2.1) (bd _) (lenM j64 hu39) ?_;refine bi λu40 hu40=>?_;refine At.fz 0 5 1 1 _ (ai j64 p24.2.2) (bd _) (lenM j64 hu40) ?_;apply rt;exact At.r 0
def sJ(N:Nat)(a0:aK):Option (Int):=
 aa (eZ N a0) λr1=>
 cond r1 (some 0) (some a0.gD9.gn)
theorem aB7{N a0 r}(h:sJ N a0=some r):FnM Tryz.prog 366 [.var (aK.enc a0)] [(.ref 0 [] 0)] (j64 r) [.var (aK.enc a0)]:=by
 unfold sJ at h;refine At.f dG hT hmo Tryz.func366 rfl h ?_;refine At.b 2 (λ_ e=>aM [0] (sK e)) λr1=>?_;refine At.c 0 ?_ ?_
 ·apply rt;exact At.r 1
 ·apply rt;exact At.r 6
def jN(N:Nat)(b2:(List (List aD)))(a1:aG)(a2:aI)(a3:aA)(a4:aE)(a5:aK):Option (aE):=
 aa (sJ N a5) λr1=>
 some (aE.mk r1 a4.gQ a4.gM)
theorem aAn{N b2 a1 a2 a3 a4 a5 r}(h:jN N b2 a1 a2 a3 a4 a5=some r):FnM Tryz.prog 49 [.var (.st 38 [(aG.enc a1),(aI.enc a2),(.ifc 178 (.ref 1 [] 0)),(eO 2 1 (eL 2 aD.enc) b2),(aA.enc a3),(aE.enc a4)]),.var (aK.enc a5),.tail (b2.length*1)] [(.ref 0 [] 0)] (aE.enc r) [.var (.st 38 [(aG.enc a1),(aI.enc a2),(.ifc 178 (.ref 1 [] 0)),(eO 2 1 (eL 2 aD.enc) b2),(aA.enc a3),(aE.enc a4)]),.var (aK.enc a5),.tail (b2.length*1)]:=by
 unfold jN at h;refine At.f dG hT hmo Tryz.func49 rfl h ?_;refine At.o 2 (aB1 hT (t:=62) (x:=(.ref 0 [] 0)) (b:=true) (by kernel_rfl) rfl rfl (by kernel_rfl)) ?_;refine At.g [6] 5 ?_;refine At.o 0 (aGY (t:=172) (u:=178) (x:=(.ref 1 [] 0)) (by kernel_rfl) rfl rfl .eql false (by decide) (by kernel_rfl)) ?_;refine At.g [6] 12 ?_;refine At.b 0 (λ_ e=>aM [1] (aB7 e)) λr1=>?_;apply rt;exact At.r 4
def eE(N:Nat)(b4:(List (List aD)))(a1:Int)(a2:aJ)(a3 a4:aA)(a5:Int)(a6:Bool)(a7:aF)(a8:aG)(a9:aI)(a10:aA)(a11:aE)(a12:aB)(a13:aL):Option (aV×Int):=
 aa (eF N a5 a1 a12) λr1=>
 some ((r1.1,r1.2))
theorem dO{N b4 a1 a2 a3 a4 a5 a6 a7 a8 a9 a10 a11 a12 a13 r}(h:eE N b4 a1 a2 a3 a4 a5 a6 a7 a8 a9 a10 a11 a12 a13=some r):FnM Tryz.prog 105 [.var (.st 26 [(aJ.enc a2),(.ref 1 [] 0),(.ref 2 [] 0),(aA.enc a3),(aA.enc a4),(j64 a5),(eB a6),(aF.enc a7)]),.var (.st 38 [(aG.enc a8),(aI.enc a9),(.ifc 181 (.ref 3 [] 0)),(eO 4 1 (eL 2 aD.enc) b4),(aA.enc a10),(aE.enc a11)]),.var (aB.enc a12),.var (aL.enc a13),.tail (b4.length*1)] [(.ref 0 [] 0),(j64 a1)] (k32 r.2) [.var (.st 26 [(aJ.enc a2),(.ref 1 [] 0),(.ref 2 [] 0),(aA.enc a3),(aA.enc a4),(j64 a5),(eB a6),(aF.enc a7)]),.var (.st 38 [(aG.enc a8),(aI.enc a9),(.ifc 181 (.ref 3 [] 0)),(eO 4 1 (eL 2 aD.enc) b4),(aA.enc a10),(aE.enc a11)]),.var (.st 72 [(aV.enc r.1),(eB a12.gA),(k64 a12.gC),(j64 a12.gB),(j64 a12.gD)]),.var (aL.enc a13),.tail (b4.length*1)]:=by
 unfold eE at h;refine At.f dG hT hmo Tryz.func105 rfl h ?_;refine bi λr1 hr1=>?_;refine At.d 1 dE0 (dF 9 (k32 r1.2) [(2,.var (.st 72 [(aV.enc r1.1),(eB a12.gA),(k64 a12.gC),(j64 a12.gB),(j64 a12.gD)]))] [] (bG (aM [2] (uN hr1))) dF0) ?_;apply rt;exact At.r 0
def fV(N:Nat)(a0:aL):Option (Bool):=
 some (!a0.gA)
theorem uT{N a0 r}(h:fV N a0=some r):FnM Tryz.prog 379 [.var (aL.enc a0)] [(.ref 0 [] 0)] (eB r) [.var (aL.enc a0)]:=by
 unfold fV at h;refine At.f dG hT hmo Tryz.func379 rfl h ?_;refine At.o 2 (aB1 hT (t:=181) (x:=(.ref 0 [] 0)) (b:=true) (by kernel_rfl) rfl rfl (by kernel_rfl)) ?_;refine At.g [5] 8 ?_;apply rt;exact At.r 0
def aEY : Nat->Bool:=imL [2,3]
def eJ(N:Nat)(a0 a1:aY):Option (Bool):=
 aa (fS N a0.gn a1.gd) λr1=>
 aa (fS N a1.gn a0.gd) λr2=>
 aa (oD N r1 r2) λr3=>
 some (decide (r3 < 0))
theorem lQ{N a0 a1 r}(h:eJ N a0 a1=some r):FnM Tryz.prog 382 [] [(aY.enc a0),(aY.enc a1)] (eB r) []:=by
 unfold eJ at h;refine At.f aEY hT hmo Tryz.func382 rfl h ?_;refine bi λr1 hr1=>?_;refine bi λr2 hr2=>?_;refine bi λr3 hr3=>?_;refine At.d 3 (dE2 4 (aS.enc r1) (λ_=>aO (lB hr1)) (dE2 9 (aS.enc r2) (λ_=>aO (lB hr2)) (dE2 10 (j64 r3) (λ_=>aO (aAy hr3)) dE0))) dF0 ?_;apply rt;exact At.r 0
def aLE : Nat->Bool:=imL [4,5,6,7]
def kK(N:Nat)(a0 a1 a2 a3:aC):Nat->aY->aY->Bool->Int->Option (Sum (aY×aY×Bool) (aY×Bool))
 | 0,_,_,_,_=>none
 | k+1,s2,s3,s4,s5=>
  cond (decide (s5 < 3)) (
   aa (aa (idx (#v[#v[a0.gX,a1.gX,a2.gX,a3.gX],#v[a0.gY,a1.gY,a2.gY,a3.gY],#v[a0.gZ,a1.gZ,a2.gZ,a3.gZ]]).toList s5) λe7=>
   aa (fM 0 4) λ_=>
   aa (e7.toList[(bm 0)]?) λe9=>
   aa (fM 2 4) λ_=>
   aa (e7.toList[(bm 2)]?) λe11=>
   aa (fM 1 4) λ_=>
   aa (e7.toList[(bm 1)]?) λe13=>
   aa (fM 2 4) λ_=>
   aa (e7.toList[(bm 2)]?) λe15=>
   aa (fM 3 4) λ_=>
   aa (e7.toList[(bm 3)]?) λe17=>
   aU (decide ((I64 (e9 - e11)) > (I64 (e13 - e15)))) λx18=>
   cond x18 (
    some (Sum.inr ((s2,false)))) (
    aa (cond (e17==0) (
     aU (decide ((I64 (e9 - e11)) > 0)) λx20=>
     aU (decide ((I64 (e13 - e15)) < 0)) λx21=>
     some (cond x20 true x21)) (
     some false)) λp19=>
    cond p19 (
     some (Sum.inr ((s2,false)))) (
     cond (e17==0) (
      some (Sum.inl ((s2,s3,e7,s4)))) (
      cond (decide (e17 < 0)) (
       aU (I64 (0 - (I64 (e13 - e15)))) λx22=>
       aU (I64 (0 - (I64 (e9 - e11)))) λx23=>
       aa (aa (eJ N s2 (aY.mk x22 (I64 (0 - e17)))) λr25=>
       cond r25 (some (aY.mk x22 (I64 (0 - e17)))) (some s2)) λp24=>
       aa (cond (!s4) (
        some true) (
        aa (eJ N (aY.mk x23 (I64 (0 - e17))) s3) λr27=>
        some r27)) λp26=>
       cond p26 (
        some (Sum.inl ((p24,aY.mk x23 (I64 (0 - e17)),e7,true)))) (
        some (Sum.inl ((p24,s3,e7,s4))))) (
       aa (aa (eJ N s2 (aY.mk (I64 (e9 - e11)) e17)) λr29=>
       cond r29 (some (aY.mk (I64 (e9 - e11)) e17)) (some s2)) λp28=>
       aa (cond (!s4) (
        some true) (
        aa (eJ N (aY.mk (I64 (e13 - e15)) e17) s3) λr31=>
        some r31)) λp30=>
       cond p30 (
        some (Sum.inl ((p28,aY.mk (I64 (e13 - e15)) e17,e7,true)))) (
        some (Sum.inl ((p28,s3,e7,s4))))))))) λo=>pD o (λp6=>
    kK N a0 a1 a2 a3 k p6.1 p6.2.1 p6.2.2.2 (I64 (s5+1))) (λr=>some (Sum.inr r))) (
   some (Sum.inl ((s2,s3,s4))))
def pB(N:Nat)(a0 a1 a2 a3:aC):Option (aY×Bool):=
 aa (kK N a0 a1 a2 a3 N (aY.mk 0 1) (aY.mk 0 0) false 0) λo=>pD o (λp1=>
  aa (cond (!p1.2.2) (
   some true) (
   aa (eJ N p1.2.1 p1.1) λr33=>
   some (!r33))) λp32=>
  some ((p1.1,p32))) (λr=>some r)
theorem aEl{N a0 a1 a2 a3 r}(h:pB N a0 a1 a2 a3=some r):FnM Tryz.prog 380 [] [(aC.enc a0),(aC.enc a1),(aC.enc a2),(aC.enc a3)] (.tup [(aY.enc r.1),(eB r.2)]) []:=by
 unfold pB at h;refine At.f aLE hT hmo Tryz.func380 rfl h ?_;refine At.LS 41 [8,10] 2 (λp1=>([(11,(eB p1.2.2))],[(0,.var (aY.enc p1.1)),(1,.var (aY.enc p1.2.1))],[])) (λop1 J k=>∃s2 s3 s4 s5,kK N a0 a1 a2 a3 k s2 s3 s4 s5=some op1/\J [8,10,48] 2 [(11,(eB s4)),(49,(j64 s5))] [(0,.var (aY.enc s2)),(1,.var (aY.enc s3))] []) N (λ_ h=>⟨_,_,_,_,h,jr⟩) (λop1 g1 k s hI=>?_) λp1=>?_
 ·obtain⟨s2,s3,s4,s5,h,hj⟩:=hI;cases k with
  | zero=>cases h
  | succ k=>
   refine At.jr hj ?_ h;refine At.c 1 ?_ ?_
   ·refine At.JS 0 2 [8,10,48,49] 2 (λp6=>([(11,(eB p6.2.2.2))],[(0,.var (aY.enc p6.1)),(1,.var (aY.enc p6.2.1))],[.var (eA 4 1 j64 p6.2.2.1)])) (λop6 g6=>?_) λp6=>?_
    ·refine At.b 0 (λ_ e=>aA6 hT (eA 4 1 j64) (#v[#v[a0.gX,a1.gX,a2.gX,a3.gX],#v[a0.gY,a1.gY,a2.gY,a3.gY],#v[a0.gZ,a1.gZ,a2.gZ,a3.gZ]]) e (by kernel_rfl) (by kernel_rfl)) λe7=>?_;refine bi λu8 hu8=>?_;refine bi λe9 he9=>?_;refine bi λu10 hu10=>?_;refine bi λe11 he11=>?_;refine bi λu12 hu12=>?_;refine bi λe13 he13=>?_;refine bi λu14 hu14=>?_;refine bi λe15 he15=>?_;refine bi λu16 hu16=>?_;refine bi λe17 he17=>?_;refine At.d 2 (dE1 0 (λ_=>bH hT (k:=1) 2 [] 0 hu8) (dEL hT 1 (j64 e9) j64 0 he9 (dE1 2 (λ_=>bH hT (k:=1) 2 [] 0 hu10) (dEL hT 3 (j64 e11) j64 0 he11 (dE1 5 (λ_=>bH hT (k:=1) 2 [] 0 hu12) (dEL hT 6 (j64 e13) j64 0 he13 (dE1 7 (λ_=>bH hT (k:=1) 2 [] 0 hu14) (dEL hT 8 (j64 e15) j64 0 he15 (dE1 10 (λ_=>bH hT (k:=1) 2 [] 0 hu16) (dEL hT 11 (j64 e17) j64 0 he17 dE0)))))))))) dF0 ?_;refine lx ?_;intro x18;refine At.c 4 ?_ ?_
     ·intro e;apply rtS2 g6 g1 e;exact At.r 3
     ·refine At.J 0 0 [8,10,11,14,15,16,48,49] 3 (λp19=>([(69,(eB p19))],[],[])) (λp19=>?_) λp19=>?_
      ·refine At.s 72 3 ?_ ?_
       ·refine lx ?_;intro x20;refine lx ?_;intro x21;refine At.g [72] 8 ?_;apply rt;exact At.jn 0
       ·refine At.g [72,75] 8 ?_;apply rt;exact At.jn 0
      ·refine At.c 0 ?_ ?_
       ·intro e;apply rtS2 g6 g1 e;exact At.r 3
       ·refine At.c 3 ?_ ?_
        ·apply rt;exact At.jsn 0
        ·refine At.c 3 ?_ ?_
         ·refine lx ?_;intro x22;refine lx ?_;intro x23;refine At.J 9 1 [8,10,11,15,16,48,49] 3 (λp24=>([],[(0,.var (aY.enc p24))],[.var (.st 2 [(j64 x22),(j64 (I64 (0 - e17)))])])) (λp24=>?_) λp24=>?_
          ·refine At.b 7 (λ_ e=>aM [] (lQ e)) λr25=>?_;refine At.c 0 ?_ ?_
           ·apply rt;exact At.jn 2
           ·apply rt;exact At.jn 0
          ·refine At.J 5 0 [8,10,11,18,48,49] 5 (λp26=>([(109,(eB p26))],[],[])) (λp26=>?_) λp26=>?_
           ·refine At.s 105 3 ?_ ?_
            ·refine At.g [105] 4 ?_;apply rt;exact At.jn 0
            ·refine At.g [105] 2 ?_;refine At.b 0 (λ_ e=>aM [] (lQ e)) λr27=>?_;refine At.g [105] 1 ?_;apply rt;exact At.jn 0
           ·refine At.c 0 ?_ ?_
            ·apply rt;exact At.jsn 3
            ·apply rt;exact At.jsn 0
         ·refine At.J 0 1 [8,10,11,15,16,48,49] 3 (λp28=>([],[(0,.var (aY.enc p28))],[.var (.st 2 [(j64 (I64 (e9 - e11))),(j64 e17)])])) (λp28=>?_) λp28=>?_
          ·refine At.b 7 (λ_ e=>aM [] (lQ e)) λr29=>?_;refine At.c 0 ?_ ?_
           ·apply rt;exact At.jn 2
           ·apply rt;exact At.jn 0
          ·refine At.J 5 0 [8,10,11,18,48,49] 5 (λp30=>([(109,(eB p30))],[],[])) (λp30=>?_) λp30=>?_
           ·refine At.s 105 3 ?_ ?_
            ·refine At.g [105] 4 ?_;apply rt;exact At.jn 0
            ·refine At.g [105] 2 ?_;refine At.b 0 (λ_ e=>aM [] (lQ e)) λr31=>?_;refine At.g [105] 1 ?_;apply rt;exact At.jn 0
           ·refine At.c 0 ?_ ?_
            ·apply rt;exact At.jsn 3
            ·apply rt;exact At.jsn 0
    ·exact λh=>At.k 2 ⟨_,_,_,_,h,jr⟩
   ·apply rt;exact At.xs 0
 ·refine At.J 0 0 [8] 2 (λp32=>([(9,(eB p32))],[],[])) (λp32=>?_) λp32=>?_
  ·refine boI (λhc3=>?_) (λhc3=>?_)
   ·refine At.d 0 (dE1 3 (λ_=>cO hc3 rfl (cF hT (im:=false) (by kernel_rfl))) dE0) dF0 ?_;apply rt;exact At.jn 0
   ·refine bi λr33 hr33=>?_;refine At.d 0 (dE1 3 (λ_=>cO hc3 rfl (cF hT (im:=false) (by kernel_rfl))) (dE2 6 (eB r33) (λ_=>aO (lQ hr33)) dE0)) dF0 ?_;apply rt;exact At.jn 0
  ·apply rt;exact At.r 0
def aBF : Nat->Bool:=imL [7,8]
def cI(N:Nat)(a0 a1:aC)(a2 a3 a4:Int)(a5:aL):Option (aN×Bool):=
 aa (idx a5.gl a4) λe1=>
 aU ((fI .u8 e1.gC0 a2)==0) λx2=>
 aU (cond x2 true (a4==a3)) λx3=>
 cond x3 (
  some ((aN.mk 0 0 0 0,false))) (
  aa (idx a5.gl a4) λe4=>
  aa (qI N a0 a1 e4.gP) λr5=>
  some ((r5.1,r5.2)))
theorem uO{N a0 a1 a2 a3 a4 a5 r}(h:cI N a0 a1 a2 a3 a4 a5=some r):FnM Tryz.prog 381 [.var (aL.enc a5)] [(.ref 0 [] 0),(aC.enc a0),(aC.enc a1),(k8 a2),(j64 a3),(j64 a4)] (.tup [(aN.enc r.1),(eB r.2)]) [.var (aL.enc a5)]:=by
 unfold cI at h;refine At.f aBF hT hmo Tryz.func381 rfl h ?_;refine At.b 9 (λ_ e=>bT hT aH.enc e) λe1=>?_;refine lx ?_;intro x2;refine lx ?_;intro x3;refine At.c 10 ?_ ?_
 ·apply rt;exact At.r 3
 ·refine bi λe4 he4=>?_;refine bi λr5 hr5=>?_;refine At.d 0 (dE1 7 (λ_=>bT hT aH.enc he4) (dE2 10 (.tup [(aN.enc r5.1),(eB r5.2)]) (λ_=>aO (aG1 hr5)) dE0)) dF0 ?_;apply rt;exact At.r 0
def aAm : Nat->Bool:=imL [6,7]
def bP(N:Nat)(s23:(List Int))(a0 a1:aC)(a2 a3:Int)(a4:aL):Nat->Int->aN->Int->Int->Option (Int×aN×Int)
 | 0,_,_,_,_=>none
 | k+1,s25,s26,s27,s28=>
  aU (decide (s28 < ((s23.length:Int)))) λx29=>
  cond x29 (
   aa (aa (idx s23 s28) λe31=>
   aa (cI N a0 a1 a2 a3 e31 (aL.mk a4.gA1 a4.gA a4.gl (I64 (s25+1)))) λr32=>
   aa (cond r32.2 (
    cond (decide (s27 < 0)) (
     some true) (
     aa (rL N r32.1 s26) λr34=>
     cond r34 (
      some true) (
      cond (decide (e31 < s27)) (
       aa (rL N s26 r32.1) λr35=>
       some (!r35)) (
       some false)))) (
    some false)) λp33=>
   cond p33 (some ((r32.1,r32.1,e31))) (some ((s26,r32.1,s27)))) λp30=>
   bP N s23 a0 a1 a2 a3 a4 k (I64 (s25+1)) p30.1 p30.2.2 (I64 (s28+1))) (
   some ((s25,s26,s27)))
def cL(N:Nat)(a4:aL)(a0 a1:aC)(a2 a3:Int):Nat->(List Int)->Int->aN->Int->Nat->Option ((List Int)×Int×aN×Int)
 | 0,_,_,_,_,_=>none
 | k+1,s6,s7,s8,s9,s10=>
  aU (decide (((s10:Int)) > 0)) λx11=>
  cond x11 (
   aU (I64 (((s10:Int)) - 1)) λx12=>
   aa (zB s6.length 0 s10 x12) λ_=>
   aa (s6[x12.toNat]?) λe14=>
   aa (idx a4.gA1.gA0 e14) λe15=>
   aU (I64 (((s10:Int)) - 1)) λx16=>
   aa (aJs s6.length 0 s10 0 x16) λ_=>
   aa (pB N e15.gLo e15.gHi a0 a1) λr18=>
   aa (cond (!r18.2) (
    some true) (
    cond (decide (s9>=0)) (
     aa (eJ N (aY.mk s8.gA3 s8.gO) r18.1) λr20=>
     some r20) (
     some false))) λp19=>
   cond p19 (
    cL N a4 a0 a1 a2 a3 k s6 (I64 (s7+1)) s8 s9 x16.toNat) (
    cond (decide (e15.gB2>=0)) (
     aa (aLI 8 s6 x16.toNat (([e15.gB4,e15.gB2]:List Int))) λz21=>
     cL N a4 a0 a1 a2 a3 k z21 (I64 (s7+1)) s8 s9 (x16.toNat+2)) (
     aU (I64 (e15.gC5+e15.gD1)) λx22=>
     aa (xW a4.gA1.gC2 e15.gC5 x22) λs23=>
     aa (bP N s23 a0 a1 a2 a3 a4 N (I64 (s7+1)) s8 s9 0) λp24=>
     cL N a4 a0 a1 a2 a3 k s6 p24.1 p24.2.1 p24.2.2 x16.toNat))) (
   some ((s6,s7,s8,s9)))
def dJ(N:Nat)(a0 a1:aC)(a2 a3:Int)(a4:aL):Option (Int×Int×aN):=
 aa (aa (fV N a4) λr2=>
 aU ((a4.gA1.gA0.length:Int)) λx3=>
 cond (cond r2 true (x3==0)) (
  some true) (
  aa (qU N a0 a1) λr4=>
  some (!r4))) λp1=>
 cond p1 (
  some ((a4.gD6,-1,aN.mk 0 0 0 0))) (
  aa (cL N a4 a0 a1 a2 a3 N (([0]:List Int)) a4.gD6 (aN.mk 0 0 0 0) (-1) ((([0]:List Int)).length)) λp5=>
  some ((p5.2.1,p5.2.2.2,p5.2.2.1)))
theorem sV{N a0 a1 a2 a3 a4 r}(h:dJ N a0 a1 a2 a3 a4=some r):FnM Tryz.prog 377 [.var (aL.enc a4)] [(.ref 0 [] 0),(aC.enc a0),(aC.enc a1),(k8 a2),(j64 a3)] (.tup [(j64 r.2.1),(aN.enc r.2.2)]) [.var (.st 5 [(aX.enc a4.gA1),(eB a4.gA),(eL 19 aH.enc a4.gl),(j64 r.1)])]:=by
 unfold dJ at h;refine At.f aAm hT hmo Tryz.func377 rfl h ?_;refine At.J 5 0 [0,3,4,6,7,10,11] 2 (λp1=>([(36,(eB p1))],[],[])) (λp1=>?_) λp1=>?_
 ·refine At.b 1 (λ_ e=>aM [0] (uT e)) λr2=>?_;refine lx ?_;intro x3;refine At.s 31 10 ?_ ?_
  ·refine At.g [31] 5 ?_;apply rt;exact At.jn 0
  ·refine At.g [31] 2 ?_;refine At.b 0 (λ_ e=>aM [] (aAY e)) λr4=>?_;refine At.g [31] 2 ?_;apply rt;exact At.jn 0
 ·refine At.c 0 ?_ ?_
  ·refine At.d 0 dE0 dF0 ?_;apply rt;exact At.r 0
  ·refine At.o 0 (aEk hT j64 (k:=1) ([0]:List Int) (by kernel_rfl) (by kernel_rfl)) ?_;refine At.gsub 1 12 ?_;refine At.L 0 [11] 3 (λp5=>([(10,(j64 p5.2.2.2))],[(0,.var (.st 5 [(aX.enc a4.gA1),(eB a4.gA),(eL 19 aH.enc a4.gl),(j64 p5.2.1)])),(1,.var (aN.enc p5.2.2.1)),(2,.gro 1 (ai j64 p5.1))],[])) (λp5 J k=>∃s6 s7 s8 s9 s10,cL N a4 a0 a1 a2 a3 k s6 s7 s8 s9 s10=some p5/\J [0,3,4,6,7,11] 3 [(10,(j64 s9)),(12,(.gro 2 1 s6.length (.sub 0 s10)))] [(0,.var (.st 5 [(aX.enc a4.gA1),(eB a4.gA),(eL 19 aH.enc a4.gl),(j64 s7)])),(1,.var (aN.enc s8)),(2,.gro 1 (ai j64 s6))] []) N (λ_ h=>⟨_,_,_,_,_,h,jr⟩) (λp5 k s hI=>?_) λp5=>?_
   ·obtain⟨s6,s7,s8,s9,s10,h,hj⟩:=hI;cases k with
    | zero=>cases h
    | succ k=>
     refine At.jr hj ?_ h;refine lx ?_;intro x11;refine At.c 3 ?_ ?_
     ·refine lx ?_;intro x12;refine bi λu13 hu13=>?_;refine bi λe14 he14=>?_;refine bi λe15 he15=>?_;refine At.d 0 (dE1 9 (λ_=>kI hT (id:=2) (k:=1) hu13 (by kernel_rfl) (by kernel_rfl)) (dET 10 (j64 e14) [[.var (.st 5 [(aX.enc a4.gA1),(eB a4.gA),(eL 19 aH.enc a4.gl),(j64 s7)]),.var (aN.enc s8),.gro 1 (ai j64 s6)],[.var (.st 5 [(aX.enc a4.gA1),(eB a4.gA),(eL 19 aH.enc a4.gl),(j64 s7)]),.var (aN.enc s8),.gro 1 (ai j64 s6),.var cv_9]] ⟨bG (pA hT j64 [] he14 rfl (by kernel_rfl) (by kernel_rfl)),bG (pA hT j64 [] he14 rfl (by kernel_rfl) (by kernel_rfl)),trivial⟩ (dE1 11 (λ_=>bT hT bD.enc he15) dE0))) dF0 ?_;refine lx ?_;intro x16;refine At.b 4 (λ_ e=>aGf hT (id:=2) (k:=1) (L:=s6.length) (lo0:=0) (m:=s10) e (by kernel_rfl) (by kernel_rfl)) λs17=>?_;refine At.b 15 (λ_ e=>aM [] (aEl e)) λr18=>?_;refine At.J 6 0 [0,3,4,6,7,10,11,12,13] 5 (λp19=>([(92,(eB p19))],[],[])) (λp19=>?_) λp19=>?_
      ·refine At.s 80 3 ?_ ?_
       ·refine At.g [80,83] 12 ?_;apply rt;exact At.jn 0
       ·refine At.g [80] 3 ?_;refine At.s 83 0 ?_ ?_
        ·refine At.g [83] 6 ?_;refine At.b 0 (λ_ e=>aM [] (lQ e)) λr20=>?_;refine At.g [80,83] 2 ?_;apply rt;exact At.jn 0
        ·refine At.g [83,80] 9 ?_;apply rt;exact At.jn 0
      ·refine At.c 0 ?_ ?_
       ·exact λh=>At.k 0 ⟨_,_,_,_,_,h,jr⟩
       ·refine At.c 3 ?_ ?_
        ·refine At.o 5 (bS hT (x:=(.sl 1 2 [(j64 e15.gB4),(j64 e15.gB2)]))) ?_;refine At.b 0 (λz21 e=>aFE hT j64 (id:=2) (k:=1) e (by kernel_rfl) (by kernel_rfl) (H':=[.var (.st 5 [(aX.enc a4.gA1),(eB a4.gA),(eL 19 aH.enc a4.gl),(j64 (I64 (s7+1)))]),.var (aN.enc s8),.gro 1 (ai j64 z21),.var (bD.enc e15),.var (aY.enc r18.1)]) (by kernel_rfl)) λz21=>?_;exact λh=>At.k 1 ⟨_,_,_,_,_,h,jr⟩
        ·refine lx ?_;intro x22;refine bi λs23 hs23=>?_;refine At.d 0 (dE1 12 (λ_=>aA1 hT (k:=1) j64 hs23) dE0) dF0 ?_;refine At.L 0 [0,3,4,6,7,11,12] 5 (λp24=>([(10,(j64 p24.2.2))],[(0,.var (.st 5 [(aX.enc a4.gA1),(eB a4.gA),(eL 19 aH.enc a4.gl),(j64 p24.1)])),(1,.var (aN.enc p24.2.1))],[])) (λp24 J k=>∃s25 s26 s27 s28,bP N s23 a0 a1 a2 a3 a4 k s25 s26 s27 s28=some p24/\J [0,3,4,6,7,11,12,115,116] 5 [(10,(j64 s27)),(117,(j64 s28))] [(0,.var (.st 5 [(aX.enc a4.gA1),(eB a4.gA),(eL 19 aH.enc a4.gl),(j64 s25)])),(1,.var (aN.enc s26))] []) N (λ_ h=>⟨_,_,_,_,h,jr⟩) (λp24 k s hI=>?_) λp24=>?_
         ·obtain⟨s25,s26,s27,s28,h,hj⟩:=hI;cases k with
          | zero=>cases h
          | succ k=>
           refine At.jr hj ?_ h;refine lx ?_;intro x29;refine At.c 1 ?_ ?_
           ·refine At.J 0 2 [0,3,4,6,7,11,12,115,116,117] 5 (λp30=>([(10,(j64 p30.2.2))],[(0,.var (.st 5 [(aX.enc a4.gA1),(eB a4.gA),(eL 19 aH.enc a4.gl),(j64 (I64 (s25+1)))])),(1,.var (aN.enc p30.1))],[.var (aN.enc p30.2.1)])) (λp30=>?_) λp30=>?_
            ·refine At.b 0 (λ_ e=>bT hT j64 e) λe31=>?_;refine At.b 16 (λ_ e=>aM [0] (uO e)) λr32=>?_;refine At.J 6 0 [0,3,4,6,7,10,11,12,17,18,115,116,117] 6 (λp33=>([(158,(eB p33))],[],[])) (λp33=>?_) λp33=>?_
             ·refine At.s 139 2 ?_ ?_
              ·refine At.g [139] 3 ?_;refine At.s 142 0 ?_ ?_
               ·refine At.g [142,139,147,151] 16 ?_;apply rt;exact At.jn 0
               ·refine At.g [142] 2 ?_;refine At.b 0 (λ_ e=>aM [] (aCs e)) λr34=>?_;refine At.g [139,142] 2 ?_;refine At.s 147 0 ?_ ?_
                ·refine At.g [147,151,139] 11 ?_;apply rt;exact At.jn 0
                ·refine At.g [147] 4 ?_;refine At.s 151 0 ?_ ?_
                 ·refine At.g [151] 2 ?_;refine At.b 0 (λ_ e=>aM [] (aCs e)) λr35=>?_;refine At.g [151,147,139] 4 ?_;apply rt;exact At.jn 0
                 ·refine At.g [151,147,139] 7 ?_;apply rt;exact At.jn 0
              ·refine At.g [139,142,147,151] 19 ?_;apply rt;exact At.jn 0
             ·refine At.c 0 ?_ ?_
              ·refine At.d 0 dE0 dF0 ?_;apply rt;exact At.jn 0
              ·apply rt;exact At.jn 0
            ·exact λh=>At.k 2 ⟨_,_,_,_,h,jr⟩
           ·apply rt;exact At.x 0
         ·exact λh=>At.k 0 ⟨_,_,_,_,_,h,jr⟩
     ·apply rt;exact At.x 0
   ·refine At.d 0 dE0 dF0 ?_;apply rt;exact At.r 0
def nI(N:Nat)(b4:(List (List aD)))(a1:aJ)(a2 a3:aA)(a4:Int)(a5:Bool)(a6:aF)(a7:aG)(a8:aI)(a9:aA)(a10:aE)(a11:aB)(a12:aL):Option (aF×Int×Int×aT×Bool):=
 aa (cond (a4==0) (some 9) (some 4)) λp1=>
 aa (dJ N a1.go a1.gd p1 a1.gD2 a12) λr2=>
 aa (cond a8.gT (some (I64 (a10.gQ+4))) (some a10.gQ)) λp3=>
 cond (decide (r2.2.1 < 0)) (
  some ((a6,p3,r2.1,aT.mk 0 (aC.mk 0 0 0) (aA.mk 0 0 0) (aA.mk 0 0 0) (aP.mk 0 (#v[0,0,0]) 0) false,false))) (
  aa (idx a7.gE r2.2.1) λe4=>
  aa (fM 1 3) λ_=>
  aa (e4.gP.toList[(bm 1)]?) λe6=>
  aa (fM 0 3) λ_=>
  aa (e4.gP.toList[(bm 0)]?) λe8=>
  aa (lO N e6 e8) λr9=>
  aa (fM 2 3) λ_=>
  aa (e4.gP.toList[(bm 2)]?) λe11=>
  aa (fM 0 3) λ_=>
  aa (e4.gP.toList[(bm 0)]?) λe13=>
  aa (lO N e11 e13) λr14=>
  aa (nR N r9 r14) λr15=>
  aa (fT N r15) λr16=>
  aa (aa (rG N a1.go a1.gd r2.2.2) λr18=>
  aa (kA N r16 a1.gd) λr19=>
  aa (idx a7.gA6 e4.gD0) λe20=>
  cond (a4==0) (
   aU ((fI .u8 e4.gC0 8) != 0) λx21=>
   some (aT.mk r2.2.1 r18 r19 (aA.mk 0 0 0) e20 x21)) (
   some (aT.mk r2.2.1 r18 r19 (aA.mk 0 0 0) e20 false))) λp17=>
  aa (cond (decide (e4.gB3>=0)) (
   aa (idx b4 e4.gB3) λe23=>
   cond (!a8.gT) (some ((I64 (p3+4),e23))) (some ((p3,e23)))) (
   some ((p3,[])))) λp22=>
  aa (lC N p17.gG.gB5 p22.2 e4.gUv r2.2.2 a4) λr24=>
  aa (aU (cond (a4==0) (!a5) false) λx26=>
  cond x26 (
   aa (nH N p17.gat) λr27=>
   aa (nH N a1.go) λr28=>
   aa (tZ N r27 r28) λr29=>
   aa (nN N r29) λr30=>
   cond p17.gB7 (
    some (aF.mk (aA.mk 0 0 0) 0 r30 p17.gn e4.gA4)) (
    some (aF.mk (aA.mk 0 0 0) 1 r30 p17.gn e4.gA4))) (
   some a6)) λp25=>
  some ((p25,p22.1,r2.1,aT.mk p17.gi p17.gat p17.gn r24 p17.gG p17.gB7,true)))
theorem aCq{N b4 a1 a2 a3 a4 a5 a6 a7 a8 a9 a10 a11 a12 r}(h:nI N b4 a1 a2 a3 a4 a5 a6 a7 a8 a9 a10 a11 a12=some r):FnM Tryz.prog 191 [.var (.st 26 [(aJ.enc a1),(.ref 1 [] 0),(.ref 2 [] 0),(aA.enc a2),(aA.enc a3),(j64 a4),(eB a5),(aF.enc a6)]),.var (.st 38 [(aG.enc a7),(aI.enc a8),(.ifc 181 (.ref 3 [] 0)),(eO 4 1 (eL 2 aD.enc) b4),(aA.enc a9),(aE.enc a10)]),.var (aB.enc a11),.var (aL.enc a12),.tail (b4.length*1)] [(.ref 0 [] 0)] (.tup [(aT.enc r.2.2.2.1),(eB r.2.2.2.2)]) [.var (.st 26 [(aJ.enc a1),(.ref 1 [] 0),(.ref 2 [] 0),(aA.enc a2),(aA.enc a3),(j64 a4),(eB a5),(aF.enc r.1)]),.var (.st 38 [(aG.enc a7),(aI.enc a8),(.ifc 181 (.ref 3 [] 0)),(eO 4 1 (eL 2 aD.enc) b4),(aA.enc a9),(.st 3 [(j64 a10.gN),(j64 r.2.1),(j64 (I64 (a10.gM+1)))])]),.var (aB.enc a11),.var (.st 5 [(aX.enc a12.gA1),(eB a12.gA),(eL 19 aH.enc a12.gl),(j64 r.2.2.1)]),.tail (b4.length*1)]:=by
 unfold nI at h;refine At.f dG hT hmo Tryz.func191 rfl h ?_;refine At.J 3 1 [0,2] 6 (λp1=>([(4,(k8 p1))],[],[])) (λp1=>?_) λp1=>?_
 ·refine At.c 5 ?_ ?_
  ·apply rt;exact At.jn 1
  ·apply rt;exact At.jn 0
 ·refine bi λr2 hr2=>?_;refine At.d2 0 [false] dC0 (dS1 25 ⟨(.tup [(j64 r2.2.1),(aN.enc r2.2.2)]),3,.var (.st 5 [(aX.enc a12.gA1),(eB a12.gA),(eL 19 aH.enc a12.gl),(j64 r2.1)]),.var (aL.enc a12)⟩ [[.var (.st 26 [(aJ.enc a1),(.ref 1 [] 0),(.ref 2 [] 0),(aA.enc a2),(aA.enc a3),(j64 a4),(eB a5),(aF.enc a6)]),.var (.st 38 [(aG.enc a7),(aI.enc a8),(.ifc 181 (.ref 3 [] 0)),(eO 4 1 (eL 2 aD.enc) b4),(aA.enc a9),(aE.enc a10)]),.var (aB.enc a11),.var (aL.enc a12),.tail (b4.length*1),.var aLJ,.dead],[.var (.st 26 [(aJ.enc a1),(.ref 1 [] 0),(.ref 2 [] 0),(aA.enc a2),(aA.enc a3),(j64 a4),(eB a5),(aF.enc a6)]),.var (.st 38 [(aG.enc a7),(aI.enc a8),(.ifc 181 (.ref 3 [] 0)),(eO 4 1 (eL 2 aD.enc) b4),(aA.enc a9),(aE.enc a10)]),.var (aB.enc a11),.var (aL.enc a12),.tail (b4.length*1),.var aLJ,.var (.st 4 [(j64 0),(j64 0),(j64 0),(j64 0)])]] ⟨bG (aM [3] (sV hr2)),bG (aM [3] (sV hr2)),trivial⟩ (dS1 29 ⟨(.ref 6 [] 0),6,.var (.st 4 [(j64 0),(j64 0),(j64 0),(j64 0)]),.dead⟩ [[.var (.st 26 [(aJ.enc a1),(.ref 1 [] 0),(.ref 2 [] 0),(aA.enc a2),(aA.enc a3),(j64 a4),(eB a5),(aF.enc a6)]),.var (.st 38 [(aG.enc a7),(aI.enc a8),(.ifc 181 (.ref 3 [] 0)),(eO 4 1 (eL 2 aD.enc) b4),(aA.enc a9),(aE.enc a10)]),.var (aB.enc a11),.var (aL.enc a12),.tail (b4.length*1),.var aLJ,.dead],[.var (.st 26 [(aJ.enc a1),(.ref 1 [] 0),(.ref 2 [] 0),(aA.enc a2),(aA.enc a3),(j64 a4),(eB a5),(aF.enc a6)]),.var (.st 38 [(aG.enc a7),(aI.enc a8),(.ifc 181 (.ref 3 [] 0)),(eO 4 1 (eL 2 aD.enc) b4),(aA.enc a9),(aE.enc a10)]),.var (aB.enc a11),.var (.st 5 [(aX.enc a12.gA1),(eB a12.gA),(eL 19 aH.enc a12.gl),(j64 r2.1)]),.tail (b4.length*1),.var aLJ,.dead]] ⟨aW hT 6 (by kernel_rfl) (by kernel_rfl) (by kernel_rfl),aW hT 6 (by kernel_rfl) (by kernel_rfl) (by kernel_rfl),trivial⟩ dS0)) ?_;refine At.J 13 1 [0,2,5,6] 7 (λp3=>([],[(1,.var (.st 38 [(aG.enc a7),(aI.enc a8),(.ifc 181 (.ref 3 [] 0)),(eO 4 1 (eL 2 aD.enc) b4),(aA.enc a9),(.st 3 [(j64 a10.gN),(j64 p3),(j64 (I64 (a10.gM+1)))])]))],[])) (λp3=>?_) λp3=>?_
  ·refine At.c 8 ?_ ?_
   ·apply rt;exact At.jn 13
   ·apply rt;exact At.jn 0
  ·refine At.c 2 ?_ ?_
   ·apply rt;exact At.r 3
   ·refine At.b 9 (λ_ e=>bT hT aH.enc e) λe4=>?_;refine bi λu5 hu5=>?_;refine bi λe6 he6=>?_;refine bi λu7 hu7=>?_;refine bi λe8 he8=>?_;refine bi λr9 hr9=>?_;refine bi λu10 hu10=>?_;refine bi λe11 he11=>?_;refine bi λu12 hu12=>?_;refine bi λe13 he13=>?_;refine bi λr14 hr14=>?_;refine bi λr15 hr15=>?_;refine bi λr16 hr16=>?_;refine At.d 3 (dE1 1 (λ_=>bH hT (k:=3) 7 [0] 0 hu5) (dEL hT 2 (aC.enc e6) aC.enc 1 he6 (dE1 4 (λ_=>bH hT (k:=3) 7 [0] 0 hu7) (dEL hT 5 (aC.enc e8) aC.enc 1 he8 (dE2 6 (aC.enc r9) (λ_=>aO (tT hr9)) (dE1 8 (λ_=>bH hT (k:=3) 7 [0] 0 hu10) (dEL hT 9 (aC.enc e11) aC.enc 1 he11 (dE1 11 (λ_=>bH hT (k:=3) 7 [0] 0 hu12) (dEL hT 12 (aC.enc e13) aC.enc 1 he13 (dE2 13 (aC.enc r14) (λ_=>aO (tT hr14)) (dE2 14 (aC.enc r15) (λ_=>aO (aAE hr15)) (dE2 15 (aA.enc r16) (λ_=>aO (mB hr16)) dE0)))))))))))) dF0 ?_;refine At.J 0 0 [0,2,6,7] 9 (λp17=>([],[(5,.var (aT.enc p17))],[])) (λp17=>?_) λp17=>?_
    ·refine bi λr18 hr18=>?_;refine bi λr19 hr19=>?_;refine bi λe20 he20=>?_;refine boI (λhc37=>?_) (λhc37=>?_)
     ·refine lx ?_;intro x21;refine At.d 0 (dE2 12 (aC.enc r18) (λ_=>aO (aAJ hr18)) (dE2 19 (aA.enc r19) (λ_=>aO (sM hr19)) (dE1 30 (λ_=>bT hT aP.enc he20) (dE1 37 (λ_=>cO hc37 rfl (cF hT (im:=false) (by kernel_rfl))) dE0)))) dF0 ?_;apply rt;exact At.jn 0
     ·refine At.d 0 (dE2 12 (aC.enc r18) (λ_=>aO (aAJ hr18)) (dE2 19 (aA.enc r19) (λ_=>aO (sM hr19)) (dE1 30 (λ_=>bT hT aP.enc he20) (dE1 37 (λ_=>cO hc37 rfl (cF hT (im:=false) (by kernel_rfl))) dE0)))) dF0 ?_;apply rt;exact At.jn 0
    ·refine At.J 1 1 [0,2,6,7] 9 (λp22=>([(9,(eL 2 aD.enc p22.2))],[(1,.var (.st 38 [(aG.enc a7),(aI.enc a8),(.ifc 181 (.ref 3 [] 0)),(eO 4 1 (eL 2 aD.enc) b4),(aA.enc a9),(.st 3 [(j64 a10.gN),(j64 p22.1),(j64 (I64 (a10.gM+1)))])]))],[])) (λp22=>?_) λp22=>?_
     ·refine At.c 3 ?_ ?_
      ·refine bi λe23 he23=>?_;refine At.d 0 (dE1 9 (λ_=>bT hT (eL 2 aD.enc) he23) dE0) dF0 ?_;refine At.c 9 ?_ ?_
       ·apply rt;exact At.jn 13
       ·apply rt;exact At.jn 0
      ·apply rt;exact At.jn 0
     ·refine bi λr24 hr24=>?_;refine At.d 0 (dE2 11 (aA.enc r24) (λ_=>aO (aBg hr24)) dE0) dF0 ?_;refine At.J 0 1 [2] 9 (λp25=>([],[(0,.var (.st 26 [(aJ.enc a1),(.ref 1 [] 0),(.ref 2 [] 0),(aA.enc a2),(aA.enc a3),(j64 a4),(eB a5),(aF.enc p25)]))],[])) (λp25=>?_) λp25=>?_
      ·refine lx ?_;intro x26;refine At.c 12 ?_ ?_
       ·refine bi λr27 hr27=>?_;refine bi λr28 hr28=>?_;refine bi λr29 hr29=>?_;refine bi λr30 hr30=>?_;refine At.d 0 (dE2 3 (aA.enc r27) (λ_=>aO (sB hr27)) (dE2 9 (aA.enc r28) (λ_=>aO (sB hr28)) (dE2 10 (aA.enc r29) (λ_=>aO (aCA hr29)) (dE2 11 (j64 r30) (λ_=>aO (aBB hr30)) dE0)))) dF0 ?_;refine At.c 2 ?_ ?_
        ·apply rt;exact At.jn 5
        ·apply rt;exact At.jn 0
       ·apply rt;exact At.jn 0
      ·apply rt;exact At.r 3
def jE(N:Nat)(b4:(List (List aD)))(a1:(List aA))(a2:aJ)(a3 a4:aA)(a5:Int)(a6:Bool)(a7:aF)(a8:aG)(a9:aI)(a10:aA)(a11:aE)(a12:aB)(a13:aL):Option (aA):=
 cond (!a6) (
  aa (sP 24 (([a3]:List aA)) a1) λz1=>
  aa (iA N z1) λr2=>
  aa (kC N ([a4,r2])) λr3=>
  some r3) (
  some a4)
theorem tU{N b4 a1 a2 a3 a4 a5 a6 a7 a8 a9 a10 a11 a12 a13 r}(h:jE N b4 a1 a2 a3 a4 a5 a6 a7 a8 a9 a10 a11 a12 a13=some r):FnM Tryz.prog 192 [.var (.st 26 [(aJ.enc a2),(.ref 1 [] 0),(.ref 2 [] 0),(aA.enc a3),(aA.enc a4),(j64 a5),(eB a6),(aF.enc a7)]),.var (.st 38 [(aG.enc a8),(aI.enc a9),(.ifc 181 (.ref 3 [] 0)),(eO 4 1 (eL 2 aD.enc) b4),(aA.enc a10),(aE.enc a11)]),.var (aB.enc a12),.var (aL.enc a13),.tail (b4.length*1)] [(.ref 0 [] 0),(eL 3 aA.enc a1)] (.tup []) [.var (.st 26 [(aJ.enc a2),(.ref 1 [] 0),(.ref 2 [] 0),(aA.enc a3),(aA.enc r),(j64 a5),(eB a6),(aF.enc a7)]),.var (.st 38 [(aG.enc a8),(aI.enc a9),(.ifc 181 (.ref 3 [] 0)),(eO 4 1 (eL 2 aD.enc) b4),(aA.enc a10),(aE.enc a11)]),.var (aB.enc a12),.var (aL.enc a13),.tail (b4.length*1)]:=by
 unfold jE at h;refine At.f dG hT hmo Tryz.func192 rfl h ?_;refine At.c 5 ?_ ?_
 ·refine bi λz1 hz1=>?_;refine bi λr2 hr2=>?_;refine bi λr3 hr3=>?_;refine At.d 0 (dE2 12 (aA.enc r2) (λ_=>aO (rO hr2)) (dE1 13 (λ_=>bS hT (x:=(.sl 3 2 [(aA.enc a4),(aA.enc r2)]))) (dE2 14 (aA.enc r3) (λ_=>aO (tM hr3)) dE0))) (dF 9 (eO 5 3 aA.enc (([a3]:List aA))) [] [.tail ((([a3]:List aA)).length*3)] (bG (aAW hT aA.enc (k:=3) ([a3]:List aA) (by kernel_rfl) (by kernel_rfl))) (dF 11 (eO 5 3 aA.enc z1) [(5,.tail (z1.length*3))] [] (bG (iW hT aA.enc (id:=5) (k:=3) hz1)) dF0)) ?_;apply rt;exact At.z 0
 ·apply rt;exact At.z 0
def fJ(N:Nat)(b4:(List (List aD)))(a1:Bool)(a2:aJ)(a3 a4:aA)(a5:Int)(a6:Bool)(a7:aF)(a8:aG)(a9:aI)(a10:aA)(a11:aE)(a12:aB)(a13:aL):Option (Unit):=
 some (())
theorem kB{N b4 a1 a2 a3 a4 a5 a6 a7 a8 a9 a10 a11 a12 a13 r}(h:fJ N b4 a1 a2 a3 a4 a5 a6 a7 a8 a9 a10 a11 a12 a13=some r):FnM Tryz.prog 193 [.var (.st 26 [(aJ.enc a2),(.ref 1 [] 0),(.ref 2 [] 0),(aA.enc a3),(aA.enc a4),(j64 a5),(eB a6),(aF.enc a7)]),.var (.st 38 [(aG.enc a8),(aI.enc a9),(.ifc 181 (.ref 3 [] 0)),(eO 4 1 (eL 2 aD.enc) b4),(aA.enc a10),(aE.enc a11)]),.var (aB.enc a12),.var (aL.enc a13),.tail (b4.length*1)] [(.ref 0 [] 0),(eB a1)] (.tup []) [.var (.st 26 [(aJ.enc a2),(.ref 1 [] 0),(.ref 2 [] 0),(aA.enc a3),(aA.enc a4),(j64 a5),(eB (cond a6 true a1)),(aF.enc a7)]),.var (.st 38 [(aG.enc a8),(aI.enc a9),(.ifc 181 (.ref 3 [] 0)),(eO 4 1 (eL 2 aD.enc) b4),(aA.enc a10),(aE.enc a11)]),.var (aB.enc a12),.var (aL.enc a13),.tail (b4.length*1)]:=by
 unfold fJ at h;refine At.f dG hT hmo Tryz.func193 rfl h ?_;apply rt;exact At.z 11
def aBr : Nat->Bool:=imL [7,8]
def bY(N:Nat)(s17:(List Int))(a0 a1:aC)(a2 a3:Int)(a5:aL)(a4:Bool):Nat->Int->Int->Option (Sum (Int) (Int×Bool))
 | 0,_,_=>none
 | k+1,s19,s20=>
  aU (decide (s20 < ((s17.length:Int)))) λx21=>
  cond x21 (
   aa (idx s17 s20) λe22=>
   aa (cI N a0 a1 a2 a3 e22 (aL.mk a5.gA1 a5.gA a5.gl (I64 (s19+1)))) λr23=>
   aa (cond r23.2 (
    aU (decide (r23.1.gA3 < r23.1.gO)) λx25=>
    some (cond (!a4) true x25)) (
    some false)) λp24=>
   cond p24 (
    some (Sum.inr ((I64 (s19+1),true)))) (
    bY N s17 a0 a1 a2 a3 a5 a4 k (I64 (s19+1)) (I64 (s20+1)))) (
   some (Sum.inl s19))
def dK(N:Nat)(a5:aL)(a0 a1:aC)(a2 a3:Int)(a4:Bool):Nat->(List Int)->Int->Nat->Option (Sum ((List Int)×Int) (Int×Bool))
 | 0,_,_,_=>none
 | k+1,s6,s7,s8=>
  aU (decide (((s8:Int)) > 0)) λx9=>
  cond x9 (
   aa (zB s6.length 0 s8 (I64 (((s8:Int)) - 1))) λ_=>
   aa (s6[((I64 (((s8:Int)) - 1)).toNat)]?) λe11=>
   aa (idx a5.gA1.gA0 e11) λe12=>
   aa (aJs s6.length 0 s8 0 (I64 (((s8:Int)) - 1))) λ_=>
   aa (pB N e12.gLo e12.gHi a0 a1) λr14=>
   cond (!r14.2) (
    dK N a5 a0 a1 a2 a3 a4 k s6 (I64 (s7+1)) ((I64 (((s8:Int)) - 1)).toNat)) (
    cond (decide (e12.gB2>=0)) (
     aa (aLI 8 s6 ((I64 (((s8:Int)) - 1)).toNat) (([e12.gB4,e12.gB2]:List Int))) λz15=>
     dK N a5 a0 a1 a2 a3 a4 k z15 (I64 (s7+1)) ((I64 (((s8:Int)) - 1)).toNat+2)) (
     aU (I64 (e12.gC5+e12.gD1)) λx16=>
     aa (xW a5.gA1.gC2 e12.gC5 x16) λs17=>
     aa (bY N s17 a0 a1 a2 a3 a5 a4 N (I64 (s7+1)) 0) λo=>pD o (λp18=>
      dK N a5 a0 a1 a2 a3 a4 k s6 p18 ((I64 (((s8:Int)) - 1)).toNat)) (λr=>some (Sum.inr r))))) (
   some (Sum.inl ((s6,s7))))
def dQ(N:Nat)(a0 a1:aC)(a2 a3:Int)(a4:Bool)(a5:aL):Option (Int×Bool):=
 aa (aa (fV N a5) λr2=>
 aU ((a5.gA1.gA0.length:Int)) λx3=>
 cond (cond r2 true (x3==0)) (
  some true) (
  aa (qU N a0 a1) λr4=>
  some (!r4))) λp1=>
 cond p1 (
  some ((a5.gD6,false))) (
  aa (dK N a5 a0 a1 a2 a3 a4 N (([0]:List Int)) a5.gD6 ((([0]:List Int)).length)) λo=>pD o (λp5=>
   some ((p5.2,false))) (λr=>some r))
theorem mQ{N a0 a1 a2 a3 a4 a5 r}(h:dQ N a0 a1 a2 a3 a4 a5=some r):FnM Tryz.prog 376 [.var (aL.enc a5)] [(.ref 0 [] 0),(aC.enc a0),(aC.enc a1),(k8 a2),(j64 a3),(eB a4)] (eB r.2) [.var (.st 5 [(aX.enc a5.gA1),(eB a5.gA),(eL 19 aH.enc a5.gl),(j64 r.1)])]:=by
 unfold dQ at h;refine At.f aBr hT hmo Tryz.func376 rfl h ?_;refine At.J 3 0 [0,3,4,5,7,8] 1 (λp1=>([(37,(eB p1))],[],[])) (λp1=>?_) λp1=>?_
 ·refine At.b 1 (λ_ e=>aM [0] (uT e)) λr2=>?_;refine lx ?_;intro x3;refine At.s 32 10 ?_ ?_
  ·refine At.g [32] 5 ?_;apply rt;exact At.jn 0
  ·refine At.g [32] 2 ?_;refine At.b 0 (λ_ e=>aM [] (aAY e)) λr4=>?_;refine At.g [32] 2 ?_;apply rt;exact At.jn 0
 ·refine At.c 0 ?_ ?_
  ·apply rt;exact At.r 1
  ·refine At.o 0 (aEk hT j64 (k:=1) ([0]:List Int) (by kernel_rfl) (by kernel_rfl)) ?_;refine At.gsub 1 13 ?_;refine At.LS 0 [] 2 (λp5=>([],[(0,.var (.st 5 [(aX.enc a5.gA1),(eB a5.gA),(eL 19 aH.enc a5.gl),(j64 p5.2)])),(1,.gro 1 (ai j64 p5.1))],[])) (λop5 J k=>∃s6 s7 s8,dK N a5 a0 a1 a2 a3 a4 k s6 s7 s8=some op5/\J [0,3,4,5,7,8] 2 [(13,(.gro 1 1 s6.length (.sub 0 s8)))] [(0,.var (.st 5 [(aX.enc a5.gA1),(eB a5.gA),(eL 19 aH.enc a5.gl),(j64 s7)])),(1,.gro 1 (ai j64 s6))] []) N (λ_ h=>⟨_,_,_,h,jr⟩) (λop5 g5 k s hI=>?_) λp5=>?_
   ·obtain⟨s6,s7,s8,h,hj⟩:=hI;cases k with
    | zero=>cases h
    | succ k=>
     refine At.jr hj ?_ h;refine lx ?_;intro x9;refine At.c 3 ?_ ?_
     ·refine bi λu10 hu10=>?_;refine bi λe11 he11=>?_;refine bi λe12 he12=>?_;refine At.d 0 (dE1 9 (λ_=>kI hT (id:=1) (k:=1) hu10 (by kernel_rfl) (by kernel_rfl)) (dET 10 (j64 e11) [[.var (.st 5 [(aX.enc a5.gA1),(eB a5.gA),(eL 19 aH.enc a5.gl),(j64 s7)]),.gro 1 (ai j64 s6)],[.var (.st 5 [(aX.enc a5.gA1),(eB a5.gA),(eL 19 aH.enc a5.gl),(j64 s7)]),.gro 1 (ai j64 s6),.var cv_9]] ⟨bG (pA hT j64 [] he11 rfl (by kernel_rfl) (by kernel_rfl)),bG (pA hT j64 [] he11 rfl (by kernel_rfl) (by kernel_rfl)),trivial⟩ (dE1 11 (λ_=>bT hT bD.enc he12) dE0))) dF0 ?_;refine At.b 4 (λ_ e=>aGf hT (id:=1) (k:=1) (L:=s6.length) (lo0:=0) (m:=s8) e (by kernel_rfl) (by kernel_rfl)) λs13=>?_;refine At.b 15 (λ_ e=>aM [] (aEl e)) λr14=>?_;refine At.c 8 ?_ ?_
      ·exact λh=>At.k 0 ⟨_,_,_,h,jr⟩
      ·refine At.c 3 ?_ ?_
       ·refine At.o 5 (bS hT (x:=(.sl 1 2 [(j64 e12.gB4),(j64 e12.gB2)]))) ?_;refine At.b 0 (λz15 e=>aFE hT j64 (id:=1) (k:=1) e (by kernel_rfl) (by kernel_rfl) (H':=[.var (.st 5 [(aX.enc a5.gA1),(eB a5.gA),(eL 19 aH.enc a5.gl),(j64 (I64 (s7+1)))]),.gro 1 (ai j64 z15),.var (bD.enc e12),.var (aY.enc r14.1)]) (by kernel_rfl)) λz15=>?_;exact λh=>At.k 1 ⟨_,_,_,h,jr⟩
       ·refine lx ?_;intro x16;refine bi λs17 hs17=>?_;refine At.d 0 (dE1 12 (λ_=>aA1 hT (k:=1) j64 hs17) dE0) dF0 ?_;refine At.LS 0 [0,3,4,5,7,8,13] 4 (λp18=>([],[(0,.var (.st 5 [(aX.enc a5.gA1),(eB a5.gA),(eL 19 aH.enc a5.gl),(j64 p18)]))],[])) (λop18 J k=>∃s19 s20,bY N s17 a0 a1 a2 a3 a5 a4 k s19 s20=some op18/\J [0,3,4,5,7,8,13,101,102] 4 [(103,(j64 s20))] [(0,.var (.st 5 [(aX.enc a5.gA1),(eB a5.gA),(eL 19 aH.enc a5.gl),(j64 s19)]))] []) N (λ_ h=>⟨_,_,h,jr⟩) (λop18 g18 k s hI=>?_) λp18=>?_
        ·obtain⟨s19,s20,h,hj⟩:=hI;cases k with
         | zero=>cases h
         | succ k=>
          refine At.jr hj ?_ h;refine lx ?_;intro x21;refine At.c 1 ?_ ?_
          ·refine At.b 0 (λ_ e=>bT hT j64 e) λe22=>?_;refine At.b 16 (λ_ e=>aM [0] (uO e)) λr23=>?_;refine At.J 6 0 [0,3,4,5,7,8,13,101,102,103] 5 (λp24=>([(135,(eB p24))],[],[])) (λp24=>?_) λp24=>?_
           ·refine At.s 125 2 ?_ ?_
            ·refine lx ?_;intro x25;refine At.g [125] 10 ?_;apply rt;exact At.jn 0
            ·refine At.g [125,128] 10 ?_;apply rt;exact At.jn 0
           ·refine At.c 0 ?_ ?_
            ·intro e;apply rtS2 g18 g5 e;exact At.r 1
            ·exact λh=>At.k 2 ⟨_,_,h,jr⟩
          ·apply rt;exact At.xs 0
        ·exact λh=>At.k 0 ⟨_,_,_,h,jr⟩
     ·apply rt;exact At.xs 0
   ·apply rt;exact At.r 1
def aBa : Nat->Bool:=imL [3]
def hK(N:Nat)(x1:Int)(a8:aG)(b4:(List (List aD)))(a2:aJ)(a3:aA)(a5:Int)(a6:Bool)(a7:aF)(a9:aI)(a10:aA)(a11:aE)(a1:aT):Nat->aA->aB->aL->Int->Option (aA×aB×aL)
 | 0,_,_,_,_=>none
 | k+1,s3,s4,s5,s6=>
  cond (decide (s6 < x1)) (
   aa (aa (idx a8.gF s6) λe8=>
   aU (I64 (8+(I64 (2*s6)))) λx9=>
   aa (eE N b4 x9 a2 a3 s3 a5 a6 a7 a8 a9 a10 a11 s4 s5) λr10=>
   aU (I64 (9+(I64 (2*s6)))) λx11=>
   aa (eE N b4 x11 a2 a3 s3 a5 a6 a7 a8 a9 a10 a11 (aB.mk r10.1 s4.gA s4.gC s4.gB s4.gD) s5) λr12=>
   aa (nW N e8 a1.gat a1.gn (#v[r10.2,r12.2])) λr13=>
   aU (cond r13.gC3 (!a9.gT) false) λx14=>
   cond x14 (
    some ((s3,aB.mk r12.1 ((aB.mk r10.1 s4.gA s4.gC s4.gB s4.gD).gA) ((aB.mk r10.1 s4.gA s4.gC s4.gB s4.gD).gC) ((aB.mk r10.1 s4.gA s4.gC s4.gB s4.gD).gB) ((aB.mk r10.1 s4.gA s4.gC s4.gB s4.gD).gD),s5.gD6,e8,r13))) (
    aa (aa (dQ N a1.gat r13.gC7 2 a1.gi (!r13.gC8) s5) λr16=>
    cond (!r16.2) (
     cond (!r13.gC3) (
      some ((r16.1,a1.gG.gJ==0))) (
      some ((r16.1,false)))) (
     some ((r16.1,false)))) λp15=>
    cond p15.2 (
     aa (jE N b4 ([a1.gc,r13.gC4]) a2 a3 s3 a5 a6 a7 a8 a9 a10 a11 (aB.mk r12.1 ((aB.mk r10.1 s4.gA s4.gC s4.gB s4.gD).gA) ((aB.mk r10.1 s4.gA s4.gC s4.gB s4.gD).gC) ((aB.mk r10.1 s4.gA s4.gC s4.gB s4.gD).gB) ((aB.mk r10.1 s4.gA s4.gC s4.gB s4.gD).gD)) (aL.mk s5.gA1 s5.gA s5.gl p15.1)) λr17=>
     some ((r17,aB.mk r12.1 ((aB.mk r10.1 s4.gA s4.gC s4.gB s4.gD).gA) ((aB.mk r10.1 s4.gA s4.gC s4.gB s4.gD).gC) ((aB.mk r10.1 s4.gA s4.gC s4.gB s4.gD).gB) ((aB.mk r10.1 s4.gA s4.gC s4.gB s4.gD).gD),p15.1,e8,r13))) (
     some ((s3,aB.mk r12.1 ((aB.mk r10.1 s4.gA s4.gC s4.gB s4.gD).gA) ((aB.mk r10.1 s4.gA s4.gC s4.gB s4.gD).gC) ((aB.mk r10.1 s4.gA s4.gC s4.gB s4.gD).gB) ((aB.mk r10.1 s4.gA s4.gC s4.gB s4.gD).gD),p15.1,e8,r13))))) λp7=>
   hK N x1 a8 b4 a2 a3 a5 a6 a7 a9 a10 a11 a1 k p7.1 p7.2.1 (aL.mk s5.gA1 s5.gA s5.gl p7.2.2.1) (I64 (s6+1))) (
   some ((s3,s4,s5)))
def qA(N:Nat)(r18:Int×Int)(x19:Int)(a1:aT):Nat->aL->Int->Option (aL)
 | 0,_,_=>none
 | k+1,s21,s22=>
  aU (decide (s22 < (I64 (r18.2 - x19)))) λx23=>
  cond x23 (
   aa (dQ N a1.gat (aC.mk 0 0 0) 2 a1.gi false s21) λr24=>
   qA N r18 x19 a1 k (aL.mk s21.gA1 s21.gA s21.gl r24.1) (I64 (s22+1))) (
   some s21)
def lI(N:Nat)(b4:(List (List aD)))(a1:aT)(a2:aJ)(a3 a4:aA)(a5:Int)(a6:Bool)(a7:aF)(a8:aG)(a9:aI)(a10:aA)(a11:aE)(a12:aB)(a13:aL):Option (aA×aB×aL):=
 aU ((a8.gF.length:Int)) λx1=>
 aa (hK N x1 a8 b4 a2 a3 a5 a6 a7 a9 a10 a11 a1 N a4 a12 a13 0) λp2=>
 cond (!a9.gT) (
  some ((p2.1,p2.2.1,p2.2.2))) (
  aa (iV N a9.gL) λr18=>
  aU ((a8.gF.length:Int)) λx19=>
  aa (qA N r18 x19 a1 N p2.2.2 0) λp20=>
  some ((p2.1,p2.2.1,p20)))
theorem aBw{N b4 a1 a2 a3 a4 a5 a6 a7 a8 a9 a10 a11 a12 a13 r}(h:lI N b4 a1 a2 a3 a4 a5 a6 a7 a8 a9 a10 a11 a12 a13=some r):FnM Tryz.prog 194 [.var (.st 26 [(aJ.enc a2),(.ref 1 [] 0),(.ref 2 [] 0),(aA.enc a3),(aA.enc a4),(j64 a5),(eB a6),(aF.enc a7)]),.var (.st 38 [(aG.enc a8),(aI.enc a9),(.ifc 181 (.ref 3 [] 0)),(eO 4 1 (eL 2 aD.enc) b4),(aA.enc a10),(aE.enc a11)]),.var (aB.enc a12),.var (aL.enc a13),.tail (b4.length*1)] [(.ref 0 [] 0),(aT.enc a1)] (.tup []) [.var (.st 26 [(aJ.enc a2),(.ref 1 [] 0),(.ref 2 [] 0),(aA.enc a3),(aA.enc r.1),(j64 a5),(eB a6),(aF.enc a7)]),.var (.st 38 [(aG.enc a8),(aI.enc a9),(.ifc 181 (.ref 3 [] 0)),(eO 4 1 (eL 2 aD.enc) b4),(aA.enc a10),(aE.enc a11)]),.var (aB.enc r.2.1),.var (aL.enc r.2.2),.tail (b4.length*1)]:=by
 unfold lI at h;refine At.f aBa hT hmo Tryz.func194 rfl h ?_;refine lx ?_;intro x1;refine At.L 11 [0,3] 5 (λp2=>([],[(0,.var (.st 26 [(aJ.enc a2),(.ref 1 [] 0),(.ref 2 [] 0),(aA.enc a3),(aA.enc p2.1),(j64 a5),(eB a6),(aF.enc a7)])),(2,.var (aB.enc p2.2.1)),(3,.var (aL.enc p2.2.2))],[])) (λp2 J k=>∃s3 s4 s5 s6,hK N x1 a8 b4 a2 a3 a5 a6 a7 a9 a10 a11 a1 k s3 s4 s5 s6=some p2/\J [0,3,16,17] 5 [(18,(j64 s6))] [(0,.var (.st 26 [(aJ.enc a2),(.ref 1 [] 0),(.ref 2 [] 0),(aA.enc a3),(aA.enc s3),(j64 a5),(eB a6),(aF.enc a7)])),(2,.var (aB.enc s4)),(3,.var (aL.enc s5))] []) N (λ_ h=>⟨_,_,_,_,h,jr⟩) (λp2 k s hI=>?_) λp2=>?_
 ·obtain⟨s3,s4,s5,s6,h,hj⟩:=hI;cases k with
  | zero=>cases h
  | succ k=>
   refine At.jr hj ?_ h;refine At.c 1 ?_ ?_
   ·refine At.J 0 2 [0,3,16,17,18] 5 (λp7=>([],[(0,.var (.st 26 [(aJ.enc a2),(.ref 1 [] 0),(.ref 2 [] 0),(aA.enc a3),(aA.enc p7.1),(j64 a5),(eB a6),(aF.enc a7)])),(2,.var (aB.enc p7.2.1)),(3,.var (.st 5 [(aX.enc s5.gA1),(eB s5.gA),(eL 19 aH.enc s5.gl),(j64 p7.2.2.1)]))],[.var (aQ.enc p7.2.2.2.1),.var (jH.enc p7.2.2.2.2)])) (λp7=>?_) λp7=>?_
    ·refine At.b 1 (λ_ e=>bT hT aQ.enc e) λe8=>?_;refine lx ?_;intro x9;refine bi λr10 hr10=>?_;refine lx ?_;intro x11;refine bi λr12 hr12=>?_;refine bi λr13 hr13=>?_;refine At.d2 4 [false] (dC2 16 (jH.enc r13) (λ_=>aO (aCw hr13)) dC0) (dS1 9 ⟨(k32 r10.2),2,.var (.st 72 [(aV.enc r10.1),(eB s4.gA),(k64 s4.gC),(j64 s4.gB),(j64 s4.gD)]),.var (aB.enc s4)⟩ [[.var (.st 26 [(aJ.enc a2),(.ref 1 [] 0),(.ref 2 [] 0),(aA.enc a3),(aA.enc s3),(j64 a5),(eB a6),(aF.enc a7)]),.var (.st 38 [(aG.enc a8),(aI.enc a9),(.ifc 181 (.ref 3 [] 0)),(eO 4 1 (eL 2 aD.enc) b4),(aA.enc a10),(aE.enc a11)]),.var (aB.enc s4),.var (aL.enc s5),.tail (b4.length*1),.var (aQ.enc e8),.dead],[.var (.st 26 [(aJ.enc a2),(.ref 1 [] 0),(.ref 2 [] 0),(aA.enc a3),(aA.enc s3),(j64 a5),(eB a6),(aF.enc a7)]),.var (.st 38 [(aG.enc a8),(aI.enc a9),(.ifc 181 (.ref 3 [] 0)),(eO 4 1 (eL 2 aD.enc) b4),(aA.enc a10),(aE.enc a11)]),.var (aB.enc s4),.var (aL.enc s5),.tail (b4.length*1),.var (aQ.enc e8),.var aO6]] ⟨bG (aM [0,1,2,3,4] (dO hr10)),bG (aM [0,1,2,3,4] (dO hr10)),trivial⟩ (dS1 14 ⟨(k32 r12.2),2,.var (.st 72 [(aV.enc r12.1),(eB ((aB.mk r10.1 s4.gA s4.gC s4.gB s4.gD).gA)),(k64 ((aB.mk r10.1 s4.gA s4.gC s4.gB s4.gD).gC)),(j64 ((aB.mk r10.1 s4.gA s4.gC s4.gB s4.gD).gB)),(j64 ((aB.mk r10.1 s4.gA s4.gC s4.gB s4.gD).gD))]),.var (.st 72 [(aV.enc r10.1),(eB s4.gA),(k64 s4.gC),(j64 s4.gB),(j64 s4.gD)])⟩ [[.var (.st 26 [(aJ.enc a2),(.ref 1 [] 0),(.ref 2 [] 0),(aA.enc a3),(aA.enc s3),(j64 a5),(eB a6),(aF.enc a7)]),.var (.st 38 [(aG.enc a8),(aI.enc a9),(.ifc 181 (.ref 3 [] 0)),(eO 4 1 (eL 2 aD.enc) b4),(aA.enc a10),(aE.enc a11)]),.var (.st 72 [(aV.enc r10.1),(eB s4.gA),(k64 s4.gC),(j64 s4.gB),(j64 s4.gD)]),.var (aL.enc s5),.tail (b4.length*1),.var (aQ.enc e8),.dead],[.var (.st 26 [(aJ.enc a2),(.ref 1 [] 0),(.ref 2 [] 0),(aA.enc a3),(aA.enc s3),(j64 a5),(eB a6),(aF.enc a7)]),.var (.st 38 [(aG.enc a8),(aI.enc a9),(.ifc 181 (.ref 3 [] 0)),(eO 4 1 (eL 2 aD.enc) b4),(aA.enc a10),(aE.enc a11)]),.var (.st 72 [(aV.enc r10.1),(eB s4.gA),(k64 s4.gC),(j64 s4.gB),(j64 s4.gD)]),.var (aL.enc s5),.tail (b4.length*1),.var (aQ.enc e8),.var aO6]] ⟨bG (aM [0,1,2,3,4] (dO hr12)),bG (aM [0,1,2,3,4] (dO hr12)),trivial⟩ (dS1 17 ⟨(.ref 6 [] 0),6,.var aO6,.dead⟩ [[.var (.st 26 [(aJ.enc a2),(.ref 1 [] 0),(.ref 2 [] 0),(aA.enc a3),(aA.enc s3),(j64 a5),(eB a6),(aF.enc a7)]),.var (.st 38 [(aG.enc a8),(aI.enc a9),(.ifc 181 (.ref 3 [] 0)),(eO 4 1 (eL 2 aD.enc) b4),(aA.enc a10),(aE.enc a11)]),.var (aB.enc s4),.var (aL.enc s5),.tail (b4.length*1),.var (aQ.enc e8),.dead],[.var (.st 26 [(aJ.enc a2),(.ref 1 [] 0),(.ref 2 [] 0),(aA.enc a3),(aA.enc s3),(j64 a5),(eB a6),(aF.enc a7)]),.var (.st 38 [(aG.enc a8),(aI.enc a9),(.ifc 181 (.ref 3 [] 0)),(eO 4 1 (eL 2 aD.enc) b4),(aA.enc a10),(aE.enc a11)]),.var (.st 72 [(aV.enc r12.1),(eB ((aB.mk r10.1 s4.gA s4.gC s4.gB s4.gD).gA)),(k64 ((aB.mk r10.1 s4.gA s4.gC s4.gB s4.gD).gC)),(j64 ((aB.mk r10.1 s4.gA s4.gC s4.gB s4.gD).gB)),(j64 ((aB.mk r10.1 s4.gA s4.gC s4.gB s4.gD).gD))]),.var (aL.enc s5),.tail (b4.length*1),.var (aQ.enc e8),.dead],[.var (.st 26 [(aJ.enc a2),(.ref 1 [] 0),(.ref 2 [] 0),(aA.enc a3),(aA.enc s3),(j64 a5),(eB a6),(aF.enc a7)]),.var (.st 38 [(aG.enc a8),(aI.enc a9),(.ifc 181 (.ref 3 [] 0)),(eO 4 1 (eL 2 aD.enc) b4),(aA.enc a10),(aE.enc a11)]),.var (.st 72 [(aV.enc r10.1),(eB s4.gA),(k64 s4.gC),(j64 s4.gB),(j64 s4.gD)]),.var (aL.enc s5),.tail (b4.length*1),.var (aQ.enc e8),.dead],[.var (.st 26 [(aJ.enc a2),(.ref 1 [] 0),(.ref 2 [] 0),(aA.enc a3),(aA.enc s3),(j64 a5),(eB a6),(aF.enc a7)]),.var (.st 38 [(aG.enc a8),(aI.enc a9),(.ifc 181 (.ref 3 [] 0)),(eO 4 1 (eL 2 aD.enc) b4),(aA.enc a10),(aE.enc a11)]),.var (.st 72 [(aV.enc r12.1),(eB ((aB.mk r10.1 s4.gA s4.gC s4.gB s4.gD).gA)),(k64 ((aB.mk r10.1 s4.gA s4.gC s4.gB s4.gD).gC)),(j64 ((aB.mk r10.1 s4.gA s4.gC s4.gB s4.gD).gB)),(j64 ((aB.mk r10.1 s4.gA s4.gC s4.gB s4.gD).gD))]),.var (aL.enc s5),.tail (b4.length*1),.var (aQ.enc e8),.dead]] ⟨aW hT 6 (by kernel_rfl) (by kernel_rfl) (by kernel_rfl),aW hT 6 (by kernel_rfl) (by kernel_rfl) (by kernel_rfl),aW hT 6 (by kernel_rfl) (by kernel_rfl) (by kernel_rfl),aW hT 6 (by kernel_rfl) (by kernel_rfl) (by kernel_rfl),trivial⟩ dS0))) ?_;refine lx ?_;intro x14;refine At.c 13 ?_ ?_
     ·apply rt;exact At.jn 0
     ·refine At.J 0 0 [0,3,6,16,17,18] 7 (λp15=>([(81,(eB p15.2))],[(3,.var (.st 5 [(aX.enc s5.gA1),(eB s5.gA),(eL 19 aH.enc s5.gl),(j64 p15.1)]))],[])) (λp15=>?_) λp15=>?_
      ·refine bi λr16 hr16=>?_;refine boI (λhc18=>?_) (λhc18=>?_)
       ·refine boI (λhc23=>?_) (λhc23=>?_)
        ·refine At.d 0 (dE1 18 (λ_=>cO hc18 rfl (cF hT (im:=false) (by kernel_rfl))) (dE1 23 (λ_=>cO hc23 rfl (cF hT (im:=false) (by kernel_rfl))) dE0)) (dF 16 (eB r16.2) [(3,.var (.st 5 [(aX.enc s5.gA1),(eB s5.gA),(eL 19 aH.enc s5.gl),(j64 r16.1)]))] [] (bG (aM [3] (mQ hr16))) dF0) ?_;apply rt;exact At.jn 0
        ·refine At.d 0 (dE1 18 (λ_=>cO hc18 rfl (cF hT (im:=false) (by kernel_rfl))) (dE1 23 (λ_=>cO hc23 rfl (cF hT (im:=false) (by kernel_rfl))) dE0)) (dF 16 (eB r16.2) [(3,.var (.st 5 [(aX.enc s5.gA1),(eB s5.gA),(eL 19 aH.enc s5.gl),(j64 r16.1)]))] [] (bG (aM [3] (mQ hr16))) dF0) ?_;apply rt;exact At.jn 0
       ·refine At.d 0 (dE1 18 (λ_=>cO hc18 rfl (cF hT (im:=false) (by kernel_rfl))) dE0) (dF 16 (eB r16.2) [(3,.var (.st 5 [(aX.enc s5.gA1),(eB s5.gA),(eL 19 aH.enc s5.gl),(j64 r16.1)]))] [] (bG (aM [3] (mQ hr16))) dF0) ?_;apply rt;exact At.jn 0
      ·refine At.c 0 ?_ ?_
       ·refine At.o 5 (bS hT (x:=(.sl 3 2 [(aA.enc a1.gc),(aA.enc r13.gC4)]))) ?_;refine At.b 0 (λ_ e=>aM [0,1,2,3,4] (tU e)) λr17=>?_;apply rt;exact At.jn 0
       ·apply rt;exact At.jn 0
    ·exact λh=>At.k 2 ⟨_,_,_,_,h,jr⟩
   ·apply rt;exact At.x 0
 ·refine At.c 9 ?_ ?_
  ·apply rt;exact At.r 0
  ·refine At.b 8 (λ_ e=>aM [] (qR e)) λr18=>?_;refine lx ?_;intro x19;refine At.L 17 [] 5 (λp20=>([],[(3,.var (aL.enc p20))],[])) (λp20 J k=>∃s21 s22,qA N r18 x19 a1 k s21 s22=some p20/\J [0,3,121] 5 [(122,(j64 s22))] [(3,.var (aL.enc s21))] []) N (λ_ h=>⟨_,_,h,jr⟩) (λp20 k s hI=>?_) λp20=>?_
   ·obtain⟨s21,s22,h,hj⟩:=hI;cases k with
    | zero=>cases h
    | succ k=>
     refine At.jr hj ?_ h;refine lx ?_;intro x23;refine At.c 1 ?_ ?_
     ·refine bi λr24 hr24=>?_;refine At.d 0 dE0 (dF 12 (eB r24.2) [(3,.var (.st 5 [(aX.enc s21.gA1),(eB s21.gA),(eL 19 aH.enc s21.gl),(j64 r24.1)]))] [] (bG (aM [3] (mQ hr24))) dF0) ?_;exact λh=>At.k 2 ⟨_,_,h,jr⟩
     ·apply rt;exact At.x 0
   ·apply rt;exact At.z 0
def nG(N:Nat)(b4:(List (List aD)))(a1:aJ)(a2 a3:aA)(a4:Int)(a5:Bool)(a6:aF)(a7:aG)(a8:aI)(a9:aA)(a10:aE)(a11:aB)(a12:aL):Option (aJ×aA×aA×Bool×aF×Int×aB×aL):=
 aa (nI N b4 a1 a2 a3 a4 a5 a6 a7 a8 a9 a10 a11 a12) λr1=>
 aa (cond (!r1.2.2.2.2) (
  aa (jE N b4 ([a9]) a1 a2 a3 a4 a5 r1.1 a7 a8 a9 (aE.mk a10.gN r1.2.1 (I64 (a10.gM+1))) a11 (aL.mk a12.gA1 a12.gA a12.gl r1.2.2.1)) λr3=>
  aa (fJ N b4 true a1 a2 r3 a4 a5 r1.1 a7 a8 a9 (aE.mk a10.gN r1.2.1 (I64 (a10.gM+1))) a11 (aL.mk a12.gA1 a12.gA a12.gl r1.2.2.1)) λr4=>
  some ((r3,cond a5 true true))) (
  some ((a3,a5)))) λp2=>
 aa (fJ N b4 r1.2.2.2.1.gB7 a1 a2 p2.1 a4 p2.2 r1.1 a7 a8 a9 (aE.mk a10.gN r1.2.1 (I64 (a10.gM+1))) a11 (aL.mk a12.gA1 a12.gA a12.gl r1.2.2.1)) λr5=>
 aa (aU (r1.2.2.2.1.gG.gJ==4) λx7=>
 cond x7 (
  aa (jE N b4 ([r1.2.2.2.1.gc]) a1 a2 p2.1 a4 (cond p2.2 true r1.2.2.2.1.gB7) r1.1 a7 a8 a9 (aE.mk a10.gN r1.2.1 (I64 (a10.gM+1))) a11 (aL.mk a12.gA1 a12.gA a12.gl r1.2.2.1)) λr8=>
  aa (fJ N b4 true a1 a2 r8 a4 ((cond p2.2 true r1.2.2.2.1.gB7)) r1.1 a7 a8 a9 (aE.mk a10.gN r1.2.1 (I64 (a10.gM+1))) a11 (aL.mk a12.gA1 a12.gA a12.gl r1.2.2.1)) λr9=>
  some ((r8,cond ((cond p2.2 true r1.2.2.2.1.gB7)) true true))) (
  some ((p2.1,cond p2.2 true r1.2.2.2.1.gB7)))) λp6=>
 aa (aa (cond a8.gT (
  some true) (
  aU (r1.2.2.2.1.gG.gJ==0) λx12=>
  some (cond (!p6.2) x12 false))) λp11=>
 cond p11 (
  aa (lI N b4 r1.2.2.2.1 a1 a2 p6.1 a4 p6.2 r1.1 a7 a8 a9 (aE.mk a10.gN r1.2.1 (I64 (a10.gM+1))) a11 (aL.mk a12.gA1 a12.gA a12.gl r1.2.2.1)) λr13=>
  some ((r13.1,r13.2.1,r13.2.2))) (
  some ((p6.1,a11,aL.mk a12.gA1 a12.gA a12.gl r1.2.2.1)))) λp10=>
 aa (cond p6.2 (
  some true) (
  some (a4==a8.gK))) λp14=>
 cond p14 (
  aa (fJ N b4 true a1 a2 p10.1 a4 p6.2 r1.1 a7 a8 a9 (aE.mk a10.gN r1.2.1 (I64 (a10.gM+1))) p10.2.1 p10.2.2) λr15=>
  some ((a1,a2,p10.1,cond p6.2 true true,r1.1,r1.2.1,p10.2.1,p10.2.2))) (
  aa (eE N b4 4 a1 a2 p10.1 a4 p6.2 r1.1 a7 a8 a9 (aE.mk a10.gN r1.2.1 (I64 (a10.gM+1))) p10.2.1 p10.2.2) λr16=>
  aa (eE N b4 5 a1 a2 p10.1 a4 p6.2 r1.1 a7 a8 a9 (aE.mk a10.gN r1.2.1 (I64 (a10.gM+1))) (aB.mk r16.1 p10.2.1.gA p10.2.1.gC p10.2.1.gB p10.2.1.gD) p10.2.2) λr17=>
  aa (jK N r1.2.2.2.1.gG r1.2.2.2.1.gc r1.2.2.2.1.gn a1.gd (#v[r16.2,r17.2])) λr18=>
  aa (iA N ([a2,r18.gC4])) λr19=>
  aa (fJ N b4 r18.gB9 a1 r19 p10.1 a4 p6.2 r1.1 a7 a8 a9 (aE.mk a10.gN r1.2.1 (I64 (a10.gM+1))) (aB.mk r17.1 ((aB.mk r16.1 p10.2.1.gA p10.2.1.gC p10.2.1.gB p10.2.1.gD).gA) ((aB.mk r16.1 p10.2.1.gA p10.2.1.gC p10.2.1.gB p10.2.1.gD).gC) ((aB.mk r16.1 p10.2.1.gA p10.2.1.gC p10.2.1.gB p10.2.1.gD).gB) ((aB.mk r16.1 p10.2.1.gA p10.2.1.gC p10.2.1.gB p10.2.1.gD).gD)) p10.2.2) λr20=>
  aa (cond (decide (a4>=2)) (
   aa (eE N b4 7 a1 r19 p10.1 a4 (cond p6.2 true r18.gB9) r1.1 a7 a8 a9 (aE.mk a10.gN r1.2.1 (I64 (a10.gM+1))) (aB.mk r17.1 ((aB.mk r16.1 p10.2.1.gA p10.2.1.gC p10.2.1.gB p10.2.1.gD).gA) ((aB.mk r16.1 p10.2.1.gA p10.2.1.gC p10.2.1.gB p10.2.1.gD).gC) ((aB.mk r16.1 p10.2.1.gA p10.2.1.gC p10.2.1.gB p10.2.1.gD).gB) ((aB.mk r16.1 p10.2.1.gA p10.2.1.gC p10.2.1.gB p10.2.1.gD).gD)) p10.2.2) λr22=>
   aa (fB N r19 r22.2) λr23=>
   aa (fJ N b4 (!r23.2) a1 r23.1 p10.1 a4 (cond p6.2 true r18.gB9) r1.1 a7 a8 a9 (aE.mk a10.gN r1.2.1 (I64 (a10.gM+1))) (aB.mk r22.1 ((aB.mk r17.1 ((aB.mk r16.1 p10.2.1.gA p10.2.1.gC p10.2.1.gB p10.2.1.gD).gA) ((aB.mk r16.1 p10.2.1.gA p10.2.1.gC p10.2.1.gB p10.2.1.gD).gC) ((aB.mk r16.1 p10.2.1.gA p10.2.1.gC p10.2.1.gB p10.2.1.gD).gB) ((aB.mk r16.1 p10.2.1.gA p10.2.1.gC p10.2.1.gB p10.2.1.gD).gD)).gA) ((aB.mk r17.1 ((aB.mk r16.1 p10.2.1.gA p10.2.1.gC p10.2.1.gB p10.2.1.gD).gA) ((aB.mk r16.1 p10.2.1.gA p10.2.1.gC p10.2.1.gB p10.2.1.gD).gC) ((aB.mk r16.1 p10.2.1.gA p10.2.1.gC p10.2.1.gB p10.2.1.gD).gB) ((aB.mk r16.1 p10.2.1.gA p10.2.1.gC p10.2.1.gB p10.2.1.gD).gD)).gC) ((aB.mk r17.1 ((aB.mk r16.1 p10.2.1.gA p10.2.1.gC p10.2.1.gB p10.2.1.gD).gA) ((aB.mk r16.1 p10.2.1.gA p10.2.1.gC p10.2.1.gB p10.2.1.gD).gC) ((aB.mk r16.1 p10.2.1.gA p10.2.1.gC p10.2.1.gB p10.2.1.gD).gB) ((aB.mk r16.1 p10.2.1.gA p10.2.1.gC p10.2.1.gB p10.2.1.gD).gD)).gB) ((aB.mk r17.1 ((aB.mk r16.1 p10.2.1.gA p10.2.1.gC p10.2.1.gB p10.2.1.gD).gA) ((aB.mk r16.1 p10.2.1.gA p10.2.1.gC p10.2.1.gB p10.2.1.gD).gC) ((aB.mk r16.1 p10.2.1.gA p10.2.1.gC p10.2.1.gB p10.2.1.gD).gB) ((aB.mk r16.1 p10.2.1.gA p10.2.1.gC p10.2.1.gB p10.2.1.gD).gD)).gD)) p10.2.2) λr24=>
   some ((r23.1,cond (cond p6.2 true r18.gB9) true (!r23.2),aB.mk r22.1 ((aB.mk r17.1 ((aB.mk r16.1 p10.2.1.gA p10.2.1.gC p10.2.1.gB p10.2.1.gD).gA) ((aB.mk r16.1 p10.2.1.gA p10.2.1.gC p10.2.1.gB p10.2.1.gD).gC) ((aB.mk r16.1 p10.2.1.gA p10.2.1.gC p10.2.1.gB p10.2.1.gD).gB) ((aB.mk r16.1 p10.2.1.gA p10.2.1.gC p10.2.1.gB p10.2.1.gD).gD)).gA) ((aB.mk r17.1 ((aB.mk r16.1 p10.2.1.gA p10.2.1.gC p10.2.1.gB p10.2.1.gD).gA) ((aB.mk r16.1 p10.2.1.gA p10.2.1.gC p10.2.1.gB p10.2.1.gD).gC) ((aB.mk r16.1 p10.2.1.gA p10.2.1.gC p10.2.1.gB p10.2.1.gD).gB) ((aB.mk r16.1 p10.2.1.gA p10.2.1.gC p10.2.1.gB p10.2.1.gD).gD)).gC) ((aB.mk r17.1 ((aB.mk r16.1 p10.2.1.gA p10.2.1.gC p10.2.1.gB p10.2.1.gD).gA) ((aB.mk r16.1 p10.2.1.gA p10.2.1.gC p10.2.1.gB p10.2.1.gD).gC) ((aB.mk r16.1 p10.2.1.gA p10.2.1.gC p10.2.1.gB p10.2.1.gD).gB) ((aB.mk r16.1 p10.2.1.gA p10.2.1.gC p10.2.1.gB p10.2.1.gD).gD)).gB) ((aB.mk r17.1 ((aB.mk r16.1 p10.2.1.gA p10.2.1.gC p10.2.1.gB p10.2.1.gD).gA) ((aB.mk r16.1 p10.2.1.gA p10.2.1.gC p10.2.1.gB p10.2.1.gD).gC) ((aB.mk r16.1 p10.2.1.gA p10.2.1.gC p10.2.1.gB p10.2.1.gD).gB) ((aB.mk r16.1 p10.2.1.gA p10.2.1.gC p10.2.1.gB p10.2.1.gD).gD)).gD)))) (
   some ((r19,cond p6.2 true r18.gB9,aB.mk r17.1 ((aB.mk r16.1 p10.2.1.gA p10.2.1.gC p10.2.1.gB p10.2.1.gD).gA) ((aB.mk r16.1 p10.2.1.gA p10.2.1.gC p10.2.1.gB p10.2.1.gD).gC) ((aB.mk r16.1 p10.2.1.gA p10.2.1.gC p10.2.1.gB p10.2.1.gD).gB) ((aB.mk r16.1 p10.2.1.gA p10.2.1.gC p10.2.1.gB p10.2.1.gD).gD))))) λp21=>
  some ((aJ.mk r1.2.2.2.1.gat r18.gD7 r1.2.2.2.1.gi,p21.1,p10.1,p21.2.1,r1.1,r1.2.1,p21.2.2,p10.2.2)))
theorem aCT{N b4 a1 a2 a3 a4 a5 a6 a7 a8 a9 a10 a11 a12 r}(h:nG N b4 a1 a2 a3 a4 a5 a6 a7 a8 a9 a10 a11 a12=some r):FnM Tryz.prog 107 [.var (.st 26 [(aJ.enc a1),(.ref 1 [] 0),(.ref 2 [] 0),(aA.enc a2),(aA.enc a3),(j64 a4),(eB a5),(aF.enc a6)]),.var (.st 38 [(aG.enc a7),(aI.enc a8),(.ifc 181 (.ref 3 [] 0)),(eO 4 1 (eL 2 aD.enc) b4),(aA.enc a9),(aE.enc a10)]),.var (aB.enc a11),.var (aL.enc a12),.tail (b4.length*1)] [(.ref 0 [] 0)] (.tup []) [.var (.st 26 [(aJ.enc r.1),(.ref 1 [] 0),(.ref 2 [] 0),(aA.enc r.2.1),(aA.enc r.2.2.1),(j64 a4),(eB r.2.2.2.1),(aF.enc r.2.2.2.2.1)]),.var (.st 38 [(aG.enc a7),(aI.enc a8),(.ifc 181 (.ref 3 [] 0)),(eO 4 1 (eL 2 aD.enc) b4),(aA.enc a9),(.st 3 [(j64 a10.gN),(j64 r.2.2.2.2.2.1),(j64 (I64 (a10.gM+1)))])]),.var (aB.enc r.2.2.2.2.2.2.1),.var (aL.enc r.2.2.2.2.2.2.2),.tail (b4.length*1)]:=by
 unfold nG at h;refine At.f dG hT hmo Tryz.func107 rfl h ?_;refine At.b 1 (λ_ e=>aM [0,1,2,3,4] (aCq e)) λr1=>?_;refine At.J 6 1 [0,2] 6 (λp2=>([],[(0,.var (.st 26 [(aJ.enc a1),(.ref 1 [] 0),(.ref 2 [] 0),(aA.enc a2),(aA.enc p2.1),(j64 a4),(eB p2.2),(aF.enc r1.1)]))],[])) (λp2=>?_) λp2=>?_
 ·refine At.c 2 ?_ ?_
  ·refine At.o 8 (bS hT (x:=(.sl 3 1 [(aA.enc a9)]))) ?_;refine At.b 0 (λ_ e=>aM [0,1,2,3,4] (tU e)) λr3=>?_;refine At.b 1 (λ_ e=>aM [0,1,2,3,4] (kB e)) λr4=>?_;apply rt;exact At.jn 0
  ·apply rt;exact At.jn 0
 ·refine At.b 3 (λ_ e=>aM [0,1,2,3,4] (kB e)) λr5=>?_;refine At.J 0 1 [0,2] 6 (λp6=>([],[(0,.var (.st 26 [(aJ.enc a1),(.ref 1 [] 0),(.ref 2 [] 0),(aA.enc a2),(aA.enc p6.1),(j64 a4),(eB p6.2),(aF.enc r1.1)]))],[])) (λp6=>?_) λp6=>?_
  ·refine lx ?_;intro x7;refine At.c 4 ?_ ?_
   ·refine At.o 3 (bS hT (x:=(.sl 3 1 [(aA.enc r1.2.2.2.1.gc)]))) ?_;refine At.b 0 (λ_ e=>aM [0,1,2,3,4] (tU e)) λr8=>?_;refine At.b 1 (λ_ e=>aM [0,1,2,3,4] (kB e)) λr9=>?_;apply rt;exact At.jn 0
   ·apply rt;exact At.jn 0
  ·refine At.J 0 1 [0,2] 6 (λp10=>([],[(0,.var (.st 26 [(aJ.enc a1),(.ref 1 [] 0),(.ref 2 [] 0),(aA.enc a2),(aA.enc p10.1),(j64 a4),(eB p6.2),(aF.enc r1.1)])),(2,.var (aB.enc p10.2.1)),(3,.var (aL.enc p10.2.2))],[])) (λp10=>?_) λp10=>?_
   ·refine At.J 0 0 [0,2] 6 (λp11=>([(61,(eB p11))],[],[])) (λp11=>?_) λp11=>?_
    ·refine At.s 49 9 ?_ ?_
     ·refine At.g [49,55] 12 ?_;apply rt;exact At.jn 0
     ·refine lx ?_;intro x12;refine At.g [49] 12 ?_;apply rt;exact At.jn 0
    ·refine At.c 0 ?_ ?_
     ·refine At.b 2 (λ_ e=>aM [0,1,2,3,4] (aBw e)) λr13=>?_;apply rt;exact At.jn 0
     ·apply rt;exact At.jn 0
   ·refine At.J 0 0 [0,2] 6 (λp14=>([(83,(eB p14))],[],[])) (λp14=>?_) λp14=>?_
    ·refine boI (λhc4=>?_) (λhc4=>?_)
     ·refine At.d 0 (dE1 4 (λ_=>cO hc4 rfl (cF hT (im:=false) (by kernel_rfl))) dE0) dF0 ?_;apply rt;exact At.jn 0
     ·refine At.d 0 (dE1 4 (λ_=>cO hc4 rfl (cF hT (im:=false) (by kernel_rfl))) dE0) dF0 ?_;apply rt;exact At.jn 0
    ·refine At.c 0 ?_ ?_
     ·refine At.b 1 (λ_ e=>aM [0,1,2,3,4] (kB e)) λr15=>?_;apply rt;exact At.r 0
     ·refine bi λr16 hr16=>?_;refine bi λr17 hr17=>?_;refine bi λr18 hr18=>?_;refine At.d2 0 [false] (dC2 16 (cX.enc r18) (λ_=>aO (aAb hr18)) dC0) (dS1 12 ⟨(k32 r16.2),2,.var (.st 72 [(aV.enc r16.1),(eB p10.2.1.gA),(k64 p10.2.1.gC),(j64 p10.2.1.gB),(j64 p10.2.1.gD)]),.var (aB.enc p10.2.1)⟩ [[.var (.st 26 [(aJ.enc a1),(.ref 1 [] 0),(.ref 2 [] 0),(aA.enc a2),(aA.enc p10.1),(j64 a4),(eB p6.2),(aF.enc r1.1)]),.var (.st 38 [(aG.enc a7),(aI.enc a8),(.ifc 181 (.ref 3 [] 0)),(eO 4 1 (eL 2 aD.enc) b4),(aA.enc a9),(.st 3 [(j64 a10.gN),(j64 r1.2.1),(j64 (I64 (a10.gM+1)))])]),.var (aB.enc p10.2.1),.var (aL.enc p10.2.2),.tail (b4.length*1),.var (aT.enc r1.2.2.2.1),.dead],[.var (.st 26 [(aJ.enc a1),(.ref 1 [] 0),(.ref 2 [] 0),(aA.enc a2),(aA.enc p10.1),(j64 a4),(eB p6.2),(aF.enc r1.1)]),.var (.st 38 [(aG.enc a7),(aI.enc a8),(.ifc 181 (.ref 3 [] 0)),(eO 4 1 (eL 2 aD.enc) b4),(aA.enc a9),(.st 3 [(j64 a10.gN),(j64 r1.2.1),(j64 (I64 (a10.gM+1)))])]),.var (aB.enc p10.2.1),.var (aL.enc p10.2.2),.tail (b4.length*1),.var (aT.enc r1.2.2.2.1),.var aOo]] ⟨bG (aM [0,1,2,3,4] (dO hr16)),bG (aM [0,1,2,3,4] (dO hr16)),trivial⟩ (dS1 14 ⟨(k32 r17.2),2,.var (.st 72 [(aV.enc r17.1),(eB ((aB.mk r16.1 p10.2.1.gA p10.2.1.gC p10.2.1.gB p10.2.1.gD).gA)),(k64 ((aB.mk r16.1 p10.2.1.gA p10.2.1.gC p10.2.1.gB p10.2.1.gD).gC)),(j64 ((aB.mk r16.1 p10.2.1.gA p10.2.1.gC p10.2.1.gB p10.2.1.gD).gB)),(j64 ((aB.mk r16.1 p10.2.1.gA p10.2.1.gC p10.2.1.gB p10.2.1.gD).gD))]),.var (.st 72 [(aV.enc r16.1),(eB p10.2.1.gA),(k64 p10.2.1.gC),(j64 p10.2.1.gB),(j64 p10.2.1.gD)])⟩ [[.var (.st 26 [(aJ.enc a1),(.ref 1 [] 0),(.ref 2 [] 0),(aA.enc a2),(aA.enc p10.1),(j64 a4),(eB p6.2),(aF.enc r1.1)]),.var (.st 38 [(aG.enc a7),(aI.enc a8),(.ifc 181 (.ref 3 [] 0)),(eO 4 1 (eL 2 aD.enc) b4),(aA.enc a9),(.st 3 [(j64 a10.gN),(j64 r1.2.1),(j64 (I64 (a10.gM+1)))])]),.var (.st 72 [(aV.enc r16.1),(eB p10.2.1.gA),(k64 p10.2.1.gC),(j64 p10.2.1.gB),(j64 p10.2.1.gD)]),.var (aL.enc p10.2.2),.tail (b4.length*1),.var (aT.enc r1.2.2.2.1),.dead],[.var (.st 26 [(aJ.enc a1),(.ref 1 [] 0),(.ref 2 [] 0),(aA.enc a2),(aA.enc p10.1),(j64 a4),(eB p6.2),(aF.enc r1.1)]),.var (.st 38 [(aG.enc a7),(aI.enc a8),(.ifc 181 (.ref 3 [] 0)),(eO 4 1 (eL 2 aD.enc) b4),(aA.enc a9),(.st 3 [(j64 a10.gN),(j64 r1.2.1),(j64 (I64 (a10.gM+1)))])]),.var (.st 72 [(aV.enc r16.1),(eB p10.2.1.gA),(k64 p10.2.1.gC),(j64 p10.2.1.gB),(j64 p10.2.1.gD)]),.var (aL.enc p10.2.2),.tail (b4.length*1),.var (aT.enc r1.2.2.2.1),.var aOo]] ⟨bG (aM [0,1,2,3,4] (dO hr17)),bG (aM [0,1,2,3,4] (dO hr17)),trivial⟩ (dS1 17 ⟨(.ref 6 [] 0),6,.var aOo,.dead⟩ [[.var (.st 26 [(aJ.enc a1),(.ref 1 [] 0),(.ref 2 [] 0),(aA.enc a2),(aA.enc p10.1),(j64 a4),(eB p6.2),(aF.enc r1.1)]),.var (.st 38 [(aG.enc a7),(aI.enc a8),(.ifc 181 (.ref 3 [] 0)),(eO 4 1 (eL 2 aD.enc) b4),(aA.enc a9),(.st 3 [(j64 a10.gN),(j64 r1.2.1),(j64 (I64 (a10.gM+1)))])]),.var (aB.enc p10.2.1),.var (aL.enc p10.2.2),.tail (b4.length*1),.var (aT.enc r1.2.2.2.1),.dead],[.var (.st 26 [(aJ.enc a1),(.ref 1 [] 0),(.ref 2 [] 0),(aA.enc a2),(aA.enc p10.1),(j64 a4),(eB p6.2),(aF.enc r1.1)]),.var (.st 38 [(aG.enc a7),(aI.enc a8),(.ifc 181 (.ref 3 [] 0)),(eO 4 1 (eL 2 aD.enc) b4),(aA.enc a9),(.st 3 [(j64 a10.gN),(j64 r1.2.1),(j64 (I64 (a10.gM+1)))])]),.var (.st 72 [(aV.enc r17.1),(eB ((aB.mk r16.1 p10.2.1.gA p10.2.1.gC p10.2.1.gB p10.2.1.gD).gA)),(k64 ((aB.mk r16.1 p10.2.1.gA p10.2.1.gC p10.2.1.gB p10.2.1.gD).gC)),(j64 ((aB.mk r16.1 p10.2.1.gA p10.2.1.gC p10.2.1.gB p10.2.1.gD).gB)),(j64 ((aB.mk r16.1 p10.2.1.gA p10.2.1.gC p10.2.1.gB p10.2.1.gD).gD))]),.var (aL.enc p10.2.2),.tail (b4.length*1),.var (aT.enc r1.2.2.2.1),.dead],[.var (.st 26 [(aJ.enc a1),(.ref 1 [] 0),(.ref 2 [] 0),(aA.enc a2),(aA.enc p10.1),(j64 a4),(eB p6.2),(aF.enc r1.1)]),.var (.st 38 [(aG.enc a7),(aI.enc a8),(.ifc 181 (.ref 3 [] 0)),(eO 4 1 (eL 2 aD.enc) b4),(aA.enc a9),(.st 3 [(j64 a10.gN),(j64 r1.2.1),(j64 (I64 (a10.gM+1)))])]),.var (.st 72 [(aV.enc r16.1),(eB p10.2.1.gA),(k64 p10.2.1.gC),(j64 p10.2.1.gB),(j64 p10.2.1.gD)]),.var (aL.enc p10.2.2),.tail (b4.length*1),.var (aT.enc r1.2.2.2.1),.dead],[.var (.st 26 [(aJ.enc a1),(.ref 1 [] 0),(.ref 2 [] 0),(aA.enc a2),(aA.enc p10.1),(j64 a4),(eB p6.2),(aF.enc r1.1)]),.var (.st 38 [(aG.enc a7),(aI.enc a8),(.ifc 181 (.ref 3 [] 0)),(eO 4 1 (eL 2 aD.enc) b4),(aA.enc a9),(.st 3 [(j64 a10.gN),(j64 r1.2.1),(j64 (I64 (a10.gM+1)))])]),.var (.st 72 [(aV.enc r17.1),(eB ((aB.mk r16.1 p10.2.1.gA p10.2.1.gC p10.2.1.gB p10.2.1.gD).gA)),(k64 ((aB.mk r16.1 p10.2.1.gA p10.2.1.gC p10.2.1.gB p10.2.1.gD).gC)),(j64 ((aB.mk r16.1 p10.2.1.gA p10.2.1.gC p10.2.1.gB p10.2.1.gD).gB)),(j64 ((aB.mk r16.1 p10.2.1.gA p10.2.1.gC p10.2.1.gB p10.2.1.gD).gD))]),.var (aL.enc p10.2.2),.tail (b4.length*1),.var (aT.enc r1.2.2.2.1),.dead]] ⟨aW hT 6 (by kernel_rfl) (by kernel_rfl) (by kernel_rfl),aW hT 6 (by kernel_rfl) (by kernel_rfl) (by kernel_rfl),aW hT 6 (by kernel_rfl) (by kernel_rfl) (by kernel_rfl),aW hT 6 (by kernel_rfl) (by kernel_rfl) (by kernel_rfl),trivial⟩ dS0))) ?_;refine bi λr19 hr19=>?_;refine At.d 0 (dE1 7 (λ_=>bS hT (x:=(.sl 3 2 [(aA.enc a2),(aA.enc r18.gC4)]))) (dE2 8 (aA.enc r19) (λ_=>aO (rO hr19)) dE0)) dF0 ?_;refine At.b 3 (λ_ e=>aM [0,1,2,3,4] (kB e)) λr20=>?_;refine At.J 0 1 [0,2,4] 7 (λp21=>([],[(0,.var (.st 26 [(aJ.enc a1),(.ref 1 [] 0),(.ref 2 [] 0),(aA.enc p21.1),(aA.enc p10.1),(j64 a4),(eB p21.2.1),(aF.enc r1.1)])),(2,.var (aB.enc p21.2.2))],[])) (λp21=>?_) λp21=>?_
      ·refine At.c 5 ?_ ?_
       ·refine bi λr22 hr22=>?_;refine bi λr23 hr23=>?_;refine At.d2 0 [false] (dC2 6 (.tup [(aA.enc r23.1),(eB r23.2)]) (λ_=>aO (zL hr23)) dC0) (dS1 5 ⟨(k32 r22.2),2,.var (.st 72 [(aV.enc r22.1),(eB ((aB.mk r17.1 ((aB.mk r16.1 p10.2.1.gA p10.2.1.gC p10.2.1.gB p10.2.1.gD).gA) ((aB.mk r16.1 p10.2.1.gA p10.2.1.gC p10.2.1.gB p10.2.1.gD).gC) ((aB.mk r16.1 p10.2.1.gA p10.2.1.gC p10.2.1.gB p10.2.1.gD).gB) ((aB.mk r16.1 p10.2.1.gA p10.2.1.gC p10.2.1.gB p10.2.1.gD).gD)).gA)),(k64 ((aB.mk r17.1 ((aB.mk r16.1 p10.2.1.gA p10.2.1.gC p10.2.1.gB p10.2.1.gD).gA) ((aB.mk r16.1 p10.2.1.gA p10.2.1.gC p10.2.1.gB p10.2.1.gD).gC) ((aB.mk r16.1 p10.2.1.gA p10.2.1.gC p10.2.1.gB p10.2.1.gD).gB) ((aB.mk r16.1 p10.2.1.gA p10.2.1.gC p10.2.1.gB p10.2.1.gD).gD)).gC)),(j64 ((aB.mk r17.1 ((aB.mk r16.1 p10.2.1.gA p10.2.1.gC p10.2.1.gB p10.2.1.gD).gA) ((aB.mk r16.1 p10.2.1.gA p10.2.1.gC p10.2.1.gB p10.2.1.gD).gC) ((aB.mk r16.1 p10.2.1.gA p10.2.1.gC p10.2.1.gB p10.2.1.gD).gB) ((aB.mk r16.1 p10.2.1.gA p10.2.1.gC p10.2.1.gB p10.2.1.gD).gD)).gB)),(j64 ((aB.mk r17.1 ((aB.mk r16.1 p10.2.1.gA p10.2.1.gC p10.2.1.gB p10.2.1.gD).gA) ((aB.mk r16.1 p10.2.1.gA p10.2.1.gC p10.2.1.gB p10.2.1.gD).gC) ((aB.mk r16.1 p10.2.1.gA p10.2.1.gC p10.2.1.gB p10.2.1.gD).gB) ((aB.mk r16.1 p10.2.1.gA p10.2.1.gC p10.2.1.gB p10.2.1.gD).gD)).gD))]),.var (.st 72 [(aV.enc r17.1),(eB ((aB.mk r16.1 p10.2.1.gA p10.2.1.gC p10.2.1.gB p10.2.1.gD).gA)),(k64 ((aB.mk r16.1 p10.2.1.gA p10.2.1.gC p10.2.1.gB p10.2.1.gD).gC)),(j64 ((aB.mk r16.1 p10.2.1.gA p10.2.1.gC p10.2.1.gB p10.2.1.gD).gB)),(j64 ((aB.mk r16.1 p10.2.1.gA p10.2.1.gC p10.2.1.gB p10.2.1.gD).gD))])⟩ [[.var (.st 26 [(aJ.enc a1),(.ref 1 [] 0),(.ref 2 [] 0),(aA.enc r19),(aA.enc p10.1),(j64 a4),(eB (cond p6.2 true r18.gB9)),(aF.enc r1.1)]),.var (.st 38 [(aG.enc a7),(aI.enc a8),(.ifc 181 (.ref 3 [] 0)),(eO 4 1 (eL 2 aD.enc) b4),(aA.enc a9),(.st 3 [(j64 a10.gN),(j64 r1.2.1),(j64 (I64 (a10.gM+1)))])]),.var (.st 72 [(aV.enc r17.1),(eB ((aB.mk r16.1 p10.2.1.gA p10.2.1.gC p10.2.1.gB p10.2.1.gD).gA)),(k64 ((aB.mk r16.1 p10.2.1.gA p10.2.1.gC p10.2.1.gB p10.2.1.gD).gC)),(j64 ((aB.mk r16.1 p10.2.1.gA p10.2.1.gC p10.2.1.gB p10.2.1.gD).gB)),(j64 ((aB.mk r16.1 p10.2.1.gA p10.2.1.gC p10.2.1.gB p10.2.1.gD).gD))]),.var (aL.enc p10.2.2),.tail (b4.length*1),.var (aT.enc r1.2.2.2.1),.var (cX.enc r18),.dead],[.var (.st 26 [(aJ.enc a1),(.ref 1 [] 0),(.ref 2 [] 0),(aA.enc r19),(aA.enc p10.1),(j64 a4),(eB (cond p6.2 true r18.gB9)),(aF.enc r1.1)]),.var (.st 38 [(aG.enc a7),(aI.enc a8),(.ifc 181 (.ref 3 [] 0)),(eO 4 1 (eL 2 aD.enc) b4),(aA.enc a9),(.st 3 [(j64 a10.gN),(j64 r1.2.1),(j64 (I64 (a10.gM+1)))])]),.var (.st 72 [(aV.enc r17.1),(eB ((aB.mk r16.1 p10.2.1.gA p10.2.1.gC p10.2.1.gB p10.2.1.gD).gA)),(k64 ((aB.mk r16.1 p10.2.1.gA p10.2.1.gC p10.2.1.gB p10.2.1.gD).gC)),(j64 ((aB.mk r16.1 p10.2.1.gA p10.2.1.gC p10.2.1.gB p10.2.1.gD).gB)),(j64 ((aB.mk r16.1 p10.2.1.gA p10.2.1.gC p10.2.1.gB p10.2.1.gD).gD))]),.var (aL.enc p10.2.2),.tail (b4.length*1),.var (aT.enc r1.2.2.2.1),.var (cX.enc r18),.var (.st 3 [(j64 0),(j64 0),(j64 0)])]] ⟨bG (aM [0,1,2,3,4] (dO hr22)),bG (aM [0,1,2,3,4] (dO hr22)),trivial⟩ (dS1 10 ⟨(.ref 7 [] 0),7,.var (.st 3 [(j64 0),(j64 0),(j64 0)]),.dead⟩ [[.var (.st 26 [(aJ.enc a1),(.ref 1 [] 0),(.ref 2 [] 0),(aA.enc r19),(aA.enc p10.1),(j64 a4),(eB (cond p6.2 true r18.gB9)),(aF.enc r1.1)]),.var (.st 38 [(aG.enc a7),(aI.enc a8),(.ifc 181 (.ref 3 [] 0)),(eO 4 1 (eL 2 aD.enc) b4),(aA.enc a9),(.st 3 [(j64 a10.gN),(j64 r1.2.1),(j64 (I64 (a10.gM+1)))])]),.var (.st 72 [(aV.enc r17.1),(eB ((aB.mk r16.1 p10.2.1.gA p10.2.1.gC p10.2.1.gB p10.2.1.gD).gA)),(k64 ((aB.mk r16.1 p10.2.1.gA p10.2.1.gC p10.2.1.gB p10.2.1.gD).gC)),(j64 ((aB.mk r16.1 p10.2.1.gA p10.2.1.gC p10.2.1.gB p10.2.1.gD).gB)),(j64 ((aB.mk r16.1 p10.2.1.gA p10.2.1.gC p10.2.1.gB p10.2.1.gD).gD))]),.var (aL.enc p10.2.2),.tail (b4.length*1),.var (aT.enc r1.2.2.2.1),.var (cX.enc r18),.dead],[.var (.st 26 [(aJ.enc a1),(.ref 1 [] 0),(.ref 2 [] 0),(aA.enc r19),(aA.enc p10.1),(j64 a4),(eB (cond p6.2 true r18.gB9)),(aF.enc r1.1)]),.var (.st 38 [(aG.enc a7),(aI.enc a8),(.ifc 181 (.ref 3 [] 0)),(eO 4 1 (eL 2 aD.enc) b4),(aA.enc a9),(.st 3 [(j64 a10.gN),(j64 r1.2.1),(j64 (I64 (a10.gM+1)))])]),.var (.st 72 [(aV.enc r22.1),(eB ((aB.mk r17.1 ((aB.mk r16.1 p10.2.1.gA p10.2.1.gC p10.2.1.gB p10.2.1.gD).gA) ((aB.mk r16.1 p10.2.1.gA p10.2.1.gC p10.2.1.gB p10.2.1.gD).gC) ((aB.mk r16.1 p10.2.1.gA p10.2.1.gC p10.2.1.gB p10.2.1.gD).gB) ((aB.mk r16.1 p10.2.1.gA p10.2.1.gC p10.2.1.gB p10.2.1.gD).gD)).gA)),(k64 ((aB.mk r17.1 ((aB.mk r16.1 p10.2.1.gA p10.2.1.gC p10.2.1.gB p10.2.1.gD).gA) ((aB.mk r16.1 p10.2.1.gA p10.2.1.gC p10.2.1.gB p10.2.1.gD).gC) ((aB.mk r16.1 p10.2.1.gA p10.2.1.gC p10.2.1.gB p10.2.1.gD).gB) ((aB.mk r16.1 p10.2.1.gA p10.2.1.gC p10.2.1.gB p10.2.1.gD).gD)).gC)),(j64 ((aB.mk r17.1 ((aB.mk r16.1 p10.2.1.gA p10.2.1.gC p10.2.1.gB p10.2.1.gD).gA) ((aB.mk r16.1 p10.2.1.gA p10.2.1.gC p10.2.1.gB p10.2.1.gD).gC) ((aB.mk r16.1 p10.2.1.gA p10.2.1.gC p10.2.1.gB p10.2.1.gD).gB) ((aB.mk r16.1 p10.2.1.gA p10.2.1.gC p10.2.1.gB p10.2.1.gD).gD)).gB)),(j64 ((aB.mk r17.1 ((aB.mk r16.1 p10.2.1.gA p10.2.1.gC p10.2.1.gB p10.2.1.gD).gA) ((aB.mk r16.1 p10.2.1.gA p10.2.1.gC p10.2.1.gB p10.2.1.gD).gC) ((aB.mk r16.1 p10.2.1.gA p10.2.1.gC p10.2.1.gB p10.2.1.gD).gB) ((aB.mk r16.1 p10.2.1.gA p10.2.1.gC p10.2.1.gB p10.2.1.gD).gD)).gD))]),.var (aL.enc p10.2.2),.tail (b4.length*1),.var (aT.enc r1.2.2.2.1),.var (cX.enc r18),.dead]] ⟨aW hT 7 (by kernel_rfl) (by kernel_rfl) (by kernel_rfl),aW hT 7 (by kernel_rfl) (by kernel_rfl) (by kernel_rfl),trivial⟩ dS0)) ?_;refine At.b 8 (λ_ e=>aM [0,1,2,3,4] (kB e)) λr24=>?_;apply rt;exact At.jn 0
       ·apply rt;exact At.jn 0
      ·apply rt;exact At.z 11
def iN(N:Nat)(b2:(List (List aD)))(a4:aG)(a5:aI)(a6:aA)(a7:aE)(a8:aL):Nat->aB->(Vector Int 4)->Int->Option (aB×(Vector Int 4))
 | 0,_,_,_=>none
 | k+1,s9,s10,s11=>
  cond (decide (s11 < 4)) (
   aa (eE N b2 s11 (aJ.mk (aC.mk 0 0 0) (aC.mk 0 0 0) 0) (aA.mk 4294967296 4294967296 4294967296) (aA.mk 0 0 0) 0 false (aF.mk (aA.mk 0 0 0) 0 0 (aA.mk 0 0 0) (-1)) a4 a5 a6 a7 s9 a8) λr12=>
   aa (fM s11 4) λ_=>
   aa (s10.toList[s11.toNat]?) λe14=>
   iN N b2 a4 a5 a6 a7 a8 k (aB.mk r12.1 s9.gA s9.gC s9.gB s9.gD) (s10.setIfInBounds s11.toNat r12.2) (I64 (s11+1))) (
   some ((s9,s10)))
def fF(N:Nat)(a5:aI)(b2:(List (List aD)))(a4:aG)(a6:aA):Nat->aE->aL->aB->aJ->aA->aA->Int->Bool->aF->Option (aE×aL×aB×aJ×aA×aA×Int×Bool×aF)
 | 0,_,_,_,_,_,_,_,_,_=>none
 | k+1,s17,s18,s19,s20,s21,s22,s23,s24,s25=>
  aa (aU (decide (s23<=a5.gK)) λx27=>
  cond x27 (
   cond (!s24) (
    some true) (
    some a5.gT)) (
   some false)) λp26=>
  cond p26 (
   aa (nG N b2 s20 s21 s22 s23 s24 s25 a4 a5 a6 s17 s19 s18) λr28=>
   fF N a5 b2 a4 a6 k (aE.mk s17.gN r28.2.2.2.2.2.1 (I64 (s17.gM+1))) r28.2.2.2.2.2.2.2 r28.2.2.2.2.2.2.1 r28.1 r28.2.1 r28.2.2.1 (I64 (s23+1)) r28.2.2.2.1 r28.2.2.2.2.1) (
   some ((s17,s18,s19,s20,s21,s22,s23,s24,s25)))
def hO(N:Nat)(b2:(List (List aD)))(a1 a2 a3:Int)(a4:aG)(a5:aI)(a6:aA)(a7:aE)(a8:aL):Option (aE×aL×aF×Int):=
 aU (cond (decide (a1 < 0)) true (decide (a1>=a5.gW))) λx1=>
 aU (cond x1 true (decide (a2 < 0))) λx2=>
 aU (cond x2 true (decide (a2>=a5.gH))) λx3=>
 aU (cond x3 true (decide (a3 < 0))) λx4=>
 aU (decide (a3>=a5.gB1)) λx5=>
 cond (cond x4 true x5) (
  some ((a7,a8,aF.mk (aA.mk 0 0 0) 0 0 (aA.mk 0 0 0) 0,2))) (
  aU (I64 ((I64 (a2*a5.gW))+a1)) λx6=>
  aa (rM N a5.gS x6 a3) λr7=>
  aa (iN N b2 a4 a5 a6 a7 a8 N (aB.mk (aV.mk (bL.mk 0 0 0) false (Vector.replicate 64 0)) true a5.gS x6 a3) (#v[0,0,0,0]) 0) λp8=>
  aa (tF N a5.gC9 a5.gW a5.gH a1 a2 p8.2) λr15=>
  aa (fF N a5 b2 a4 a6 N a7 a8 p8.1 (aJ.mk r15.1 r15.2.1 (-1)) (aA.mk 4294967296 4294967296 4294967296) (aA.mk 0 0 0) 0 false (aF.mk (aA.mk 0 0 0) 0 0 (aA.mk 0 0 0) (-1))) λp16=>
  some ((p16.1,p16.2.1,aF.mk p16.2.2.2.2.2.1 p16.2.2.2.2.2.2.2.2.gB6 p16.2.2.2.2.2.2.2.2.gK p16.2.2.2.2.2.2.2.2.gC6 p16.2.2.2.2.2.2.2.2.gA4,0)))
theorem aAo{N b2 a1 a2 a3 a4 a5 a6 a7 a8 r}(h:hO N b2 a1 a2 a3 a4 a5 a6 a7 a8=some r):FnM Tryz.prog 47 [.var (.st 38 [(aG.enc a4),(aI.enc a5),(.ifc 181 (.ref 1 [] 0)),(eO 2 1 (eL 2 aD.enc) b2),(aA.enc a6),(aE.enc a7)]),.var (aL.enc a8),.tail (b2.length*1)] [(.ref 0 [] 0),(j64 a1),(j64 a2),(j64 a3)] (.tup [(aF.enc r.2.2.1),(j64 r.2.2.2)]) [.var (.st 38 [(aG.enc a4),(aI.enc a5),(.ifc 181 (.ref 1 [] 0)),(eO 2 1 (eL 2 aD.enc) b2),(aA.enc a6),(aE.enc r.1)]),.var (aL.enc r.2.1),.tail (b2.length*1)]:=by
 unfold hO at h;refine At.f dG hT hmo Tryz.func47 rfl h ?_;refine At.o 3 (aB1 hT (t:=62) (x:=(.ref 0 [] 0)) (b:=true) (by kernel_rfl) rfl rfl (by kernel_rfl)) ?_;refine At.g [16] 5 ?_;refine At.o 0 (aGY (t:=172) (u:=181) (x:=(.ref 1 [] 0)) (by kernel_rfl) rfl rfl .eql false (by decide) (by kernel_rfl)) ?_;refine lx ?_;intro x1;refine lx ?_;intro x2;refine lx ?_;intro x3;refine lx ?_;intro x4;refine lx ?_;intro x5;refine At.g [16] 41 ?_;refine At.c 0 ?_ ?_
 ·apply rt;exact At.r 3
 ·refine lx ?_;intro x6;refine bi λr7 hr7=>?_;refine At.d 0 dE0 (dF 16 (.ref 4 [] 0) [] [.var (.st 72 [cv_6,(eB true),(k64 a5.gS),(j64 x6),(j64 a3)])] (bG (aM [] (aDS hr7))) dF0) ?_;refine At.L 2 [0,1,2,8,10,11] 7 (λp8=>([],[(4,.var (aB.enc p8.1)),(6,.var (eA 4 1 k32 p8.2))],[])) (λp8 J k=>∃s9 s10 s11,iN N b2 a4 a5 a6 a7 a8 k s9 s10 s11=some p8/\J [0,1,2,8,10,11] 7 [(84,(j64 s11))] [(4,.var (aB.enc s9)),(6,.var (eA 4 1 k32 s10))] []) N (λ_ h=>⟨_,_,_,h,jr⟩) (λp8 k s hI=>?_) λp8=>?_
  ·obtain⟨s9,s10,s11,h,hj⟩:=hI;cases k with
   | zero=>cases h
   | succ k=>
    refine At.jr hj ?_ h;refine At.c 1 ?_ ?_
    ·refine At.b 5 (λ_ e=>aM [5,0,4,1,2] (dO e)) λr12=>?_;refine At.b 0 (λ_ e=>bH hT (k:=1) 6 [] 0 e) λu13=>?_;refine At.b 0 (λ_ e=>oL hT k32 0 s10 e r12.2 (by kernel_rfl) (by kernel_rfl) (H':=[.var (.st 38 [(aG.enc a4),(aI.enc a5),(.ifc 181 (.ref 1 [] 0)),(eO 2 1 (eL 2 aD.enc) b2),(aA.enc a6),(aE.enc a7)]),.var (aL.enc a8),.tail (b2.length*1),.var cv_7,.var (.st 72 [(aV.enc r12.1),(eB s9.gA),(k64 s9.gC),(j64 s9.gB),(j64 s9.gD)]),.var cv_8,.var (eA 4 1 k32 (s10.setIfInBounds s11.toNat r12.2))])) λe14=>?_;exact λh=>At.k 2 ⟨_,_,_,h,jr⟩
    ·apply rt;exact At.x 0
  ·refine bi λr15 hr15=>?_;refine At.d 5 (dE2 20 (.tup [(aC.enc r15.1),(aC.enc r15.2.1),(j64 r15.2.2)]) (λ_=>aO (aFz hr15)) dE0) dF0 ?_;refine At.L 0 [8,10] 7 (λp16=>([],[(0,.var (.st 38 [(aG.enc a4),(aI.enc a5),(.ifc 181 (.ref 1 [] 0)),(eO 2 1 (eL 2 aD.enc) b2),(aA.enc a6),(aE.enc p16.1)])),(1,.var (aL.enc p16.2.1)),(4,.var (aB.enc p16.2.2.1)),(5,.var (.st 26 [(aJ.enc p16.2.2.2.1),(.ref 0 [] 0),(.ref 4 [] 0),(aA.enc p16.2.2.2.2.1),(aA.enc p16.2.2.2.2.2.1),(j64 p16.2.2.2.2.2.2.1),(eB p16.2.2.2.2.2.2.2.1),(aF.enc p16.2.2.2.2.2.2.2.2)]))],[])) (λp16 J k=>∃s17 s18 s19 s20 s21 s22 s23 s24 s25,fF N a5 b2 a4 a6 k s17 s18 s19 s20 s21 s22 s23 s24 s25=some p16/\J [0,8,10] 7 [] [(0,.var (.st 38 [(aG.enc a4),(aI.enc a5),(.ifc 181 (.ref 1 [] 0)),(eO 2 1 (eL 2 aD.enc) b2),(aA.enc a6),(aE.enc s17)])),(1,.var (aL.enc s18)),(4,.var (aB.enc s19)),(5,.var (.st 26 [(aJ.enc s20),(.ref 0 [] 0),(.ref 4 [] 0),(aA.enc s21),(aA.enc s22),(j64 s23),(eB s24),(aF.enc s25)]))] []) N (λ_ h=>⟨_,_,_,_,_,_,_,_,_,h,jr⟩) (λp16 k s hI=>?_) λp16=>?_
   ·obtain⟨s17,s18,s19,s20,s21,s22,s23,s24,s25,h,hj⟩:=hI;cases k with
    | zero=>cases h
    | succ k=>
     refine At.jr hj ?_ h;refine At.J 0 0 [0,8,10] 7 (λp26=>([(151,(eB p26))],[],[])) (λp26=>?_) λp26=>?_
     ·refine lx ?_;intro x27;refine boI (λhc10=>?_) (λhc10=>?_)
      ·refine boI (λhc16=>?_) (λhc16=>?_)
       ·refine At.d 0 (dE1 10 (λ_=>cO hc10 rfl (cF hT (im:=false) (by kernel_rfl))) (dE1 16 (λ_=>cO hc16 rfl (cF hT (im:=false) (by kernel_rfl))) dE0)) dF0 ?_;apply rt;exact At.jn 0
       ·refine At.d 0 (dE1 10 (λ_=>cO hc10 rfl (cF hT (im:=false) (by kernel_rfl))) (dE1 16 (λ_=>cO hc16 rfl (cF hT (im:=false) (by kernel_rfl))) dE0)) dF0 ?_;apply rt;exact At.jn 0
      ·refine At.d 0 (dE1 10 (λ_=>cO hc10 rfl (cF hT (im:=false) (by kernel_rfl))) dE0) dF0 ?_;apply rt;exact At.jn 0
     ·refine At.c 0 ?_ ?_
      ·refine At.b 1 (λ_ e=>aM [5,0,4,1,2] (aCT e)) λr28=>?_;exact λh=>At.k 8 ⟨_,_,_,_,_,_,_,_,_,h,jr⟩
      ·apply rt;exact At.x 0
   ·apply rt;exact At.r 15
def uS(N:Nat)(a0:aL):Option (Int):=
 aa (fV N a0) λr1=>
 cond r1 (some 0) (some a0.gD6)
theorem aCf{N a0 r}(h:uS N a0=some r):FnM Tryz.prog 378 [.var (aL.enc a0)] [(.ref 0 [] 0)] (j64 r) [.var (aL.enc a0)]:=by
 unfold uS at h;refine At.f dG hT hmo Tryz.func378 rfl h ?_;refine At.b 2 (λ_ e=>aM [0] (uT e)) λr1=>?_;refine At.c 0 ?_ ?_
 ·apply rt;exact At.r 1
 ·apply rt;exact At.r 5
def kS(N:Nat)(b2:(List (List aD)))(a1:aG)(a2:aI)(a3:aA)(a4:aE)(a5:aL):Option (aE):=
 aa (uS N a5) λr1=>
 some (aE.mk r1 a4.gQ a4.gM)
theorem aBZ{N b2 a1 a2 a3 a4 a5 r}(h:kS N b2 a1 a2 a3 a4 a5=some r):FnM Tryz.prog 49 [.var (.st 38 [(aG.enc a1),(aI.enc a2),(.ifc 181 (.ref 1 [] 0)),(eO 2 1 (eL 2 aD.enc) b2),(aA.enc a3),(aE.enc a4)]),.var (aL.enc a5),.tail (b2.length*1)] [(.ref 0 [] 0)] (aE.enc r) [.var (.st 38 [(aG.enc a1),(aI.enc a2),(.ifc 181 (.ref 1 [] 0)),(eO 2 1 (eL 2 aD.enc) b2),(aA.enc a3),(aE.enc a4)]),.var (aL.enc a5),.tail (b2.length*1)]:=by
 unfold kS at h;refine At.f dG hT hmo Tryz.func49 rfl h ?_;refine At.o 2 (aB1 hT (t:=62) (x:=(.ref 0 [] 0)) (b:=true) (by kernel_rfl) rfl rfl (by kernel_rfl)) ?_;refine At.g [6] 5 ?_;refine At.o 0 (aGY (t:=172) (u:=181) (x:=(.ref 1 [] 0)) (by kernel_rfl) rfl rfl .eql false (by decide) (by kernel_rfl)) ?_;refine At.g [6] 12 ?_;refine At.b 0 (λ_ e=>aM [1] (aCf e)) λr1=>?_;apply rt;exact At.r 4
def aJv : Nat->Bool:=imL [2,3]
def yZ(N:Nat)(a1:aI):Nat->Option (Unit)
 | 0=>none
 | k+1=>
  aU (decide (0 < a1.gB1)) λx11=>
  cond x11 (none) (some (()))
def yY(N:Nat)(a1:aI):Nat->Option (Unit)
 | 0=>none
 | k+1=>
  cond (decide (0 < a1.gW)) (
   aa (yZ N a1 N ) λp10=>
   none) (
   some (()))
def zC(N:Nat)(a1:aI):Nat->Int->Option (Unit)
 | 0,_=>none
 | k+1,s8=>
  cond (decide (s8 < a1.gH)) (
   aa (yY N a1 N ) λp9=>
   zC N a1 k (I64 (s8+1))) (
   some (()))
def yX(N:Nat)(a1:aI):Nat->Option (Unit)
 | 0=>none
 | k+1=>
  aU (decide (0 < a1.gB1)) λx16=>
  cond x16 (none) (some (()))
def zF(N:Nat)(a1:aI):Nat->Option (Unit)
 | 0=>none
 | k+1=>
  cond (decide (0 < a1.gW)) (
   aa (yX N a1 N ) λp15=>
   none) (
   some (()))
def zE(N:Nat)(a1:aI):Nat->Int->Option (Unit)
 | 0,_=>none
 | k+1,s13=>
  cond (decide (s13 < a1.gH)) (
   aa (zF N a1 N ) λp14=>
   zE N a1 k (I64 (s13+1))) (
   some (()))
def nB(N:Nat)(a1:aI)(r4:(List aH)×(List aP)×(List aQ)×(List (List aD))×aA×(List aH)×Int)(s46 s35:Int)(s43:aG):Nat->(List aF)->aE->aK->Int->Option ((List aF)×aE×aK)
 | 0,_,_,_,_=>none
 | k+1,s48,s49,s50,s51=>
  aU (decide (s51 < a1.gB1)) λx52=>
  cond x52 (
   aa (dW N r4.2.2.2.1 s46 s35 s51 s43 a1 r4.2.2.2.2.1 s49 s50) λr53=>
   aa (sP 72 s48 (([r53.2.2.1]:List aF))) λz54=>
   nB N a1 r4 s46 s35 s43 k z54 r53.1 r53.2.1 (I64 (s51+1))) (
   some ((s48,s49,s50)))
def mZ(N:Nat)(a1:aI)(r4:(List aH)×(List aP)×(List aQ)×(List (List aD))×aA×(List aH)×Int)(s35:Int)(a0:aG):Nat->(List (Vector Int 3))->(List Int)->(List Int)->(List (Vector Int 3))->(List Int)->(List Int)->aG->aE->aK->Int->Option ((List (Vector Int 3))×(List Int)×(List Int)×(List (Vector Int 3))×(List Int)×(List Int)×aG×aE×aK)
 | 0,_,_,_,_,_,_,_,_,_,_=>none
 | k+1,s37,s38,s39,s40,s41,s42,s43,s44,s45,s46=>
  cond (decide (s46 < a1.gW)) (
   aa (nB N a1 r4 s46 s35 s43 N [] s44 s45 0) λp47=>
   aa (pI N p47.1 a0) λr55=>
   aa (sP 24 s37 r55.1.gE6) λz56=>
   aa (sP 24 s40 r55.1.gC6) λz57=>
   aa (sP 8 s38 r55.1.gB6) λz58=>
   aa (sP 8 s39 r55.1.gK) λz59=>
   aa (sP 8 s41 r55.1.gE7) λz60=>
   aa (sP 8 s42 r55.1.gB8) λz61=>
   mZ N a1 r4 s35 a0 k z56 z58 z59 z57 z60 z61 s43 p47.2.1 p47.2.2 (I64 (s46+1))) (
   some ((s37,s38,s39,s40,s41,s42,s43,s44,s45)))
def nA(N:Nat)(a1:aI)(r4:(List aH)×(List aP)×(List aQ)×(List (List aD))×aA×(List aH)×Int)(a0:aG):Nat->(List (Vector Int 3))->(List Int)->(List Int)->(List (Vector Int 3))->(List Int)->(List Int)->(List aH)->(List aP)->(List aD)->(List aQ)->(List Int)->(List Int)->Int->Int->Int->aE->aK->Int->Option ((List (Vector Int 3))×(List Int)×(List Int)×(List (Vector Int 3))×(List Int)×(List Int)×aG×aE×aK)
 | 0,_,_,_,_,_,_,_,_,_,_,_,_,_,_,_,_,_,_=>none
 | k+1,s18,s19,s20,s21,s22,s23,s24,s25,s26,s27,s28,s29,s30,s31,s32,s33,s34,s35=>
  cond (decide (s35 < a1.gH)) (
   aa (mZ N a1 r4 s35 a0 N s18 s19 s20 s21 s22 s23 (aG.mk s24 s25 s26 s27 s28 s29 s30 s31 s32) s33 s34 0) λp36=>
   nA N a1 r4 a0 k p36.1 p36.2.1 p36.2.2.1 p36.2.2.2.1 p36.2.2.2.2.1 p36.2.2.2.2.2.1 p36.2.2.2.2.2.2.1.gE p36.2.2.2.2.2.2.1.gA6 p36.2.2.2.2.2.2.1.gA2 p36.2.2.2.2.2.2.1.gF p36.2.2.2.2.2.2.1.gR p36.2.2.2.2.2.2.1.gB0 p36.2.2.2.2.2.2.1.gB8 p36.2.2.2.2.2.2.1.gC1 p36.2.2.2.2.2.2.1.gTo p36.2.2.2.2.2.2.2.1 p36.2.2.2.2.2.2.2.2 (I64 (s35+1))) (
   some ((s18,s19,s20,s21,s22,s23,aG.mk s24 s25 s26 s27 s28 s29 s30 s31 s32,s33,s34)))
def xT(N:Nat)(a1:aI):Nat->Option (Unit)
 | 0=>none
 | k+1=>
  aU (decide (0 < a1.gB1)) λx67=>
  cond x67 (none) (some (()))
def xI(N:Nat)(a1:aI):Nat->Option (Unit)
 | 0=>none
 | k+1=>
  cond (decide (0 < a1.gW)) (
   aa (xT N a1 N ) λp66=>
   none) (
   some (()))
def xQ(N:Nat)(a1:aI):Nat->Int->Option (Unit)
 | 0,_=>none
 | k+1,s64=>
  cond (decide (s64 < a1.gH)) (
   aa (xI N a1 N ) λp65=>
   xQ N a1 k (I64 (s64+1))) (
   some (()))
def lY(N:Nat)(a1:aI)(r6:(List aH)×(List aP)×(List aQ)×(List (List aD))×aA×aX×aL×Int)(s97 s86:Int)(s94:aG):Nat->(List aF)->aE->aL->Int->Option ((List aF)×aE×aL)
 | 0,_,_,_,_=>none
 | k+1,s99,s100,s101,s102=>
  aU (decide (s102 < a1.gB1)) λx103=>
  cond x103 (
   aa (hO N r6.2.2.2.1 s97 s86 s102 s94 a1 r6.2.2.2.2.1 s100 s101) λr104=>
   aa (sP 72 s99 (([r104.2.2.1]:List aF))) λz105=>
   lY N a1 r6 s97 s86 s94 k z105 r104.1 r104.2.1 (I64 (s102+1))) (
   some ((s99,s100,s101)))
def lU(N:Nat)(a1:aI)(r6:(List aH)×(List aP)×(List aQ)×(List (List aD))×aA×aX×aL×Int)(s86:Int)(a0:aG):Nat->(List (Vector Int 3))->(List Int)->(List Int)->(List (Vector Int 3))->(List Int)->(List Int)->aG->aE->aL->Int->Option ((List (Vector Int 3))×(List Int)×(List Int)×(List (Vector Int 3))×(List Int)×(List Int)×aG×aE×aL)
 | 0,_,_,_,_,_,_,_,_,_,_=>none
 | k+1,s88,s89,s90,s91,s92,s93,s94,s95,s96,s97=>
  cond (decide (s97 < a1.gW)) (
   aa (lY N a1 r6 s97 s86 s94 N [] s95 s96 0) λp98=>
   aa (pI N p98.1 a0) λr106=>
   aa (sP 24 s88 r106.1.gE6) λz107=>
   aa (sP 24 s91 r106.1.gC6) λz108=>
   aa (sP 8 s89 r106.1.gB6) λz109=>
   aa (sP 8 s90 r106.1.gK) λz110=>
   aa (sP 8 s92 r106.1.gE7) λz111=>
   aa (sP 8 s93 r106.1.gB8) λz112=>
   lU N a1 r6 s86 a0 k z107 z109 z110 z108 z111 z112 s94 p98.2.1 p98.2.2 (I64 (s97+1))) (
   some ((s88,s89,s90,s91,s92,s93,s94,s95,s96)))
def lK(N:Nat)(a1:aI)(r6:(List aH)×(List aP)×(List aQ)×(List (List aD))×aA×aX×aL×Int)(a0:aG):Nat->(List (Vector Int 3))->(List Int)->(List Int)->(List (Vector Int 3))->(List Int)->(List Int)->(List aH)->(List aP)->(List aD)->(List aQ)->(List Int)->(List Int)->Int->Int->Int->aE->aL->Int->Option ((List (Vector Int 3))×(List Int)×(List Int)×(List (Vector Int 3))×(List Int)×(List Int)×aG×aE×aL)
 | 0,_,_,_,_,_,_,_,_,_,_,_,_,_,_,_,_,_,_=>none
 | k+1,s69,s70,s71,s72,s73,s74,s75,s76,s77,s78,s79,s80,s81,s82,s83,s84,s85,s86=>
  cond (decide (s86 < a1.gH)) (
   aa (lU N a1 r6 s86 a0 N s69 s70 s71 s72 s73 s74 (aG.mk s75 s76 s77 s78 s79 s80 s81 s82 s83) s84 s85 0) λp87=>
   lK N a1 r6 a0 k p87.1 p87.2.1 p87.2.2.1 p87.2.2.2.1 p87.2.2.2.2.1 p87.2.2.2.2.2.1 p87.2.2.2.2.2.2.1.gE p87.2.2.2.2.2.2.1.gA6 p87.2.2.2.2.2.2.1.gA2 p87.2.2.2.2.2.2.1.gF p87.2.2.2.2.2.2.1.gR p87.2.2.2.2.2.2.1.gB0 p87.2.2.2.2.2.2.1.gB8 p87.2.2.2.2.2.2.1.gC1 p87.2.2.2.2.2.2.1.gTo p87.2.2.2.2.2.2.2.1 p87.2.2.2.2.2.2.2.2 (I64 (s86+1))) (
   some ((s69,s70,s71,s72,s73,s74,aG.mk s75 s76 s77 s78 s79 s80 s81 s82 s83,s84,s85)))
def mC(N:Nat)(a0:aG)(a1:aI):Option (cK×aE×Int):=
 aa (kE N a0 a1) λq=>
 pD q (λr2=>
  cond (r2 != 0) (
   some ((cK.mk 0 0 [] [] [] [] [] [],aE.mk 0 0 0,r2))) (
   aa (zC N a1 N 0) λp7=>
   none)) (λq=>
 pD q (λr3=>
  cond (r3.2.2.2.2.2 != 0) (
   some ((cK.mk 0 0 [] [] [] [] [] [],aE.mk 0 0 0,r3.2.2.2.2.2))) (
   aa (zE N a1 N 0) λp12=>
   none)) (λq=>
 pD q (λr4=>
  cond (r4.2.2.2.2.2.2 != 0) (
   some ((cK.mk 0 0 [] [] [] [] [] [],aE.mk 0 0 0,r4.2.2.2.2.2.2))) (
   aa (nA N a1 r4 a0 N [] [] [] [] [] [] r4.1 r4.2.1 a0.gA2 r4.2.2.1 a0.gR a0.gB0 a0.gB8 a0.gC1 a0.gTo (aE.mk 0 0 0) (aK.mk (kG.mk 0) true r4.2.2.2.2.2.1) 0) λp17=>
   aa (jN N r4.2.2.2.1 p17.2.2.2.2.2.2.1 a1 r4.2.2.2.2.1 p17.2.2.2.2.2.2.2.1 p17.2.2.2.2.2.2.2.2) λr62=>
   some ((cK.mk a1.gW a1.gH p17.1 p17.2.1 p17.2.2.1 p17.2.2.2.1 p17.2.2.2.2.1 p17.2.2.2.2.2.1,r62,0)))) (λq=>
 pD q (λr5=>
  cond (r5.2.2.2.2.2 != 0) (
   some ((cK.mk 0 0 [] [] [] [] [] [],aE.mk 0 0 0,r5.2.2.2.2.2))) (
   aa (xQ N a1 N 0) λp63=>
   none)) (λr6=>
  cond (r6.2.2.2.2.2.2.2 != 0) (
   some ((cK.mk 0 0 [] [] [] [] [] [],aE.mk 0 0 0,r6.2.2.2.2.2.2.2))) (
   aa (lK N a1 r6 a0 N [] [] [] [] [] [] r6.1 r6.2.1 a0.gA2 r6.2.2.1 a0.gR a0.gB0 a0.gB8 a0.gC1 a0.gTo (aE.mk 0 0 0) r6.2.2.2.2.2.2.1 0) λp68=>
   aa (kS N r6.2.2.2.1 p68.2.2.2.2.2.2.1 a1 r6.2.2.2.2.1 p68.2.2.2.2.2.2.2.1 p68.2.2.2.2.2.2.2.2) λr113=>
   some ((cK.mk a1.gW a1.gH p68.1 p68.2.1 p68.2.2.1 p68.2.2.2.1 p68.2.2.2.2.1 p68.2.2.2.2.2.1,r113,0)))))))
theorem aIT{N a0 a1 r}(h:mC N a0 a1=some r):FnM Tryz.prog 18 [] [(aG.enc a0),(aI.enc a1)] (.tup [(cK.enc r.1),(aE.enc r.2.1),(j64 r.2.2)]) []:=by
 unfold mC at h;refine At.f aJv hT hmo Tryz.func18 rfl h ?_;refine sumI (λr2 hr2=>?_) (λq hq=>?_)
 ·refine At.o 7 (aM [] (aHG hr2)) ?_;refine At.c 7 ?_ ?_
  ·apply rt;exact At.r 6
  ·refine At.L 10 [4,5,7,9] 3 (λp7=>([],[],[])) (λp7 J k=>∃s8,zC N a1 k s8=some p7/\J [2,3,4,5,7,9,35] 3 [(36,(j64 s8))] [] []) N (λ_ h=>⟨_,h,jr⟩) (λp7 k s hI=>?_) λp7=>?_
   ·obtain⟨s8,h,hj⟩:=hI;cases k with
    | zero=>cases h
    | succ k=>
     refine At.jr hj ?_ h;refine At.c 1 ?_ ?_
     ·refine At.L 5 [2,3,4,5,7,9,35,36] 3 (λp9=>([],[],[])) (λp9 J k=>yY N a1 k  = some p9/\J [2,3,4,5,7,9,10,35,36,40,41] 3 [] [] []) N (λ_ h=>⟨h,jr⟩) (λp9 k s hI=>?_) λp9=>?_
      ·obtain⟨h,hj⟩:=hI;cases k with
       | zero=>cases h
       | succ k=>
        unfold yY at h;dsimp only at h;refine At.jr hj ?_ h;refine At.c 1 ?_ ?_
        ·refine At.L 6 [2,3,4,5,7,9,10,12,35,36,40,41] 3 (λp10=>([],[],[])) (λp10 J k=>yZ N a1 k  = some p10/\J [2,3,4,5,7,9,10,11,12,35,36,40,41,45,46] 3 [] [] []) N (λ_ h=>⟨h,jr⟩) (λp10 k s hI=>?_) λp10=>?_
         ·obtain⟨h,hj⟩:=hI;cases k with
          | zero=>cases h
          | succ k=>
           unfold yZ at h;dsimp only at h;refine At.jr hj ?_ h;refine lx ?_;intro x11;refine At.c 1 ?_ ?_
           ·exact nn
           ·apply rt;exact At.x 0
         ·exact nn
        ·apply rt;exact At.x 0
      ·exact λh=>At.k 2 ⟨_,h,jr⟩
     ·apply rt;exact At.x 0
   ·exact nn
 ·refine sumK (λr3 e=>?_) (λq e=>?_)
  ·subst e;have hr3:=hq;refine At.o 7 (aM [] (aHv hr3)) ?_;refine At.c 7 ?_ ?_
   ·apply rt;exact At.r 6
   ·refine At.L 10 [4,5,7,9] 4 (λp12=>([],[],[])) (λp12 J k=>∃s13,zE N a1 k s13=some p12/\J [2,3,4,5,7,9,35] 4 [(36,(j64 s13))] [] []) N (λ_ h=>⟨_,h,jr⟩) (λp12 k s hI=>?_) λp12=>?_
    ·obtain⟨s13,h,hj⟩:=hI;cases k with
     | zero=>cases h
     | succ k=>
      refine At.jr hj ?_ h;refine At.c 1 ?_ ?_
      ·refine At.L 5 [2,3,4,5,7,9,35,36] 4 (λp14=>([],[],[])) (λp14 J k=>zF N a1 k  = some p14/\J [2,3,4,5,7,9,10,35,36,40,41] 4 [] [] []) N (λ_ h=>⟨h,jr⟩) (λp14 k s hI=>?_) λp14=>?_
       ·obtain⟨h,hj⟩:=hI;cases k with
        | zero=>cases h
        | succ k=>
         unfold zF at h;dsimp only at h;refine At.jr hj ?_ h;refine At.c 1 ?_ ?_
         ·refine At.L 6 [2,3,4,5,7,9,10,12,35,36,40,41] 4 (λp15=>([],[],[])) (λp15 J k=>yX N a1 k  = some p15/\J [2,3,4,5,7,9,10,11,12,35,36,40,41,45,46] 4 [] [] []) N (λ_ h=>⟨h,jr⟩) (λp15 k s hI=>?_) λp15=>?_
          ·obtain⟨h,hj⟩:=hI;cases k with
           | zero=>cases h
           | succ k=>
            unfold yX at h;dsimp only at h;refine At.jr hj ?_ h;refine lx ?_;intro x16;refine At.c 1 ?_ ?_
            ·exact nn
            ·apply rt;exact At.x 0
          ·exact nn
         ·apply rt;exact At.x 0
       ·exact λh=>At.k 2 ⟨_,h,jr⟩
      ·apply rt;exact At.x 0
    ·exact nn
  ·subst e;have hq:=hq;refine sumK (λr4 e=>?_) (λq e=>?_)
   ·subst e;have hr4:=hq;refine At.o 7 (aM [] (aGq hr4)) ?_;refine At.c 7 ?_ ?_
    ·apply rt;exact At.r 6
    ·refine At.ownb 10 9 3 [2] ?_;refine At.ownb 0 9 1 [3] ?_;refine At.ownb 0 9 1 [4] ?_;refine At.ownb 0 9 3 [5] ?_;refine At.ownb 0 9 1 [6] ?_;refine At.ownb 0 9 1 [7] ?_;refine At.L 0 [4,5,7,9] 16 (λp17=>([],[(2,.var (.st 38 [(aG.enc p17.2.2.2.2.2.2.1),(aI.enc a1),(.ifc 178 (.ref 8 [] 0)),(eO 6 1 (eL 2 aD.enc) r4.2.2.2.1),(aA.enc r4.2.2.2.2.1),(aE.enc p17.2.2.2.2.2.2.2.1)])),(8,.var (aK.enc p17.2.2.2.2.2.2.2.2)),(9,.var (.st 8 [(j64 a1.gW),(j64 a1.gH),(eO 10 3 (eA 3 1 j64) p17.1),(eO 11 1 j64 p17.2.1),(eO 12 1 j64 p17.2.2.1),(eO 13 3 (eA 3 1 j64) p17.2.2.2.1),(eO 14 1 j64 p17.2.2.2.2.1),(eO 15 1 j64 p17.2.2.2.2.2.1)])),(10,.tail (p17.1.length*3)),(11,.tail (p17.2.1.length*1)),(12,.tail (p17.2.2.1.length*1)),(13,.tail (p17.2.2.2.1.length*3)),(14,.tail (p17.2.2.2.2.1.length*1)),(15,.tail (p17.2.2.2.2.2.1.length*1))],[])) (λp17 J k=>∃s18 s19 s20 s21 s22 s23 s24 s25 s26 s27 s28 s29 s30 s31 s32 s33 s34 s35,nA N a1 r4 a0 k s18 s19 s20 s21 s22 s23 s24 s25 s26 s27 s28 s29 s30 s31 s32 s33 s34 s35=some p17/\J [2,3,4,5,7,9,35] 16 [(36,(j64 s35))] [(2,.var (.st 38 [(.st 9 [(eL 19 aH.enc s24),(eL 5 aP.enc s25),(eL 2 aD.enc s26),(eL 13 aQ.enc s27),(eL 1 k64 s28),(eL 1 k32 s29),(k32 s30),(k32 s31),(k32 s32)]),(aI.enc a1),(.ifc 178 (.ref 8 [] 0)),(eO 6 1 (eL 2 aD.enc) r4.2.2.2.1),(aA.enc r4.2.2.2.2.1),(aE.enc s33)])),(8,.var (aK.enc s34)),(9,.var (.st 8 [(j64 a1.gW),(j64 a1.gH),(eO 10 3 (eA 3 1 j64) s18),(eO 11 1 j64 s19),(eO 12 1 j64 s20),(eO 13 3 (eA 3 1 j64) s21),(eO 14 1 j64 s22),(eO 15 1 j64 s23)])),(10,.tail (s18.length*3)),(11,.tail (s19.length*1)),(12,.tail (s20.length*1)),(13,.tail (s21.length*3)),(14,.tail (s22.length*1)),(15,.tail (s23.length*1))] []) N (λ_ h=>⟨_,_,_,_,_,_,_,_,_,_,_,_,_,_,_,_,_,_,h,jr⟩) (λp17 k s hI=>?_) λp17=>?_
     ·obtain⟨s18,s19,s20,s21,s22,s23,s24,s25,s26,s27,s28,s29,s30,s31,s32,s33,s34,s35,h,hj⟩:=hI;cases k with
      | zero=>cases h
      | succ k=>
       refine At.jr hj ?_ h;refine At.c 1 ?_ ?_
       ·refine At.L 5 [2,3,4,5,7,9,35,36] 16 (λp36=>([],[(2,.var (.st 38 [(aG.enc p36.2.2.2.2.2.2.1),(aI.enc a1),(.ifc 178 (.ref 8 [] 0)),(eO 6 1 (eL 2 aD.enc) r4.2.2.2.1),(aA.enc r4.2.2.2.2.1),(aE.enc p36.2.2.2.2.2.2.2.1)])),(8,.var (aK.enc p36.2.2.2.2.2.2.2.2)),(9,.var (.st 8 [(j64 a1.gW),(j64 a1.gH),(eO 10 3 (eA 3 1 j64) p36.1),(eO 11 1 j64 p36.2.1),(eO 12 1 j64 p36.2.2.1),(eO 13 3 (eA 3 1 j64) p36.2.2.2.1),(eO 14 1 j64 p36.2.2.2.2.1),(eO 15 1 j64 p36.2.2.2.2.2.1)])),(10,.tail (p36.1.length*3)),(11,.tail (p36.2.1.length*1)),(12,.tail (p36.2.2.1.length*1)),(13,.tail (p36.2.2.2.1.length*3)),(14,.tail (p36.2.2.2.2.1.length*1)),(15,.tail (p36.2.2.2.2.2.1.length*1))],[])) (λp36 J k=>∃s37 s38 s39 s40 s41 s42 s43 s44 s45 s46,mZ N a1 r4 s35 a0 k s37 s38 s39 s40 s41 s42 s43 s44 s45 s46=some p36/\J [2,3,4,5,7,9,10,35,36,40] 16 [(41,(j64 s46))] [(2,.var (.st 38 [(aG.enc s43),(aI.enc a1),(.ifc 178 (.ref 8 [] 0)),(eO 6 1 (eL 2 aD.enc) r4.2.2.2.1),(aA.enc r4.2.2.2.2.1),(aE.enc s44)])),(8,.var (aK.enc s45)),(9,.var (.st 8 [(j64 a1.gW),(j64 a1.gH),(eO 10 3 (eA 3 1 j64) s37),(eO 11 1 j64 s38),(eO 12 1 j64 s39),(eO 13 3 (eA 3 1 j64) s40),(eO 14 1 j64 s41),(eO 15 1 j64 s42)])),(10,.tail (s37.length*3)),(11,.tail (s38.length*1)),(12,.tail (s39.length*1)),(13,.tail (s40.length*3)),(14,.tail (s41.length*1)),(15,.tail (s42.length*1))] []) N (λ_ h=>⟨_,_,_,_,_,_,_,_,_,_,h,jr⟩) (λp36 k s hI=>?_) λp36=>?_
        ·obtain⟨s37,s38,s39,s40,s41,s42,s43,s44,s45,s46,h,hj⟩:=hI;cases k with
         | zero=>cases h
         | succ k=>
          refine At.jr hj ?_ h;refine At.c 1 ?_ ?_
          ·refine At.ownn 6 12 9 ?_;refine At.L 0 [2,3,4,5,7,9,10,35,36,40,41] 17 (λp47=>([(12,(eO 16 9 aF.enc p47.1))],[(2,.var (.st 38 [(aG.enc s43),(aI.enc a1),(.ifc 178 (.ref 8 [] 0)),(eO 6 1 (eL 2 aD.enc) r4.2.2.2.1),(aA.enc r4.2.2.2.2.1),(aE.enc p47.2.1)])),(8,.var (aK.enc p47.2.2)),(16,.tail (p47.1.length*9))],[])) (λp47 J k=>∃s48 s49 s50 s51,nB N a1 r4 s46 s35 s43 k s48 s49 s50 s51=some p47/\J [2,3,4,5,7,9,10,11,35,36,40,41,45] 17 [(12,(eO 16 9 aF.enc s48)),(46,(j64 s51))] [(2,.var (.st 38 [(aG.enc s43),(aI.enc a1),(.ifc 178 (.ref 8 [] 0)),(eO 6 1 (eL 2 aD.enc) r4.2.2.2.1),(aA.enc r4.2.2.2.2.1),(aE.enc s49)])),(8,.var (aK.enc s50)),(16,.tail (s48.length*9))] []) N (λ_ h=>⟨_,_,_,_,h,jr⟩) (λp47 k s hI=>?_) λp47=>?_
           ·obtain⟨s48,s49,s50,s51,h,hj⟩:=hI;cases k with
            | zero=>cases h
            | succ k=>
             refine At.jr hj ?_ h;refine lx ?_;intro x52;refine At.c 1 ?_ ?_
             ·refine At.b 6 (λ_ e=>aM [2,8,6] (aAB e)) λr53=>?_;refine At.o 8 (bS hT (x:=(.sl 9 1 [(aF.enc r53.2.2.1)]))) ?_;refine At.b 0 (λ_ e=>iW hT aF.enc (id:=16) (k:=9) e) λz54=>?_;exact λh=>At.k 3 ⟨_,_,_,_,h,jr⟩
             ·apply rt;exact At.x 0
           ·refine At.b 2 (λ_ e=>aM [] (aDb e)) λr55=>?_;refine bi λz56 hz56=>?_;refine bi λz57 hz57=>?_;refine At.d 6 dE0 (dF 4 (eO 10 3 (eA 3 1 j64) z56) [(10,.tail (z56.length*3))] [] (bG (iW hT (eA 3 1 j64) (id:=10) (k:=3) hz56)) (dF 9 (eO 13 3 (eA 3 1 j64) z57) [(13,.tail (z57.length*3))] [] (bG (iW hT (eA 3 1 j64) (id:=13) (k:=3) hz57)) dF0)) ?_;refine bi λz58 hz58=>?_;refine bi λz59 hz59=>?_;refine At.d 0 dE0 (dF 4 (eO 11 1 j64 z58) [(11,.tail (z58.length*1))] [] (bG (iW hT j64 (id:=11) (k:=1) hz58)) (dF 9 (eO 12 1 j64 z59) [(12,.tail (z59.length*1))] [] (bG (iW hT j64 (id:=12) (k:=1) hz59)) dF0)) ?_;refine bi λz60 hz60=>?_;refine bi λz61 hz61=>?_;refine At.d 0 dE0 (dF 4 (eO 14 1 j64 z60) [(14,.tail (z60.length*1))] [] (bG (iW hT j64 (id:=14) (k:=1) hz60)) (dF 9 (eO 15 1 j64 z61) [(15,.tail (z61.length*1))] [] (bG (iW hT j64 (id:=15) (k:=1) hz61)) dF0)) ?_;exact λh=>At.k 2 ⟨_,_,_,_,_,_,_,_,_,_,h,jr⟩
          ·apply rt;exact At.x 0
        ·exact λh=>At.k 2 ⟨_,_,_,_,_,_,_,_,_,_,_,_,_,_,_,_,_,_,h,jr⟩
       ·apply rt;exact At.x 0
     ·refine bi λr62 hr62=>?_;refine At.d 0 dE0 (dF 2 (aE.enc r62) [] [] (bG (aM [2,8,6] (aAn hr62))) dF0) ?_;apply rt;exact At.r 0
   ·subst e;have hq:=hq;refine sumK (λr5 e=>?_) (λr6 e=>?_)
    ·subst e;have hr5:=hq;refine At.o 7 (aM [] (aHq hr5)) ?_;refine At.c 7 ?_ ?_
     ·apply rt;exact At.r 6
     ·refine At.L 10 [4,5,7,9] 4 (λp63=>([],[],[])) (λp63 J k=>∃s64,xQ N a1 k s64=some p63/\J [2,3,4,5,7,9,35] 4 [(36,(j64 s64))] [] []) N (λ_ h=>⟨_,h,jr⟩) (λp63 k s hI=>?_) λp63=>?_
      ·obtain⟨s64,h,hj⟩:=hI;cases k with
       | zero=>cases h
       | succ k=>
        refine At.jr hj ?_ h;refine At.c 1 ?_ ?_
        ·refine At.L 5 [2,3,4,5,7,9,35,36] 4 (λp65=>([],[],[])) (λp65 J k=>xI N a1 k  = some p65/\J [2,3,4,5,7,9,10,35,36,40,41] 4 [] [] []) N (λ_ h=>⟨h,jr⟩) (λp65 k s hI=>?_) λp65=>?_
         ·obtain⟨h,hj⟩:=hI;cases k with
          | zero=>cases h
          | succ k=>
           unfold xI at h;dsimp only at h;refine At.jr hj ?_ h;refine At.c 1 ?_ ?_
           ·refine At.L 6 [2,3,4,5,7,9,10,12,35,36,40,41] 4 (λp66=>([],[],[])) (λp66 J k=>xT N a1 k  = some p66/\J [2,3,4,5,7,9,10,11,12,35,36,40,41,45,46] 4 [] [] []) N (λ_ h=>⟨h,jr⟩) (λp66 k s hI=>?_) λp66=>?_
            ·obtain⟨h,hj⟩:=hI;cases k with
             | zero=>cases h
             | succ k=>
              unfold xT at h;dsimp only at h;refine At.jr hj ?_ h;refine lx ?_;intro x67;refine At.c 1 ?_ ?_
              ·exact nn
              ·apply rt;exact At.x 0
            ·exact nn
           ·apply rt;exact At.x 0
         ·exact λh=>At.k 2 ⟨_,h,jr⟩
        ·apply rt;exact At.x 0
      ·exact nn
    ·subst e;have hr6:=hq;refine At.o 7 (aM [] (aH6 hr6)) ?_;refine At.c 7 ?_ ?_
     ·apply rt;exact At.r 6
     ·refine At.ownb 10 9 3 [2] ?_;refine At.ownb 0 9 1 [3] ?_;refine At.ownb 0 9 1 [4] ?_;refine At.ownb 0 9 3 [5] ?_;refine At.ownb 0 9 1 [6] ?_;refine At.ownb 0 9 1 [7] ?_;refine At.L 0 [4,5,7,9] 16 (λp68=>([],[(2,.var (.st 38 [(aG.enc p68.2.2.2.2.2.2.1),(aI.enc a1),(.ifc 181 (.ref 8 [] 0)),(eO 6 1 (eL 2 aD.enc) r6.2.2.2.1),(aA.enc r6.2.2.2.2.1),(aE.enc p68.2.2.2.2.2.2.2.1)])),(8,.var (aL.enc p68.2.2.2.2.2.2.2.2)),(9,.var (.st 8 [(j64 a1.gW),(j64 a1.gH),(eO 10 3 (eA 3 1 j64) p68.1),(eO 11 1 j64 p68.2.1),(eO 12 1 j64 p68.2.2.1),(eO 13 3 (eA 3 1 j64) p68.2.2.2.1),(eO 14 1 j64 p68.2.2.2.2.1),(eO 15 1 j64 p68.2.2.2.2.2.1)])),(10,.tail (p68.1.length*3)),(11,.tail (p68.2.1.length*1)),(12,.tail (p68.2.2.1.length*1)),(13,.tail (p68.2.2.2.1.length*3)),(14,.tail (p68.2.2.2.2.1.length*1)),(15,.tail (p68.2.2.2.2.2.1.length*1))],[])) (λp68 J k=>∃s69 s70 s71 s72 s73 s74 s75 s76 s77 s78 s79 s80 s81 s82 s83 s84 s85 s86,lK N a1 r6 a0 k s69 s70 s71 s72 s73 s74 s75 s76 s77 s78 s79 s80 s81 s82 s83 s84 s85 s86=some p68/\J [2,3,4,5,7,9,35] 16 [(36,(j64 s86))] [(2,.var (.st 38 [(.st 9 [(eL 19 aH.enc s75),(eL 5 aP.enc s76),(eL 2 aD.enc s77),(eL 13 aQ.enc s78),(eL 1 k64 s79),(eL 1 k32 s80),(k32 s81),(k32 s82),(k32 s83)]),(aI.enc a1),(.ifc 181 (.ref 8 [] 0)),(eO 6 1 (eL 2 aD.enc) r6.2.2.2.1),(aA.enc r6.2.2.2.2.1),(aE.enc s84)])),(8,.var (aL.enc s85)),(9,.var (.st 8 [(j64 a1.gW),(j64 a1.gH),(eO 10 3 (eA 3 1 j64) s69),(eO 11 1 j64 s70),(eO 12 1 j64 s71),(eO 13 3 (eA 3 1 j64) s72),(eO 14 1 j64 s73),(eO 15 1 j64 s74)])),(10,.tail (s69.length*3)),(11,.tail (s70.length*1)),(12,.tail (s71.length*1)),(13,.tail (s72.length*3)),(14,.tail (s73.length*1)),(15,.tail (s74.length*1))] []) N (λ_ h=>⟨_,_,_,_,_,_,_,_,_,_,_,_,_,_,_,_,_,_,h,jr⟩) (λp68 k s hI=>?_) λp68=>?_
      ·obtain⟨s69,s70,s71,s72,s73,s74,s75,s76,s77,s78,s79,s80,s81,s82,s83,s84,s85,s86,h,hj⟩:=hI;cases k with
       | zero=>cases h
       | succ k=>
        refine At.jr hj ?_ h;refine At.c 1 ?_ ?_
        ·refine At.L 5 [2,3,4,5,7,9,35,36] 16 (λp87=>([],[(2,.var (.st 38 [(aG.enc p87.2.2.2.2.2.2.1),(aI.enc a1),(.ifc 181 (.ref 8 [] 0)),(eO 6 1 (eL 2 aD.enc) r6.2.2.2.1),(aA.enc r6.2.2.2.2.1),(aE.enc p87.2.2.2.2.2.2.2.1)])),(8,.var (aL.enc p87.2.2.2.2.2.2.2.2)),(9,.var (.st 8 [(j64 a1.gW),(j64 a1.gH),(eO 10 3 (eA 3 1 j64) p87.1),(eO 11 1 j64 p87.2.1),(eO 12 1 j64 p87.2.2.1),(eO 13 3 (eA 3 1 j64) p87.2.2.2.1),(eO 14 1 j64 p87.2.2.2.2.1),(eO 15 1 j64 p87.2.2.2.2.2.1)])),(10,.tail (p87.1.length*3)),(11,.tail (p87.2.1.length*1)),(12,.tail (p87.2.2.1.length*1)),(13,.tail (p87.2.2.2.1.length*3)),(14,.tail (p87.2.2.2.2.1.length*1)),(15,.tail (p87.2.2.2.2.2.1.length*1))],[])) (λp87 J k=>∃s88 s89 s90 s91 s92 s93 s94 s95 s96 s97,lU N a1 r6 s86 a0 k s88 s89 s90 s91 s92 s93 s94 s95 s96 s97=some p87/\J [2,3,4,5,7,9,10,35,36,40] 16 [(41,(j64 s97))] [(2,.var (.st 38 [(aG.enc s94),(aI.enc a1),(.ifc 181 (.ref 8 [] 0)),(eO 6 1 (eL 2 aD.enc) r6.2.2.2.1),(aA.enc r6.2.2.2.2.1),(aE.enc s95)])),(8,.var (aL.enc s96)),(9,.var (.st 8 [(j64 a1.gW),(j64 a1.gH),(eO 10 3 (eA 3 1 j64) s88),(eO 11 1 j64 s89),(eO 12 1 j64 s90),(eO 13 3 (eA 3 1 j64) s91),(eO 14 1 j64 s92),(eO 15 1 j64 s93)])),(10,.tail (s88.length*3)),(11,.tail (s89.length*1)),(12,.tail (s90.length*1)),(13,.tail (s91.length*3)),(14,.tail (s92.length*1)),(15,.tail (s93.length*1))] []) N (λ_ h=>⟨_,_,_,_,_,_,_,_,_,_,h,jr⟩) (λp87 k s hI=>?_) λp87=>?_
         ·obtain⟨s88,s89,s90,s91,s92,s93,s94,s95,s96,s97,h,hj⟩:=hI;cases k with
          | zero=>cases h
          | succ k=>
           refine At.jr hj ?_ h;refine At.c 1 ?_ ?_
           ·refine At.ownn 6 12 9 ?_;refine At.L 0 [2,3,4,5,7,9,10,35,36,40,41] 17 (λp98=>([(12,(eO 16 9 aF.enc p98.1))],[(2,.var (.st 38 [(aG.enc s94),(aI.enc a1),(.ifc 181 (.ref 8 [] 0)),(eO 6 1 (eL 2 aD.enc) r6.2.2.2.1),(aA.enc r6.2.2.2.2.1),(aE.enc p98.2.1)])),(8,.var (aL.enc p98.2.2)),(16,.tail (p98.1.length*9))],[])) (λp98 J k=>∃s99 s100 s101 s102,lY N a1 r6 s97 s86 s94 k s99 s100 s101 s102=some p98/\J [2,3,4,5,7,9,10,11,35,36,40,41,45] 17 [(12,(eO 16 9 aF.enc s99)),(46,(j64 s102))] [(2,.var (.st 38 [(aG.enc s94),(aI.enc a1),(.ifc 181 (.ref 8 [] 0)),(eO 6 1 (eL 2 aD.enc) r6.2.2.2.1),(aA.enc r6.2.2.2.2.1),(aE.enc s100)])),(8,.var (aL.enc s101)),(16,.tail (s99.length*9))] []) N (λ_ h=>⟨_,_,_,_,h,jr⟩) (λp98 k s hI=>?_) λp98=>?_
            ·obtain⟨s99,s100,s101,s102,h,hj⟩:=hI;cases k with
             | zero=>cases h
             | succ k=>
              refine At.jr hj ?_ h;refine lx ?_;intro x103;refine At.c 1 ?_ ?_
              ·refine At.b 6 (λ_ e=>aM [2,8,6] (aAo e)) λr104=>?_;refine At.o 8 (bS hT (x:=(.sl 9 1 [(aF.enc r104.2.2.1)]))) ?_;refine At.b 0 (λ_ e=>iW hT aF.enc (id:=16) (k:=9) e) λz105=>?_;exact λh=>At.k 3 ⟨_,_,_,_,h,jr⟩
              ·apply rt;exact At.x 0
            ·refine At.b 2 (λ_ e=>aM [] (aDb e)) λr106=>?_;refine bi λz107 hz107=>?_;refine bi λz108 hz108=>?_;refine At.d 6 dE0 (dF 4 (eO 10 3 (eA 3 1 j64) z107) [(10,.tail (z107.length*3))] [] (bG (iW hT (eA 3 1 j64) (id:=10) (k:=3) hz107)) (dF 9 (eO 13 3 (eA 3 1 j64) z108) [(13,.tail (z108.length*3))] [] (bG (iW hT (eA 3 1 j64) (id:=13) (k:=3) hz108)) dF0)) ?_;refine bi λz109 hz109=>?_;refine bi λz110 hz110=>?_;refine At.d 0 dE0 (dF 4 (eO 11 1 j64 z109) [(11,.tail (z109.length*1))] [] (bG (iW hT j64 (id:=11) (k:=1) hz109)) (dF 9 (eO 12 1 j64 z110) [(12,.tail (z110.length*1))] [] (bG (iW hT j64 (id:=12) (k:=1) hz110)) dF0)) ?_;refine bi λz111 hz111=>?_;refine bi λz112 hz112=>?_;refine At.d 0 dE0 (dF 4 (eO 14 1 j64 z111) [(14,.tail (z111.length*1))] [] (bG (iW hT j64 (id:=14) (k:=1) hz111)) (dF 9 (eO 15 1 j64 z112) [(15,.tail (z112.length*1))] [] (bG (iW hT j64 (id:=15) (k:=1) hz112)) dF0)) ?_;exact λh=>At.k 2 ⟨_,_,_,_,_,_,_,_,_,_,h,jr⟩
           ·apply rt;exact At.x 0
         ·exact λh=>At.k 2 ⟨_,_,_,_,_,_,_,_,_,_,_,_,_,_,_,_,_,_,h,jr⟩
        ·apply rt;exact At.x 0
      ·refine bi λr113 hr113=>?_;refine At.d 0 dE0 (dF 2 (aE.enc r113) [] [] (bG (aM [2,8,6] (aBZ hr113))) dF0) ?_;apply rt;exact At.r 0
def aIe : Nat->Bool:=imL [2,3]
def sF(N:Nat)(a0:aG)(a1:aI):Option (cK×aE×Int):=
 aa (mC N a0 a1) λr1=>
 aa (cond (!a1.gT) (some (aE.mk 0 0 0)) (some r1.2.1)) λp2=>
 some ((r1.1,p2,r1.2.2))
theorem aCi{N a0 a1 r}(h:sF N a0 a1=some r):FnM Tryz.prog 12 [] [(aG.enc a0),(aI.enc a1)] (.tup [(cK.enc r.1),(aE.enc r.2.1),(j64 r.2.2)]) []:=by
 unfold sF at h;refine At.f aIe hT hmo Tryz.func12 rfl h ?_;refine At.b 7 (λ_ e=>aM [] (aIT e)) λr1=>?_;refine At.J 9 1 [4,5,7,8,9] 4 (λp2=>([],[(3,.var (aE.enc p2))],[])) (λp2=>?_) λp2=>?_
 ·refine At.c 3 ?_ ?_
  ·apply rt;exact At.jn 2
  ·apply rt;exact At.jn 0
 ·refine At.d 0 dE0 dF0 ?_;apply rt;exact At.r 0
def iK(N:Nat)(a0 a1:(List (Vector Int 3))):Nat->Int->Option (Sum (Unit) (Bool))
 | 0,_=>none
 | k+1,s3=>
  aU (decide (s3 < ((a0.length:Int)))) λx4=>
  cond x4 (
   aa (idx a0 s3) λe5=>
   aa (idx a1 s3) λe6=>
   cond (!((eqV (λa b=>a==b)) e5 e6)) (
    some (Sum.inr false)) (
    iK N a0 a1 k (I64 (s3+1)))) (
   some (Sum.inl (())))
def lX(N:Nat)(a0 a1:(List (Vector Int 3))):Option (Bool):=
 aU (((a0.length:Int)) != ((a1.length:Int))) λx1=>
 cond x1 (
  some false) (
  aa (iK N a0 a1 N 0) λo=>pD o (λp2=>
   some true) (λr=>some r))
theorem zM{N a0 a1 r}(h:lX N a0 a1=some r):FnM Tryz.prog 42 [] [(eL 3 (eA 3 1 j64) a0),(eL 3 (eA 3 1 j64) a1)] (eB r) []:=by
 unfold lX at h;refine At.f dG hT hmo Tryz.func42 rfl h ?_;refine lx ?_;intro x1;refine At.c 6 ?_ ?_
 ·apply rt;exact At.r 1
 ·refine At.LS 3 [] 0 (λp2=>([],[],[])) (λop2 J k=>∃s3,iK N a0 a1 k s3=some op2/\J [0,1,12] 0 [(13,(j64 s3))] [] []) N (λ_ h=>⟨_,h,jr⟩) (λop2 g2 k s hI=>?_) λp2=>?_
  ·obtain⟨s3,h,hj⟩:=hI;cases k with
   | zero=>cases h
   | succ k=>
    refine At.jr hj ?_ h;refine lx ?_;intro x4;refine At.c 1 ?_ ?_
    ·refine bi λe5 he5=>?_;refine bi λe6 he6=>?_;refine At.d 2 (dE1 2 (λ_=>bT hT (eA 3 1 j64) he5) (dE1 6 (λ_=>bT hT (eA 3 1 j64) he6) (dE1 8 (λ_=>zU aUA (e5:(Vector Int 3)) (e6:(Vector Int 3)) (by kernel_rfl) (by kernel_rfl) (λ_=>rfl) (λ_=>rfl) (by kernel_rfl) (by kernel_rfl)) dE0))) dF0 ?_;refine At.c 0 ?_ ?_
     ·intro e;apply aBm g2 e;exact At.r 1
     ·exact λh=>At.k 2 ⟨_,h,jr⟩
    ·apply rt;exact At.xs 0
  ·apply rt;exact At.r 1
def jF(N:Nat)(a0 a1:(List Int)):Nat->Int->Option (Sum (Unit) (Bool))
 | 0,_=>none
 | k+1,s3=>
  aU (decide (s3 < ((a0.length:Int)))) λx4=>
  cond x4 (
   aa (idx a0 s3) λe5=>
   aa (idx a1 s3) λe6=>
   cond (e5 != e6) (
    some (Sum.inr false)) (
    jF N a0 a1 k (I64 (s3+1)))) (
   some (Sum.inl (())))
def jY(N:Nat)(a0 a1:(List Int)):Option (Bool):=
 aU (((a0.length:Int)) != ((a1.length:Int))) λx1=>
 cond x1 (
  some false) (
  aa (jF N a0 a1 N 0) λo=>pD o (λp2=>
   some true) (λr=>some r))
theorem sN{N a0 a1 r}(h:jY N a0 a1=some r):FnM Tryz.prog 43 [] [(eL 1 j64 a0),(eL 1 j64 a1)] (eB r) []:=by
 unfold jY at h;refine At.f dG hT hmo Tryz.func43 rfl h ?_;refine lx ?_;intro x1;refine At.c 6 ?_ ?_
 ·apply rt;exact At.r 1
 ·refine At.LS 3 [] 0 (λp2=>([],[],[])) (λop2 J k=>∃s3,jF N a0 a1 k s3=some op2/\J [0,1,12] 0 [(13,(j64 s3))] [] []) N (λ_ h=>⟨_,h,jr⟩) (λop2 g2 k s hI=>?_) λp2=>?_
  ·obtain⟨s3,h,hj⟩:=hI;cases k with
   | zero=>cases h
   | succ k=>
    refine At.jr hj ?_ h;refine lx ?_;intro x4;refine At.c 1 ?_ ?_
    ·refine bi λe5 he5=>?_;refine bi λe6 he6=>?_;refine At.d 2 (dE1 2 (λ_=>bT hT j64 he5) (dE1 6 (λ_=>bT hT j64 he6) dE0)) dF0 ?_;refine At.c 0 ?_ ?_
     ·intro e;apply aBm g2 e;exact At.r 1
     ·exact λh=>At.k 2 ⟨_,h,jr⟩
    ·apply rt;exact At.xs 0
  ·apply rt;exact At.r 1
def aLj : Nat->Bool:=imL [2,3]
def wE(N:Nat)(a0 a1:cK):Option (Bool):=
 aa (aU (cond (a0.gW==a1.gW) (a0.gH==a1.gH) false) λx2=>
 cond x2 (
  aa (lX N a0.gE6 a1.gE6) λr3=>
  cond r3 (
   aa (jY N a0.gB6 a1.gB6) λr4=>
   cond r4 (
    aa (jY N a0.gK a1.gK) λr5=>
    cond r5 (
     aa (lX N a0.gC6 a1.gC6) λr6=>
     cond r6 (
      aa (jY N a0.gE7 a1.gE7) λr7=>
      cond r7 (
       aa (jY N a0.gB8 a1.gB8) λr8=>
       some r8) (
       some false)) (
      some false)) (
     some false)) (
    some false)) (
   some false)) (
  some false)) λp1=>
 some p1
theorem wO{N a0 a1 r}(h:wE N a0 a1=some r):FnM Tryz.prog 16 [] [(cK.enc a0),(cK.enc a1)] (eB r) []:=by
 unfold wE at h;refine At.f aLj hT hmo Tryz.func16 rfl h ?_;refine At.J 3 0 [] 0 (λp1=>([(4,(eB p1))],[],[])) (λp1=>?_) λp1=>?_
 ·refine lx ?_;intro x2;refine At.s 17 13 ?_ ?_
  ·refine At.g [17] 4 ?_;refine At.b 0 (λ_ e=>aM [] (zM e)) λr3=>?_;refine At.g [17] 2 ?_;refine At.s 24 0 ?_ ?_
   ·refine At.g [24] 4 ?_;refine At.b 0 (λ_ e=>aM [] (sN e)) λr4=>?_;refine At.g [24] 2 ?_;refine At.s 31 0 ?_ ?_
    ·refine At.g [31] 4 ?_;refine At.b 0 (λ_ e=>aM [] (sN e)) λr5=>?_;refine At.g [31] 2 ?_;refine At.s 38 0 ?_ ?_
     ·refine At.g [38] 4 ?_;refine At.b 0 (λ_ e=>aM [] (zM e)) λr6=>?_;refine At.g [38] 2 ?_;refine At.s 45 0 ?_ ?_
      ·refine At.g [45] 4 ?_;refine At.b 0 (λ_ e=>aM [] (sN e)) λr7=>?_;refine At.g [45] 2 ?_;refine At.s 52 0 ?_ ?_
       ·refine At.g [52] 4 ?_;refine At.b 0 (λ_ e=>aM [] (sN e)) λr8=>?_;refine At.g [52] 2 ?_;apply rt;exact At.jn 0
       ·refine At.g [52] 7 ?_;apply rt;exact At.jn 0
      ·refine At.g [45,52] 14 ?_;apply rt;exact At.jn 0
     ·refine At.g [38,45,52] 21 ?_;apply rt;exact At.jn 0
    ·refine At.g [31,38,45,52] 28 ?_;apply rt;exact At.jn 0
   ·refine At.g [24,31,38,45,52] 35 ?_;apply rt;exact At.jn 0
  ·refine At.g [17,24,31,38,45,52] 42 ?_;apply rt;exact At.jn 0
 ·apply rt;exact At.r 0
def lV(N:Nat):Option (Bool):=
 aa (aa (rH N 4294967296) λr2=>
 cond (r2==32767) (
  aa (rJ N 0) λr3=>
  cond (r3==32767) (
   aa (xG N 300647710720000) λr4=>
   some (r4==65535)) (
   some false)) (
  some false)) λp1=>
 some p1
theorem zP{N r}(h:lV N=some r):FnM Tryz.prog 15 [] [] (eB r) []:=by
 unfold lV at h;refine At.f dG hT hmo Tryz.func15 rfl h ?_;refine At.J 1 0 [] 0 (λp1=>([(0,(eB p1))],[],[])) (λp1=>?_) λp1=>?_
 ·refine At.b 0 (λ_ e=>aM [] (aAG e)) λr2=>?_;refine At.s 3 2 ?_ ?_
  ·refine At.b 0 (λ_ e=>aM [] (zT e)) λr3=>?_;refine At.g [3] 3 ?_;refine At.s 7 0 ?_ ?_
   ·refine At.b 0 (λ_ e=>aM [] (aFm e)) λr4=>?_;refine At.g [7] 3 ?_;apply rt;exact At.jn 0
   ·refine At.g [7] 4 ?_;apply rt;exact At.jn 0
  ·refine At.g [3,7] 8 ?_;apply rt;exact At.jn 0
 ·apply rt;exact At.r 0
def aKP : Nat->Bool:=imL [1]
def wI(N:Nat)(a0:aI):Option (aE):=
 aa (nV N a0) λr1=>
 cond (r1 != 0) (
  some (aE.mk 0 0 0)) (
  aa (iV N a0.gL) λr2=>
  aU (I64 ((I64 (a0.gW*a0.gH))*a0.gB1)) λx3=>
  aU (I64 (x3*(I64 (a0.gK+1)))) λx4=>
  aU (I64 ((I64 (x4*r2.1))*(I64 (1+r2.2)))) λx5=>
  some (aE.mk ((I64 ((I64 (x4*r2.1))*(I64 (1+r2.2))))) (I64 (4*x4)) x4))
theorem aDZ{N a0 r}(h:wI N a0=some r):FnM Tryz.prog 17 [] [(aI.enc a0)] (aE.enc r) []:=by
 unfold wI at h;refine At.f aKP hT hmo Tryz.func17 rfl h ?_;refine At.b 3 (λ_ e=>aM [] (aEs e)) λr1=>?_;refine At.c 1 ?_ ?_
 ·apply rt;exact At.r 2
 ·refine At.b 2 (λ_ e=>aM [] (qR e)) λr2=>?_;refine lx ?_;intro x3;refine lx ?_;intro x4;refine lx ?_;intro x5;apply rt;exact At.r 29
def jC(N:Nat)(a0:aG)(a1:aI):Option (Bool):=
 aa (qZ N a0) λr1=>
 aa (rQ N a1) λr2=>
 aa (sF N r1 (aI.mk r2.gW r2.gH r2.gB1 r2.gK r2.gL r2.gS r2.gC9 false)) λr3=>
 aa (sF N r1 (aI.mk r2.gW r2.gH r2.gB1 r2.gK r2.gL r2.gS r2.gC9 true)) λr4=>
 aU (cond (r3.2.2 != 0) true (r4.2.2 != 0)) λx5=>
 cond x5 (
  aa (cond (r3.2.2==r4.2.2) (
   aa (wE N r3.1 r4.1) λr7=>
   cond r7 (
    aU (aE.eq r3.2.1 r4.2.1) λx8=>
    cond x8 (
     aa (lV N ) λr9=>
     some r9) (
     some false)) (
    some false)) (
   some false)) λp6=>
  some p6) (
  aa (aa (wE N r3.1 r4.1) λr11=>
  cond r11 (
   aU (aE.eq r3.2.1 (aE.mk 0 0 0)) λx12=>
   cond x12 (
    aa (wI N (aI.mk r2.gW r2.gH r2.gB1 r2.gK r2.gL r2.gS r2.gC9 true)) λr13=>
    aU (aE.eq r4.2.1 r13) λx14=>
    cond x14 (
     aa (lV N ) λr15=>
     some r15) (
     some false)) (
    some false)) (
   some false)) λp10=>
  some p10)
theorem aAV{N a0 a1 r}(h:jC N a0 a1=some r):FnM Tryz.prog 5 [] [(aG.enc a0),(aI.enc a1)] (eB r) []:=by
 unfold jC at h;refine At.f dG hT hmo Tryz.func5 rfl h ?_;refine bi λr1 hr1=>?_;refine bi λr2 hr2=>?_;refine At.d 3 (dE2 1 (aG.enc r1) (λ_=>aO (aEQ hr1)) (dE2 3 (aI.enc r2) (λ_=>aO (aDO hr2)) dE0)) dF0 ?_;refine At.b 9 (λ_ e=>aM [] (aCi e)) λr3=>?_;refine At.b 11 (λ_ e=>aM [] (aCi e)) λr4=>?_;refine lx ?_;intro x5;refine At.c 15 ?_ ?_
 ·refine At.J 0 0 [] 7 (λp6=>([(4,(eB p6))],[],[])) (λp6=>?_) λp6=>?_
  ·refine At.s 42 4 ?_ ?_
   ·refine At.g [42] 2 ?_;refine At.b 0 (λ_ e=>aM [] (wO e)) λr7=>?_;refine At.g [42] 2 ?_;refine At.s 47 0 ?_ ?_
    ·refine At.g [47] 2 ?_;refine At.o 0 (yG aFN (r3.2.1:aE) (r4.2.1:aE) (by kernel_rfl) (by kernel_rfl) (λ_=>rfl) (λ_=>rfl) (by kernel_rfl) (by kernel_rfl)) ?_;refine lx ?_;intro x8;refine At.g [47] 2 ?_;refine At.s 52 0 ?_ ?_
     ·refine At.b 0 (λ_ e=>aM [] (zP e)) λr9=>?_;refine At.g [52] 2 ?_;apply rt;exact At.jn 0
     ·refine At.g [52] 3 ?_;apply rt;exact At.jn 0
    ·refine At.g [47,52] 8 ?_;apply rt;exact At.jn 0
   ·refine At.g [42,47,52] 13 ?_;apply rt;exact At.jn 0
  ·apply rt;exact At.r 0
 ·refine At.J 0 0 [] 7 (λp10=>([(4,(eB p10))],[],[])) (λp10=>?_) λp10=>?_
  ·refine bi λr11 hr11=>?_;refine boI (λhc3=>?_) (λhc3=>?_)
   ·refine lx ?_;intro x12;refine boI (λhc8=>?_) (λhc8=>?_)
    ·refine bi λr13 hr13=>?_;refine lx ?_;intro x14;refine boI (λhc14=>?_) (λhc14=>?_)
     ·refine bi λr15 hr15=>?_;refine At.d 0 (dE2 2 (eB r11) (λ_=>aO (wO hr11)) (dE1 3 (λ_=>cO hc3 rfl (cF hT (im:=false) (by kernel_rfl))) (dE1 6 (λ_=>yG aFN (r3.2.1:aE) (aE.mk 0 0 0:aE) (by kernel_rfl) (by kernel_rfl) (λ_=>rfl) (λ_=>rfl) (by kernel_rfl) (by kernel_rfl)) (dE1 8 (λ_=>cO hc8 rfl (cF hT (im:=false) (by kernel_rfl))) (dE2 11 (aE.enc r13) (λ_=>aO (aDZ hr13)) (dE1 12 (λ_=>yG aFN (r4.2.1:aE) (r13:aE) (by kernel_rfl) (by kernel_rfl) (λ_=>rfl) (λ_=>rfl) (by kernel_rfl) (by kernel_rfl)) (dE1 14 (λ_=>cO hc14 rfl (cF hT (im:=false) (by kernel_rfl))) (dE2 15 (eB r15) (λ_=>aO (zP hr15)) dE0)))))))) dF0 ?_;apply rt;exact At.jn 0
     ·refine At.d 0 (dE2 2 (eB r11) (λ_=>aO (wO hr11)) (dE1 3 (λ_=>cO hc3 rfl (cF hT (im:=false) (by kernel_rfl))) (dE1 6 (λ_=>yG aFN (r3.2.1:aE) (aE.mk 0 0 0:aE) (by kernel_rfl) (by kernel_rfl) (λ_=>rfl) (λ_=>rfl) (by kernel_rfl) (by kernel_rfl)) (dE1 8 (λ_=>cO hc8 rfl (cF hT (im:=false) (by kernel_rfl))) (dE2 11 (aE.enc r13) (λ_=>aO (aDZ hr13)) (dE1 12 (λ_=>yG aFN (r4.2.1:aE) (r13:aE) (by kernel_rfl) (by kernel_rfl) (λ_=>rfl) (λ_=>rfl) (by kernel_rfl) (by kernel_rfl)) (dE1 14 (λ_=>cO hc14 rfl (cF hT (im:=false) (by kernel_rfl))) dE0))))))) dF0 ?_;apply rt;exact At.jn 0
    ·refine At.d 0 (dE2 2 (eB r11) (λ_=>aO (wO hr11)) (dE1 3 (λ_=>cO hc3 rfl (cF hT (im:=false) (by kernel_rfl))) (dE1 6 (λ_=>yG aFN (r3.2.1:aE) (aE.mk 0 0 0:aE) (by kernel_rfl) (by kernel_rfl) (λ_=>rfl) (λ_=>rfl) (by kernel_rfl) (by kernel_rfl)) (dE1 8 (λ_=>cO hc8 rfl (cF hT (im:=false) (by kernel_rfl))) dE0)))) dF0 ?_;apply rt;exact At.jn 0
   ·refine At.d 0 (dE2 2 (eB r11) (λ_=>aO (wO hr11)) (dE1 3 (λ_=>cO hc3 rfl (cF hT (im:=false) (by kernel_rfl))) dE0)) dF0 ?_;apply rt;exact At.jn 0
  ·apply rt;exact At.r 0
end Go.UK
