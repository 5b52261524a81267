/- A part of the proof: what the functions of the program compute. -/
import Derived.Test.YtogkmakcedgneaaGreatAJ1
open Int renaming tdiv→eg,tmod→cp,toNat→ag
open Option renaming bind→ae
open Vector renaming replicate→ai
namespace Go.UK
open Go Go.Proofs
set_option maxRecDepth 20000
set_option maxHeartbeats 40000000
set_option linter.all false
attribute [local irreducible] adv aCx aF3 aAR brPt aO8 aH6 qJ aBm iN qH dN yW aMI aNk lPt bP opD mK aAP aNJ stD dCl dEn dH DD aM owp awl aw FnM aKF opS TOK Big
def aF6 : Nat->Bool:=imL [1]
def hJ(N:Nat)(x2:Int)(a0:aJ):Nat->(List Int)->Int->Option ((List Int))
 | 0,_,_=>none
 | k+1,s4,s5=>
  cond (decide (s5 < x2)) (
   ae (idx a0.gK s5) λe6=>
   ae (aS 0 3) λ_=>
   ae (e6.toList[(ag 0)]?) λe8=>
   ae (aS 1 3) λ_=>
   ae (e6.toList[(ag 1)]?) λe10=>
   ae (aS 2 3) λ_=>
   ae (e6.toList[(ag 2)]?) λe12=>
   ae (fT 1 s4 (([U8 e8,U8 e10,U8 e12]:List Int))) λz13=>
   hJ N x2 a0 k z13 (I64 (s5+1))) (
   some s4)
def vM(N:Nat)(a0:aJ):Option ((List Int)×Int):=
 ae (cH N a0) λr1=>
 cond (r1 != 0) (
  some (([],r1))) (
  aM ((a0.gK.length:Int)) λx2=>
  ae (hJ N x2 a0 N (([U8 a0.gM]:List Int)) 0) λp3=>
  some ((p3,0)))
theorem aFK{N a0 r}(h:vM N a0=some r):FnM Tryz.prog 137 [] [(aJ.enc a0)] (.tup [(eL 1 k8 r.1),(j64 r.2)]) []:=by
 refine Af aF6 Tryz.func137 h ?_;refine At.y 4 xQ λr1=>?_;refine At.c 3 ?_ ?_
 ·apply rt;exact At.r 3
 ·refine At.o 3 (sH hT k8 (k:=1) ([U8 a0.gM]:List Int) (by kernel_rfl) (by kernel_rfl)) ?_;apply lx;intro x2;refine At.M 5 [] 1 (λp3=>([(5,(eO 0 1 k8 p3))],[(0,.tail (p3.length*1))],[])) [18,19] 1 (CU2 (hJ N x2 a0)) (cu2 λs4 s5=>([(5,(eO 0 1 k8 s4)),(20,(j64 s5))],[(0,.tail (s4.length*1))],[])) (_,_) N (λp3 k=>un2 λs4 s5=>?_) λp3=>?_
  ·refine At.c 1 ?_ ?_
   ·refine At.i hT 0 (eA 3 1 j64) λe6=>?_;refine At.B 4 bAr λu7=>?_;refine At.U 0 (bLd j64 0) λe8=>?_;refine At.B 1 bAr λu9=>?_;refine At.U 0 (bLd j64 0) λe10=>?_;refine At.B 1 bAr λu11=>?_;refine At.U 0 (bLd j64 0) λe12=>?_;refine At.O 1 bRw ?_;refine At.U 0 (bAp k8) λz13=>?_;exact λh=>At.v 3 (_,_) h
   ·apply rt;exact At.x 0
  ·apply rt;exact At.r 3
def aHj : Nat->Bool:=imL [1]
def oF(N:Nat)(e4 e6 e8:Int)(a0:aI):Nat->(List Int)->Int->Option ((List Int))
 | 0,_,_=>none
 | k+1,s10,s11=>
  cond (decide (s11 < 4)) (
   ae (idx ([e4,e6,e8,a0.gI.gW]) s11) λe12=>
   ae (bW N s10 2 ([U64 e12])) λr13=>
   oF N e4 e6 e8 a0 k r13.1 (I64 (s11+1))) (
   some s10)
def oE(N:Nat)(a0:aI):Nat->(List Int)->Int->Option ((List Int))
 | 0,_,_=>none
 | k+1,s22,s23=>
  cond (decide (s23 < 3)) (
   ae (idx ([a0.gD.gAt,a0.gD.gU,a0.gD.gV]) s23) λe24=>
   ae (oA N s22 2 ([e24.gX,e24.gY,e24.gZ])) λr25=>
   oE N a0 k r25.1 (I64 (s23+1))) (
   some s22)
def uS(N:Nat)(a0:aI):Option ((List Int)):=
 cond (a0.gA==1) (
  ae (yF N a0.gP) λr1=>
  some r1.1) (
  cond (a0.gA==2) (
   ae (vM N a0.gR) λr2=>
   some r2.1) (
   cond (a0.gA==3) (
    ae (aS 0 3) λ_=>
    ae (a0.gI.gF.toList[(ag 0)]?) λe4=>
    ae (aS 1 3) λ_=>
    ae (a0.gI.gF.toList[(ag 1)]?) λe6=>
    ae (aS 2 3) λ_=>
    ae (a0.gI.gF.toList[(ag 2)]?) λe8=>
    ae (oF N e4 e6 e8 a0 N ([U8 a0.gI.gA]) 0) λp9=>
    some p9) (
    ae (aS 0 3) λ_=>
    ae (a0.gD.gF.toList[(ag 0)]?) λe15=>
    ae (aS 1 3) λ_=>
    ae (a0.gD.gF.toList[(ag 1)]?) λe17=>
    ae (aS 2 3) λ_=>
    ae (a0.gD.gF.toList[(ag 2)]?) λe19=>
    ae (bW N ([U8 a0.gD.gA]) 4 ([U64 e15,U64 e17,U64 e19])) λr20=>
    ae (oE N a0 N r20.1 0) λp21=>
    some p21)))
theorem aB2{N a0 r}(h:uS N a0=some r):FnM Tryz.prog 95 [] [(aI.enc a0)] (eL 1 k8 r) []:=by
 refine Af aHj Tryz.func95 h ?_;refine At.c 6 ?_ ?_
 ·refine At.y 2 aHm λr1=>?_;apply rt;exact At.r 7
 ·refine At.c 2 ?_ ?_
  ·refine At.y 2 aFK λr2=>?_;apply rt;exact At.r 7
  ·refine At.c 2 ?_ ?_
   ·refine At.O 7 bRw ?_;refine At.B 2 bAr λu3=>?_;refine At.U 0 (bLd j64 1) λe4=>?_;refine At.B 1 bAr λu5=>?_;refine At.U 0 (bLd j64 1) λe6=>?_;refine At.B 1 bAr λu7=>?_;refine At.U 0 (bLd j64 1) λe8=>?_;refine At.O 2 bRw ?_;refine At.M 2 [] 1 (λp9=>([(8,(eL 1 k8 p9))],[],[])) [55,56] 1 (CU2 (oF N e4 e6 e8 a0)) (cu2 λs10 s11=>([(8,(eL 1 k8 s10)),(57,(j64 s11))],[],[])) (_,_) N (λp9 k=>un2 λs10 s11=>?_) λp9=>?_
    ·refine At.c 1 ?_ ?_
     ·refine At.i hT 0 j64 λe12=>?_;refine At.O 5 bRw ?_;refine At.Y 0 [] fL λr13=>?_;exact λh=>At.v 6 (_,_) h
     ·apply rt;exact At.x 0
    ·apply rt;exact At.r 2
   ·refine At.O 7 bRw ?_;refine At.B 1 bAr λu14=>?_;refine At.U 0 (bLd j64 1) λe15=>?_;refine At.B 2 bAr λu16=>?_;refine At.U 0 (bLd j64 1) λe17=>?_;refine At.B 2 bAr λu18=>?_;refine At.U 0 (bLd j64 1) λe19=>?_;refine At.O 1 bRw ?_;refine At.Y 0 [] fL λr20=>?_;refine At.O 11 bRw ?_;refine At.M 2 [] 2 (λp21=>([(12,(eO 1 1 k8 p21))],[(1,.tail (p21.length*1))],[])) [100,101] 2 (CU2 (oE N a0)) (cu2 λs22 s23=>([(12,(eO 1 1 k8 s22)),(102,(j64 s23))],[(1,.tail (s22.length*1))],[])) (_,_) N (λp21 k=>un2 λs22 s23=>?_) λp21=>?_
    ·refine At.c 1 ?_ ?_
     ·refine At.i hT 0 aA.enc λe24=>?_;refine At.O 10 bRw ?_;refine At.Y 0 [] aB6 λr25=>?_;exact λh=>At.vw 6 (_,_) (aJx 3 1 (by kernel_rfl) jr) h
     ·apply rt;exact At.x 0
    ·apply rt;exact At.r 2
def aJm : Nat->Bool:=imL [1]
def kU(N:Nat)(a0:aI):Option (Int):=
 ae (nC N a0) λr1=>
 cond (r1 != 0) (
  some r1) (
  ae (aAK N a0) λr2=>
  ae (vG N r2 (aI.mk a0.gA (aK.mk [] [] []) (aJ.mk 0 []) (aG.mk 0 (#v[0,0,0]) 0) (aL.mk 0 (#v[0,0,0]) (aA.mk 0 0 0) (aA.mk 0 0 0) (aA.mk 0 0 0)))) λr3=>
  cond (!r3) (
   some 5) (
   ae (uS N a0) λr4=>
   ae (uW N a0.gA) λr5=>
   aM (decide (((r4.length:Int)) > r5)) λx6=>
   cond x6 (some 9) (some 0)))
theorem aCk{N a0 r}(h:kU N a0=some r):FnM Tryz.prog 60 [] [(aI.enc a0)] (j64 r) []:=by
 refine Af aJm Tryz.func60 h ?_;refine At.y 3 aLT λr1=>?_;refine At.c 3 ?_ ?_
 ·apply rt;exact At.r 2
 ·refine At.D 0 [] ?_;refine DD.y 1 aJW λr2=>?_;refine DD.y 3 aJU λr3=>?_;refine De 1 ?_;refine At.c 0 ?_ ?_
  ·apply rt;exact At.r 1
  ·refine At.D 0 [] ?_;refine DD.y 1 aB2 λr4=>?_;refine DD.y 3 aB3 λr5=>?_;apply lx;intro x6;refine De 1 ?_;refine At.c 0 ?_ ?_
   ·apply rt;exact At.r 1
   ·apply rt;exact At.r 1
def rY(N:Nat)(a0:Int)(a1:(List Int)):Option (aI×Int):=
 ae (ae (qP N a1) λr2=>
 cond (a0==1) (
  ae (tL N a1) λr3=>
  some ((r2,r3.1.gG,r3.1.gL,r3.1.gJ,0,[],0,#v[0,0,0],0,0,#v[0,0,0],0,0,0,0,0,0,0,0,0,r2,0,true,r3.2))) (
  cond (a0==2) (
   ae (pK N a1) λr4=>
   some ((r2,[],[],[],r4.1.gM,r4.1.gK,0,#v[0,0,0],0,0,#v[0,0,0],0,0,0,0,0,0,0,0,0,r2,0,true,r4.2))) (
   cond (a0==3) (
    ae (aX N 1 (aB.mk r2 0 true)) λr5=>
    ae (bS N 2 (aB.mk r5.1 r5.2.1 ((aB.mk r2 0 true).gC))) λr6=>
    ae (aX N 2 (aB.mk r6.1 r6.2.1 r6.2.2.1)) λr7=>
    ae (dC N (aB.mk r7.1 r7.2.1 ((aB.mk r6.1 r6.2.1 r6.2.2.1).gC))) λr8=>
    some ((r2,[],[],[],0,[],r5.2.2,r6.2.2.2,r7.2.2,0,#v[0,0,0],0,0,0,0,0,0,0,0,0,r7.1,r7.2.1,(aB.mk r6.1 r6.2.1 r6.2.2.1).gC,r8))) (
    cond (a0==4) (
     ae (aX N 1 (aB.mk r2 0 true)) λr9=>
     ae (bS N 4 (aB.mk r9.1 r9.2.1 ((aB.mk r2 0 true).gC))) λr10=>
     ae (cV N (aB.mk r10.1 r10.2.1 r10.2.2.1)) λr11=>
     ae (cV N (aB.mk r11.1 r11.2.1 r11.2.2.1)) λr12=>
     ae (cV N (aB.mk r12.1 r12.2.1 r12.2.2.1)) λr13=>
     ae (dC N (aB.mk r13.1 r13.2.1 r13.2.2.1)) λr14=>
     some ((r2,[],[],[],0,[],0,#v[0,0,0],0,r9.2.2,r10.2.2.2,r11.2.2.2.gX,r11.2.2.2.gY,r11.2.2.2.gZ,r12.2.2.2.gX,r12.2.2.2.gY,r12.2.2.2.gZ,r13.2.2.2.gX,r13.2.2.2.gY,r13.2.2.2.gZ,r13.1,r13.2.1,r13.2.2.1,r14))) (
     some ((r2,[],[],[],0,[],0,#v[0,0,0],0,0,#v[0,0,0],0,0,0,0,0,0,0,0,0,r2,0,true,0))))))) λp1=>
 aM p1.2.2.2.2.2.2.2.2.2.2.2.2.2.2.2.2.2.2.2.2.2.2.2 λx15=>
 cond (x15 != 0) (
  aM p1.2.2.2.2.2.2.2.2.2.2.2.2.2.2.2.2.2.2.2.2.2.2.2 λx16=>
  some ((aI.mk 0 (aK.mk [] [] []) (aJ.mk 0 []) (aG.mk 0 (#v[0,0,0]) 0) (aL.mk 0 (#v[0,0,0]) (aA.mk 0 0 0) (aA.mk 0 0 0) (aA.mk 0 0 0)),x16))) (
  ae (kU N (aI.mk a0 (aK.mk p1.2.1 p1.2.2.1 p1.2.2.2.1) (aJ.mk p1.2.2.2.2.1 p1.2.2.2.2.2.1) (aG.mk p1.2.2.2.2.2.2.1 p1.2.2.2.2.2.2.2.1 p1.2.2.2.2.2.2.2.2.1) (aL.mk p1.2.2.2.2.2.2.2.2.2.1 p1.2.2.2.2.2.2.2.2.2.2.1 (aA.mk p1.2.2.2.2.2.2.2.2.2.2.2.1 p1.2.2.2.2.2.2.2.2.2.2.2.2.1 p1.2.2.2.2.2.2.2.2.2.2.2.2.2.1) (aA.mk p1.2.2.2.2.2.2.2.2.2.2.2.2.2.2.1 p1.2.2.2.2.2.2.2.2.2.2.2.2.2.2.2.1 p1.2.2.2.2.2.2.2.2.2.2.2.2.2.2.2.2.1) (aA.mk p1.2.2.2.2.2.2.2.2.2.2.2.2.2.2.2.2.2.1 p1.2.2.2.2.2.2.2.2.2.2.2.2.2.2.2.2.2.2.1 p1.2.2.2.2.2.2.2.2.2.2.2.2.2.2.2.2.2.2.2.1)))) λr17=>
  cond (r17 != 0) (
   some ((aI.mk 0 (aK.mk [] [] []) (aJ.mk 0 []) (aG.mk 0 (#v[0,0,0]) 0) (aL.mk 0 (#v[0,0,0]) (aA.mk 0 0 0) (aA.mk 0 0 0) (aA.mk 0 0 0)),r17))) (
   some ((aI.mk a0 (aK.mk p1.2.1 p1.2.2.1 p1.2.2.2.1) (aJ.mk p1.2.2.2.2.1 p1.2.2.2.2.2.1) (aG.mk p1.2.2.2.2.2.2.1 p1.2.2.2.2.2.2.2.1 p1.2.2.2.2.2.2.2.2.1) (aL.mk p1.2.2.2.2.2.2.2.2.2.1 p1.2.2.2.2.2.2.2.2.2.2.1 (aA.mk p1.2.2.2.2.2.2.2.2.2.2.2.1 p1.2.2.2.2.2.2.2.2.2.2.2.2.1 p1.2.2.2.2.2.2.2.2.2.2.2.2.2.1) (aA.mk p1.2.2.2.2.2.2.2.2.2.2.2.2.2.2.1 p1.2.2.2.2.2.2.2.2.2.2.2.2.2.2.2.1 p1.2.2.2.2.2.2.2.2.2.2.2.2.2.2.2.2.1) (aA.mk p1.2.2.2.2.2.2.2.2.2.2.2.2.2.2.2.2.2.1 p1.2.2.2.2.2.2.2.2.2.2.2.2.2.2.2.2.2.2.1 p1.2.2.2.2.2.2.2.2.2.2.2.2.2.2.2.2.2.2.2.1)),0))))
theorem aHH{N a0 a1 r}(h:rY N a0 a1=some r):FnM Tryz.prog 36 [] [(j64 a0),(eL 1 k8 a1)] (.tup [(aI.enc r.1),(j64 r.2)]) []:=by
 refine Af cM Tryz.func36 h ?_;refine At.J 7 1 [4,6] 2 (λp1=>([(7,(j64 p1.2.2.2.2.2.2.2.2.2.2.2.2.2.2.2.2.2.2.2.2.2.2.2))],[(1,.var (.st 24 [(j64 a0),(.st 3 [(eL 3 aA.enc p1.2.1),(eL 2 (eA 2 1 j64) p1.2.2.1),(eL 3 (eA 3 1 j64) p1.2.2.2.1)]),(.st 2 [(j64 p1.2.2.2.2.1),(eL 3 (eA 3 1 j64) p1.2.2.2.2.2.1)]),(.st 5 [(j64 p1.2.2.2.2.2.2.1),(eA 3 1 j64 p1.2.2.2.2.2.2.2.1),(j64 p1.2.2.2.2.2.2.2.2.1)]),(.st 13 [(j64 p1.2.2.2.2.2.2.2.2.2.1),(eA 3 1 j64 p1.2.2.2.2.2.2.2.2.2.2.1),(.st 3 [(j64 p1.2.2.2.2.2.2.2.2.2.2.2.1),(j64 p1.2.2.2.2.2.2.2.2.2.2.2.2.1),(j64 p1.2.2.2.2.2.2.2.2.2.2.2.2.2.1)]),(.st 3 [(j64 p1.2.2.2.2.2.2.2.2.2.2.2.2.2.2.1),(j64 p1.2.2.2.2.2.2.2.2.2.2.2.2.2.2.2.1),(j64 p1.2.2.2.2.2.2.2.2.2.2.2.2.2.2.2.2.1)]),(.st 3 [(j64 p1.2.2.2.2.2.2.2.2.2.2.2.2.2.2.2.2.2.1),(j64 p1.2.2.2.2.2.2.2.2.2.2.2.2.2.2.2.2.2.2.1),(j64 p1.2.2.2.2.2.2.2.2.2.2.2.2.2.2.2.2.2.2.2.1)])])]))],[.tail (p1.1.length*1),.var (.st 3 [(eL 1 k8 p1.2.2.2.2.2.2.2.2.2.2.2.2.2.2.2.2.2.2.2.2.1),(j64 p1.2.2.2.2.2.2.2.2.2.2.2.2.2.2.2.2.2.2.2.2.2.1),(eB p1.2.2.2.2.2.2.2.2.2.2.2.2.2.2.2.2.2.2.2.2.2.2.1)]),.var (.st 1 [(.ref 3 [] 0)])])) (λp1=>?_) λp1=>?_
 ·refine At.Y 1 [] vC λr2=>?_;refine At.c 6 ?_ ?_
  ·refine At.y 1 aIP λr3=>?_;apply rt;exact At.jn 6
  ·refine At.c 2 ?_ ?_
   ·refine At.y 1 aFG λr4=>?_;apply rt;exact At.jn 6
   ·refine At.c 2 ?_ ?_
    ·refine At.D 0 [] ?_;refine DD.Y 1 [3] eY λr5=>?_;refine DD.Y 1 [3] tZ λr6=>?_;refine DD.Y 1 [3] eY λr7=>?_;refine De 3 ?_;refine At.Y 2 [3] nJ λr8=>?_;apply rt;exact At.jn 1
    ·refine At.c 2 ?_ ?_
     ·refine At.D 0 [] ?_;refine DD.Y 1 [3] eY λr9=>?_;refine DD.Y 1 [3] tZ λr10=>?_;refine DD.Y 1 [3] pR λr11=>?_;refine DD.Y 1 [3] pR λr12=>?_;refine DD.Y 1 [3] pR λr13=>?_;refine De 3 ?_;refine At.Y 2 [3] nJ λr14=>?_;apply rt;exact At.jn 1
     ·apply rt;exact At.jn 0
 ·apply lx;intro x15;refine At.c 2 ?_ ?_
  ·apply lx;intro x16;apply rt;exact At.r 4
  ·refine At.y 1 aCk λr17=>?_;refine At.c 3 ?_ ?_
   ·apply rt;exact At.r 4
   ·apply rt;exact At.r 3
def aJg : Nat->Bool:=imL [2]
def lT(N:Nat)(r1:aE×Int)(v4:(Vector Int 8))(a0:(Vector Int 32))(s5:(List Int)):Nat->(List Int)->(List Int)->Int->Bool->Int->Option (Sum ((List Int)×(List Int)×Int×Bool) (aE×aI×Int))
 | 0,_,_,_,_,_=>none
 | k+1,s9,s10,s11,s12,s13=>
  aM (decide (s13 < r1.1.gA0)) λx14=>
  cond x14 (
   ae (iS N v4 (I64 (s13+1))) λr15=>
   aM (I64 (r1.1.gT - ((s9.length:Int)))) λx16=>
   ae (kP N a0 r15 s5 s13 (nE 256 x16) (aB.mk s10 s11 s12)) λr17=>
   cond (r17.2.2.2.2 != 0) (
    ae (tE N r17.2.2.2.2) λr18=>
    some (Sum.inr ((r18.1,r18.2.1,r18.2.2)))) (
    ae (fT 1 s9 r17.2.2.2.1) λz19=>
    lT N r1 v4 a0 s5 k z19 r17.1 r17.2.1 r17.2.2.1 (I64 (s13+1)))) (
   some (Sum.inl ((s9,s10,s11,s12))))
def yG(N:Nat)(a0:(Vector Int 32))(a1:(List Int)):Option (aE×aI×Int):=
 ae (tF N a0 a1) λr1=>
 cond (r1.2 != 0) (
  ae (tE N r1.2) λr2=>
  some ((r2.1,r2.2.1,r2.2.2))) (
  ae (cR a1 4 12) λs3=>
  ae (aHI 8 s3) λv4=>
  ae (cR a1 47 63) λs5=>
  ae (cR a1 63 ((a1.length:Int))) λs6=>
  ae (qP N s6) λr7=>
  ae (lT N r1 v4 a0 s5 N [] r7 0 true 0) λo=>mZ o (λp8=>
   ae (tP N (aB.mk p8.2.1 p8.2.2.1 p8.2.2.2)) λr20=>
   cond (decide (r20 > 0)) (
    ae (tE N 7) λr21=>
    some ((r21.1,r21.2.1,r21.2.2))) (
    ae (rY N r1.1.gA p8.1) λr22=>
    cond (r22.2 != 0) (
     ae (tE N r22.2) λr23=>
     some ((r23.1,r23.2.1,r23.2.2))) (
     some ((r1.1,r22.1,0))))) (λr=>some r))
theorem aIZ{N a0 a1 r}(h:yG N a0 a1=some r):FnM Tryz.prog 21 [] [(eA 32 1 k8 a0),(eL 1 k8 a1)] (.tup [(aE.enc r.1),(aI.enc r.2.1),(j64 r.2.2)]) []:=by
 refine Af aJg Tryz.func21 h ?_;refine At.y 7 aIh λr1=>?_;refine At.c 8 ?_ ?_
 ·refine At.y 2 vN λr2=>?_;apply rt;exact At.r 6
 ·refine At.B 1 (bSl k8) λs3=>?_;refine At.b 0 (λv4 e=>aEo hT k8 s3 v4 e rfl (by kernel_rfl) (by kernel_rfl)) λv4=>?_;refine At.B 4 (bSl k8) λs5=>?_;refine At.B 2 (bSl k8) λs6=>?_;refine At.Y 0 [] vC λr7=>?_;refine At.ownn 5 13 1 ?_;refine At.MS 0 [4,5,7,8,12] 7 (λp8=>([(13,(eO 6 1 k8 p8.1))],[(5,.var (.st 3 [(eL 1 k8 p8.2.1),(j64 p8.2.2.1),(eB p8.2.2.2)])),(6,.tail (p8.1.length*1))],[])) [2,4,5,7,8,10,11,12,42] 7 (CU5 (lT N r1 v4 a0 s5)) (cu5 λs9 s10 s11 s12 s13=>([(13,(eO 6 1 k8 s9)),(43,(j64 s13))],[(5,.var (.st 3 [(eL 1 k8 s10),(j64 s11),(eB s12)])),(6,.tail (s9.length*1))],[])) (_,_,_,_,_) N (λop8 g8 k=>un5 λs9 s10 s11 s12 s13=>?_) λp8=>?_
  ·apply lx;intro x14;refine At.c 1 ?_ ?_
   ·refine At.D 2 [] ?_;refine DD.y 4 wC λr15=>?_;apply lx;intro x16;refine DD.Y 9 [5] aBl λr17=>?_;refine De 5 ?_;refine At.c 2 ?_ ?_
    ·refine At.y 2 vN λr18=>?_;intro e;apply wH g8 e;exact At.r 6
    ·refine At.U 2 (bAp k8) λz19=>?_;exact λh=>At.v 3 (_,_,_,_,_) h
   ·apply rt;exact At.xs 0
  ·refine At.Y 1 [5] aBs λr20=>?_;refine At.c 1 ?_ ?_
   ·refine At.y 1 vN λr21=>?_;apply rt;exact At.r 6
   ·refine At.y 3 aHH λr22=>?_;refine At.c 8 ?_ ?_
    ·refine At.y 2 vN λr23=>?_;apply rt;exact At.r 6
    ·refine At.D 0 [] ?_;refine De 5 ?_;apply rt;exact At.r 0
def mU(N:Nat)(b1:(List (Int×aV)))(a1:(List Int))(a2:(Vector Int 32)):Option (Int×aE×aI×Int):=
 ae (lM N b1 a2) λr1=>
 aM (decide (((a1.length:Int)) < 10)) λx2=>
 cond x2 (
  some ((0,aE.mk 0 0 0 (ai 8 0) 0 0 0 0,aI.mk 0 (aK.mk [] [] []) (aJ.mk 0 []) (aG.mk 0 (#v[0,0,0]) 0) (aL.mk 0 (#v[0,0,0]) (aA.mk 0 0 0) (aA.mk 0 0 0) (aA.mk 0 0 0)),4))) (
  ae (cR a1 0 4) λs3=>
  aM (!(ByteArray.toList (aIi s3)==ByteArray.toList (ByteArray.mk #[85,77,75,49]))) λx4=>
  cond x4 (
   some ((0,aE.mk 0 0 0 (ai 8 0) 0 0 0 0,aI.mk 0 (aK.mk [] [] []) (aJ.mk 0 []) (aG.mk 0 (#v[0,0,0]) 0) (aL.mk 0 (#v[0,0,0]) (aA.mk 0 0 0) (aA.mk 0 0 0) (aA.mk 0 0 0)),5))) (
   ae (cR a1 4 10) λs5=>
   ae (qP N s5) λr6=>
   ae (bD N 2 (aB.mk r6 0 true)) λr7=>
   ae (bD N 4 (aB.mk r7.1 r7.2.1 ((aB.mk r6 0 true).gC))) λr8=>
   ae (mS N b1 (I64 r7.2.2) a2) λr9=>
   cond (r9.2 != 0) (
    some ((0,aE.mk 0 0 0 (ai 8 0) 0 0 0 0,aI.mk 0 (aK.mk [] [] []) (aJ.mk 0 []) (aG.mk 0 (#v[0,0,0]) 0) (aL.mk 0 (#v[0,0,0]) (aA.mk 0 0 0) (aA.mk 0 0 0) (aA.mk 0 0 0)),r9.2))) (
    aM (decide ((I64 r8.2.2) < r9.1.gA4)) λx10=>
    aM (decide ((I64 r8.2.2) > r9.1.gto)) λx11=>
    cond (cond x10 true x11) (
     some ((0,aE.mk 0 0 0 (ai 8 0) 0 0 0 0,aI.mk 0 (aK.mk [] [] []) (aJ.mk 0 []) (aG.mk 0 (#v[0,0,0]) 0) (aL.mk 0 (#v[0,0,0]) (aA.mk 0 0 0) (aA.mk 0 0 0) (aA.mk 0 0 0)),18))) (
     ae (aAS N a2 (I64 r7.2.2) (I64 r8.2.2)) λr12=>
     ae (cR a1 10 ((a1.length:Int))) λs13=>
     ae (yG N r12 s13) λr14=>
     cond (r14.2.2 != 0) (
      some ((0,r14.1,r14.2.1,r14.2.2))) (
      some ((I64 r7.2.2,r14.1,r14.2.1,0)))))))
theorem uT{N b1 a1 a2 r}(h:mU N b1 a1 a2=some r):FnM Tryz.prog 11 [.var (.st 33 [(eA 32 1 k8 a2),(.mp 1)]),.mp (eM .i64 aV.enc b1)] [(.ref 0 [] 0),(eL 1 k8 a1)] (.tup [(j64 r.1),(aE.enc r.2.1),(aI.enc r.2.2.1),(j64 r.2.2.2)]) [.var (.st 33 [(eA 32 1 k8 a2),(.mp 1)]),.mp (eM .i64 aV.enc b1)]:=by
 refine Af cM Tryz.func11 h ?_;refine At.Y 5 [0,1] vU λr1=>?_;apply lx;intro x2;refine At.c 6 ?_ ?_
 ·refine At.D 0 [] ?_;refine De 6 ?_;apply rt;exact At.r 0
 ·refine At.B 1 (bSl k8) λs3=>?_;refine At.o 0 (aKe hT s3 (v:=(eL 1 k8 s3)) (e:=5) (by kernel_rfl) (by kernel_rfl) (by kernel_rfl)) ?_;apply lx;intro x4;refine At.c 2 ?_ ?_
  ·refine At.D 0 [] ?_;refine De 6 ?_;apply rt;exact At.r 0
  ·refine At.B 1 (bSl k8) λs5=>?_;refine At.Y 0 [] vC λr6=>?_;refine At.Y 2 [5] cC λr7=>?_;refine At.Y 2 [5] cC λr8=>?_;refine At.Y 5 [0,1] vB λr9=>?_;refine At.c 8 ?_ ?_
   ·refine At.D 0 [] ?_;refine De 7 ?_;apply rt;exact At.r 0
   ·apply lx;intro x10;apply lx;intro x11;refine At.c 10 ?_ ?_
    ·refine At.D 0 [] ?_;refine De 6 ?_;apply rt;exact At.r 0
    ·refine At.D 0 [] ?_;refine DD.y 6 aGR λr12=>?_;refine DD.B 1 (bSl k8) λs13=>?_;refine DD.y 0 aIZ λr14=>?_;refine De 7 ?_;refine At.c 2 ?_ ?_
     ·refine At.D 0 [] ?_;refine De 7 ?_;apply rt;exact At.r 0
     ·refine At.D 0 [] ?_;refine De 7 ?_;apply rt;exact At.r 0
def mN(N:Nat)  : Nat->(List Int)->Int->Int->Option ((List Int))
 | 0,_,_,_=>none
 | k+1,s2,s3,s4=>
  cond (decide (s4 < 8)) (
   ae (fT 1 s2 (([U8 (cp s3 256)]:List Int))) λz5=>
   mN N k z5 (I64 (eg s3 256)) (I64 (s4+1))) (
   some s2)
def oU(N:Nat)(a0:Int):Option ((List Int)):=
 ae (mN N N [] a0 0) λp1=>
 some p1
theorem yQ{N a0 r}(h:oU N a0=some r):FnM Tryz.prog 73 [] [(j64 a0)] (eO 0 1 k8 r) [.tail (r.length*1)]:=by
 refine Af cM Tryz.func73 h ?_;refine At.ownn 3 3 1 ?_;refine At.M 0 [] 1 (λp1=>([(3,(eO 0 1 k8 p1))],[(0,.tail (p1.length*1))],[])) [] 1 (CU3 (mN N)) (cu3 λs2 s3 s4=>([(0,(j64 s3)),(3,(eO 0 1 k8 s2)),(4,(j64 s4))],[(0,.tail (s2.length*1))],[])) (_,_,_) N (λp1 k=>un3 λs2 s3 s4=>?_) λp1=>?_
 ·refine At.c 2 ?_ ?_
  ·refine At.O 4 bRw ?_;refine At.U 0 (bAp k8) λz5=>?_;exact λh=>At.v 7 (_,_,_) h
  ·apply rt;exact At.x 0
 ·apply rt;exact At.r 2
def aEN : Nat->Bool:=imL [1]
def kM(N:Nat)(a0:(Vector Int 32)):Nat->(List Int)->Int->Option ((List Int))
 | 0,_,_=>none
 | k+1,s2,s3=>
  cond (decide (s3 < 32)) (
   ae (idx a0.toList s3) λe4=>
   ae (fT 1 s2 (([e4]:List Int))) λz5=>
   kM N a0 k z5 (I64 (s3+1))) (
   some s2)
def sO(N:Nat)(a0:(Vector Int 32)):Option ((List Int)):=
 ae (kM N a0 N [] 0) λp1=>
 some p1
theorem aDQ{N a0 r}(h:sO N a0=some r):FnM Tryz.prog 75 [] [(eA 32 1 k8 a0)] (eL 1 k8 r) []:=by
 refine Af aEN Tryz.func75 h ?_;refine At.ownn 4 3 1 ?_;refine At.M 0 [] 1 (λp1=>([(3,(eO 0 1 k8 p1))],[(0,.tail (p1.length*1))],[])) [1] 1 (CU2 (kM N a0)) (cu2 λs2 s3=>([(3,(eO 0 1 k8 s2)),(4,(j64 s3))],[(0,.tail (s2.length*1))],[])) (_,_) N (λp1 k=>un2 λs2 s3=>?_) λp1=>?_
 ·refine At.c 2 ?_ ?_
  ·refine At.B 2 (bAi k8) λe4=>?_;refine At.O 1 bRw ?_;refine At.U 0 (bAp k8) λz5=>?_;exact λh=>At.v 4 (_,_) h
  ·apply rt;exact At.x 0
 ·apply rt;exact At.r 2
def oP(N:Nat)(p1:Int):Nat->(List Int)->Option ((List Int))
 | 0,_=>none
 | k+1,s3=>
  aM (I64 ((cp p1 64)+((s3.length:Int)))) λx4=>
  aM (cp (I64 (x4+8)) 64) λx5=>
  cond (decide (x5 > 0)) (
   ae (fT 1 s3 (([0]:List Int))) λz6=>
   oP N p1 k z6) (
   some s3)
def oQ(N:Nat)(p1:Int):Nat->(List Int)->Int->Option ((List Int))
 | 0,_,_=>none
 | k+1,s8,s9=>
  cond (decide (s9>=0)) (
   ae (yR .u64 (U64 ((U64 p1)*8)) (I64 (8*s9))) λx10=>
   ae (fT 1 s8 (([U8 x10]:List Int))) λz11=>
   oQ N p1 k z11 (I64 (s9 - 1))) (
   some s8)
def vP(N:Nat)(a0:Int):Option ((List Int)):=
 ae (cond (decide (a0 < 0)) (some 0) (some a0)) λp1=>
 ae (oP N p1 N (([128]:List Int))) λp2=>
 ae (oQ N p1 N p2 7) λp7=>
 some p7
theorem aFL{N a0 r}(h:vP N a0=some r):FnM Tryz.prog 156 [] [(j64 a0)] (eL 1 k8 r) []:=by
 refine Af cM Tryz.func156 h ?_;refine At.J 1 1 [] 0 (λp1=>([(0,(j64 p1))],[],[])) (λp1=>?_) λp1=>?_
 ·refine At.c 2 ?_ ?_
  ·apply rt;exact At.jn 1
  ·apply rt;exact At.jn 0
 ·refine At.o 0 (sH hT k8 (k:=1) ([128]:List Int) (by kernel_rfl) (by kernel_rfl)) ?_;refine At.M 1 [0] 1 (λp2=>([(3,(eO 0 1 k8 p2))],[(0,.tail (p2.length*1))],[])) [0] 1 (oP N p1) (λ(s3:(List Int))=>([(3,(eO 0 1 k8 s3))],[(0,.tail (s3.length*1))],[])) _ N (λp2 k s3=>?_) λp2=>?_
  ·apply lx;intro x4;apply lx;intro x5;refine At.c 8 ?_ ?_
   ·refine At.O 1 bRw ?_;refine At.U 0 (bAp k8) λz6=>?_;exact λh=>At.v 1 _ h
   ·apply rt;exact At.x 0
  ·refine At.M 5 [] 1 (λp7=>([(3,(eO 0 1 k8 p7))],[(0,.tail (p7.length*1))],[])) [4] 1 (CU2 (oQ N p1)) (cu2 λs8 s9=>([(3,(eO 0 1 k8 s8)),(5,(j64 s9))],[(0,.tail (s8.length*1))],[])) (_,_) N (λp7 k=>un2 λs8 s9=>?_) λp7=>?_
   ·refine At.c 2 ?_ ?_
    ·refine At.B 4 bSr λx10=>?_;refine At.O 1 bRw ?_;refine At.U 0 (bAp k8) λz11=>?_;exact λh=>At.v 4 (_,_) h
    ·apply rt;exact At.x 0
   ·apply rt;exact At.r 2
def bT(N:Nat)(a0 a1:Int):Option (Int):=
 ae (yR .u32 a0 a1) λx1=>
 ae (aFP .u32 a0 (I64 (32 - a1))) λx2=>
 some (bor .u32 x1 x2)
theorem fF{N a0 a1 r}(h:bT N a0 a1=some r):FnM Tryz.prog 186 [] [(k32 a0),(j64 a1)] (k32 r) []:=by
 refine Af cM Tryz.func186 h ?_;refine At.D 1 [] ?_;refine DD.B 2 bSr λx1=>?_;refine DD.B 3 bSh λx2=>?_;refine De 2 ?_;apply rt;exact At.r 0
def aG9 : Nat->Bool:=imL [3,4,5]
def lK(N:Nat)(a2:(Vector Int 64)):Nat->(List Int)->Int->Option ((List Int))
 | 0,_,_=>none
 | k+1,s2,s3=>
  cond (decide (s3 < 16)) (
   ae (idx a2.toList (I64 (4*s3))) λe4=>
   aM (I64 ((I64 (4*s3))+1)) λx5=>
   ae (idx a2.toList x5) λe6=>
   aM (U32 ((U32 ((U32 e4)*256))+(U32 e6))) λx7=>
   aM (I64 ((I64 (4*s3))+2)) λx8=>
   ae (idx a2.toList x8) λe9=>
   aM (U32 ((U32 (x7*256))+(U32 e9))) λx10=>
   aM (I64 ((I64 (4*s3))+3)) λx11=>
   ae (idx a2.toList x11) λe12=>
   aM (U32 ((U32 (x10*256))+(U32 e12))) λx13=>
   ae (fT 4 s2 (([x13]:List Int))) λz14=>
   lK N a2 k z14 (I64 (s3+1))) (
   some s2)
def lE(N:Nat)  : Nat->(List Int)->Int->Option ((List Int))
 | 0,_,_=>none
 | k+1,s16,s17=>
  cond (decide (s17 < 64)) (
   ae (idx s16 (I64 (s17 - 15))) λe18=>
   ae (bT N e18 7) λr19=>
   ae (idx s16 (I64 (s17 - 15))) λe20=>
   ae (bT N e20 18) λr21=>
   ae (idx s16 (I64 (s17 - 15))) λe22=>
   aM (eT .u32 (eT .u32 r19 r21) (shr .u32 e22 3)) λx23=>
   ae (idx s16 (I64 (s17 - 2))) λe24=>
   ae (bT N e24 17) λr25=>
   ae (idx s16 (I64 (s17 - 2))) λe26=>
   ae (bT N e26 19) λr27=>
   ae (idx s16 (I64 (s17 - 2))) λe28=>
   aM (eT .u32 (eT .u32 r25 r27) (shr .u32 e28 10)) λx29=>
   ae (idx s16 (I64 (s17 - 7))) λe30=>
   aM (U32 ((U32 (x29+e30))+x23)) λx31=>
   ae (idx s16 (I64 (s17 - 16))) λe32=>
   ae (fT 4 s16 (([U32 (x31+e32)]:List Int))) λz33=>
   lE N k z33 (I64 (s17+1))) (
   some s16)
def pQ(N:Nat)  : Nat->(Vector Int 8)->Int->Option ((Vector Int 8))
 | 0,_,_=>none
 | k+1,s88,s89=>
  cond (decide (s89 > 0)) (
   ae (aS (I64 (s89 - 1)) 8) λ_=>
   ae (s88.toList[(I64 (s89 - 1)).toNat]?) λe91=>
   ae (aS s89 8) λ_=>
   ae (s88.toList[s89.toNat]?) λe93=>
   pQ N k (s88.setIfInBounds s89.toNat e91) (I64 (s89 - 1))) (
   some s88)
def lL(N:Nat)(a0:(Vector Int 64))(p15:(List Int)):Nat->(Vector Int 8)->Int->Option ((Vector Int 8))
 | 0,_,_=>none
 | k+1,s35,s36=>
  cond (decide (s36 < 64)) (
   ae (aS 7 8) λ_=>
   ae (s35.toList[(ag 7)]?) λe38=>
   ae (aS 4 8) λ_=>
   ae (s35.toList[(ag 4)]?) λe40=>
   ae (bT N e40 6) λr41=>
   ae (aS 4 8) λ_=>
   ae (s35.toList[(ag 4)]?) λe43=>
   ae (bT N e43 11) λr44=>
   ae (aS 4 8) λ_=>
   ae (s35.toList[(ag 4)]?) λe46=>
   ae (bT N e46 25) λr47=>
   aM (eT .u32 (eT .u32 r41 r44) r47) λx48=>
   ae (aS 4 8) λ_=>
   ae (s35.toList[(ag 4)]?) λe50=>
   ae (aS 5 8) λ_=>
   ae (s35.toList[(ag 5)]?) λe52=>
   ae (aS 4 8) λ_=>
   ae (s35.toList[(ag 4)]?) λe54=>
   ae (aS 6 8) λ_=>
   ae (s35.toList[(ag 6)]?) λe56=>
   aM (cI .u32 (bnot .u32 e54) e56) λx57=>
   aM (eT .u32 (cI .u32 e50 e52) x57) λx58=>
   aM (U32 ((U32 (e38+x48))+x58)) λx59=>
   ae (idx a0.toList s36) λe60=>
   ae (idx p15 s36) λe61=>
   aM (U32 ((U32 (x59+e60))+e61)) λx62=>
   ae (aS 0 8) λ_=>
   ae (s35.toList[(ag 0)]?) λe64=>
   ae (bT N e64 2) λr65=>
   ae (aS 0 8) λ_=>
   ae (s35.toList[(ag 0)]?) λe67=>
   ae (bT N e67 13) λr68=>
   ae (aS 0 8) λ_=>
   ae (s35.toList[(ag 0)]?) λe70=>
   ae (bT N e70 22) λr71=>
   aM (eT .u32 (eT .u32 r65 r68) r71) λx72=>
   ae (aS 0 8) λ_=>
   ae (s35.toList[(ag 0)]?) λe74=>
   ae (aS 1 8) λ_=>
   ae (s35.toList[(ag 1)]?) λe76=>
   ae (aS 0 8) λ_=>
   ae (s35.toList[(ag 0)]?) λe78=>
   ae (aS 2 8) λ_=>
   ae (s35.toList[(ag 2)]?) λe80=>
   aM (eT .u32 (cI .u32 e74 e76) (cI .u32 e78 e80)) λx81=>
   ae (aS 1 8) λ_=>
   ae (s35.toList[(ag 1)]?) λe83=>
   ae (aS 2 8) λ_=>
   ae (s35.toList[(ag 2)]?) λe85=>
   aM (eT .u32 x81 (cI .u32 e83 e85)) λx86=>
   ae (pQ N N s35 7) λp87=>
   ae (aS 4 8) λ_=>
   ae (p87.toList[(ag 4)]?) λe95=>
   ae (aS 4 8) λ_=>
   ae (p87.toList[(ag 4)]?) λe97=>
   aM (U32 (x62+(U32 (x72+x86)))) λx98=>
   ae (aS 0 8) λ_=>
   ae ((p87.setIfInBounds ((ag 4)) (U32 (e95+x62))).toList[(ag 0)]?) λe100=>
   lL N a0 p15 k ((p87.setIfInBounds ((ag 4)) (U32 (e95+x62))).setIfInBounds ((ag 0)) x98) (I64 (s36+1))) (
   some s35)
def pP(N:Nat)(a1:(Vector Int 8)):Nat->(Vector Int 8)->Int->Option ((Vector Int 8))
 | 0,_,_=>none
 | k+1,s102,s103=>
  cond (decide (s103 < 8)) (
   ae (aS s103 8) λ_=>
   ae (s102.toList[s103.toNat]?) λe105=>
   ae (idx a1.toList s103) λe106=>
   ae (aS s103 8) λ_=>
   ae (s102.toList[s103.toNat]?) λe108=>
   pP N a1 k (s102.setIfInBounds s103.toNat (U32 (e105+e106))) (I64 (s103+1))) (
   some s102)
def zL(N:Nat)(a0:(Vector Int 64))(a1:(Vector Int 8))(a2:(Vector Int 64)):Option ((Vector Int 8)):=
 ae (lK N a2 N [] 0) λp1=>
 ae (lE N N p1 16) λp15=>
 ae (lL N a0 p15 N a1 0) λp34=>
 ae (pP N a1 N p34 0) λp101=>
 some p101
theorem aGD{N a0 a1 a2 r}(h:zL N a0 a1 a2=some r):FnM Tryz.prog 173 [] [(eA 64 1 k32 a0),(eA 8 1 k32 a1),(eA 64 1 k8 a2)] (eA 8 1 k32 r) []:=by
 refine Af aG9 Tryz.func173 h ?_;refine At.ownn 6 7 1 ?_;refine At.M 0 [3,4,6] 2 (λp1=>([(7,(eO 1 1 k32 p1))],[(1,.tail (p1.length*1))],[])) [3,4,5,6] 2 (CU2 (lK N a2)) (cu2 λs2 s3=>([(7,(eO 1 1 k32 s2)),(8,(j64 s3))],[(1,.tail (s2.length*1))],[])) (_,_) N (λp1 k=>un2 λs2 s3=>?_) λp1=>?_
 ·refine At.c 2 ?_ ?_
  ·refine At.D 0 [] ?_;refine DD.B 3 (bAi k8) λe4=>?_;apply lx;intro x5;refine DD.B 6 (bAi k8) λe6=>?_;apply lx;intro x7;apply lx;intro x8;refine DD.B 7 (bAi k8) λe9=>?_;apply lx;intro x10;apply lx;intro x11;refine DD.B 7 (bAi k8) λe12=>?_;apply lx;intro x13;refine DD.O 3 bRw ?_;refine DD.U 0 (bAp k32) λz14=>?_;refine De 1 ?_;exact λh=>At.v 3 (_,_) h
  ·apply rt;exact At.x 0
 ·refine At.M 1 [3,4,6] 2 (λp15=>([(7,(eO 1 1 k32 p15))],[(1,.tail (p15.length*1))],[])) [3,4,6] 2 (CU2 (lE N)) (cu2 λs16 s17=>([(7,(eO 1 1 k32 s16)),(9,(j64 s17))],[(1,.tail (s16.length*1))],[])) (_,_) N (λp15 k=>un2 λs16 s17=>?_) λp15=>?_
  ·refine At.c 2 ?_ ?_
   ·refine At.D 0 [] ?_;refine DD.i hT 3 k32 λe18=>?_;refine DD.y 1 fF λr19=>?_;refine DD.i hT 3 k32 λe20=>?_;refine DD.y 1 fF λr21=>?_;refine DD.i hT 4 k32 λe22=>?_;apply lx;intro x23;refine De 4 ?_;refine At.D 0 [] ?_;refine DD.i hT 3 k32 λe24=>?_;refine DD.y 1 fF λr25=>?_;refine DD.i hT 3 k32 λe26=>?_;refine DD.y 1 fF λr27=>?_;refine DD.i hT 4 k32 λe28=>?_;apply lx;intro x29;refine De 4 ?_;refine At.D 0 [] ?_;refine DD.i hT 5 k32 λe30=>?_;apply lx;intro x31;refine DD.i hT 7 k32 λe32=>?_;refine DD.O 2 bRw ?_;refine DD.U 0 (bAp k32) λz33=>?_;refine De 1 ?_;exact λh=>At.v 3 (_,_) h
   ·apply rt;exact At.x 0
  ·refine At.M 4 [4,6,12] 3 (λp34=>([],[(2,.var (eA 8 1 k32 p34))],[])) [3,4,6,7,12] 3 (CU2 (lL N a0 p15)) (cu2 λs35 s36=>([(13,(j64 s36))],[(2,.var (eA 8 1 k32 s35))],[])) (_,_) N (λp34 k=>un2 λs35 s36=>?_) λp34=>?_
   ·refine At.c 2 ?_ ?_
    ·refine At.D 0 [] ?_;refine DD.B 0 bAr λu37=>?_;refine DD.l hT 0 k32 k32 0 λe38=>?_;refine DD.B 0 bAr λu39=>?_;refine DD.l hT 0 k32 k32 0 λe40=>?_;refine DD.y 0 fF λr41=>?_;refine DD.B 0 bAr λu42=>?_;refine DD.l hT 0 k32 k32 0 λe43=>?_;refine DD.y 0 fF λr44=>?_;refine DD.B 1 bAr λu45=>?_;refine DD.l hT 0 k32 k32 0 λe46=>?_;refine DD.y 0 fF λr47=>?_;apply lx;intro x48;refine DD.B 2 bAr λu49=>?_;refine DD.l hT 0 k32 k32 0 λe50=>?_;refine DD.B 0 bAr λu51=>?_;refine DD.l hT 0 k32 k32 0 λe52=>?_;refine DD.B 1 bAr λu53=>?_;refine DD.l hT 0 k32 k32 0 λe54=>?_;refine DD.B 1 bAr λu55=>?_;refine DD.l hT 0 k32 k32 0 λe56=>?_;apply lx;intro x57;apply lx;intro x58;apply lx;intro x59;refine DD.B 4 (bAi k32) λe60=>?_;refine DD.i hT 4 k32 λe61=>?_;apply lx;intro x62;refine De 3 ?_;refine At.D 0 [] ?_;refine DD.B 0 bAr λu63=>?_;refine DD.l hT 0 k32 k32 0 λe64=>?_;refine DD.y 0 fF λr65=>?_;refine DD.B 0 bAr λu66=>?_;refine DD.l hT 0 k32 k32 0 λe67=>?_;refine DD.y 0 fF λr68=>?_;refine DD.B 1 bAr λu69=>?_;refine DD.l hT 0 k32 k32 0 λe70=>?_;refine DD.y 0 fF λr71=>?_;apply lx;intro x72;refine DD.B 1 bAr λu73=>?_;refine DD.l hT 0 k32 k32 0 λe74=>?_;refine DD.B 0 bAr λu75=>?_;refine DD.l hT 0 k32 k32 0 λe76=>?_;refine DD.B 1 bAr λu77=>?_;refine DD.l hT 0 k32 k32 0 λe78=>?_;refine DD.B 0 bAr λu79=>?_;refine DD.l hT 0 k32 k32 0 λe80=>?_;apply lx;intro x81;refine DD.B 2 bAr λu82=>?_;refine DD.l hT 0 k32 k32 0 λe83=>?_;refine DD.B 0 bAr λu84=>?_;refine DD.l hT 0 k32 k32 0 λe85=>?_;apply lx;intro x86;refine De 4 ?_;refine At.M 1 [3,4,6,7,12,13,14,15] 3 (λp87=>([],[(2,.var (eA 8 1 k32 p87))],[])) [3,4,6,7,12,13,14,15] 3 (CU2 (pQ N)) (cu2 λs88 s89=>([(16,(j64 s89))],[(2,.var (eA 8 1 k32 s88))],[])) (_,_) N (λp87 k=>un2 λs88 s89=>?_) λp87=>?_
     ·refine At.c 2 ?_ ?_
      ·refine At.B 3 bAr λu90=>?_;refine At.U 0 (bLd k32 0) λe91=>?_;refine At.B 0 bAr λu92=>?_;refine At.U 0 (bSv k32 0 e91) λe93=>?_;exact λh=>At.v 3 (_,_) h
      ·apply rt;exact At.x 0
     ·refine At.B 0 bAr λu94=>?_;refine At.U 0 (bLd k32 0) λe95=>?_;refine At.B 2 bAr λu96=>?_;refine At.U 0 (bSv k32 0 (U32 (e95+x62))) λe97=>?_;apply lx;intro x98;refine At.B 3 bAr λu99=>?_;refine At.U 0 (bSv k32 0 x98) λe100=>?_;exact λh=>At.v 3 (_,_) h
    ·apply rt;exact At.x 0
   ·refine At.M 1 [6,12] 3 (λp101=>([],[(2,.var (eA 8 1 k32 p101))],[])) [4,6,12] 3 (CU2 (pP N a1)) (cu2 λs102 s103=>([(17,(j64 s103))],[(2,.var (eA 8 1 k32 s102))],[])) (_,_) N (λp101 k=>un2 λs102 s103=>?_) λp101=>?_
    ·refine At.c 2 ?_ ?_
     ·refine At.D 0 [] ?_;refine DD.B 2 bAr λu104=>?_;refine DD.l hT 0 k32 k32 0 λe105=>?_;refine DD.B 1 (bAi k32) λe106=>?_;refine DD.B 2 bAr λu107=>?_;refine DD.U 0 (bSv k32 0 (U32 (e105+e106))) λe108=>?_;refine De 0 ?_;exact λh=>At.v 3 (_,_) h
     ·apply rt;exact At.x 0
    ·apply rt;exact At.r 2
def aCB : Nat->Bool:=imL [2,3]
def mD : (Vector Int 64):=#v[1116352408,1899447441,3049323471,3921009573,961987163,1508970993,2453635748,2870763221,3624381080,310598401,607225278,1426881987,1925078388,2162078206,2614888103,3248222580,3835390401,4022224774,264347078,604807628,770255983,1249150122,1555081692,1996064986,2554220882,2821834349,2952996808,3210313671,3336571891,3584528711,113926993,338241895,666307205,773529912,1294757372,1396182291,1695183700,1986661051,2177026350,2456956037,2730485921,2820302411,3259730800,3345764771,3516065817,3600352804,4094571909,275423344,430227734,506948616,659060556,883997877,958139571,1322822218,1537002063,1747873779,1955562222,2024104815,2227730452,2361852424,2428436474,2756734187,3204031479,3329325298]
def qF(N:Nat)(a0:(Vector Int 8))(a1:(Vector Int 64)):Option ((Vector Int 8)):=
 ae (zL N mD a0 a1) λr1=>
 some r1
theorem aBf{N a0 a1 r}(h:qF N a0 a1=some r):FnM Tryz.prog 157 [] [(eA 8 1 k32 a0),(eA 64 1 k8 a1)] (eA 8 1 k32 r) []:=by
 refine Af aCB Tryz.func157 h ?_;refine At.y 6 aGD λr1=>?_;apply rt;exact At.r 1
def jU(N:Nat)(z3:(List Int))(s6:Int):Nat->(Vector Int 64)->Int->Option ((Vector Int 64))
 | 0,_,_=>none
 | k+1,s9,s10=>
  cond (decide (s10 < 64)) (
   ae (idx z3 (I64 (s6+s10))) λe11=>
   ae (aS s10 64) λ_=>
   ae (s9.toList[s10.toNat]?) λe13=>
   jU N z3 s6 k (s9.setIfInBounds s10.toNat e11) (I64 (s10+1))) (
   some s9)
def mW(N:Nat)(z3:(List Int)):Nat->(Vector Int 8)->Int->Option ((Vector Int 8))
 | 0,_,_=>none
 | k+1,s5,s6=>
  aM (decide ((I64 (s6+64))<=((z3.length:Int)))) λx7=>
  cond x7 (
   ae (jU N z3 s6 N (ai 64 0) 0) λp8=>
   ae (qF N s5 p8) λr14=>
   mW N z3 k r14 (I64 (s6+64))) (
   some s5)
def rI(N:Nat)(p4:(Vector Int 8)):Nat->(Vector Int 32)->Int->Option ((Vector Int 32))
 | 0,_,_=>none
 | k+1,s16,s17=>
  cond (decide (s17 < 32)) (
   ae (aS (I64 (eg s17 4)) 8) λ_=>
   ae (p4.toList[(I64 (eg s17 4)).toNat]?) λe19=>
   aM (I64 (8*(cp s17 4))) λx20=>
   ae (yR .u32 e19 (I64 (24 - x20))) λx21=>
   ae (aS s17 32) λ_=>
   ae (s16.toList[s17.toNat]?) λe23=>
   rI N p4 k (s16.setIfInBounds s17.toNat (U8 x21)) (I64 (s17+1))) (
   some s16)
def nP(N:Nat)(a0:(List Int)):Option ((Vector Int 32)):=
 ae (fT 1 (([]:List Int)) a0) λz1=>
 ae (vP N ((a0.length:Int))) λr2=>
 ae (fT 1 z1 r2) λz3=>
 ae (mW N z3 N (#v[1779033703,3144134277,1013904242,2773480762,1359893119,2600822924,528734635,1541459225]) 0) λp4=>
 ae (rI N p4 N (ai 32 0) 0) λp15=>
 some p15
theorem xA{N a0 r}(h:nP N a0=some r):FnM Tryz.prog 118 [] [(eL 1 k8 a0)] (eA 32 1 k8 r) []:=by
 refine Af cM Tryz.func118 h ?_;refine At.o 1 (sH hT k8 (k:=1) ([]:List Int) (by kernel_rfl) (by kernel_rfl)) ?_;refine At.U 1 (bAp k8) λz1=>?_;refine At.y 2 aFL λr2=>?_;refine At.U 0 (bAp k8) λz3=>?_;refine At.M 5 [2,4] 3 (λp4=>([],[(2,.var (eA 8 1 k32 p4))],[])) [2,3,4] 3 (CU2 (mW N z3)) (cu2 λs5 s6=>([(5,(j64 s6))],[(2,.var (eA 8 1 k32 s5))],[])) (_,_) N (λp4 k=>un2 λs5 s6=>?_) λp4=>?_
 ·apply lx;intro x7;refine At.c 5 ?_ ?_
  ·refine At.M 2 [2,3,4,5,6] 4 (λp8=>([],[(3,.var (eA 64 1 k8 p8))],[])) [2,3,4,5,6] 4 (CU2 (jU N z3 s6)) (cu2 λs9 s10=>([(7,(j64 s10))],[(3,.var (eA 64 1 k8 s9))],[])) (_,_) N (λp8 k=>un2 λs9 s10=>?_) λp8=>?_
   ·refine At.c 2 ?_ ?_
    ·refine At.i hT 5 k8 λe11=>?_;refine At.B 1 bAr λu12=>?_;refine At.U 0 (bSv k8 0 e11) λe13=>?_;exact λh=>At.v 3 (_,_) h
    ·apply rt;exact At.x 0
   ·refine At.y 2 aBf λr14=>?_;exact λh=>At.v 4 (_,_) h
  ·apply rt;exact At.x 0
 ·refine At.M 2 [2,8] 4 (λp15=>([],[(3,.var (eA 32 1 k8 p15))],[])) [2,4,8] 4 (CU2 (rI N p4)) (cu2 λs16 s17=>([(9,(j64 s17))],[(3,.var (eA 32 1 k8 s16))],[])) (_,_) N (λp15 k=>un2 λs16 s17=>?_) λp15=>?_
  ·refine At.c 2 ?_ ?_
   ·refine At.B 3 bAr λu18=>?_;refine At.U 0 (bLd k32 0) λe19=>?_;apply lx;intro x20;refine At.B 4 bSr λx21=>?_;refine At.B 1 bAr λu22=>?_;refine At.U 0 (bSv k8 0 (U8 x21)) λe23=>?_;exact λh=>At.v 3 (_,_) h
   ·apply rt;exact At.x 0
  ·apply rt;exact At.r 2
def kA(N:Nat)(r4:(Vector Int 32)):Nat->(List Int)->Int->Option ((List Int))
 | 0,_,_=>none
 | k+1,s6,s7=>
  cond (decide (s7 < 32)) (
   ae (aS s7 32) λ_=>
   ae (r4.toList[s7.toNat]?) λe9=>
   ae (fT 1 s6 (([e9]:List Int))) λz10=>
   kA N r4 k z10 (I64 (s7+1))) (
   some s6)
def oO(N:Nat)  : Nat->(List Int)->Option ((List Int))
 | 0,_=>none
 | k+1,s12=>
  aM (decide (((s12.length:Int)) < 64)) λx13=>
  cond x13 (
   ae (fT 1 s12 (([0]:List Int))) λz14=>
   oO N k z14) (
   some s12)
def mR(N:Nat)(p11:(List Int)):Nat->(List Int)->(List Int)->Int->Option ((List Int)×(List Int))
 | 0,_,_,_=>none
 | k+1,s16,s17,s18=>
  cond (decide (s18 < 64)) (
   ae (idx p11 s18) λe19=>
   ae (fT 1 s16 (([eT .u8 e19 54]:List Int))) λz20=>
   ae (idx p11 s18) λe21=>
   ae (fT 1 s17 (([eT .u8 e21 92]:List Int))) λz22=>
   mR N p11 k z20 z22 (I64 (s18+1))) (
   some ((s16,s17)))
def mV(N:Nat)(r24:(Vector Int 32)):Nat->(List Int)->Int->Option ((List Int))
 | 0,_,_=>none
 | k+1,s26,s27=>
  cond (decide (s27 < 32)) (
   ae (aS s27 32) λ_=>
   ae (r24.toList[s27.toNat]?) λe29=>
   ae (fT 1 s26 (([e29]:List Int))) λz30=>
   mV N r24 k z30 (I64 (s27+1))) (
   some s26)
def vK(N:Nat)(a0 a1:(List Int)):Option ((Vector Int 32)):=
 ae (fT 1 (([]:List Int)) a0) λz1=>
 ae (aM (decide (((z1.length:Int)) > 64)) λx3=>
 cond x3 (
  ae (nP N z1) λr4=>
  ae (kA N r4 N [] 0) λp5=>
  some p5) (
  some z1)) λp2=>
 ae (oO N N p2) λp11=>
 ae (mR N p11 N [] [] 0) λp15=>
 ae (fT 1 p15.1 a1) λz23=>
 ae (nP N z23) λr24=>
 ae (mV N r24 N p15.2 0) λp25=>
 ae (nP N p25) λr31=>
 some r31
theorem aE8{N a0 a1 r}(h:vK N a0 a1=some r):FnM Tryz.prog 74 [] [(eL 1 k8 a0),(eL 1 k8 a1)] (eA 32 1 k8 r) []:=by
 refine Af cM Tryz.func74 h ?_;refine At.o 1 (sH hT k8 (k:=1) ([]:List Int) (by kernel_rfl) (by kernel_rfl)) ?_;refine At.U 1 (bAp k8) λz1=>?_;refine At.J 1 1 [1,4] 2 (λp2=>([(5,(eO 1 1 k8 p2))],[(1,.tail (p2.length*1))],[])) (λp2=>?_) λp2=>?_
 ·apply lx;intro x3;refine At.c 3 ?_ ?_
  ·refine At.y 1 xA λr4=>?_;refine At.ownn 4 5 1 ?_;refine At.M 0 [1,4] 4 (λp5=>([(5,(eO 3 1 k8 p5))],[(3,.tail (p5.length*1))],[])) [1,4,6] 4 (CU2 (kA N r4)) (cu2 λs6 s7=>([(5,(eO 3 1 k8 s6)),(7,(j64 s7))],[(3,.tail (s6.length*1))],[])) (_,_) N (λp5 k=>un2 λs6 s7=>?_) λp5=>?_
   ·refine At.c 2 ?_ ?_
    ·refine At.B 2 bAr λu8=>?_;refine At.U 0 (bLd k8 0) λe9=>?_;refine At.O 0 bRw ?_;refine At.U 0 (bAp k8) λz10=>?_;exact λh=>At.v 4 (_,_) h
    ·apply rt;exact At.x 0
   ·apply rt;exact At.jw 0 (aJx 3 1 (by kernel_rfl) jr)
  ·apply rt;exact At.jn 0
 ·refine At.M 0 [1,4] 2 (λp11=>([(5,(eO 1 1 k8 p11))],[(1,.tail (p11.length*1))],[])) [1,4] 2 (oO N) (λ(s12:(List Int))=>([(5,(eO 1 1 k8 s12))],[(1,.tail (s12.length*1))],[])) _ N (λp11 k s12=>?_) λp11=>?_
  ·apply lx;intro x13;refine At.c 3 ?_ ?_
   ·refine At.O 1 bRw ?_;refine At.U 0 (bAp k8) λz14=>?_;exact λh=>At.v 1 _ h
   ·apply rt;exact At.x 0
  ·refine At.ownn 3 8 1 ?_;refine At.ownn 0 9 1 ?_;refine At.M 0 [1,4] 4 (λp15=>([(8,(eO 2 1 k8 p15.1)),(9,(eO 3 1 k8 p15.2))],[(2,.tail (p15.1.length*1)),(3,.tail (p15.2.length*1))],[])) [1,4,5] 4 (CU3 (mR N p11)) (cu3 λs16 s17 s18=>([(8,(eO 2 1 k8 s16)),(9,(eO 3 1 k8 s17)),(10,(j64 s18))],[(2,.tail (s16.length*1)),(3,.tail (s17.length*1))],[])) (_,_,_) N (λp15 k=>un3 λs16 s17 s18=>?_) λp15=>?_
   ·refine At.c 2 ?_ ?_
    ·refine At.i hT 3 k8 λe19=>?_;refine At.O 2 bRw ?_;refine At.U 0 (bAp k8) λz20=>?_;refine At.i hT 4 k8 λe21=>?_;refine At.O 2 bRw ?_;refine At.U 0 (bAp k8) λz22=>?_;exact λh=>At.v 4 (_,_,_) h
    ·apply rt;exact At.x 0
   ·refine At.U 2 (bAp k8) λz23=>?_;refine At.y 0 xA λr24=>?_;refine At.M 3 [4] 5 (λp25=>([(9,(eO 3 1 k8 p25))],[(3,.tail (p25.length*1))],[])) [4,11] 5 (CU2 (mV N r24)) (cu2 λs26 s27=>([(9,(eO 3 1 k8 s26)),(12,(j64 s27))],[(3,.tail (s26.length*1))],[])) (_,_) N (λp25 k=>un2 λs26 s27=>?_) λp25=>?_
    ·refine At.c 2 ?_ ?_
     ·refine At.B 2 bAr λu28=>?_;refine At.U 0 (bLd k8 0) λe29=>?_;refine At.O 0 bRw ?_;refine At.U 0 (bAp k8) λz30=>?_;exact λh=>At.v 4 (_,_) h
     ·apply rt;exact At.x 0
    ·refine At.y 1 xA λr31=>?_;apply rt;exact At.r 1
def aDH : Nat->Bool:=imL [3]
def mG(N:Nat)(a2:(List (List Int))):Nat->(List Int)->Int->Option ((List Int))
 | 0,_,_=>none
 | k+1,s5,s6=>
  aM (decide (s6 < ((a2.length:Int)))) λx7=>
  cond x7 (
   ae (idx a2 s6) λe8=>
   ae (oU N ((e8.length:Int))) λr9=>
   ae (fT 1 s5 r9) λz10=>
   ae (idx a2 s6) λe11=>
   ae (fT 1 z10 e11) λz12=>
   mG N a2 k z12 (I64 (s6+1))) (
   some s5)
def rM(N:Nat)(a0:(Vector Int 32))(a1:ByteArray)(a2:(List (List Int))):Option ((Vector Int 32)):=
 aM ((ByteArray.size a1:Int)) λx1=>
 ae (oU N x1) λr2=>
 ae (fT 1 r2 (vW a1)) λz3=>
 ae (mG N a2 N z3 0) λp4=>
 ae (sO N a0) λr13=>
 ae (vK N r13 p4) λr14=>
 some r14
theorem aCn{N a0 a1 a2 r}(h:rM N a0 a1 a2=some r):FnM Tryz.prog 45 [] [(eA 32 1 k8 a0),(eS a1),(eL 1 (eL 1 k8) a2)] (eA 32 1 k8 r) []:=by
 refine Af aDH Tryz.func45 h ?_;apply lx;intro x1;refine At.Y 4 [] yQ λr2=>?_;refine At.o 1 (aOQ hT a1 (e:=5) (by kernel_rfl) (by kernel_rfl)) ?_;refine At.U 0 (bAp k8) λz3=>?_;refine At.M 2 [3,6] 2 (λp4=>([(7,(eO 1 1 k8 p4))],[(1,.tail (p4.length*1))],[])) [2,3,6] 2 (CU2 (mG N a2)) (cu2 λs5 s6=>([(7,(eO 1 1 k8 s5)),(8,(j64 s6))],[(1,.tail (s5.length*1))],[])) (_,_) N (λp4 k=>un2 λs5 s6=>?_) λp4=>?_
 ·apply lx;intro x7;refine At.c 4 ?_ ?_
  ·refine At.D 0 [] ?_;refine DD.i hT 3 (eL 1 k8) λe8=>?_;refine DD.Z 2 [] 2 yQ λr9=>?_;refine DD.U 0 (bAp k8) λz10=>?_;refine DD.i hT 2 (eL 1 k8) λe11=>?_;refine DD.U 1 (bAp k8) λz12=>?_;refine De 1 ?_;exact λh=>At.v 3 (_,_) h
  ·apply rt;exact At.x 0
 ·refine At.y 1 aDQ λr13=>?_;refine At.y 1 aE8 λr14=>?_;apply rt;exact At.r 1
def aFn : Nat->Bool:=imL [3]
def vF(N:Nat)(a0:(Vector Int 32))(a1 a2:Int):Option ((Vector Int 32)):=
 aM (cp (U64 a1) 65536) λx1=>
 aM (cp (U64 a2) 4294967296) λx2=>
 ae (rM N a0 aMx ([[U8 x1,U8 (shr .u64 x1 8)],[U8 x2,U8 (shr .u64 x2 8),U8 (shr .u64 x2 16),U8 (shr .u64 x2 24)]])) λr3=>
 some r3
theorem aEp{N a0 a1 a2 r}(h:vF N a0 a1 a2=some r):FnM Tryz.prog 24 [] [(eA 32 1 k8 a0),(j64 a1),(j64 a2)] (eA 32 1 k8 r) []:=by
 refine Af aFn Tryz.func24 h ?_;apply lx;intro x1;apply lx;intro x2;refine At.O 15 bRw ?_;refine At.O 12 bRw ?_;refine At.O 4 bRw ?_;refine At.y 0 aCn λr3=>?_;apply rt;exact At.r 1
def iW(N:Nat)(a0:(List Int)):Nat->(Vector Int 8)->Int->Option ((Vector Int 8))
 | 0,_,_=>none
 | k+1,s2,s3=>
  cond (decide (s3 < 8)) (
   ae (idx a0 (I64 (4+s3))) λe4=>
   ae (aS s3 8) λ_=>
   ae (s2.toList[s3.toNat]?) λe6=>
   iW N a0 k (s2.setIfInBounds s3.toNat e4) (I64 (s3+1))) (
   some s2)
def oD(N:Nat)(a0:(List Int)):Option ((Vector Int 8)):=
 ae (iW N a0 N (ai 8 0) 0) λp1=>
 some p1
theorem aAY{N a0 r}(h:oD N a0=some r):FnM Tryz.prog 43 [] [(eL 1 k8 a0)] (eA 8 1 k8 r) []:=by
 refine Af cM Tryz.func43 h ?_;refine At.M 3 [2,3] 2 (λp1=>([],[(1,.var (eA 8 1 k8 p1))],[])) [0,2,3] 2 (CU2 (iW N a0)) (cu2 λs2 s3=>([(4,(j64 s3))],[(1,.var (eA 8 1 k8 s2))],[])) (_,_) N (λp1 k=>un2 λs2 s3=>?_) λp1=>?_
 ·refine At.c 2 ?_ ?_
  ·refine At.i hT 4 k8 λe4=>?_;refine At.B 1 bAr λu5=>?_;refine At.U 0 (bSv k8 0 e4) λe6=>?_;exact λh=>At.v 3 (_,_) h
  ·apply rt;exact At.x 0
 ·apply rt;exact At.r 2
def aDy : Nat->Bool:=imL [2]
def kI(N:Nat)(a0:(Vector Int 8)):Nat->(Vector Int 12)->Int->Option ((Vector Int 12))
 | 0,_,_=>none
 | k+1,s2,s3=>
  cond (decide (s3 < 8)) (
   ae (idx a0.toList s3) λe4=>
   ae (aS s3 12) λ_=>
   ae (s2.toList[s3.toNat]?) λe6=>
   kI N a0 k (s2.setIfInBounds s3.toNat e4) (I64 (s3+1))) (
   some s2)
def kJ(N:Nat)(a1:Int):Nat->(Vector Int 12)->Int->Option ((Vector Int 12))
 | 0,_,_=>none
 | k+1,s8,s9=>
  cond (decide (s9 < 4)) (
   ae (yR .u32 (U32 a1) (I64 (8*s9))) λx10=>
   ae (aS (I64 (8+s9)) 12) λ_=>
   ae (s8.toList[(I64 (8+s9)).toNat]?) λe12=>
   kJ N a1 k (s8.setIfInBounds ((I64 (8+s9)).toNat) (U8 x10)) (I64 (s9+1))) (
   some s8)
def nO(N:Nat)(a0:(Vector Int 8))(a1:Int):Option ((Vector Int 12)):=
 ae (kI N a0 N (ai 12 0) 0) λp1=>
 ae (kJ N a1 N p1 0) λp7=>
 some p7
theorem zR{N a0 a1 r}(h:nO N a0 a1=some r):FnM Tryz.prog 42 [] [(eA 8 1 k8 a0),(j64 a1)] (eA 12 1 k8 r) []:=by
 refine Af aDy Tryz.func42 h ?_;refine At.M 4 [1,4,5] 2 (λp1=>([],[(1,.var (eA 12 1 k8 p1))],[])) [1,2,4,5] 2 (CU2 (kI N a0)) (cu2 λs2 s3=>([(6,(j64 s3))],[(1,.var (eA 12 1 k8 s2))],[])) (_,_) N (λp1 k=>un2 λs2 s3=>?_) λp1=>?_
 ·refine At.c 2 ?_ ?_
  ·refine At.B 2 (bAi k8) λe4=>?_;refine At.B 1 bAr λu5=>?_;refine At.U 0 (bSv k8 0 e4) λe6=>?_;exact λh=>At.v 3 (_,_) h
  ·apply rt;exact At.x 0
 ·refine At.M 4 [4,5] 2 (λp7=>([],[(1,.var (eA 12 1 k8 p7))],[])) [4,5,7] 2 (CU2 (kJ N a1)) (cu2 λs8 s9=>([(8,(j64 s9))],[(1,.var (eA 12 1 k8 s8))],[])) (_,_) N (λp7 k=>un2 λs8 s9=>?_) λp7=>?_
  ·refine At.c 2 ?_ ?_
   ·refine At.B 5 bSr λx10=>?_;refine At.B 1 bAr λu11=>?_;refine At.U 0 (bSv k8 0 (U8 x10)) λe12=>?_;exact λh=>At.v 3 (_,_) h
   ·apply rt;exact At.x 0
  ·apply rt;exact At.r 2
def mE(N:Nat)  : Nat->(List Int)->Option ((List Int))
 | 0,_=>none
 | k+1,s3=>
  aM (cp ((s3.length:Int)) 16) λx4=>
  cond (decide (x4 > 0)) (
   ae (fT 1 s3 (([0]:List Int))) λz5=>
   mE N k z5) (
   some s3)
def oR(N:Nat)(a0:(List Int)):Option ((List Int)):=
 ae (fT 1 (([]:List Int)) a0) λz1=>
 ae (mE N N z1) λp2=>
 some p2
theorem zD{N a0 r}(h:oR N a0=some r):FnM Tryz.prog 103 [] [(eL 1 k8 a0)] (eO 0 1 k8 r) [.tail (r.length*1)]:=by
 refine Af cM Tryz.func103 h ?_;refine At.o 1 (sH hT k8 (k:=1) ([]:List Int) (by kernel_rfl) (by kernel_rfl)) ?_;refine At.U 1 (bAp k8) λz1=>?_;refine At.M 1 [] 1 (λp2=>([(3,(eO 0 1 k8 p2))],[(0,.tail (p2.length*1))],[])) [] 1 (mE N) (λ(s3:(List Int))=>([(3,(eO 0 1 k8 s3))],[(0,.tail (s3.length*1))],[])) _ N (λp2 k s3=>?_) λp2=>?_
 ·apply lx;intro x4;refine At.c 4 ?_ ?_
  ·refine At.O 1 bRw ?_;refine At.U 0 (bAp k8) λz5=>?_;exact λh=>At.v 1 _ h
  ·apply rt;exact At.x 0
 ·apply rt;exact At.r 2
def cY(N:Nat)  : Nat->(List Int)->Int->Int->Option ((List Int))
 | 0,_,_,_=>none
 | k+1,s2,s3,s4=>
  cond (decide (s4 < 8)) (
   ae (fT 1 s2 (([U8 (cp s3 256)]:List Int))) λz5=>
   cY N k z5 (I64 (eg s3 256)) (I64 (s4+1))) (
   some s2)
def mX(N:Nat)(a0:Int):Option ((List Int)):=
 ae (cY N N [] a0 0) λp1=>
 some p1
theorem zB{N a0 r}(h:mX N a0=some r):FnM Tryz.prog 104 [] [(j64 a0)] (eL 1 k8 r) []:=by
 refine Af cM Tryz.func104 h ?_;refine At.ownn 3 3 1 ?_;refine At.M 0 [] 1 (λp1=>([(3,(eO 0 1 k8 p1))],[(0,.tail (p1.length*1))],[])) [] 1 (CU3 (cY N)) (cu3 λs2 s3 s4=>([(0,(j64 s3)),(3,(eO 0 1 k8 s2)),(4,(j64 s4))],[(0,.tail (s2.length*1))],[])) (_,_,_) N (λp1 k=>un3 λs2 s3 s4=>?_) λp1=>?_
 ·refine At.c 2 ?_ ?_
  ·refine At.O 4 bRw ?_;refine At.U 0 (bAp k8) λz5=>?_;exact λh=>At.v 7 (_,_,_) h
  ·apply rt;exact At.x 0
 ·apply rt;exact At.r 2
def dX(N:Nat)(a0:(List Int)):Nat->Int->Int->Option (Int)
 | 0,_,_=>none
 | k+1,s2,s3=>
  cond (decide (s3>=0)) (
   ae (idx a0 s3) λe4=>
   aM (U32 ((U32 (s2*256))+(U32 e4))) λx5=>
   dX N a0 k x5 (I64 (s3 - 1))) (
   some s2)
def kF(N:Nat)(a0:(List Int)):Option (Int):=
 ae (dX N a0 N 0 3) λp1=>
 some p1
theorem uV{N a0 r}(h:kF N a0=some r):FnM Tryz.prog 184 [] [(eL 1 k8 a0)] (k32 r) []:=by
 refine Af cM Tryz.func184 h ?_;refine At.M 3 [] 0 (λp1=>([(3,(k32 p1))],[],[])) [0] 0 (CU2 (dX N a0)) (cu2 λs2 s3=>([(3,(k32 s2)),(4,(j64 s3))],[],[])) (_,_) N (λp1 k=>un2 λs2 s3=>?_) λp1=>?_
 ·refine At.c 2 ?_ ?_
  ·refine At.i hT 4 k8 λe4=>?_;apply lx;intro x5;exact λh=>At.v 7 (_,_) h
  ·apply rt;exact At.x 0
 ·apply rt;exact At.r 2
def aD4 : Nat->Bool:=imL [3,5]
def qG(N:Nat)  : Nat->(Vector Int 16)->Int->Option ((Vector Int 16))
 | 0,_,_=>none
 | k+1,s2,s3=>
  cond (decide (s3 < 4)) (
   ae (idx aOc.data.toList (I64 (4*s3))) λc4=>
   aM (I64 ((I64 (4*s3))+1)) λx5=>
   ae (idx aOc.data.toList x5) λc6=>
   aM (I64 ((I64 (4*s3))+2)) λx7=>
   ae (idx aOc.data.toList x7) λc8=>
   aM (I64 ((I64 (4*s3))+3)) λx9=>
   ae (idx aOc.data.toList x9) λc10=>
   ae (kF N ([(UInt8.toNat c4:Int),(UInt8.toNat c6:Int),(UInt8.toNat c8:Int),(UInt8.toNat c10:Int)])) λr11=>
   ae (aS s3 16) λ_=>
   ae (s2.toList[s3.toNat]?) λe13=>
   qG N k (s2.setIfInBounds s3.toNat r11) (I64 (s3+1))) (
   some s2)
def eN(N:Nat)(a0:(Vector Int 32)):Nat->(Vector Int 16)->Int->Option ((Vector Int 16))
 | 0,_,_=>none
 | k+1,s15,s16=>
  cond (decide (s16 < 8)) (
   aM (I64 ((I64 (4*s16))+4)) λx17=>
   ae (cR a0.toList (I64 (4*s16)) x17) λs18=>
   ae (kF N s18) λr19=>
   ae (aS (I64 (4+s16)) 16) λ_=>
   ae (s15.toList[(I64 (4+s16)).toNat]?) λe21=>
   eN N a0 k (s15.setIfInBounds ((I64 (4+s16)).toNat) r19) (I64 (s16+1))) (
   some s15)
def eQ(N:Nat)(a2:(Vector Int 12)):Nat->(Vector Int 16)->Int->Option ((Vector Int 16))
 | 0,_,_=>none
 | k+1,s25,s26=>
  cond (decide (s26 < 3)) (
   aM (I64 ((I64 (4*s26))+4)) λx27=>
   ae (cR a2.toList (I64 (4*s26)) x27) λs28=>
   ae (kF N s28) λr29=>
   ae (aS (I64 (13+s26)) 16) λ_=>
   ae (s25.toList[(I64 (13+s26)).toNat]?) λe31=>
   eQ N a2 k (s25.setIfInBounds ((I64 (13+s26)).toNat) r29) (I64 (s26+1))) (
   some s25)
def qA(N:Nat)(a0:(Vector Int 32))(a1:Int)(a2:(Vector Int 12)):Option ((Vector Int 16)):=
 ae (qG N N (ai 16 0) 0) λp1=>
 ae (eN N a0 N p1 0) λp14=>
 ae (aS 12 16) λ_=>
 ae (p14.toList[(ag 12)]?) λe23=>
 ae (eQ N a2 N (p14.setIfInBounds ((ag 12)) a1) 0) λp24=>
 some p24
theorem zT{N a0 a1 a2 r}(h:qA N a0 a1 a2=some r):FnM Tryz.prog 170 [] [(eA 32 1 k8 a0),(k32 a1),(eA 12 1 k8 a2)] (eA 16 1 k32 r) []:=by
 refine Af aD4 Tryz.func170 h ?_;refine At.M 6 [1,3,5,6,7] 2 (λp1=>([],[(1,.var (eA 16 1 k32 p1))],[])) [1,3,5,6,7,8] 2 (CU2 (qG N)) (cu2 λs2 s3=>([(9,(j64 s3))],[(1,.var (eA 16 1 k32 s2))],[])) (_,_) N (λp1 k=>un2 λs2 s3=>?_) λp1=>?_
 ·refine At.c 2 ?_ ?_
  ·refine At.D 0 [] ?_;refine DD.b 4 (λe _=>aHS hT e (by kernel_rfl) (by kernel_rfl)) λc4=>?_;apply lx;intro x5;refine DD.b 4 (λe _=>aHS hT e (by kernel_rfl) (by kernel_rfl)) λc6=>?_;apply lx;intro x7;refine DD.b 4 (λe _=>aHS hT e (by kernel_rfl) (by kernel_rfl)) λc8=>?_;apply lx;intro x9;refine DD.b 4 (λe _=>aHS hT e (by kernel_rfl) (by kernel_rfl)) λc10=>?_;refine DD.O 0 bRw ?_;refine DD.y 0 uV λr11=>?_;refine DD.B 0 bAr λu12=>?_;refine DD.U 0 (bSv k32 0 r11) λe13=>?_;refine De 0 ?_;exact λh=>At.v 3 (_,_) h
  ·apply rt;exact At.x 0
 ·refine At.M 1 [1,5,6,7] 2 (λp14=>([],[(1,.var (eA 16 1 k32 p14))],[])) [1,3,5,6,7] 2 (CU2 (eN N a0)) (cu2 λs15 s16=>([(10,(j64 s16))],[(1,.var (eA 16 1 k32 s15))],[])) (_,_) N (λp14 k=>un2 λs15 s16=>?_) λp14=>?_
  ·refine At.c 2 ?_ ?_
   ·apply lx;intro x17;refine At.B 7 (bSI k8) λs18=>?_;refine At.y 0 uV λr19=>?_;refine At.B 0 bAr λu20=>?_;refine At.U 0 (bSv k32 0 r19) λe21=>?_;exact λh=>At.v 3 (_,_) h
   ·apply rt;exact At.x 0
  ·refine At.B 1 bAr λu22=>?_;refine At.U 0 (bSv k32 0 a1) λe23=>?_;refine At.M 1 [6,7] 2 (λp24=>([],[(1,.var (eA 16 1 k32 p24))],[])) [5,6,7] 2 (CU2 (eQ N a2)) (cu2 λs25 s26=>([(11,(j64 s26))],[(1,.var (eA 16 1 k32 s25))],[])) (_,_) N (λp24 k=>un2 λs25 s26=>?_) λp24=>?_
   ·refine At.c 2 ?_ ?_
    ·apply lx;intro x27;refine At.B 7 (bSI k8) λs28=>?_;refine At.y 0 uV λr29=>?_;refine At.B 0 bAr λu30=>?_;refine At.U 0 (bSv k32 0 r29) λe31=>?_;exact λh=>At.v 3 (_,_) h
    ·apply rt;exact At.x 0
   ·apply rt;exact At.r 2
def eC(N:Nat)(a0 a1:Int):Option (Int):=
 ae (aFP .u32 a0 a1) λx1=>
 ae (yR .u32 a0 (I64 (32 - a1))) λx2=>
 some (bor .u32 x1 x2)
theorem sZ{N a0 a1 r}(h:eC N a0 a1=some r):FnM Tryz.prog 192 [] [(k32 a0),(j64 a1)] (k32 r) []:=by
 refine Af cM Tryz.func192 h ?_;refine At.D 1 [] ?_;refine DD.B 2 bSh λx1=>?_;refine DD.B 3 bSr λx2=>?_;refine De 2 ?_;apply rt;exact At.r 0
def qU(N:Nat)(a0:(Vector Int 4)):Option ((Vector Int 4)):=
 ae (aS 0 4) λ_=>
 ae (a0.toList[(ag 0)]?) λe2=>
 ae (aS 1 4) λ_=>
 ae (a0.toList[(ag 1)]?) λe4=>
 ae (aS 0 4) λ_=>
 ae (a0.toList[(ag 0)]?) λe6=>
 ae (aS 3 4) λ_=>
 ae ((a0.setIfInBounds ((ag 0)) (U32 (e2+e4))).toList[(ag 3)]?) λe8=>
 ae (aS 0 4) λ_=>
 ae ((a0.setIfInBounds ((ag 0)) (U32 (e2+e4))).toList[(ag 0)]?) λe10=>
 ae (eC N (eT .u32 e8 e10) 16) λr11=>
 ae (aS 3 4) λ_=>
 ae ((a0.setIfInBounds ((ag 0)) (U32 (e2+e4))).toList[(ag 3)]?) λe13=>
 ae (aS 2 4) λ_=>
 ae (((a0.setIfInBounds ((ag 0)) (U32 (e2+e4))).setIfInBounds ((ag 3)) r11).toList[(ag 2)]?) λe15=>
 ae (aS 3 4) λ_=>
 ae (((a0.setIfInBounds ((ag 0)) (U32 (e2+e4))).setIfInBounds ((ag 3)) r11).toList[(ag 3)]?) λe17=>
 ae (aS 2 4) λ_=>
 ae (((a0.setIfInBounds ((ag 0)) (U32 (e2+e4))).setIfInBounds ((ag 3)) r11).toList[(ag 2)]?) λe19=>
 ae (aS 1 4) λ_=>
 ae ((((a0.setIfInBounds ((ag 0)) (U32 (e2+e4))).setIfInBounds ((ag 3)) r11).setIfInBounds ((ag 2)) (U32 (e15+e17))).toList[(ag 1)]?) λe21=>
 ae (aS 2 4) λ_=>
 ae ((((a0.setIfInBounds ((ag 0)) (U32 (e2+e4))).setIfInBounds ((ag 3)) r11).setIfInBounds ((ag 2)) (U32 (e15+e17))).toList[(ag 2)]?) λe23=>
 ae (eC N (eT .u32 e21 e23) 12) λr24=>
 ae (aS 1 4) λ_=>
 ae ((((a0.setIfInBounds ((ag 0)) (U32 (e2+e4))).setIfInBounds ((ag 3)) r11).setIfInBounds ((ag 2)) (U32 (e15+e17))).toList[(ag 1)]?) λe26=>
 ae (aS 0 4) λ_=>
 ae (((((a0.setIfInBounds ((ag 0)) (U32 (e2+e4))).setIfInBounds ((ag 3)) r11).setIfInBounds ((ag 2)) (U32 (e15+e17))).setIfInBounds ((ag 1)) r24).toList[(ag 0)]?) λe28=>
 ae (aS 1 4) λ_=>
 ae (((((a0.setIfInBounds ((ag 0)) (U32 (e2+e4))).setIfInBounds ((ag 3)) r11).setIfInBounds ((ag 2)) (U32 (e15+e17))).setIfInBounds ((ag 1)) r24).toList[(ag 1)]?) λe30=>
 ae (aS 0 4) λ_=>
 ae (((((a0.setIfInBounds ((ag 0)) (U32 (e2+e4))).setIfInBounds ((ag 3)) r11).setIfInBounds ((ag 2)) (U32 (e15+e17))).setIfInBounds ((ag 1)) r24).toList[(ag 0)]?) λe32=>
 ae (aS 3 4) λ_=>
 ae ((((((a0.setIfInBounds ((ag 0)) (U32 (e2+e4))).setIfInBounds ((ag 3)) r11).setIfInBounds ((ag 2)) (U32 (e15+e17))).setIfInBounds ((ag 1)) r24).setIfInBounds ((ag 0)) (U32 (e28+e30))).toList[(ag 3)]?) λe34=>
 ae (aS 0 4) λ_=>
 ae ((((((a0.setIfInBounds ((ag 0)) (U32 (e2+e4))).setIfInBounds ((ag 3)) r11).setIfInBounds ((ag 2)) (U32 (e15+e17))).setIfInBounds ((ag 1)) r24).setIfInBounds ((ag 0)) (U32 (e28+e30))).toList[(ag 0)]?) λe36=>
 ae (eC N (eT .u32 e34 e36) 8) λr37=>
 ae (aS 3 4) λ_=>
 ae ((((((a0.setIfInBounds ((ag 0)) (U32 (e2+e4))).setIfInBounds ((ag 3)) r11).setIfInBounds ((ag 2)) (U32 (e15+e17))).setIfInBounds ((ag 1)) r24).setIfInBounds ((ag 0)) (U32 (e28+e30))).toList[(ag 3)]?) λe39=>
 ae (aS 2 4) λ_=>
 ae (((((((a0.setIfInBounds ((ag 0)) (U32 (e2+e4))).setIfInBounds ((ag 3)) r11).setIfInBounds ((ag 2)) (U32 (e15+e17))).setIfInBounds ((ag 1)) r24).setIfInBounds ((ag 0)) (U32 (e28+e30))).setIfInBounds ((ag 3)) r37).toList[(ag 2)]?) λe41=>
 ae (aS 3 4) λ_=>
 ae (((((((a0.setIfInBounds ((ag 0)) (U32 (e2+e4))).setIfInBounds ((ag 3)) r11).setIfInBounds ((ag 2)) (U32 (e15+e17))).setIfInBounds ((ag 1)) r24).setIfInBounds ((ag 0)) (U32 (e28+e30))).setIfInBounds ((ag 3)) r37).toList[(ag 3)]?) λe43=>
 ae (aS 2 4) λ_=>
 ae (((((((a0.setIfInBounds ((ag 0)) (U32 (e2+e4))).setIfInBounds ((ag 3)) r11).setIfInBounds ((ag 2)) (U32 (e15+e17))).setIfInBounds ((ag 1)) r24).setIfInBounds ((ag 0)) (U32 (e28+e30))).setIfInBounds ((ag 3)) r37).toList[(ag 2)]?) λe45=>
 ae (aS 1 4) λ_=>
 ae ((((((((a0.setIfInBounds ((ag 0)) (U32 (e2+e4))).setIfInBounds ((ag 3)) r11).setIfInBounds ((ag 2)) (U32 (e15+e17))).setIfInBounds ((ag 1)) r24).setIfInBounds ((ag 0)) (U32 (e28+e30))).setIfInBounds ((ag 3)) r37).setIfInBounds ((ag 2)) (U32 (e41+e43))).toList[(ag 1)]?) λe47=>
 ae (aS 2 4) λ_=>
 ae ((((((((a0.setIfInBounds ((ag 0)) (U32 (e2+e4))).setIfInBounds ((ag 3)) r11).setIfInBounds ((ag 2)) (U32 (e15+e17))).setIfInBounds ((ag 1)) r24).setIfInBounds ((ag 0)) (U32 (e28+e30))).setIfInBounds ((ag 3)) r37).setIfInBounds ((ag 2)) (U32 (e41+e43))).toList[(ag 2)]?) λe49=>
 ae (eC N (eT .u32 e47 e49) 7) λr50=>
 ae (aS 1 4) λ_=>
 ae ((((((((a0.setIfInBounds ((ag 0)) (U32 (e2+e4))).setIfInBounds ((ag 3)) r11).setIfInBounds ((ag 2)) (U32 (e15+e17))).setIfInBounds ((ag 1)) r24).setIfInBounds ((ag 0)) (U32 (e28+e30))).setIfInBounds ((ag 3)) r37).setIfInBounds ((ag 2)) (U32 (e41+e43))).toList[(ag 1)]?) λe52=>
 some ((((((((a0.setIfInBounds ((ag 0)) (U32 (e2+e4))).setIfInBounds ((ag 3)) r11).setIfInBounds ((ag 2)) (U32 (e15+e17))).setIfInBounds ((ag 1)) r24).setIfInBounds ((ag 0)) (U32 (e28+e30))).setIfInBounds ((ag 3)) r37).setIfInBounds ((ag 2)) (U32 (e41+e43))).setIfInBounds ((ag 1)) r50)
theorem aB9{N a0 r}(h:qU N a0=some r):FnM Tryz.prog 185 [] [(eA 4 1 k32 a0)] (eA 4 1 k32 r) []:=by
 refine Af cM Tryz.func185 h ?_;refine At.B 2 bAr λu1=>?_;refine At.U 0 (bLd k32 0) λe2=>?_;refine At.B 0 bAr λu3=>?_;refine At.U 0 (bLd k32 0) λe4=>?_;refine At.B 1 bAr λu5=>?_;refine At.U 0 (bSv k32 0 (U32 (e2+e4))) λe6=>?_;refine At.B 0 bAr λu7=>?_;refine At.U 0 (bLd k32 0) λe8=>?_;refine At.B 0 bAr λu9=>?_;refine At.U 0 (bLd k32 0) λe10=>?_;refine At.y 1 sZ λr11=>?_;refine At.B 0 bAr λu12=>?_;refine At.U 0 (bSv k32 0 r11) λe13=>?_;refine At.B 0 bAr λu14=>?_;refine At.U 0 (bLd k32 0) λe15=>?_;refine At.B 0 bAr λu16=>?_;refine At.U 0 (bLd k32 0) λe17=>?_;refine At.B 1 bAr λu18=>?_;refine At.U 0 (bSv k32 0 (U32 (e15+e17))) λe19=>?_;refine At.B 0 bAr λu20=>?_;refine At.U 0 (bLd k32 0) λe21=>?_;refine At.B 0 bAr λu22=>?_;refine At.U 0 (bLd k32 0) λe23=>?_;refine At.y 1 sZ λr24=>?_;refine At.B 0 bAr λu25=>?_;refine At.U 0 (bSv k32 0 r24) λe26=>?_;refine At.B 0 bAr λu27=>?_;refine At.U 0 (bLd k32 0) λe28=>?_;refine At.B 0 bAr λu29=>?_;refine At.U 0 (bLd k32 0) λe30=>?_;refine At.B 1 bAr λu31=>?_;refine At.U 0 (bSv k32 0 (U32 (e28+e30))) λe32=>?_;refine At.B 0 bAr λu33=>?_;refine At.U 0 (bLd k32 0) λe34=>?_;refine At.B 0 bAr λu35=>?_;refine At.U 0 (bLd k32 0) λe36=>?_;refine At.y 1 sZ λr37=>?_;refine At.B 0 bAr λu38=>?_;refine At.U 0 (bSv k32 0 r37) λe39=>?_;refine At.B 0 bAr λu40=>?_;refine At.U 0 (bLd k32 0) λe41=>?_;refine At.B 0 bAr λu42=>?_;refine At.U 0 (bLd k32 0) λe43=>?_;refine At.B 1 bAr λu44=>?_;refine At.U 0 (bSv k32 0 (U32 (e41+e43))) λe45=>?_;refine At.B 0 bAr λu46=>?_;refine At.U 0 (bLd k32 0) λe47=>?_;refine At.B 0 bAr λu48=>?_;refine At.U 0 (bLd k32 0) λe49=>?_;refine At.y 1 sZ λr50=>?_;refine At.B 0 bAr λu51=>?_;refine At.U 0 (bSv k32 0 r50) λe52=>?_;apply rt;exact At.r 2
def bE(N:Nat)(a0:(Vector Int 16))(a1 a2 a3 a4:Int):Option ((Vector Int 16)):=
 ae (aS a1 16) λ_=>
 ae (a0.toList[a1.toNat]?) λe2=>
 ae (aS a2 16) λ_=>
 ae (a0.toList[a2.toNat]?) λe4=>
 ae (aS a3 16) λ_=>
 ae (a0.toList[a3.toNat]?) λe6=>
 ae (aS a4 16) λ_=>
 ae (a0.toList[a4.toNat]?) λe8=>
 ae (qU N (#v[e2,e4,e6,e8])) λr9=>
 ae (aS 0 4) λ_=>
 ae (r9.toList[(ag 0)]?) λe11=>
 ae (aS 1 4) λ_=>
 ae (r9.toList[(ag 1)]?) λe13=>
 ae (aS 2 4) λ_=>
 ae (r9.toList[(ag 2)]?) λe15=>
 ae (aS 3 4) λ_=>
 ae (r9.toList[(ag 3)]?) λe17=>
 ae (aS a1 16) λ_=>
 ae (a0.toList[a1.toNat]?) λe19=>
 ae (aS a2 16) λ_=>
 ae ((a0.setIfInBounds a1.toNat e11).toList[a2.toNat]?) λe21=>
 ae (aS a3 16) λ_=>
 ae (((a0.setIfInBounds a1.toNat e11).setIfInBounds a2.toNat e13).toList[a3.toNat]?) λe23=>
 ae (aS a4 16) λ_=>
 ae ((((a0.setIfInBounds a1.toNat e11).setIfInBounds a2.toNat e13).setIfInBounds a3.toNat e15).toList[a4.toNat]?) λe25=>
 some ((((a0.setIfInBounds a1.toNat e11).setIfInBounds a2.toNat e13).setIfInBounds a3.toNat e15).setIfInBounds a4.toNat e17)
theorem xJ{N a0 a1 a2 a3 a4 r}(h:bE N a0 a1 a2 a3 a4=some r):FnM Tryz.prog 171 [] [(eA 16 1 k32 a0),(j64 a1),(j64 a2),(j64 a3),(j64 a4)] (eA 16 1 k32 r) []:=by
 refine Af cM Tryz.func171 h ?_;refine At.D 2 [] ?_;refine DD.B 1 bAr λu1=>?_;refine DD.l hT 0 k32 k32 0 λe2=>?_;refine DD.B 1 bAr λu3=>?_;refine DD.l hT 0 k32 k32 0 λe4=>?_;refine DD.B 1 bAr λu5=>?_;refine DD.l hT 0 k32 k32 0 λe6=>?_;refine DD.B 1 bAr λu7=>?_;refine DD.l hT 0 k32 k32 0 λe8=>?_;refine DD.y 1 aB9 λr9=>?_;refine De 2 ?_;refine At.D 0 [] ?_;refine DD.B 4 bAr λu10=>?_;refine DD.l hT 0 k32 k32 0 λe11=>?_;refine DD.B 0 bAr λu12=>?_;refine DD.l hT 0 k32 k32 0 λe13=>?_;refine DD.B 0 bAr λu14=>?_;refine DD.l hT 0 k32 k32 0 λe15=>?_;refine DD.B 0 bAr λu16=>?_;refine DD.l hT 0 k32 k32 0 λe17=>?_;refine DD.B 0 bAr λu18=>?_;refine DD.U 0 (bSv k32 0 e11) λe19=>?_;refine DD.B 0 bAr λu20=>?_;refine DD.U 0 (bSv k32 0 e13) λe21=>?_;refine DD.B 0 bAr λu22=>?_;refine DD.U 0 (bSv k32 0 e15) λe23=>?_;refine DD.B 0 bAr λu24=>?_;refine DD.U 0 (bSv k32 0 e17) λe25=>?_;refine De 0 ?_;apply rt;exact At.r 2
def aEJ : Nat->Bool:=imL [3,5]
def bJ(N:Nat)  : Nat->(Vector Int 16)->Int->Option ((Vector Int 16))
 | 0,_,_=>none
 | k+1,s6,s7=>
  cond (decide (s7 < 4)) (
   ae (bE N s6 s7 (I64 (4+s7)) (I64 (8+s7)) (I64 (12+s7))) λr8=>
   bJ N k r8 (I64 (s7+1))) (
   some s6)
def bI(N:Nat)  : Nat->(Vector Int 16)->Int->Option ((Vector Int 16))
 | 0,_,_=>none
 | k+1,s10,s11=>
  cond (decide (s11 < 4)) (
   aM (cp (I64 (s11+1)) 4) λx12=>
   aM (cp (I64 (s11+2)) 4) λx13=>
   aM (cp (I64 (s11+3)) 4) λx14=>
   ae (bE N s10 s11 (I64 (4+x12)) (I64 (8+x13)) (I64 (12+x14))) λr15=>
   bI N k r15 (I64 (s11+1))) (
   some s10)
def nK(N:Nat)  : Nat->(Vector Int 16)->Int->Option ((Vector Int 16))
 | 0,_,_=>none
 | k+1,s3,s4=>
  cond (decide (s4 < 10)) (
   ae (bJ N N s3 0) λp5=>
   ae (bI N N p5 0) λp9=>
   nK N k p9 (I64 (s4+1))) (
   some s3)
def iF(N:Nat)(p2 r16:(Vector Int 16)):Nat->(Vector Int 64)->Int->Option ((Vector Int 64))
 | 0,_,_=>none
 | k+1,s18,s19=>
  cond (decide (s19 < 64)) (
   ae (aS (I64 (eg s19 4)) 16) λ_=>
   ae (p2.toList[(I64 (eg s19 4)).toNat]?) λe21=>
   ae (aS (I64 (eg s19 4)) 16) λ_=>
   ae (r16.toList[(I64 (eg s19 4)).toNat]?) λe23=>
   aM (I64 (8*(cp s19 4))) λx24=>
   ae (yR .u32 (U32 (e21+e23)) x24) λx25=>
   ae (aS s19 64) λ_=>
   ae (s18.toList[s19.toNat]?) λe27=>
   iF N p2 r16 k (s18.setIfInBounds s19.toNat (U8 x25)) (I64 (s19+1))) (
   some s18)
def pY(N:Nat)(a0:(Vector Int 32))(a1:Int)(a2:(Vector Int 12)):Option ((Vector Int 64)):=
 ae (qA N a0 a1 a2) λr1=>
 ae (nK N N r1 0) λp2=>
 ae (qA N a0 a1 a2) λr16=>
 ae (iF N p2 r16 N (ai 64 0) 0) λp17=>
 some p17
theorem zU{N a0 a1 a2 r}(h:pY N a0 a1 a2=some r):FnM Tryz.prog 149 [] [(eA 32 1 k8 a0),(k32 a1),(eA 12 1 k8 a2)] (eA 64 1 k8 r) []:=by
 refine Af aEJ Tryz.func149 h ?_;refine At.y 6 zT λr1=>?_;refine At.M 3 [1,3,5,6,7] 2 (λp2=>([],[(1,.var (eA 16 1 k32 p2))],[])) [1,3,5,6,7] 2 (CU2 (nK N)) (cu2 λs3 s4=>([(8,(j64 s4))],[(1,.var (eA 16 1 k32 s3))],[])) (_,_) N (λp2 k=>un2 λs3 s4=>?_) λp2=>?_
 ·refine At.c 2 ?_ ?_
  ·refine At.M 1 [1,3,5,6,7,8] 2 (λp5=>([],[(1,.var (eA 16 1 k32 p5))],[])) [1,3,5,6,7,8] 2 (CU2 (bJ N)) (cu2 λs6 s7=>([(9,(j64 s7))],[(1,.var (eA 16 1 k32 s6))],[])) (_,_) N (λp5 k=>un2 λs6 s7=>?_) λp5=>?_
   ·refine At.c 2 ?_ ?_
    ·refine At.y 8 xJ λr8=>?_;exact λh=>At.v 4 (_,_) h
    ·apply rt;exact At.x 0
   ·refine At.M 1 [1,3,5,6,7,8] 2 (λp9=>([],[(1,.var (eA 16 1 k32 p9))],[])) [1,3,5,6,7,8] 2 (CU2 (bI N)) (cu2 λs10 s11=>([(10,(j64 s11))],[(1,.var (eA 16 1 k32 s10))],[])) (_,_) N (λp9 k=>un2 λs10 s11=>?_) λp9=>?_
    ·refine At.c 2 ?_ ?_
     ·apply lx;intro x12;apply lx;intro x13;apply lx;intro x14;refine At.y 14 xJ λr15=>?_;exact λh=>At.v 4 (_,_) h
     ·apply rt;exact At.x 0
    ·exact λh=>At.v 3 (_,_) h
  ·apply rt;exact At.x 0
 ·refine At.y 3 zT λr16=>?_;refine At.M 4 [6,12] 4 (λp17=>([],[(3,.var (eA 64 1 k8 p17))],[])) [6,7,11,12] 4 (CU2 (iF N p2 r16)) (cu2 λs18 s19=>([(13,(j64 s19))],[(3,.var (eA 64 1 k8 s18))],[])) (_,_) N (λp17 k=>un2 λs18 s19=>?_) λp17=>?_
  ·refine At.c 2 ?_ ?_
   ·refine At.D 0 [] ?_;refine DD.B 3 bAr λu20=>?_;refine DD.l hT 0 k32 k32 0 λe21=>?_;refine DD.B 2 bAr λu22=>?_;refine DD.l hT 0 k32 k32 0 λe23=>?_;apply lx;intro x24;refine DD.B 4 bSr λx25=>?_;refine DD.B 1 bAr λu26=>?_;refine DD.U 0 (bSv k8 0 (U8 x25)) λe27=>?_;refine De 0 ?_;exact λh=>At.v 3 (_,_) h
   ·apply rt;exact At.x 0
  ·apply rt;exact At.r 2
def aFw : Nat->Bool:=imL [2,3]
def kB(N:Nat)(r1:(Vector Int 64)):Nat->(Vector Int 32)->Int->Option ((Vector Int 32))
 | 0,_,_=>none
 | k+1,s3,s4=>
  cond (decide (s4 < 32)) (
   ae (aS s4 64) λ_=>
   ae (r1.toList[s4.toNat]?) λe6=>
   ae (aS s4 32) λ_=>
   ae (s3.toList[s4.toNat]?) λe8=>
   kB N r1 k (s3.setIfInBounds s4.toNat e6) (I64 (s4+1))) (
   some s3)
def vI(N:Nat)(a0:(Vector Int 32))(a1:(Vector Int 12)):Option ((Vector Int 32)):=
 ae (pY N a0 0 a1) λr1=>
 ae (kB N r1 N (ai 32 0) 0) λp2=>
 some p2
theorem aE7{N a0 a1 r}(h:vI N a0 a1=some r):FnM Tryz.prog 106 [] [(eA 32 1 k8 a0),(eA 12 1 k8 a1)] (eA 32 1 k8 r) []:=by
 refine Af aFw Tryz.func106 h ?_;refine At.y 5 zU λr1=>?_;refine At.M 4 [4,6] 3 (λp2=>([],[(2,.var (eA 32 1 k8 p2))],[])) [4,5,6] 3 (CU2 (kB N r1)) (cu2 λs3 s4=>([(7,(j64 s4))],[(2,.var (eA 32 1 k8 s3))],[])) (_,_) N (λp2 k=>un2 λs3 s4=>?_) λp2=>?_
 ·refine At.c 2 ?_ ?_
  ·refine At.B 2 bAr λu5=>?_;refine At.U 0 (bLd k8 0) λe6=>?_;refine At.B 0 bAr λu7=>?_;refine At.U 0 (bSv k8 0 e6) λe8=>?_;exact λh=>At.v 3 (_,_) h
  ·apply rt;exact At.x 0
 ·apply rt;exact At.r 2
def kR(N:Nat)  : Nat->(Vector Int 16)->Int->Option ((Vector Int 16))
 | 0,_,_=>none
 | k+1,s2,s3=>
  cond (decide (s3 < 16)) (
   ae (ae (cond ((cp s3 4)==3) (
    ae (aS s3 16) λ_=>
    ae (s2.toList[s3.toNat]?) λe7=>
    ae (aS s3 16) λ_=>
    ae (s2.toList[s3.toNat]?) λe9=>
    some (s2.setIfInBounds s3.toNat (cp e7 16))) (
    some s2)) λp5=>
   aM (cond ((cp s3 4)==0) (decide (s3 > 0)) false) λx10=>
   cond x10 (
    ae (aS s3 16) λ_=>
    ae (p5.toList[s3.toNat]?) λe12=>
    aM (U8 ((U8 (eg e12 4))*4)) λx13=>
    ae (aS s3 16) λ_=>
    ae (p5.toList[s3.toNat]?) λe15=>
    some (p5.setIfInBounds s3.toNat x13)) (
    some p5)) λp4=>
   kR N k p4 (I64 (s3+1))) (
   some s2)
def lD(N:Nat)(a0:(Vector Int 16)):Option ((Vector Int 16)):=
 ae (kR N N a0 0) λp1=>
 some p1
theorem aDY{N a0 r}(h:lD N a0=some r):FnM Tryz.prog 143 [] [(eA 16 1 k8 a0)] (eA 16 1 k8 r) []:=by
 refine Af cM Tryz.func143 h ?_;refine At.M 3 [1,2] 2 (λp1=>([],[(0,.var (eA 16 1 k8 p1))],[])) [1,2] 2 (CU2 (kR N)) (cu2 λs2 s3=>([(3,(j64 s3))],[(0,.var (eA 16 1 k8 s2))],[])) (_,_) N (λp1 k=>un2 λs2 s3=>?_) λp1=>?_
 ·refine At.c 2 ?_ ?_
  ·refine At.J 0 3 [1,2,3] 2 (λp4=>([],[(0,.var (eA 16 1 k8 p4))],[])) (λp4=>?_) λp4=>?_
   ·refine At.J 0 1 [1,2,3] 2 (λp5=>([],[(0,.var (eA 16 1 k8 p5))],[])) (λp5=>?_) λp5=>?_
    ·refine At.c 3 ?_ ?_
     ·refine At.B 2 bAr λu6=>?_;refine At.U 0 (bLd k8 0) λe7=>?_;refine At.B 1 bAr λu8=>?_;refine At.U 0 (bSv k8 0 (cp e7 16)) λe9=>?_;apply rt;exact At.jn 0
     ·apply rt;exact At.jn 0
    ·apply lx;intro x10;refine At.c 7 ?_ ?_
     ·refine At.B 2 bAr λu11=>?_;refine At.U 0 (bLd k8 0) λe12=>?_;apply lx;intro x13;refine At.B 2 bAr λu14=>?_;refine At.U 0 (bSv k8 0 x13) λe15=>?_;apply rt;exact At.jn 0
     ·apply rt;exact At.jn 0
   ·exact λh=>At.v 3 (_,_) h
  ·apply rt;exact At.x 0
 ·apply rt;exact At.r 2
def aDI : Nat->Bool:=imL [1]
def iZ(N:Nat)(a0:(Vector Int 17)):Nat->(Vector Int 5)->Int->Option ((Vector Int 5))
 | 0,_,_=>none
 | k+1,s2,s3=>
  cond (decide (s3 < 136)) (
   ae (ae (idx a0.toList (I64 (eg s3 8))) λe5=>
   ae (yR .u8 e5 (cp s3 8)) λx6=>
   aM (cond ((cI .u8 x6 1)==1) (decide (s3 < 130)) false) λx7=>
   cond x7 (
    ae (aS (I64 (eg s3 26)) 5) λ_=>
    ae (s2.toList[(I64 (eg s3 26)).toNat]?) λe9=>
    ae (aFP .i64 1 (cp s3 26)) λx10=>
    ae (aS (I64 (eg s3 26)) 5) λ_=>
    ae (s2.toList[(I64 (eg s3 26)).toNat]?) λe12=>
    some (s2.setIfInBounds ((I64 (eg s3 26)).toNat) (I64 (e9+x10)))) (
    some s2)) λp4=>
   iZ N a0 k p4 (I64 (s3+1))) (
   some s2)
def mQ(N:Nat)(a0:(Vector Int 17)):Option ((Vector Int 5)):=
 ae (iZ N a0 N (ai 5 0) 0) λp1=>
 some p1
theorem yX{N a0 r}(h:mQ N a0=some r):FnM Tryz.prog 144 [] [(eA 17 1 k8 a0)] (eA 5 1 j64 r) []:=by
 refine Af aDI Tryz.func144 h ?_;refine At.M 4 [2,3] 2 (λp1=>([],[(1,.var (eA 5 1 j64 p1))],[])) [1,2,3] 2 (CU2 (iZ N a0)) (cu2 λs2 s3=>([(4,(j64 s3))],[(1,.var (eA 5 1 j64 s2))],[])) (_,_) N (λp1 k=>un2 λs2 s3=>?_) λp1=>?_
 ·refine At.c 2 ?_ ?_
  ·refine At.J 0 2 [1,2,3,4] 2 (λp4=>([],[(1,.var (eA 5 1 j64 p4))],[])) (λp4=>?_) λp4=>?_
   ·refine At.B 2 (bAi k8) λe5=>?_;refine At.B 3 bSr λx6=>?_;apply lx;intro x7;refine At.c 6 ?_ ?_
    ·refine At.D 0 [] ?_;refine DD.B 4 bAr λu8=>?_;refine DD.l hT 0 j64 j64 0 λe9=>?_;refine DD.B 2 bSh λx10=>?_;refine DD.B 1 bAr λu11=>?_;refine DD.U 0 (bSv j64 0 (I64 (e9+x10))) λe12=>?_;refine De 0 ?_;apply rt;exact At.jn 0
    ·apply rt;exact At.jn 0
   ·exact λh=>At.v 3 (_,_) h
  ·apply rt;exact At.x 0
 ·apply rt;exact At.r 2
def xR(N:Nat)(a0:(List Int)):Option ((List Int)):=
 aM (decide (((a0.length:Int)) > 65536)) λx1=>
 cond x1 (
  ae (cR a0 0 65536) λs2=>
  some s2) (
  some a0)
theorem aEn{N a0 r}(h:xR N a0=some r):FnM Tryz.prog 169 [] [(eL 1 k8 a0)] (eL 1 k8 r) []:=by
 refine Af cM Tryz.func169 h ?_;apply lx;intro x1;refine At.c 4 ?_ ?_
 ·refine At.B 1 (bSl k8) λs2=>?_;apply rt;exact At.r 1
 ·apply rt;exact At.r 2
def fN(N:Nat)(s4:Int)(r1:(List Int)):Nat->(Vector Int 17)->Int->Option ((Vector Int 17)×Int)
 | 0,_,_=>none
 | k+1,s7,s8=>
  aM (decide ((I64 (s4+s8)) < ((r1.length:Int)))) λx9=>
  aM (cond (decide (s8 < 16)) x9 false) λx10=>
  cond x10 (
   ae (idx r1 (I64 (s4+s8))) λe11=>
   ae (aS s8 17) λ_=>
   ae (s7.toList[s8.toNat]?) λe13=>
   fN N s4 r1 k (s7.setIfInBounds s8.toNat e11) (I64 (s8+1))) (
   some ((s7,s8)))
def jD(N:Nat)(r1:(List Int)):Nat->(List (Vector Int 17))->Int->Option ((List (Vector Int 17)))
 | 0,_,_=>none
 | k+1,s3,s4=>
  aM (decide (s4 < ((r1.length:Int)))) λx5=>
  cond x5 (
   ae (fN N s4 r1 N (ai 17 0) 0) λp6=>
   ae (aS p6.2 17) λ_=>
   ae (p6.1.toList[p6.2.toNat]?) λe15=>
   ae (fT 17 s3 (([p6.1.setIfInBounds p6.2.toNat 1]:List (Vector Int 17)))) λz16=>
   jD N r1 k z16 (I64 (s4+16))) (
   some s3)
def rL(N:Nat)(a0:(List Int)):Option ((List (Vector Int 17))):=
 ae (xR N a0) λr1=>
 ae (jD N r1 N [] 0) λp2=>
 some p2
theorem aCK{N a0 r}(h:rL N a0=some r):FnM Tryz.prog 145 [] [(eL 1 k8 a0)] (eL 17 (eA 17 1 k8) r) []:=by
 refine Af cM Tryz.func145 h ?_;refine At.y 2 aEn λr1=>?_;refine At.ownn 3 3 17 ?_;refine At.M 0 [] 1 (λp2=>([(3,(eO 0 17 (eA 17 1 k8) p2))],[(0,.tail (p2.length*17))],[])) [0] 1 (CU2 (jD N r1)) (cu2 λs3 s4=>([(3,(eO 0 17 (eA 17 1 k8) s3)),(4,(j64 s4))],[(0,.tail (s3.length*17))],[])) (_,_) N (λp2 k=>un2 λs3 s4=>?_) λp2=>?_
 ·apply lx;intro x5;refine At.c 4 ?_ ?_
  ·refine At.M 2 [0,3,4,5] 2 (λp6=>([(6,(j64 p6.2))],[(1,.var (eA 17 1 k8 p6.1))],[])) [0,3,4,5] 2 (CU2 (fN N s4 r1)) (cu2 λs7 s8=>([(6,(j64 s8))],[(1,.var (eA 17 1 k8 s7))],[])) (_,_) N (λp6 k=>un2 λs7 s8=>?_) λp6=>?_
   ·apply lx;intro x9;apply lx;intro x10;refine At.c 10 ?_ ?_
    ·refine At.i hT 5 k8 λe11=>?_;refine At.B 1 bAr λu12=>?_;refine At.U 0 (bSv k8 0 e11) λe13=>?_;exact λh=>At.v 3 (_,_) h
    ·apply rt;exact At.x 0
   ·refine At.B 1 bAr λu14=>?_;refine At.U 0 (bSv k8 0 1) λe15=>?_;refine At.O 2 bRw ?_;refine At.U 0 (bAp (eA 17 1 k8)) λz16=>?_;exact λh=>At.v 4 (_,_) h
  ·apply rt;exact At.x 0
 ·apply rt;exact At.r 2
def bX(N:Nat)  : Nat->(Vector Int 5)->Int->Option ((Vector Int 5))
 | 0,_,_=>none
 | k+1,s5,s6=>
  cond (decide (s6 < 5)) (
   ae (ae (aS s6 5) λ_=>
   ae (s5.toList[s6.toNat]?) λe9=>
   ae (aS s6 5) λ_=>
   ae (s5.toList[s6.toNat]?) λe11=>
   aM (shl .i64 (shr .i64 e9 26) 26) λx12=>
   ae (aS s6 5) λ_=>
   ae (s5.toList[s6.toNat]?) λe14=>
   cond (decide (s6 < 4)) (
    ae (aS (I64 (s6+1)) 5) λ_=>
    ae ((s5.setIfInBounds s6.toNat (I64 (e11 - x12))).toList[(I64 (s6+1)).toNat]?) λe16=>
    aM (I64 (e16+(shr .i64 e9 26))) λx17=>
    ae (aS (I64 (s6+1)) 5) λ_=>
    ae ((s5.setIfInBounds s6.toNat (I64 (e11 - x12))).toList[(I64 (s6+1)).toNat]?) λe19=>
    some ((s5.setIfInBounds s6.toNat (I64 (e11 - x12))).setIfInBounds ((I64 (s6+1)).toNat) x17)) (
    ae (aS 0 5) λ_=>
    ae ((s5.setIfInBounds s6.toNat (I64 (e11 - x12))).toList[(ag 0)]?) λe21=>
    aM (I64 (5*(shr .i64 e9 26))) λx22=>
    ae (aS 0 5) λ_=>
    ae ((s5.setIfInBounds s6.toNat (I64 (e11 - x12))).toList[(ag 0)]?) λe24=>
    some ((s5.setIfInBounds s6.toNat (I64 (e11 - x12))).setIfInBounds ((ag 0)) (I64 (e21+x22))))) λp7=>
   bX N k p7 (I64 (s6+1))) (
   some s5)
def eW(N:Nat)  : Nat->(Vector Int 5)->Int->Option ((Vector Int 5))
 | 0,_,_=>none
 | k+1,s2,s3=>
  cond (decide (s3 < 3)) (
   ae (bX N N s2 0) λp4=>
   eW N k p4 (I64 (s3+1))) (
   some s2)
def nY(N:Nat)(a0:(Vector Int 5)):Option ((Vector Int 5)):=
 ae (eW N N a0 0) λp1=>
 some p1
theorem xK{N a0 r}(h:nY N a0=some r):FnM Tryz.prog 147 [] [(eA 5 1 j64 a0)] (eA 5 1 j64 r) []:=by
 refine Af cM Tryz.func147 h ?_;refine At.M 3 [1,2] 2 (λp1=>([],[(0,.var (eA 5 1 j64 p1))],[])) [1,2] 2 (CU2 (eW N)) (cu2 λs2 s3=>([(3,(j64 s3))],[(0,.var (eA 5 1 j64 s2))],[])) (_,_) N (λp1 k=>un2 λs2 s3=>?_) λp1=>?_
 ·refine At.c 2 ?_ ?_
  ·refine At.M 1 [1,2,3] 2 (λp4=>([],[(0,.var (eA 5 1 j64 p4))],[])) [1,2,3] 2 (CU2 (bX N)) (cu2 λs5 s6=>([(4,(j64 s6))],[(0,.var (eA 5 1 j64 s5))],[])) (_,_) N (λp4 k=>un2 λs5 s6=>?_) λp4=>?_
   ·refine At.c 2 ?_ ?_
    ·refine At.J 0 2 [1,2,3,4] 2 (λp7=>([],[(0,.var (eA 5 1 j64 p7))],[])) (λp7=>?_) λp7=>?_
     ·refine At.B 1 bAr λu8=>?_;refine At.U 0 (bLd j64 0) λe9=>?_;refine At.B 4 bAr λu10=>?_;refine At.U 0 (bLd j64 0) λe11=>?_;apply lx;intro x12;refine At.B 3 bAr λu13=>?_;refine At.U 0 (bSv j64 0 (I64 (e11 - x12))) λe14=>?_;refine At.c 2 ?_ ?_
      ·refine At.B 4 bAr λu15=>?_;refine At.U 0 (bLd j64 0) λe16=>?_;apply lx;intro x17;refine At.B 2 bAr λu18=>?_;refine At.U 0 (bSv j64 0 x17) λe19=>?_;apply rt;exact At.jn 0
      ·refine At.B 0 bAr λu20=>?_;refine At.U 0 (bLd j64 0) λe21=>?_;apply lx;intro x22;refine At.B 3 bAr λu23=>?_;refine At.U 0 (bSv j64 0 (I64 (e21+x22))) λe24=>?_;apply rt;exact At.jn 0
     ·exact λh=>At.v 3 (_,_) h
    ·apply rt;exact At.x 0
   ·exact λh=>At.v 3 (_,_) h
  ·apply rt;exact At.x 0
 ·apply rt;exact At.r 2
def aDt : Nat->Bool:=imL [2,3]
def aQ(N:Nat)(a0:(Vector Int 5))(s3:Int)(a1:(Vector Int 5)):Nat->(Vector Int 5)->Int->Option ((Vector Int 5))
 | 0,_,_=>none
 | k+1,s5,s6=>
  cond (decide (s6 < 5)) (
   ae (idx a0.toList s3) λe7=>
   ae (idx a1.toList s6) λe8=>
   ae (aM (decide ((I64 (s3+s6))>=5)) λx10=>
   cond x10 (
    aM (I64 (5*(I64 (e7*e8)))) λx11=>
    some x11) (
    some (I64 (e7*e8)))) λp9=>
   aM (cp (I64 (s3+s6)) 5) λx12=>
   aM (cp (I64 (s3+s6)) 5) λx13=>
   ae (aS x13 5) λ_=>
   ae (s5.toList[x13.toNat]?) λe15=>
   ae (aS x12 5) λ_=>
   ae (s5.toList[x12.toNat]?) λe17=>
   aQ N a0 s3 a1 k (s5.setIfInBounds x12.toNat (I64 (e15+p9))) (I64 (s6+1))) (
   some s5)
def cS(N:Nat)(a0 a1:(Vector Int 5)):Nat->(Vector Int 5)->Int->Option ((Vector Int 5))
 | 0,_,_=>none
 | k+1,s2,s3=>
  cond (decide (s3 < 5)) (
   ae (aQ N a0 s3 a1 N s2 0) λp4=>
   cS N a0 a1 k p4 (I64 (s3+1))) (
   some s2)
def sS(N:Nat)(a0 a1:(Vector Int 5)):Option ((Vector Int 5)):=
 ae (cS N a0 a1 N (ai 5 0) 0) λp1=>
 ae (nY N p1) λr18=>
 some r18
theorem aDJ{N a0 a1 r}(h:sS N a0 a1=some r):FnM Tryz.prog 146 [] [(eA 5 1 j64 a0),(eA 5 1 j64 a1)] (eA 5 1 j64 r) []:=by
 refine Af aDt Tryz.func146 h ?_;refine At.M 5 [4,5] 2 (λp1=>([],[(1,.var (eA 5 1 j64 p1))],[])) [2,3,4,5] 2 (CU2 (cS N a0 a1)) (cu2 λs2 s3=>([(6,(j64 s3))],[(1,.var (eA 5 1 j64 s2))],[])) (_,_) N (λp1 k=>un2 λs2 s3=>?_) λp1=>?_
 ·refine At.c 2 ?_ ?_
  ·refine At.M 1 [2,3,4,5,6] 2 (λp4=>([],[(1,.var (eA 5 1 j64 p4))],[])) [2,3,4,5,6] 2 (CU2 (aQ N a0 s3 a1)) (cu2 λs5 s6=>([(7,(j64 s6))],[(1,.var (eA 5 1 j64 s5))],[])) (_,_) N (λp4 k=>un2 λs5 s6=>?_) λp4=>?_
   ·refine At.c 2 ?_ ?_
    ·refine At.D 0 [] ?_;refine DD.B 1 (bAi j64) λe7=>?_;refine DD.B 2 (bAi j64) λe8=>?_;refine De 3 ?_;refine At.J 0 1 [2,3,4,5,6,7] 2 (λp9=>([(8,(j64 p9))],[],[])) (λp9=>?_) λp9=>?_
     ·apply lx;intro x10;refine At.c 4 ?_ ?_
      ·apply lx;intro x11;apply rt;exact At.jn 3
      ·apply rt;exact At.jn 0
     ·apply lx;intro x12;apply lx;intro x13;refine At.B 8 bAr λu14=>?_;refine At.U 0 (bLd j64 0) λe15=>?_;refine At.B 2 bAr λu16=>?_;refine At.U 0 (bSv j64 0 (I64 (e15+p9))) λe17=>?_;exact λh=>At.v 3 (_,_) h
    ·apply rt;exact At.x 0
   ·exact λh=>At.v 3 (_,_) h
  ·apply rt;exact At.x 0
 ·refine At.y 1 xK λr18=>?_;apply rt;exact At.r 1
def dG(N:Nat)  : Nat->(Vector Int 5)->Int->Option ((Vector Int 5))
 | 0,_,_=>none
 | k+1,s10,s11=>
  cond (decide (s11 < 4)) (
   ae (aS s11 5) λ_=>
   ae (s10.toList[s11.toNat]?) λe13=>
   ae (aS s11 5) λ_=>
   ae (s10.toList[s11.toNat]?) λe15=>
   aM (shl .i64 (shr .i64 e13 26) 26) λx16=>
   ae (aS s11 5) λ_=>
   ae (s10.toList[s11.toNat]?) λe18=>
   ae (aS (I64 (s11+1)) 5) λ_=>
   ae ((s10.setIfInBounds s11.toNat (I64 (e15 - x16))).toList[(I64 (s11+1)).toNat]?) λe20=>
   aM (I64 (e20+(shr .i64 e13 26))) λx21=>
   ae (aS (I64 (s11+1)) 5) λ_=>
   ae ((s10.setIfInBounds s11.toNat (I64 (e15 - x16))).toList[(I64 (s11+1)).toNat]?) λe23=>
   dG N k ((s10.setIfInBounds s11.toNat (I64 (e15 - x16))).setIfInBounds ((I64 (s11+1)).toNat) x21) (I64 (s11+1))) (
   some s10)
def dI(N:Nat)  : Nat->(Vector Int 5)->Int->Option ((Vector Int 5))
 | 0,_,_=>none
 | k+1,s2,s3=>
  cond (decide (s3 < 2)) (
   ae (ae (aS 0 5) λ_=>
   ae (s2.toList[(ag 0)]?) λe6=>
   ae (aS 0 5) λ_=>
   ae (s2.toList[(ag 0)]?) λe8=>
   ae (dG N N (s2.setIfInBounds ((ag 0)) (I64 (e6+5))) 0) λp9=>
   ae (aS 4 5) λ_=>
   ae (p9.toList[(ag 4)]?) λe25=>
   aM (decide (e25>=67108864)) λx26=>
   cond x26 (
    ae (aS 4 5) λ_=>
    ae (p9.toList[(ag 4)]?) λe28=>
    ae (aS 4 5) λ_=>
    ae (p9.toList[(ag 4)]?) λe30=>
    some ((p9.setIfInBounds ((ag 4)) (I64 (e28 - 67108864)),p9.setIfInBounds ((ag 4)) (I64 (e28 - 67108864))))) (
    some ((s2,p9)))) λp4=>
   dI N k p4.1 (I64 (s3+1))) (
   some s2)
def sL(N:Nat)(a0:(Vector Int 5)):Option ((Vector Int 5)):=
 ae (dI N N a0 0) λp1=>
 some p1
theorem aDF{N a0 r}(h:sL N a0=some r):FnM Tryz.prog 148 [] [(eA 5 1 j64 a0)] (eA 5 1 j64 r) []:=by
 refine Af cM Tryz.func148 h ?_;refine At.M 3 [1,2] 2 (λp1=>([],[(0,.var (eA 5 1 j64 p1))],[])) [1,2] 2 (CU2 (dI N)) (cu2 λs2 s3=>([(3,(j64 s3))],[(0,.var (eA 5 1 j64 s2))],[])) (_,_) N (λp1 k=>un2 λs2 s3=>?_) λp1=>?_
 ·refine At.c 2 ?_ ?_
  ·refine At.J 0 2 [1,2,3] 2 (λp4=>([],[(0,.var (eA 5 1 j64 p4.1))],[.var (eA 5 1 j64 p4.2)])) (λp4=>?_) λp4=>?_
   ·refine At.B 3 bAr λu5=>?_;refine At.U 0 (bLd j64 0) λe6=>?_;refine At.B 1 bAr λu7=>?_;refine At.U 0 (bSv j64 0 (I64 (e6+5))) λe8=>?_;refine At.M 1 [1,2,3,4] 3 (λp9=>([],[(2,.var (eA 5 1 j64 p9))],[])) [1,2,3,4] 3 (CU2 (dG N)) (cu2 λs10 s11=>([(5,(j64 s11))],[(2,.var (eA 5 1 j64 s10))],[])) (_,_) N (λp9 k=>un2 λs10 s11=>?_) λp9=>?_
    ·refine At.c 2 ?_ ?_
     ·refine At.B 1 bAr λu12=>?_;refine At.U 0 (bLd j64 0) λe13=>?_;refine At.B 4 bAr λu14=>?_;refine At.U 0 (bLd j64 0) λe15=>?_;apply lx;intro x16;refine At.B 3 bAr λu17=>?_;refine At.U 0 (bSv j64 0 (I64 (e15 - x16))) λe18=>?_;refine At.B 4 bAr λu19=>?_;refine At.U 0 (bLd j64 0) λe20=>?_;apply lx;intro x21;refine At.B 2 bAr λu22=>?_;refine At.U 0 (bSv j64 0 x21) λe23=>?_;exact λh=>At.v 3 (_,_) h
     ·apply rt;exact At.x 0
    ·refine At.B 0 bAr λu24=>?_;refine At.U 0 (bLd j64 0) λe25=>?_;apply lx;intro x26;refine At.c 1 ?_ ?_
     ·refine At.B 0 bAr λu27=>?_;refine At.U 0 (bLd j64 0) λe28=>?_;refine At.B 1 bAr λu29=>?_;refine At.U 0 (bSv j64 0 (I64 (e28 - 67108864))) λe30=>?_;apply rt;exact At.jn 2
     ·apply rt;exact At.jn 0
   ·exact λh=>At.v 3 (_,_) h
  ·apply rt;exact At.x 0
 ·apply rt;exact At.r 2
def aGL : Nat->Bool:=imL [2]
def kE(N:Nat)(a0:(Vector Int 32)):Nat->(Vector Int 16)->Int->Option ((Vector Int 16))
 | 0,_,_=>none
 | k+1,s2,s3=>
  cond (decide (s3 < 16)) (
   ae (idx a0.toList s3) λe4=>
   ae (aS s3 16) λ_=>
   ae (s2.toList[s3.toNat]?) λe6=>
   kE N a0 k (s2.setIfInBounds s3.toNat e4) (I64 (s3+1))) (
   some s2)
def jV(N:Nat)(r7:(Vector Int 16)):Nat->(Vector Int 17)->Int->Option ((Vector Int 17))
 | 0,_,_=>none
 | k+1,s9,s10=>
  cond (decide (s10 < 16)) (
   ae (aS s10 16) λ_=>
   ae (r7.toList[s10.toNat]?) λe12=>
   ae (aS s10 17) λ_=>
   ae (s9.toList[s10.toNat]?) λe14=>
   jV N r7 k (s9.setIfInBounds s10.toNat e12) (I64 (s10+1))) (
   some s9)
def dL(N:Nat)(s18:(Vector Int 5)):Nat->(Vector Int 5)->Int->Option ((Vector Int 5))
 | 0,_,_=>none
 | k+1,s24,s25=>
  cond (decide (s25 < 5)) (
   ae (aS s25 5) λ_=>
   ae (s24.toList[s25.toNat]?) λe27=>
   ae (aS s25 5) λ_=>
   ae (s18.toList[s25.toNat]?) λe29=>
   ae (aS s25 5) λ_=>
   ae (s24.toList[s25.toNat]?) λe31=>
   dL N s18 k (s24.setIfInBounds s25.toNat (I64 (e27+e29))) (I64 (s25+1))) (
   some s24)
def mY(N:Nat)(r16:(List (Vector Int 17)))(r15:(Vector Int 5)):Nat->(Vector Int 5)->Int->Option ((Vector Int 5))
 | 0,_,_=>none
 | k+1,s18,s19=>
  aM (decide (s19 < ((r16.length:Int)))) λx20=>
  cond x20 (
   ae (idx r16 s19) λe21=>
   ae (mQ N e21) λr22=>
   ae (dL N s18 N r22 0) λp23=>
   ae (nY N p23) λr32=>
   ae (sS N r32 r15) λr33=>
   mY N r16 r15 k r33 (I64 (s19+1))) (
   some s18)
def hO(N:Nat)(s38:Int)(r34:(Vector Int 5)):Nat->Int->Int->Option (Int)
 | 0,_,_=>none
 | k+1,s41,s42=>
  cond (decide (s42 < 8)) (
   aM (I64 ((I64 (8*s38))+s42)) λx43=>
   ae (aS (I64 (eg x43 26)) 5) λ_=>
   ae (r34.toList[(I64 (eg x43 26)).toNat]?) λe45=>
   ae (yR .i64 e45 (cp x43 26)) λx46=>
   ae (aFP .i64 (cI .i64 x46 1) s42) λx47=>
   hO N s38 r34 k (I64 (s41+x47)) (I64 (s42+1))) (
   some s41)
def jY(N:Nat)(a0:(Vector Int 32))(r34:(Vector Int 5)):Nat->(Vector Int 16)->Int->Int->Option ((Vector Int 16))
 | 0,_,_,_=>none
 | k+1,s36,s37,s38=>
  cond (decide (s38 < 16)) (
   ae (idx a0.toList (I64 (16+s38))) λe39=>
   ae (hO N s38 r34 N (I64 ((I64 e39)+s37)) 0) λp40=>
   ae (aS s38 16) λ_=>
   ae (s36.toList[s38.toNat]?) λe49=>
   jY N a0 r34 k (s36.setIfInBounds s38.toNat (U8 p40)) (shr .i64 p40 8) (I64 (s38+1))) (
   some s36)
def vJ(N:Nat)(a0:(Vector Int 32))(a1:(List Int)):Option ((Vector Int 16)):=
 ae (kE N a0 N (ai 16 0) 0) λp1=>
 ae (lD N p1) λr7=>
 ae (jV N r7 N (ai 17 0) 0) λp8=>
 ae (mQ N p8) λr15=>
 ae (rL N a1) λr16=>
 ae (mY N r16 r15 N (ai 5 0) 0) λp17=>
 ae (sL N p17) λr34=>
 ae (jY N a0 r34 N (ai 16 0) 0 0) λp35=>
 some p35
theorem aE2{N a0 a1 r}(h:vJ N a0 a1=some r):FnM Tryz.prog 105 [] [(eA 32 1 k8 a0),(eL 1 k8 a1)] (eA 16 1 k8 r) []:=by
 refine Af aGL Tryz.func105 h ?_;refine At.M 4 [1,2,4,5] 2 (λp1=>([],[(1,.var (eA 16 1 k8 p1))],[])) [1,2,4,5] 2 (CU2 (kE N a0)) (cu2 λs2 s3=>([(6,(j64 s3))],[(1,.var (eA 16 1 k8 s2))],[])) (_,_) N (λp1 k=>un2 λs2 s3=>?_) λp1=>?_
 ·refine At.c 2 ?_ ?_
  ·refine At.B 2 (bAi k8) λe4=>?_;refine At.B 1 bAr λu5=>?_;refine At.U 0 (bSv k8 0 e4) λe6=>?_;exact λh=>At.v 3 (_,_) h
  ·apply rt;exact At.x 0
 ·refine At.y 1 aDY λr7=>?_;refine At.M 3 [1,2,4,7] 3 (λp8=>([],[(2,.var (eA 17 1 k8 p8))],[])) [1,2,4,5,7] 3 (CU2 (jV N r7)) (cu2 λs9 s10=>([(8,(j64 s10))],[(2,.var (eA 17 1 k8 s9))],[])) (_,_) N (λp8 k=>un2 λs9 s10=>?_) λp8=>?_
  ·refine At.c 2 ?_ ?_
   ·refine At.B 2 bAr λu11=>?_;refine At.U 0 (bLd k8 0) λe12=>?_;refine At.B 0 bAr λu13=>?_;refine At.U 0 (bSv k8 0 e12) λe14=>?_;exact λh=>At.v 3 (_,_) h
   ·apply rt;exact At.x 0
  ·refine At.y 1 yX λr15=>?_;refine At.y 4 aCK λr16=>?_;refine At.M 2 [2,4,10] 5 (λp17=>([],[(4,.var (eA 5 1 j64 p17))],[])) [2,4,9,10,11] 5 (CU2 (mY N r16 r15)) (cu2 λs18 s19=>([(12,(j64 s19))],[(4,.var (eA 5 1 j64 s18))],[])) (_,_) N (λp17 k=>un2 λs18 s19=>?_) λp17=>?_
   ·apply lx;intro x20;refine At.c 4 ?_ ?_
    ·refine At.i hT 2 (eA 17 1 k8) λe21=>?_;refine At.y 1 yX λr22=>?_;refine At.M 3 [2,4,9,10,11,12,13] 6 (λp23=>([],[(5,.var (eA 5 1 j64 p23))],[])) [2,4,9,10,11,12,13] 6 (CU2 (dL N s18)) (cu2 λs24 s25=>([(14,(j64 s25))],[(5,.var (eA 5 1 j64 s24))],[])) (_,_) N (λp23 k=>un2 λs24 s25=>?_) λp23=>?_
     ·refine At.c 2 ?_ ?_
      ·refine At.D 0 [] ?_;refine DD.B 2 bAr λu26=>?_;refine DD.l hT 0 j64 j64 0 λe27=>?_;refine DD.B 1 bAr λu28=>?_;refine DD.l hT 0 j64 j64 0 λe29=>?_;refine DD.B 1 bAr λu30=>?_;refine DD.U 0 (bSv j64 0 (I64 (e27+e29))) λe31=>?_;refine De 0 ?_;exact λh=>At.v 3 (_,_) h
      ·apply rt;exact At.x 0
     ·refine At.D 0 [] ?_;refine DD.y 1 xK λr32=>?_;refine DD.y 1 aDJ λr33=>?_;refine De 1 ?_;exact λh=>At.v 3 (_,_) h
    ·apply rt;exact At.x 0
   ·refine At.y 1 aDF λr34=>?_;refine At.M 4 [4,15] 6 (λp35=>([],[(5,.var (eA 16 1 k8 p35))],[])) [2,4,10,15] 6 (CU3 (jY N a0 r34)) (cu3 λs36 s37 s38=>([(16,(j64 s37)),(17,(j64 s38))],[(5,.var (eA 16 1 k8 s36))],[])) (_,_,_) N (λp35 k=>un3 λs36 s37 s38=>?_) λp35=>?_
    ·refine At.c 2 ?_ ?_
     ·refine At.B 2 (bAi k8) λe39=>?_;refine At.M 6 [2,4,10,15,17] 6 (λp40=>([(18,(j64 p40))],[],[])) [2,4,10,15,17] 6 (CU2 (hO N s38 r34)) (cu2 λs41 s42=>([(18,(j64 s41)),(19,(j64 s42))],[],[])) (_,_) N (λp40 k=>un2 λs41 s42=>?_) λp40=>?_
      ·refine At.c 2 ?_ ?_
       ·apply lx;intro x43;refine At.B 8 bAr λu44=>?_;refine At.U 0 (bLd j64 0) λe45=>?_;refine At.B 2 bSr λx46=>?_;refine At.B 2 bSh λx47=>?_;exact λh=>At.v 5 (_,_) h
       ·apply rt;exact At.x 0
      ·refine At.B 3 bAr λu48=>?_;refine At.U 0 (bSv k8 0 (U8 p40)) λe49=>?_;exact λh=>At.v 6 (_,_,_) h
     ·apply rt;exact At.x 0
    ·apply rt;exact At.r 2
def aGG : Nat->Bool:=imL [4,5]
def rS(N:Nat)(a0:(Vector Int 32))(a1:(Vector Int 12))(a2 a3:(List Int)):Option ((Vector Int 16)):=
 ae (oR N a2) λr1=>
 ae (oR N a3) λr2=>
 ae (fT 1 r1 r2) λz3=>
 ae (mX N ((a2.length:Int))) λr4=>
 ae (fT 1 z3 r4) λz5=>
 ae (vI N a0 a1) λr6=>
 ae (mX N ((a3.length:Int))) λr7=>
 ae (fT 1 z5 r7) λz8=>
 ae (vJ N r6 z8) λr9=>
 some r9
theorem aFB{N a0 a1 a2 a3 r}(h:rS N a0 a1 a2 a3=some r):FnM Tryz.prog 64 [] [(eA 32 1 k8 a0),(eA 12 1 k8 a1),(eL 1 k8 a2),(eL 1 k8 a3)] (eA 16 1 k8 r) []:=by
 refine Af aGG Tryz.func64 h ?_;refine At.Y 4 [] zD λr1=>?_;refine At.Y 1 [] zD λr2=>?_;refine At.U 0 (bAp k8) λz3=>?_;refine At.y 4 zB λr4=>?_;refine At.U 0 (bAp k8) λz5=>?_;refine At.y 3 aE7 λr6=>?_;refine At.y 3 zB λr7=>?_;refine At.U 0 (bAp k8) λz8=>?_;refine At.y 0 aE2 λr9=>?_;apply rt;exact At.r 1
def aDT : Nat->Bool:=imL [4,6]
def dV(N:Nat)(s5 p1:Int)(r6:(Vector Int 64)):Nat->(List Int)->Int->Option ((List Int))
 | 0,_,_=>none
 | k+1,s8,s9=>
  aM (decide ((I64 (s5+s9)) < p1)) λx10=>
  aM (cond (decide (s9 < 64)) x10 false) λx11=>
  cond x11 (
   ae (aS s9 64) λ_=>
   ae (r6.toList[s9.toNat]?) λe13=>
   ae (fT 1 s8 (([e13]:List Int))) λz14=>
   dV N s5 p1 r6 k z14 (I64 (s9+1))) (
   some s8)
def mM(N:Nat)(p1:Int)(a0:(Vector Int 32))(a2:(Vector Int 12)):Nat->(List Int)->Int->Int->Option ((List Int))
 | 0,_,_,_=>none
 | k+1,s3,s4,s5=>
  cond (decide (s5 < p1)) (
   ae (pY N a0 s4 a2) λr6=>
   ae (dV N s5 p1 r6 N s3 0) λp7=>
   mM N p1 a0 a2 k p7 (U32 (s4+1)) (I64 (s5+64))) (
   some s3)
def rE(N:Nat)(a0:(Vector Int 32))(a1:Int)(a2:(Vector Int 12))(a3:Int):Option ((List Int)):=
 ae (cond (decide (a3 > 65536)) (some 65536) (some a3)) λp1=>
 ae (mM N p1 a0 a2 N [] a1 0) λp2=>
 some p2
theorem aCm{N a0 a1 a2 a3 r}(h:rE N a0 a1 a2 a3=some r):FnM Tryz.prog 107 [] [(eA 32 1 k8 a0),(k32 a1),(eA 12 1 k8 a2),(j64 a3)] (eL 1 k8 r) []:=by
 refine Af aDT Tryz.func107 h ?_;refine At.J 3 1 [1,4,6] 0 (λp1=>([(3,(j64 p1))],[],[])) (λp1=>?_) λp1=>?_
 ·refine At.c 2 ?_ ?_
  ·apply rt;exact At.jn 1
  ·apply rt;exact At.jn 0
 ·refine At.ownn 2 9 1 ?_;refine At.M 0 [] 1 (λp2=>([(9,(eO 0 1 k8 p2))],[(0,.tail (p2.length*1))],[])) [3,4,6] 1 (CU3 (mM N p1 a0 a2)) (cu3 λs3 s4 s5=>([(1,(k32 s4)),(9,(eO 0 1 k8 s3)),(10,(j64 s5))],[(0,.tail (s3.length*1))],[])) (_,_,_) N (λp2 k=>un3 λs3 s4 s5=>?_) λp2=>?_
  ·refine At.c 3 ?_ ?_
   ·refine At.y 3 zU λr6=>?_;refine At.M 3 [1,3,4,6,10] 2 (λp7=>([(9,(eO 0 1 k8 p7))],[(0,.tail (p7.length*1))],[])) [1,3,4,6,10,11] 2 (CU2 (dV N s5 p1 r6)) (cu2 λs8 s9=>([(9,(eO 0 1 k8 s8)),(12,(j64 s9))],[(0,.tail (s8.length*1))],[])) (_,_) N (λp7 k=>un2 λs8 s9=>?_) λp7=>?_
    ·apply lx;intro x10;apply lx;intro x11;refine At.c 9 ?_ ?_
     ·refine At.B 2 bAr λu12=>?_;refine At.U 0 (bLd k8 0) λe13=>?_;refine At.O 0 bRw ?_;refine At.U 0 (bAp k8) λz14=>?_;exact λh=>At.v 4 (_,_) h
     ·apply rt;exact At.x 0
    ·exact λh=>At.v 6 (_,_,_) h
   ·apply rt;exact At.x 0
  ·apply rt;exact At.r 2
def aF7 : Nat->Bool:=imL [4,6]
def hZ(N:Nat)(p1 r4:(List Int)):Nat->(List Int)->Int->Option ((List Int))
 | 0,_,_=>none
 | k+1,s6,s7=>
  aM (decide (s7 < ((p1.length:Int)))) λx8=>
  cond x8 (
   ae (idx p1 s7) λe9=>
   ae (idx r4 s7) λe10=>
   ae (fT 1 s6 (([eT .u8 e9 e10]:List Int))) λz11=>
   hZ N p1 r4 k z11 (I64 (s7+1))) (
   some s6)
def rX(N:Nat)(a0:(Vector Int 32))(a1:Int)(a2:(Vector Int 12))(a3:(List Int)):Option ((List Int)):=
 ae (aM (decide (((a3.length:Int)) > 65536)) λx2=>
 cond x2 (
  ae (cR a3 0 65536) λs3=>
  some s3) (
  some a3)) λp1=>
 ae (rE N a0 a1 a2 ((p1.length:Int))) λr4=>
 ae (hZ N p1 r4 N [] 0) λp5=>
 some p5
theorem aE1{N a0 a1 a2 a3 r}(h:rX N a0 a1 a2 a3=some r):FnM Tryz.prog 65 [] [(eA 32 1 k8 a0),(k32 a1),(eA 12 1 k8 a2),(eL 1 k8 a3)] (eL 1 k8 r) []:=by
 refine Af aF7 Tryz.func65 h ?_;refine At.J 3 1 [1,4,6] 0 (λp1=>([(3,(eL 1 k8 p1))],[],[])) (λp1=>?_) λp1=>?_
 ·apply lx;intro x2;refine At.c 3 ?_ ?_
  ·refine At.B 1 (bSl k8) λs3=>?_;apply rt;exact At.jn 1
  ·apply rt;exact At.jn 0
 ·refine At.y 5 aCm λr4=>?_;refine At.ownn 3 10 1 ?_;refine At.M 0 [] 1 (λp5=>([(10,(eO 0 1 k8 p5))],[(0,.tail (p5.length*1))],[])) [3,9] 1 (CU2 (hZ N p1 r4)) (cu2 λs6 s7=>([(10,(eO 0 1 k8 s6)),(11,(j64 s7))],[(0,.tail (s6.length*1))],[])) (_,_) N (λp5 k=>un2 λs6 s7=>?_) λp5=>?_
  ·apply lx;intro x8;refine At.c 4 ?_ ?_
   ·refine At.D 0 [] ?_;refine DD.i hT 3 k8 λe9=>?_;refine DD.i hT 3 k8 λe10=>?_;refine DD.O 2 bRw ?_;refine DD.U 0 (bAp k8) λz11=>?_;refine De 1 ?_;exact λh=>At.v 3 (_,_) h
   ·apply rt;exact At.x 0
  ·apply rt;exact At.r 2
def aEb : Nat->Bool:=imL [4,5]
def iT(N:Nat)(r5:(Vector Int 16))(a3:(List Int))(x1:Int):Nat->Int->Option (Sum (Unit) ((List Int)×Int))
 | 0,_=>none
 | k+1,s7=>
  cond (decide (s7 < 16)) (
   ae (aS s7 16) λ_=>
   ae (r5.toList[s7.toNat]?) λe9=>
   ae (idx a3 (I64 (x1+s7))) λe10=>
   cond (e9 != e10) (
    some (Sum.inr (([],6)))) (
    iT N r5 a3 x1 k (I64 (s7+1)))) (
   some (Sum.inl (())))
def oH(N:Nat)(a0:(Vector Int 32))(a1:(Vector Int 12))(a2 a3:(List Int)):Option ((List Int)×Int):=
 aM (I64 (((a3.length:Int)) - 16)) λx1=>
 cond (decide (x1 < 0)) (
  some (([],4))) (
  aM (decide (((a2.length:Int)) > 16384)) λx2=>
  aM (cond x2 true (decide (x1 > 16384))) λx3=>
  cond x3 (
   some (([],3))) (
   ae (cR a3 0 x1) λs4=>
   ae (rS N a0 a1 a2 s4) λr5=>
   ae (iT N r5 a3 x1 N 0) λo=>mZ o (λp6=>
    ae (cR a3 0 x1) λs11=>
    ae (rX N a0 1 a1 s11) λr12=>
    some ((r12,0))) (λr=>some r)))
theorem aAb{N a0 a1 a2 a3 r}(h:oH N a0 a1 a2 a3=some r):FnM Tryz.prog 41 [] [(eA 32 1 k8 a0),(eA 12 1 k8 a1),(eL 1 k8 a2),(eL 1 k8 a3)] (.tup [(eL 1 k8 r.1),(j64 r.2)]) []:=by
 refine Af aEb Tryz.func41 h ?_;apply lx;intro x1;refine At.c 10 ?_ ?_
 ·apply rt;exact At.r 2
 ·apply lx;intro x2;apply lx;intro x3;refine At.c 7 ?_ ?_
  ·apply rt;exact At.r 2
  ·refine At.D 0 [] ?_;refine DD.B 5 (bSl k8) λs4=>?_;refine DD.y 0 aFB λr5=>?_;refine De 2 ?_;refine At.MS 1 [3,4,5,10] 1 (λp6=>([],[],[])) [3,4,5,10,11] 1 (iT N r5 a3 x1) (λ(s7:Int)=>([(12,(j64 s7))],[],[])) _ N (λop6 g6 k s7=>?_) λp6=>?_
   ·refine At.c 2 ?_ ?_
    ·refine At.D 0 [] ?_;refine DD.B 1 bAr λu8=>?_;refine DD.l hT 0 k8 k8 0 λe9=>?_;refine DD.i hT 4 k8 λe10=>?_;refine De 2 ?_;refine At.c 0 ?_ ?_
     ·intro e;apply wH g6 e;exact At.r 2
     ·exact λh=>At.v 3 _ h
    ·apply rt;exact At.xs 0
   ·refine At.D 0 [] ?_;refine DD.B 4 (bSl k8) λs11=>?_;refine DD.y 0 aE1 λr12=>?_;refine De 2 ?_;apply rt;exact At.r 0
def eH(N:Nat)(a0:Int)(a1:aD):Option (Int×Int×(List Int)):=
 ae (aM (cond (a1.gE==0) (decide (a0 < 0)) false) λx2=>
 cond x2 (some 2) (some a1.gE)) λp1=>
 ae (ae (cond (p1==0) (
  aM (I64 (((a1.gB.length:Int)) - a1.gAt)) λx5=>
  some (decide (a0 > x5))) (
  some false)) λp4=>
 cond p4 (some 4) (some p1)) λp3=>
 cond (p3 != 0) (
  some ((a1.gAt,p3,[]))) (
  aM (I64 ((I64 (a1.gAt+a0)) - a0)) λx6=>
  ae (cR a1.gB x6 (I64 (a1.gAt+a0))) λs7=>
  some ((I64 (a1.gAt+a0),p3,s7)))
theorem zO{N a0 a1 r}(h:eH N a0 a1=some r):FnM Tryz.prog 110 [.var (aD.enc a1)] [(.ref 0 [] 0),(j64 a0)] (eL 1 k8 r.2.2) [.var (.st 3 [(eL 1 k8 a1.gB),(j64 r.1),(j64 r.2.1)])]:=by
 refine Af cM Tryz.func110 h ?_;refine At.J 1 1 [0,1] 1 (λp1=>([],[(0,.var (.st 3 [(eL 1 k8 a1.gB),(j64 a1.gAt),(j64 p1)]))],[])) (λp1=>?_) λp1=>?_
 ·apply lx;intro x2;refine At.c 9 ?_ ?_
  ·apply rt;exact At.jn 4
  ·apply rt;exact At.jn 0
 ·refine At.J 0 1 [0,1] 1 (λp3=>([],[(0,.var (.st 3 [(eL 1 k8 a1.gB),(j64 a1.gAt),(j64 p3)]))],[])) (λp3=>?_) λp3=>?_
  ·refine At.J 0 0 [0,1] 1 (λp4=>([(35,(eB p4))],[],[])) (λp4=>?_) λp4=>?_
   ·refine At.D 0 [] ?_;refine DD.s hT 6 ?_ ?_
    ·apply lx;intro x5;refine De 13 ?_;apply rt;exact At.jn 0
    ·refine De 13 ?_;apply rt;exact At.jn 0
   ·refine At.c 0 ?_ ?_
    ·apply rt;exact At.jn 4
    ·apply rt;exact At.jn 0
  ·refine At.c 5 ?_ ?_
   ·apply rt;exact At.r 1
   ·refine At.D 10 [] ?_;apply lx;intro x6;refine DD.B 14 (bSl k8) λs7=>?_;refine De 1 ?_;apply rt;exact At.r 0
def dJ(N:Nat)(r4:Int×Int×(List Int)):Nat->Int->Int->Option (Int)
 | 0,_,_=>none
 | k+1,s7,s8=>
  cond (decide (s8>=0)) (
   ae (idx r4.2.2 s8) λe9=>
   aM (U64 ((U64 (s7*256))+(U64 e9))) λx10=>
   dJ N r4 k x10 (I64 (s8 - 1))) (
   some s7)
def aF(N:Nat)(a0:Int)(a1:aD):Option ((List Int)×Int×Int×Int):=
 ae (ae (cond (a1.gE==0) (
  aM (cond (decide (a0 < 1)) true (decide (a0 > 8))) λx3=>
  some x3) (
  some false)) λp2=>
 cond p2 (some 2) (some a1.gE)) λp1=>
 ae (eH N (uK a0 0) (aD.mk a1.gB a1.gAt p1)) λr4=>
 aM (I64 (((r4.2.2.length:Int)) - 1)) λx5=>
 ae (dJ N r4 N 0 x5) λp6=>
 some (((aD.mk a1.gB a1.gAt p1).gB,r4.1,r4.2.1,p6))
theorem aR{N a0 a1 r}(h:aF N a0 a1=some r):FnM Tryz.prog 68 [.var (aD.enc a1)] [(.ref 0 [] 0),(j64 a0)] (k64 r.2.2.2) [.var (.st 3 [(eL 1 k8 r.1),(j64 r.2.1),(j64 r.2.2.1)])]:=by
 refine Af cM Tryz.func68 h ?_;refine At.J 1 1 [0,1] 1 (λp1=>([],[(0,.var (.st 3 [(eL 1 k8 a1.gB),(j64 a1.gAt),(j64 p1)]))],[])) (λp1=>?_) λp1=>?_
 ·refine At.J 0 0 [0,1] 1 (λp2=>([(20,(eB p2))],[],[])) (λp2=>?_) λp2=>?_
  ·refine At.s 13 6 ?_ ?_
   ·apply lx;intro x3;refine At.g [13] 7 ?_;apply rt;exact At.jn 0
   ·refine At.g [13,16] 7 ?_;apply rt;exact At.jn 0
  ·refine At.c 0 ?_ ?_
   ·apply rt;exact At.jn 4
   ·apply rt;exact At.jn 0
 ·refine At.Y 3 [0] zO λr4=>?_;apply lx;intro x5;refine At.M 6 [] 1 (λp6=>([(6,(k64 p6))],[],[])) [5] 1 (CU2 (dJ N r4)) (cu2 λs7 s8=>([(6,(k64 s7)),(7,(j64 s8))],[],[])) (_,_) N (λp6 k=>un2 λs7 s8=>?_) λp6=>?_
  ·refine At.c 2 ?_ ?_
   ·refine At.i hT 4 k8 λe9=>?_;apply lx;intro x10;exact λh=>At.v 7 (_,_) h
   ·apply rt;exact At.x 0
  ·apply rt;exact At.r 2
def jO(N:Nat)(a0:Int):Option (Int):=
 cond (a0==1) (
  some 2048) (
  cond (a0==2) (
   some 1024) (
   ae (cond (a0==3) (some (a0==3)) (some (a0==4))) λp1=>
   cond p1 (some 64) (some 0)))
theorem wZ{N a0 r}(h:jO N a0=some r):FnM Tryz.prog 117 [] [(j64 a0)] (j64 r) []:=by
 refine Af cM Tryz.func117 h ?_;refine At.c 4 ?_ ?_
 ·apply rt;exact At.r 1
 ·refine At.c 2 ?_ ?_
  ·apply rt;exact At.r 1
  ·refine At.J 0 1 [] 0 (λp1=>([(8,(eB p1))],[],[])) (λp1=>?_) λp1=>?_
   ·refine At.c 2 ?_ ?_
    ·apply rt;exact At.jn 0
    ·apply rt;exact At.jn 2
   ·refine At.c 0 ?_ ?_
    ·apply rt;exact At.r 1
    ·apply rt;exact At.r 1
def jG(N:Nat)(a0:Int):Nat->Int->Option (Int)
 | 0,_=>none
 | k+1,s2=>
  aM (decide (a0 > (I64 (256*s2)))) λx3=>
  aM (cond x3 (decide (s2 < 1000)) false) λx4=>
  cond x4 (jG N a0 k (I64 (s2+1))) (some s2)
def rJ(N:Nat)(a0:Int):Option (Int):=
 ae (jG N a0 N 0) λp1=>
 ae (aM (decide (a0 > (I64 (256*p1)))) λx6=>
 cond x6 (
  aM (nE (cp a0 256) 1) λx7=>
  aM (I64 ((I64 (eg a0 256))+x7)) λx8=>
  some x8) (
  some p1)) λp5=>
 some p5
theorem aCe{N a0 r}(h:rJ N a0=some r):FnM Tryz.prog 142 [] [(j64 a0)] (j64 r) []:=by
 refine Af cM Tryz.func142 h ?_;refine At.M 2 [0] 0 (λp1=>([(3,(j64 p1))],[],[])) [0] 0 (jG N a0) (λ(s2:Int)=>([(3,(j64 s2))],[],[])) _ N (λp1 k s2=>?_) λp1=>?_
 ·apply lx;intro x3;apply lx;intro x4;refine At.c 8 ?_ ?_
  ·exact λh=>At.v 3 _ h
  ·apply rt;exact At.x 0
 ·refine At.J 0 1 [] 0 (λp5=>([(3,(j64 p5))],[],[])) (λp5=>?_) λp5=>?_
  ·apply lx;intro x6;refine At.c 4 ?_ ?_
   ·apply lx;intro x7;apply lx;intro x8;apply rt;exact At.jn 7
   ·apply rt;exact At.jn 0
  ·apply rt;exact At.r 2
def aDw : Nat->Bool:=imL [1]
def iB(N:Nat)(a0:aE):Nat->Int->Option (Sum (Unit) (Int))
 | 0,_=>none
 | k+1,s3=>
  cond (decide (s3 < 8)) (
   ae (idx a0.gA2.toList s3) λe4=>
   cond (decide (e4>=16)) (
    some (Sum.inr 5)) (
    iB N a0 k (I64 (s3+1)))) (
   some (Sum.inl (())))
def tB(N:Nat)(a0:aE):Option (Int):=
 ae (jO N a0.gA) λr1=>
 cond (r1==0) (
  some 12) (
  ae (iB N a0 N 0) λo=>mZ o (λp2=>
   aM (decide (a0.gQ > a0.gTo)) λx5=>
   aM (cond x5 true (decide (a0.gT < 1))) λx6=>
   cond x6 (
    some 5) (
    ae (jO N a0.gA) λr7=>
    cond (decide (a0.gT > r7)) (
     some 9) (
     ae (rJ N a0.gT) λr8=>
     cond (a0.gA0 != r8) (some 5) (some 0)))) (λr=>some r))
theorem aDR{N a0 r}(h:tB N a0=some r):FnM Tryz.prog 102 [] [(aE.enc a0)] (j64 r) []:=by
 refine Af aDw Tryz.func102 h ?_;refine At.y 4 wZ λr1=>?_;refine At.c 1 ?_ ?_
 ·apply rt;exact At.r 1
 ·refine At.MS 1 [1] 0 (λp2=>([],[],[])) [1] 0 (iB N a0) (λ(s3:Int)=>([(3,(j64 s3))],[],[])) _ N (λop2 g2 k s3=>?_) λp2=>?_
  ·refine At.c 2 ?_ ?_
   ·refine At.B 2 (bAi k8) λe4=>?_;refine At.c 2 ?_ ?_
    ·intro e;apply wH g2 e;exact At.r 1
    ·exact λh=>At.v 3 _ h
   ·apply rt;exact At.xs 0
  ·apply lx;intro x5;apply lx;intro x6;refine At.c 10 ?_ ?_
   ·apply rt;exact At.r 1
   ·refine At.D 0 [] ?_;refine DD.y 4 wZ λr7=>?_;refine De 1 ?_;refine At.c 0 ?_ ?_
    ·apply rt;exact At.r 1
    ·refine At.D 0 [] ?_;refine DD.y 4 aCe λr8=>?_;refine De 1 ?_;refine At.c 0 ?_ ?_
     ·apply rt;exact At.r 1
     ·apply rt;exact At.r 1
def jM(N:Nat)  : Nat->(List Int)->Int->Int->(Vector Int 8)->Int->Option ((List Int)×Int×Int×(Vector Int 8))
 | 0,_,_,_,_,_=>none
 | k+1,s7,s8,s9,s10,s11=>
  cond (decide (s11 < 8)) (
   ae (aF N 1 (aD.mk s7 s8 s9)) λr12=>
   ae (aS s11 8) λ_=>
   ae (s10.toList[s11.toNat]?) λe14=>
   jM N k r12.1 r12.2.1 r12.2.2.1 (s10.setIfInBounds s11.toNat (U8 r12.2.2.2)) (I64 (s11+1))) (
   some ((s7,s8,s9,s10)))
def rH(N:Nat)(a0:(List Int)):Option (aE×Int):=
 aM (decide (((a0.length:Int)) < 35)) λx1=>
 cond x1 (
  some ((aE.mk 0 0 0 (ai 8 0) 0 0 0 0,4))) (
  aM (decide (((a0.length:Int)) > 35)) λx2=>
  cond x2 (
   some ((aE.mk 0 0 0 (ai 8 0) 0 0 0 0,5))) (
   ae (aF N 8 (aD.mk a0 0 0)) λr3=>
   ae (aF N 1 (aD.mk r3.1 r3.2.1 r3.2.2.1)) λr4=>
   ae (aF N 4 (aD.mk r4.1 r4.2.1 r4.2.2.1)) λr5=>
   ae (jM N N r5.1 r5.2.1 r5.2.2.1 (ai 8 0) 0) λp6=>
   ae (aF N 4 (aD.mk p6.1 p6.2.1 p6.2.2.1)) λr15=>
   ae (aF N 4 (aD.mk r15.1 r15.2.1 r15.2.2.1)) λr16=>
   ae (aF N 4 (aD.mk r16.1 r16.2.1 r16.2.2.1)) λr17=>
   ae (aF N 2 (aD.mk r17.1 r17.2.1 r17.2.2.1)) λr18=>
   ae (tB N (aE.mk r3.2.2.2 (I64 r4.2.2.2) (U32 r5.2.2.2) p6.2.2.2 (U32 r15.2.2.2) (U32 r16.2.2.2) (I64 r17.2.2.2) (I64 r18.2.2.2))) λr19=>
   cond (r19 != 0) (
    some ((aE.mk 0 0 0 (ai 8 0) 0 0 0 0,r19))) (
    some ((aE.mk r3.2.2.2 (I64 r4.2.2.2) (U32 r5.2.2.2) p6.2.2.2 (U32 r15.2.2.2) (U32 r16.2.2.2) (I64 r17.2.2.2) (I64 r18.2.2.2),0)))))
theorem aCp{N a0 r}(h:rH N a0=some r):FnM Tryz.prog 63 [] [(eL 1 k8 a0)] (.tup [(aE.enc r.1),(j64 r.2)]) []:=by
 refine Af cM Tryz.func63 h ?_;apply lx;intro x1;refine At.c 5 ?_ ?_
 ·apply rt;exact At.r 3
 ·apply lx;intro x2;refine At.c 3 ?_ ?_
  ·apply rt;exact At.r 3
  ·refine At.Y 5 [1] aR λr3=>?_;refine At.Y 1 [1] aR λr4=>?_;refine At.Y 2 [1] aR λr5=>?_;refine At.M 5 [2,4,5] 3 (λp6=>([],[(1,.var (.st 3 [(eL 1 k8 p6.1),(j64 p6.2.1),(j64 p6.2.2.1)])),(2,.var (.st 15 [(k64 r3.2.2.2),(j64 (I64 r4.2.2.2)),(k32 (U32 r5.2.2.2)),(eA 8 1 k8 p6.2.2.2),(k32 0),(k32 0),(j64 0),(j64 0)]))],[])) [2,4,5] 3 (CU5 (jM N)) (cu5 λs7 s8 s9 s10 s11=>([(6,(j64 s11))],[(1,.var (.st 3 [(eL 1 k8 s7),(j64 s8),(j64 s9)])),(2,.var (.st 15 [(k64 r3.2.2.2),(j64 (I64 r4.2.2.2)),(k32 (U32 r5.2.2.2)),(eA 8 1 k8 s10),(k32 0),(k32 0),(j64 0),(j64 0)]))],[])) (_,_,_,_,_) N (λp6 k=>un5 λs7 s8 s9 s10 s11=>?_) λp6=>?_
   ·refine At.c 2 ?_ ?_
    ·refine At.Y 2 [1] aR λr12=>?_;refine At.B 2 bAr λu13=>?_;refine At.U 0 (bSv k8 1 (U8 r12.2.2.2)) λe14=>?_;exact λh=>At.v 3 (_,_,_,_,_) h
    ·apply rt;exact At.x 0
   ·refine At.Y 1 [1] aR λr15=>?_;refine At.Y 4 [1] aR λr16=>?_;refine At.Y 4 [1] aR λr17=>?_;refine At.Y 4 [1] aR λr18=>?_;refine At.y 4 aDR λr19=>?_;refine At.c 3 ?_ ?_
    ·apply rt;exact At.r 4
    ·apply rt;exact At.r 3
def aFA : Nat->Bool:=imL [2]
def tX(N:Nat)(a0:(Vector Int 32))(a1:(List Int)):Option (aE×Int):=
 aM (decide (((a1.length:Int)) < 63)) λx1=>
 cond x1 (
  some ((aE.mk 0 0 0 (ai 8 0) 0 0 0 0,4))) (
  ae (ae (idx a1 0) λe3=>
  cond (e3 != 85) (
   some true) (
   ae (idx a1 1) λe4=>
   cond (e4 != 77) (
    some true) (
    ae (idx a1 2) λe5=>
    cond (e5 != 66) (
     some true) (
     ae (idx a1 3) λe6=>
     some (e6 != 49))))) λp2=>
  cond p2 (
   some ((aE.mk 0 0 0 (ai 8 0) 0 0 0 0,5))) (
   ae (oD N a1) λr7=>
   ae (nO N r7 0) λr8=>
   ae (cR a1 0 47) λs9=>
   ae (cR a1 47 63) λs10=>
   ae (oH N a0 r8 s9 s10) λr11=>
   cond (r11.2 != 0) (
    some ((aE.mk 0 0 0 (ai 8 0) 0 0 0 0,6))) (
    ae (cR a1 12 47) λs12=>
    ae (rH N s12) λr13=>
    some ((r13.1,r13.2)))))
theorem aDu{N a0 a1 r}(h:tX N a0 a1=some r):FnM Tryz.prog 39 [] [(eA 32 1 k8 a0),(eL 1 k8 a1)] (.tup [(aE.enc r.1),(j64 r.2)]) []:=by
 refine Af aFA Tryz.func39 h ?_;apply lx;intro x1;refine At.c 6 ?_ ?_
 ·apply rt;exact At.r 3
 ·refine At.J 0 0 [1,2,4] 1 (λp2=>([(33,(eB p2))],[],[])) (λp2=>?_) λp2=>?_
  ·refine At.i hT 1 k8 λe3=>?_;refine At.s 16 3 ?_ ?_
   ·refine At.g [16,22,28] 17 ?_;apply rt;exact At.jn 0
   ·refine At.g [16] 1 ?_;refine At.i hT 0 k8 λe4=>?_;refine At.g [16] 4 ?_;refine At.s 22 0 ?_ ?_
    ·refine At.g [22,28] 11 ?_;apply rt;exact At.jn 0
    ·refine At.g [22] 1 ?_;refine At.i hT 0 k8 λe5=>?_;refine At.g [22] 4 ?_;refine At.s 28 0 ?_ ?_
     ·refine At.g [28] 5 ?_;apply rt;exact At.jn 0
     ·refine At.g [28] 1 ?_;refine At.i hT 0 k8 λe6=>?_;refine At.g [28] 3 ?_;apply rt;exact At.jn 0
  ·refine At.c 0 ?_ ?_
   ·apply rt;exact At.r 3
   ·refine At.D 0 [] ?_;refine DD.y 2 aAY λr7=>?_;refine DD.y 0 zR λr8=>?_;refine DD.B 1 (bSl k8) λs9=>?_;refine DD.B 1 (bSl k8) λs10=>?_;refine DD.y 0 aAb λr11=>?_;refine De 5 ?_;refine At.c 2 ?_ ?_
    ·apply rt;exact At.r 3
    ·refine At.B 1 (bSl k8) λs12=>?_;refine At.y 0 aCp λr13=>?_;apply rt;exact At.r 4
def uC(N:Nat)(a0 a1:Int):Option ((List Int)):=
 aM (U8 (I64 (eg a0 256))) λx1=>
 aM (U8 (I64 (eg a1 256))) λx2=>
 some (([U8 (cp a0 256),x1,U8 (cp a1 256),x2]:List Int))
theorem aDr{N a0 a1 r}(h:uC N a0 a1=some r):FnM Tryz.prog 40 [] [(j64 a0),(j64 a1)] (eO 0 1 k8 r) [.tail (r.length*1)]:=by
 refine Af cM Tryz.func40 h ?_;apply lx;intro x1;apply lx;intro x2;refine At.o 13 (sH hT k8 (k:=1) ([U8 (cp a0 256),x1,U8 (cp a1 256),x2]:List Int) (by kernel_rfl) (by kernel_rfl)) ?_;apply rt;exact At.r 1
def nU(N:Nat)(a0:Int):Nat->Int->Int->Option (Int)
 | 0,_,_=>none
 | k+1,s2,s3=>
  cond (decide (s3 < a0)) (
   aM (U64 ((U64 (s2*256))+255)) λx4=>
   nU N a0 k x4 (I64 (s3+1))) (
   some s2)
def iK(N:Nat)(a0:Int):Option (Int):=
 ae (nU N a0 N 0 0) λp1=>
 some p1
theorem pZ{N a0 r}(h:iK N a0=some r):FnM Tryz.prog 151 [] [(j64 a0)] (k64 r) []:=by
 refine Af cM Tryz.func151 h ?_;refine At.M 3 [] 0 (λp1=>([(3,(k64 p1))],[],[])) [0] 0 (CU2 (nU N a0)) (cu2 λs2 s3=>([(3,(k64 s2)),(4,(j64 s3))],[],[])) (_,_) N (λp1 k=>un2 λs2 s3=>?_) λp1=>?_
 ·refine At.c 3 ?_ ?_
  ·apply lx;intro x4;exact λh=>At.v 7 (_,_) h
  ·apply rt;exact At.x 0
 ·apply rt;exact At.r 2
def fA(N:Nat)(a0:Int)(a1:aD):Option ((List Int)×Int×Int×Int):=
 ae (aF N a0 a1) λr1=>
 cond (r1.2.2.1 != 0) (
  some ((r1.1,r1.2.1,r1.2.2.1,0))) (
  ae (iK N a0) λr2=>
  aM (decide (r1.2.2.2 > (U64 (eg r2 2)))) λx3=>
  cond x3 (
   ae (iK N a0) λr4=>
   aM (I64 (U64 (r4 - r1.2.2.2))) λx5=>
   aM (I64 ((I64 (0 - x5)) - 1)) λx6=>
   some ((r1.1,r1.2.1,r1.2.2.1,x6))) (
   some ((r1.1,r1.2.1,r1.2.2.1,I64 r1.2.2.2))))
theorem pA{N a0 a1 r}(h:fA N a0 a1=some r):FnM Tryz.prog 111 [.var (aD.enc a1)] [(.ref 0 [] 0),(j64 a0)] (j64 r.2.2.2) [.var (.st 3 [(eL 1 k8 r.1),(j64 r.2.1),(j64 r.2.2.1)])]:=by
 refine Af cM Tryz.func111 h ?_;refine At.Y 3 [0] aR λr1=>?_;refine At.c 6 ?_ ?_
 ·apply rt;exact At.r 1
 ·refine At.y 2 pZ λr2=>?_;apply lx;intro x3;refine At.c 2 ?_ ?_
  ·refine At.y 1 pZ λr4=>?_;apply lx;intro x5;apply lx;intro x6;apply rt;exact At.r 6
  ·apply rt;exact At.r 3
def jX(N:Nat)(a0:aD):Option ((List Int)×Int×Int×aA):=
 ae (fA N 2 a0) λr1=>
 ae (fA N 2 (aD.mk r1.1 r1.2.1 r1.2.2.1)) λr2=>
 ae (fA N 2 (aD.mk r2.1 r2.2.1 r2.2.2.1)) λr3=>
 some ((r3.1,r3.2.1,r3.2.2.1,aA.mk r1.2.2.2 r2.2.2.2 r3.2.2.2))
theorem qZ{N a0 r}(h:jX N a0=some r):FnM Tryz.prog 71 [.var (aD.enc a0)] [(.ref 0 [] 0)] (aA.enc r.2.2.2) [.var (.st 3 [(eL 1 k8 r.1),(j64 r.2.1),(j64 r.2.2.1)])]:=by
 refine Af cM Tryz.func71 h ?_;refine At.Y 2 [0] pA λr1=>?_;refine At.Y 2 [0] pA λr2=>?_;refine At.Y 2 [0] pA λr3=>?_;apply rt;exact At.r 6
def dP(N:Nat)(a0:aD):Option (Int):=
 ae (cond (a0.gE==0) (
  aM (decide (a0.gAt < ((a0.gB.length:Int)))) λx2=>
  some x2) (
  some false)) λp1=>
 cond p1 (some 5) (some a0.gE)
theorem mJ{N a0 r}(h:dP N a0=some r):FnM Tryz.prog 70 [.var (aD.enc a0)] [(.ref 0 [] 0)] (j64 r) [.var (aD.enc a0)]:=by
 refine Af cM Tryz.func70 h ?_;refine At.J 1 0 [0] 1 (λp1=>([(19,(eB p1))],[],[])) (λp1=>?_) λp1=>?_
 ·refine At.D 0 [] ?_;refine DD.s hT 6 ?_ ?_
  ·apply lx;intro x2;refine De 11 ?_;apply rt;exact At.jn 0
  ·refine De 11 ?_;apply rt;exact At.jn 0
 ·refine At.c 0 ?_ ?_
  ·apply rt;exact At.r 1
  ·apply rt;exact At.r 5
def aGE : Nat->Bool:=imL [2]
def nN(N:Nat)(a0:aA)(a1:Int):Option (Bool):=
 aM (decide (a0.gX < (I64 (0 - a1)))) λx1=>
 aM (cond (decide (a0.gX > a1)) true x1) λx2=>
 aM (cond x2 true (decide (a0.gY > a1))) λx3=>
 aM (decide (a0.gY < (I64 (0 - a1)))) λx4=>
 aM (cond (cond x3 true x4) true (decide (a0.gZ > a1))) λx5=>
 aM (decide (a0.gZ < (I64 (0 - a1)))) λx6=>
 some (cond x5 true x6)
theorem uD{N a0 a1 r}(h:nN N a0 a1=some r):FnM Tryz.prog 150 [] [(aA.enc a0),(j64 a1)] (eB r) []:=by
 refine Af aGE Tryz.func150 h ?_;apply lx;intro x1;apply lx;intro x2;apply lx;intro x3;apply lx;intro x4;apply lx;intro x5;apply lx;intro x6;apply rt;exact At.r 40
def aD2 : Nat->Bool:=imL [1]
def kL(N:Nat)(a0:aK):Nat->Int->Option (Sum (Unit) (Int))
 | 0,_=>none
 | k+1,s10=>
  aM ((a0.gG.length:Int)) λx11=>
  cond (decide (s10 < x11)) (
   ae (idx a0.gG s10) λe12=>
   ae (nN N e12 4096) λr13=>
   cond r13 (
    some (Sum.inr 8)) (
    kL N a0 k (I64 (s10+1)))) (
   some (Sum.inl (())))
def iC(N:Nat)(a0:aK)(s15:Int):Nat->Int->Option (Sum (Unit) (Int))
 | 0,_=>none
 | k+1,s18=>
  cond (decide (s18 < 2)) (
   ae (ae (idx a0.gL s15) λe20=>
   ae (idx e20.toList s18) λe21=>
   cond (decide (e21 < 0)) (
    some true) (
    ae (idx a0.gL s15) λe22=>
    ae (idx e22.toList s18) λe23=>
    some (decide (e23 > 65535)))) λp19=>
   cond p19 (
    some (Sum.inr 5)) (
    iC N a0 s15 k (I64 (s18+1)))) (
   some (Sum.inl (())))
def kK(N:Nat)(a0:aK):Nat->Int->Option (Sum (Unit) (Int))
 | 0,_=>none
 | k+1,s15=>
  aM (decide (s15 < ((a0.gL.length:Int)))) λx16=>
  cond x16 (
   ae (iC N a0 s15 N 0) λo=>mZ o (λp17=>
    kK N a0 k (I64 (s15+1))) (λr=>some (Sum.inr r))) (
   some (Sum.inl (())))
def eK(N:Nat)(a0:aK)(s25:Int):Nat->Int->Option (Sum (Unit) (Int))
 | 0,_=>none
 | k+1,s28=>
  cond (decide (s28 < 3)) (
   ae (ae (idx a0.gJ s25) λe30=>
   ae (idx e30.toList s28) λe31=>
   cond (decide (e31 < 0)) (
    some true) (
    ae (idx a0.gJ s25) λe32=>
    ae (idx e32.toList s28) λe33=>
    aM ((a0.gG.length:Int)) λx34=>
    cond (decide (e33>=x34)) (
     some true) (
     ae (idx a0.gJ s25) λe35=>
     ae (idx e35.toList s28) λe36=>
     aM (cp (I64 (s28+1)) 3) λx37=>
     ae (idx a0.gJ s25) λe38=>
     ae (idx e38.toList x37) λe39=>
     some (e36==e39)))) λp29=>
   cond p29 (
    some (Sum.inr 5)) (
    eK N a0 s25 k (I64 (s28+1)))) (
   some (Sum.inl (())))
def kT(N:Nat)(a0:aK):Nat->Int->Option (Sum (Unit) (Int))
 | 0,_=>none
 | k+1,s25=>
  aM ((a0.gJ.length:Int)) λx26=>
  cond (decide (s25 < x26)) (
   ae (eK N a0 s25 N 0) λo=>mZ o (λp27=>
    kT N a0 k (I64 (s25+1))) (λr=>some (Sum.inr r))) (
   some (Sum.inl (())))
def nR(N:Nat)(a0:aK):Option (Int):=
 aM ((a0.gG.length:Int)) λx1=>
 aM ((a0.gJ.length:Int)) λx2=>
 aM (cond (decide (x1 > 64)) true (decide (x2 > 64))) λx3=>
 cond x3 (
  some 3) (
  aM ((a0.gG.length:Int)) λx4=>
  aM ((a0.gJ.length:Int)) λx5=>
  aM (cond (decide (x4 < 1)) true (decide (x5 < 1))) λx6=>
  aM ((a0.gG.length:Int)) λx7=>
  aM (((a0.gL.length:Int)) != x7) λx8=>
  cond (cond x6 true x8) (
   some 5) (
   ae (kL N a0 N 0) λo=>mZ o (λp9=>
    ae (kK N a0 N 0) λo=>mZ o (λp14=>
     ae (kT N a0 N 0) λo=>mZ o (λp24=>
      some 0) (λr=>some r)) (λr=>some r)) (λr=>some r)))
theorem vR{N a0 r}(h:nR N a0=some r):FnM Tryz.prog 108 [] [(aK.enc a0)] (j64 r) []:=by
 refine Af aD2 Tryz.func108 h ?_;apply lx;intro x1;apply lx;intro x2;apply lx;intro x3;refine At.c 12 ?_ ?_
 ·apply rt;exact At.r 1
 ·apply lx;intro x4;apply lx;intro x5;apply lx;intro x6;apply lx;intro x7;apply lx;intro x8;refine At.c 19 ?_ ?_
  ·apply rt;exact At.r 1
  ·refine At.MS 1 [1] 0 (λp9=>([],[],[])) [1] 0 (kL N a0) (λ(s10:Int)=>([(3,(j64 s10))],[],[])) _ N (λop9 g9 k s10=>?_) λp9=>?_
   ·apply lx;intro x11;refine At.c 5 ?_ ?_
    ·refine At.i hT 3 aA.enc λe12=>?_;refine At.y 1 uD λr13=>?_;refine At.c 0 ?_ ?_
     ·intro e;apply wH g9 e;exact At.r 1
     ·exact λh=>At.v 3 _ h
    ·apply rt;exact At.xs 0
   ·refine At.MS 1 [1] 0 (λp14=>([],[],[])) [1] 0 (kK N a0) (λ(s15:Int)=>([(4,(j64 s15))],[],[])) _ N (λop14 g14 k s15=>?_) λp14=>?_
    ·apply lx;intro x16;refine At.c 5 ?_ ?_
     ·refine At.MS 1 [1,4] 0 (λp17=>([],[],[])) [1,4] 0 (iC N a0 s15) (λ(s18:Int)=>([(5,(j64 s18))],[],[])) _ N (λop17 g17 k s18=>?_) λp17=>?_
      ·refine At.c 2 ?_ ?_
       ·refine At.J 0 0 [1,4,5] 0 (λp19=>([(78,(eB p19))],[],[])) (λp19=>?_) λp19=>?_
        ·refine At.i hT 4 (eA 2 1 j64) λe20=>?_;refine At.B 0 (bAi j64) λe21=>?_;refine At.s 69 3 ?_ ?_
         ·refine At.g [69] 9 ?_;apply rt;exact At.jn 0
         ·refine At.g [69] 4 ?_;refine At.i hT 0 (eA 2 1 j64) λe22=>?_;refine At.B 0 (bAi j64) λe23=>?_;refine At.g [69] 3 ?_;apply rt;exact At.jn 0
        ·refine At.c 0 ?_ ?_
         ·intro e;apply rtS2 g17 g14 e;exact At.r 1
         ·exact λh=>At.v 3 _ h
       ·apply rt;exact At.xs 0
      ·exact λh=>At.v 3 _ h
     ·apply rt;exact At.xs 0
    ·refine At.MS 1 [] 0 (λp24=>([],[],[])) [1] 0 (kT N a0) (λ(s25:Int)=>([(6,(j64 s25))],[],[])) _ N (λop24 g24 k s25=>?_) λp24=>?_
     ·apply lx;intro x26;refine At.c 5 ?_ ?_
      ·refine At.MS 1 [1,6] 0 (λp27=>([],[],[])) [1,6] 0 (eK N a0 s25) (λ(s28:Int)=>([(7,(j64 s28))],[],[])) _ N (λop27 g27 k s28=>?_) λp27=>?_
       ·refine At.c 2 ?_ ?_
        ·refine At.J 0 0 [1,6,7] 0 (λp29=>([(129,(eB p29))],[],[])) (λp29=>?_) λp29=>?_
         ·refine At.D 0 [] ?_;refine DD.i hT 4 (eA 3 1 j64) λe30=>?_;refine DD.B 0 (bAi j64) λe31=>?_;refine DD.s hT 3 ?_ ?_
          ·refine De 31 ?_;apply rt;exact At.jn 0
          ·refine DD.i hT 4 (eA 3 1 j64) λe32=>?_;refine DD.B 0 (bAi j64) λe33=>?_;apply lx;intro x34;refine DD.s hT 7 ?_ ?_
           ·refine De 18 ?_;apply rt;exact At.jn 0
           ·refine DD.i hT 4 (eA 3 1 j64) λe35=>?_;refine DD.B 0 (bAi j64) λe36=>?_;apply lx;intro x37;refine DD.i hT 7 (eA 3 1 j64) λe38=>?_;refine DD.B 0 (bAi j64) λe39=>?_;refine De 3 ?_;apply rt;exact At.jn 0
         ·refine At.c 0 ?_ ?_
          ·intro e;apply rtS2 g27 g24 e;exact At.r 1
          ·exact λh=>At.v 3 _ h
        ·apply rt;exact At.xs 0
       ·exact λh=>At.v 3 _ h
      ·apply rt;exact At.xs 0
     ·apply rt;exact At.r 1
def fP(N:Nat)(r1:(List Int)×Int×Int×Int):Nat->(List aA)->(List Int)->Int->Int->Int->Option ((List aA)×(List Int)×Int×Int)
 | 0,_,_,_,_,_=>none
 | k+1,s4,s5,s6,s7,s8=>
  aM (decide (s8 < (I64 r1.2.2.2))) λx9=>
  cond x9 (
   ae (jX N (aD.mk s5 s6 s7)) λr10=>
   ae (fT 24 s4 (([r10.2.2.2]:List aA))) λz11=>
   fP N r1 k z11 r10.1 r10.2.1 r10.2.2.1 (I64 (s8+1))) (
   some ((s4,s5,s6,s7)))
def fS(N:Nat)(r1:(List Int)×Int×Int×Int):Nat->(List (Vector Int 2))->(List Int)->Int->Int->Int->Option ((List (Vector Int 2))×(List Int)×Int×Int)
 | 0,_,_,_,_,_=>none
 | k+1,s13,s14,s15,s16,s17=>
  aM (decide (s17 < (I64 r1.2.2.2))) λx18=>
  cond x18 (
   ae (aF N 2 (aD.mk s14 s15 s16)) λr19=>
   ae (aF N 2 (aD.mk r19.1 r19.2.1 r19.2.2.1)) λr20=>
   ae (fT 16 s13 (([#v[I64 r19.2.2.2,I64 r20.2.2.2]]:List (Vector Int 2)))) λz21=>
   fS N r1 k z21 r20.1 r20.2.1 r20.2.2.1 (I64 (s17+1))) (
   some ((s13,s14,s15,s16)))
def fO(N:Nat)(r2:(List Int)×Int×Int×Int):Nat->(List (Vector Int 3))->(List Int)->Int->Int->Int->Option ((List (Vector Int 3))×(List Int)×Int×Int)
 | 0,_,_,_,_,_=>none
 | k+1,s23,s24,s25,s26,s27=>
  aM (decide (s27 < (I64 r2.2.2.2))) λx28=>
  cond x28 (
   ae (aF N 1 (aD.mk s24 s25 s26)) λr29=>
   ae (aF N 1 (aD.mk r29.1 r29.2.1 r29.2.2.1)) λr30=>
   ae (aF N 1 (aD.mk r30.1 r30.2.1 r30.2.2.1)) λr31=>
   ae (fT 24 s23 (([#v[I64 r29.2.2.2,I64 r30.2.2.2,I64 r31.2.2.2]]:List (Vector Int 3)))) λz32=>
   fO N r2 k z32 r31.1 r31.2.1 r31.2.2.1 (I64 (s27+1))) (
   some ((s23,s24,s25,s26)))
def rQ(N:Nat)(a0:(List Int)):Option (aK×Int):=
 ae (aF N 1 (aD.mk a0 0 0)) λr1=>
 ae (aF N 1 (aD.mk r1.1 r1.2.1 r1.2.2.1)) λr2=>
 ae (fP N r1 N [] r2.1 r2.2.1 r2.2.2.1 0) λp3=>
 ae (fS N r1 N [] p3.2.1 p3.2.2.1 p3.2.2.2 0) λp12=>
 ae (fO N r2 N [] p12.2.1 p12.2.2.1 p12.2.2.2 0) λp22=>
 ae (dP N (aD.mk p22.2.1 p22.2.2.1 p22.2.2.2)) λr33=>
 cond (r33 != 0) (
  some ((aK.mk [] [] [],r33))) (
  ae (nR N (aK.mk p3.1 p12.1 p22.1)) λr34=>
  cond (r34 != 0) (
   some ((aK.mk [] [] [],r34))) (
   some ((aK.mk p3.1 p12.1 p22.1,0))))
theorem aCP{N a0 r}(h:rQ N a0=some r):FnM Tryz.prog 66 [] [(eL 1 k8 a0)] (.tup [(aK.enc r.1),(j64 r.2)]) []:=by
 refine Af cM Tryz.func66 h ?_;refine At.Y 7 [1] aR λr1=>?_;refine At.Y 3 [1] aR λr2=>?_;refine At.ownb 4 2 3 [0] ?_;refine At.M 0 [2,4,5,6,7] 4 (λp3=>([],[(1,.var (.st 3 [(eL 1 k8 p3.2.1),(j64 p3.2.2.1),(j64 p3.2.2.2)])),(2,.var (.st 3 [(eO 3 3 aA.enc p3.1),(.v (.slice none 0 0)),(.v (.slice none 0 0))])),(3,.tail (p3.1.length*3))],[])) [2,4,5,6,7] 4 (CU5 (fP N r1)) (cu5 λs4 s5 s6 s7 s8=>([(8,(j64 s8))],[(1,.var (.st 3 [(eL 1 k8 s5),(j64 s6),(j64 s7)])),(2,.var (.st 3 [(eO 3 3 aA.enc s4),(.v (.slice none 0 0)),(.v (.slice none 0 0))])),(3,.tail (s4.length*3))],[])) (_,_,_,_,_) N (λp3 k=>un5 λs4 s5 s6 s7 s8=>?_) λp3=>?_
 ·apply lx;intro x9;refine At.c 3 ?_ ?_
  ·refine At.D 0 [] ?_;refine DD.Y 3 [1] qZ λr10=>?_;refine DD.O 0 bRw ?_;refine DD.U 0 (bAp aA.enc) λz11=>?_;refine De 2 ?_;exact λh=>At.v 3 (_,_,_,_,_) h
  ·apply rt;exact At.x 0
 ·refine At.ownb 1 2 2 [1] ?_;refine At.M 0 [2,4,6,7] 5 (λp12=>([],[(1,.var (.st 3 [(eL 1 k8 p12.2.1),(j64 p12.2.2.1),(j64 p12.2.2.2)])),(2,.var (.st 3 [(eO 3 3 aA.enc p3.1),(eO 4 2 (eA 2 1 j64) p12.1),(.v (.slice none 0 0))])),(4,.tail (p12.1.length*2))],[])) [2,4,5,6,7] 5 (CU5 (fS N r1)) (cu5 λs13 s14 s15 s16 s17=>([(9,(j64 s17))],[(1,.var (.st 3 [(eL 1 k8 s14),(j64 s15),(j64 s16)])),(2,.var (.st 3 [(eO 3 3 aA.enc p3.1),(eO 4 2 (eA 2 1 j64) s13),(.v (.slice none 0 0))])),(4,.tail (s13.length*2))],[])) (_,_,_,_,_) N (λp12 k=>un5 λs13 s14 s15 s16 s17=>?_) λp12=>?_
  ·apply lx;intro x18;refine At.c 3 ?_ ?_
   ·refine At.Y 1 [1] aR λr19=>?_;refine At.Y 3 [1] aR λr20=>?_;refine At.O 7 bRw ?_;refine At.U 0 (bAp (eA 2 1 j64)) λz21=>?_;exact λh=>At.v 5 (_,_,_,_,_) h
   ·apply rt;exact At.x 0
  ·refine At.ownb 1 2 3 [2] ?_;refine At.M 0 [2,4,7] 6 (λp22=>([],[(1,.var (.st 3 [(eL 1 k8 p22.2.1),(j64 p22.2.2.1),(j64 p22.2.2.2)])),(2,.var (.st 3 [(eO 3 3 aA.enc p3.1),(eO 4 2 (eA 2 1 j64) p12.1),(eO 5 3 (eA 3 1 j64) p22.1)])),(5,.tail (p22.1.length*3))],[])) [2,4,6,7] 6 (CU5 (fO N r2)) (cu5 λs23 s24 s25 s26 s27=>([(12,(j64 s27))],[(1,.var (.st 3 [(eL 1 k8 s24),(j64 s25),(j64 s26)])),(2,.var (.st 3 [(eO 3 3 aA.enc p3.1),(eO 4 2 (eA 2 1 j64) p12.1),(eO 5 3 (eA 3 1 j64) s23)])),(5,.tail (s23.length*3))],[])) (_,_,_,_,_) N (λp22 k=>un5 λs23 s24 s25 s26 s27=>?_) λp22=>?_
   ·apply lx;intro x28;refine At.c 3 ?_ ?_
    ·refine At.Y 1 [1] aR λr29=>?_;refine At.Y 3 [1] aR λr30=>?_;refine At.Y 3 [1] aR λr31=>?_;refine At.O 8 bRw ?_;refine At.U 0 (bAp (eA 3 1 j64)) λz32=>?_;exact λh=>At.v 5 (_,_,_,_,_) h
    ·apply rt;exact At.x 0
   ·refine At.Y 1 [1] mJ λr33=>?_;refine At.c 3 ?_ ?_
    ·apply rt;exact At.r 4
    ·refine At.y 1 vR λr34=>?_;refine At.c 3 ?_ ?_
     ·apply rt;exact At.r 4
     ·apply rt;exact At.r 3
def aDz : Nat->Bool:=imL [1]
def eP(N:Nat)(a0:aJ)(s9:Int):Nat->Int->Option (Sum (Unit) (Int))
 | 0,_=>none
 | k+1,s12=>
  cond (decide (s12 < 3)) (
   ae (ae (idx a0.gK s9) λe14=>
   ae (idx e14.toList s12) λe15=>
   cond (decide (e15 < 0)) (
    some true) (
    ae (idx a0.gK s9) λe16=>
    ae (idx e16.toList s12) λe17=>
    some (decide (e17 > 255)))) λp13=>
   cond p13 (
    some (Sum.inr 5)) (
    eP N a0 s9 k (I64 (s12+1)))) (
   some (Sum.inl (())))
def kO(N:Nat)(a0:aJ):Nat->Int->Option (Sum (Unit) (Int))
 | 0,_=>none
 | k+1,s9=>
  aM ((a0.gK.length:Int)) λx10=>
  cond (decide (s9 < x10)) (
   ae (eP N a0 s9 N 0) λo=>mZ o (λp11=>
    kO N a0 k (I64 (s9+1))) (λr=>some (Sum.inr r))) (
   some (Sum.inl (())))
def lH(N:Nat)(a0:aJ):Option (Int):=
 aM (cond (a0.gM != 1) (a0.gM != 2) false) λx1=>
 aM (cond x1 (a0.gM != 4) false) λx2=>
 aM (cond x2 (a0.gM != 8) false) λx3=>
 aM (cond x3 (a0.gM != 16) false) λx4=>
 aM ((a0.gK.length:Int)) λx5=>
 aM (I64 (a0.gM*a0.gM)) λx6=>
 aM (cond x4 true (x5 != x6)) λx7=>
 cond x7 (
  some 5) (
  ae (kO N a0 N 0) λo=>mZ o (λp8=>
   some 0) (λr=>some r))
theorem vS{N a0 r}(h:lH N a0=some r):FnM Tryz.prog 109 [] [(aJ.enc a0)] (j64 r) []:=by
 refine Af aDz Tryz.func109 h ?_;apply lx;intro x1;apply lx;intro x2;apply lx;intro x3;apply lx;intro x4;apply lx;intro x5;apply lx;intro x6;apply lx;intro x7;refine At.c 36 ?_ ?_
 ·apply rt;exact At.r 1
 ·refine At.MS 1 [] 0 (λp8=>([],[],[])) [1] 0 (kO N a0) (λ(s9:Int)=>([(3,(j64 s9))],[],[])) _ N (λop8 g8 k s9=>?_) λp8=>?_
  ·apply lx;intro x10;refine At.c 5 ?_ ?_
   ·refine At.MS 1 [1,3] 0 (λp11=>([],[],[])) [1,3] 0 (eP N a0 s9) (λ(s12:Int)=>([(4,(j64 s12))],[],[])) _ N (λop11 g11 k s12=>?_) λp11=>?_
    ·refine At.c 2 ?_ ?_
     ·refine At.J 0 0 [1,3,4] 0 (λp13=>([(67,(eB p13))],[],[])) (λp13=>?_) λp13=>?_
      ·refine At.i hT 4 (eA 3 1 j64) λe14=>?_;refine At.B 0 (bAi j64) λe15=>?_;refine At.s 58 3 ?_ ?_
       ·refine At.g [58] 9 ?_;apply rt;exact At.jn 0
       ·refine At.g [58] 4 ?_;refine At.i hT 0 (eA 3 1 j64) λe16=>?_;refine At.B 0 (bAi j64) λe17=>?_;refine At.g [58] 3 ?_;apply rt;exact At.jn 0
      ·refine At.c 0 ?_ ?_
       ·intro e;apply rtS2 g11 g8 e;exact At.r 1
       ·exact λh=>At.v 3 _ h
     ·apply rt;exact At.xs 0
    ·exact λh=>At.v 3 _ h
   ·apply rt;exact At.xs 0
  ·apply rt;exact At.r 1
def cO(N:Nat)(r1:(List Int)×Int×Int×Int):Nat->(List (Vector Int 3))->(List Int)->Int->Int->Int->Option ((List (Vector Int 3))×(List Int)×Int×Int)
 | 0,_,_,_,_,_=>none
 | k+1,s3,s4,s5,s6,s7=>
  aM (I64 ((I64 r1.2.2.2)*(I64 r1.2.2.2))) λx8=>
  aM (cond (decide (s7 < x8)) (s6==0) false) λx9=>
  cond x9 (
   ae (aF N 1 (aD.mk s4 s5 s6)) λr10=>
   ae (aF N 1 (aD.mk r10.1 r10.2.1 r10.2.2.1)) λr11=>
   ae (aF N 1 (aD.mk r11.1 r11.2.1 r11.2.2.1)) λr12=>
   ae (fT 24 s3 (([#v[I64 r10.2.2.2,I64 r11.2.2.2,I64 r12.2.2.2]]:List (Vector Int 3)))) λz13=>
   cO N r1 k z13 r12.1 r12.2.1 r12.2.2.1 (I64 (s7+1))) (
   some ((s3,s4,s5,s6)))
def rF(N:Nat)(a0:(List Int)):Option (aJ×Int):=
 ae (aF N 1 (aD.mk a0 0 0)) λr1=>
 ae (cO N r1 N [] r1.1 r1.2.1 r1.2.2.1 0) λp2=>
 ae (dP N (aD.mk p2.2.1 p2.2.2.1 p2.2.2.2)) λr14=>
 cond (r14 != 0) (
  some ((aJ.mk 0 [],r14))) (
  ae (lH N (aJ.mk (I64 r1.2.2.2) p2.1)) λr15=>
  cond (r15 != 0) (
   some ((aJ.mk 0 [],r15))) (
   some ((aJ.mk (I64 r1.2.2.2) p2.1,0))))
theorem aCr{N a0 r}(h:rF N a0=some r):FnM Tryz.prog 67 [] [(eL 1 k8 a0)] (.tup [(aJ.enc r.1),(j64 r.2)]) []:=by
 refine Af cM Tryz.func67 h ?_;refine At.Y 7 [1] aR λr1=>?_;refine At.ownb 5 2 3 [1] ?_;refine At.M 0 [2,4,5] 4 (λp2=>([],[(1,.var (.st 3 [(eL 1 k8 p2.2.1),(j64 p2.2.2.1),(j64 p2.2.2.2)])),(2,.var (.st 2 [(j64 (I64 r1.2.2.2)),(eO 3 3 (eA 3 1 j64) p2.1)])),(3,.tail (p2.1.length*3))],[])) [2,4,5] 4 (CU5 (cO N r1)) (cu5 λs3 s4 s5 s6 s7=>([(6,(j64 s7))],[(1,.var (.st 3 [(eL 1 k8 s4),(j64 s5),(j64 s6)])),(2,.var (.st 2 [(j64 (I64 r1.2.2.2)),(eO 3 3 (eA 3 1 j64) s3)])),(3,.tail (s3.length*3))],[])) (_,_,_,_,_) N (λp2 k=>un5 λs3 s4 s5 s6 s7=>?_) λp2=>?_
 ·apply lx;intro x8;apply lx;intro x9;refine At.c 14 ?_ ?_
  ·refine At.Y 1 [1] aR λr10=>?_;refine At.Y 3 [1] aR λr11=>?_;refine At.Y 3 [1] aR λr12=>?_;refine At.O 8 bRw ?_;refine At.U 0 (bAp (eA 3 1 j64)) λz13=>?_;exact λh=>At.v 5 (_,_,_,_,_) h
  ·apply rt;exact At.x 0
 ·refine At.Y 1 [1] mJ λr14=>?_;refine At.c 3 ?_ ?_
  ·apply rt;exact At.r 4
  ·refine At.y 1 vS λr15=>?_;refine At.c 3 ?_ ?_
   ·apply rt;exact At.r 4
   ·apply rt;exact At.r 3
def iE(N:Nat)(a0:Int)(a1:aD):Option ((List Int)×Int×Int×(Vector Int 3)):=
 ae (aF N a0 a1) λr1=>
 ae (aF N a0 (aD.mk r1.1 r1.2.1 r1.2.2.1)) λr2=>
 ae (aF N a0 (aD.mk r2.1 r2.2.1 r2.2.2.1)) λr3=>
 some ((r3.1,r3.2.1,r3.2.2.1,#v[I64 r1.2.2.2,I64 r2.2.2.2,I64 r3.2.2.2]))
theorem wS{N a0 a1 r}(h:iE N a0 a1=some r):FnM Tryz.prog 69 [.var (aD.enc a1)] [(.ref 0 [] 0),(j64 a0)] (eA 3 1 j64 r.2.2.2) [.var (.st 3 [(eL 1 k8 r.1),(j64 r.2.1),(j64 r.2.2.1)])]:=by
 refine Af cM Tryz.func69 h ?_;refine At.Y 3 [0] aR λr1=>?_;refine At.Y 4 [0] aR λr2=>?_;refine At.Y 4 [0] aR λr3=>?_;apply rt;exact At.r 7
def aCq : Nat->Bool:=imL [1]
def nT(N:Nat)(a0:aJ):Option (Bool):=
 aM ((a0.gK.length:Int)) λx1=>
 aM (cond (a0.gM != 0) true (decide (x1 > 0))) λx2=>
 some x2
theorem tN{N a0 r}(h:nT N a0=some r):FnM Tryz.prog 112 [] [(aJ.enc a0)] (eB r) []:=by
 refine Af aCq Tryz.func112 h ?_;apply lx;intro x1;apply lx;intro x2;apply rt;exact At.r 12
def aEx : Nat->Bool:=imL [1]
def rA(N:Nat)(a0:aK):Option (Bool):=
 aM ((a0.gG.length:Int)) λx1=>
 aM (I64 (x1+((a0.gL.length:Int)))) λx2=>
 aM ((a0.gJ.length:Int)) λx3=>
 aM (decide ((I64 (x2+x3)) > 0)) λx4=>
 some x4
theorem wF{N a0 r}(h:rA N a0=some r):FnM Tryz.prog 113 [] [(aK.enc a0)] (eB r) []:=by
 refine Af aEx Tryz.func113 h ?_;apply lx;intro x1;apply lx;intro x2;apply lx;intro x3;apply lx;intro x4;apply rt;exact At.r 15
def aCC : Nat->Bool:=imL [1]
def dA(N:Nat)(a0:aG):Nat->Int->Option (Sum (Unit) (Int))
 | 0,_=>none
 | k+1,s5=>
  cond (decide (s5 < 3)) (
   ae (ae (idx a0.gF.toList s5) λe7=>
   cond (decide (e7 < 0)) (
    some true) (
    ae (idx a0.gF.toList s5) λe8=>
    some (decide (e8 > 65535)))) λp6=>
   cond p6 (
    some (Sum.inr 5)) (
    dA N a0 k (I64 (s5+1)))) (
   some (Sum.inl (())))
def qD(N:Nat)(a0:aG):Option (Int):=
 aM (cond (decide (a0.gA < 0)) true (decide (a0.gA > 4))) λx1=>
 aM (cond x1 true (decide (a0.gW < 0))) λx2=>
 aM (decide (a0.gW > 65535)) λx3=>
 cond (cond x2 true x3) (
  some 5) (
  ae (dA N a0 N 0) λo=>mZ o (λp4=>
   some 0) (λr=>some r))
theorem aBo{N a0 r}(h:qD N a0=some r):FnM Tryz.prog 114 [] [(aG.enc a0)] (j64 r) []:=by
 refine Af aCC Tryz.func114 h ?_;apply lx;intro x1;apply lx;intro x2;apply lx;intro x3;refine At.c 20 ?_ ?_
 ·apply rt;exact At.r 1
 ·refine At.MS 1 [] 0 (λp4=>([],[],[])) [1] 0 (dA N a0) (λ(s5:Int)=>([(3,(j64 s5))],[],[])) _ N (λop4 g4 k s5=>?_) λp4=>?_
  ·refine At.c 2 ?_ ?_
   ·refine At.J 0 0 [1,3] 0 (λp6=>([(37,(eB p6))],[],[])) (λp6=>?_) λp6=>?_
    ·refine At.B 2 (bAi j64) λe7=>?_;refine At.s 31 3 ?_ ?_
     ·refine At.g [31] 6 ?_;apply rt;exact At.jn 0
     ·refine At.g [31] 2 ?_;refine At.B 0 (bAi j64) λe8=>?_;refine At.g [31] 3 ?_;apply rt;exact At.jn 0
    ·refine At.c 0 ?_ ?_
     ·intro e;apply wH g4 e;exact At.r 1
     ·exact λh=>At.v 3 _ h
   ·apply rt;exact At.xs 0
  ·apply rt;exact At.r 1
def aEZ : Nat->Bool:=imL [1]
def eJ(N:Nat)(a0:aL):Nat->Int->Option (Sum (Unit) (Int))
 | 0,_=>none
 | k+1,s3=>
  cond (decide (s3 < 3)) (
   ae (ae (idx a0.gF.toList s3) λe5=>
   cond (decide (e5 < 0)) (
    some true) (
    ae (idx a0.gF.toList s3) λe6=>
    some (decide (e6 > 1048576)))) λp4=>
   cond p4 (
    some (Sum.inr 5)) (
    eJ N a0 k (I64 (s3+1)))) (
   some (Sum.inl (())))
def sX(N:Nat)(a0:aL):Option (Int):=
 aM (cond (decide (a0.gA < 0)) true (decide (a0.gA > 2))) λx1=>
 cond x1 (
  some 5) (
  ae (eJ N a0 N 0) λo=>mZ o (λp2=>
   ae (ae (nN N a0.gAt 4096) λr8=>
   cond r8 (
    some true) (
    ae (nN N a0.gU 4096) λr9=>
    cond r9 (
     some true) (
     ae (nN N a0.gV 4096) λr10=>
     some r10))) λp7=>
   cond p7 (
    some 8) (
    ae (cond (a0.gA==2) (
     aM (!(aA.eq a0.gAt (aA.mk 0 0 0))) λx12=>
     cond x12 (
      some true) (
      cond (a0.gA != 1) (
       aM (!(aA.eq a0.gU (aA.mk 0 0 0))) λx13=>
       cond x13 (
        some true) (
        some (!(aA.eq a0.gV (aA.mk 0 0 0))))) (
       some false))) (
     cond (a0.gA != 1) (
      aM (!(aA.eq a0.gU (aA.mk 0 0 0))) λx14=>
      cond x14 (
       some true) (
       some (!(aA.eq a0.gV (aA.mk 0 0 0))))) (
      some false))) λp11=>
    cond p11 (some 5) (some 0))) (λr=>some r))
theorem aDP{N a0 r}(h:sX N a0=some r):FnM Tryz.prog 115 [] [(aL.enc a0)] (j64 r) []:=by
 refine Af aEZ Tryz.func115 h ?_;apply lx;intro x1;refine At.c 10 ?_ ?_
 ·apply rt;exact At.r 1
 ·refine At.MS 1 [1] 0 (λp2=>([],[],[])) [1] 0 (eJ N a0) (λ(s3:Int)=>([(3,(j64 s3))],[],[])) _ N (λop2 g2 k s3=>?_) λp2=>?_
  ·refine At.c 2 ?_ ?_
   ·refine At.J 0 0 [1,3] 0 (λp4=>([(28,(eB p4))],[],[])) (λp4=>?_) λp4=>?_
    ·refine At.B 2 (bAi j64) λe5=>?_;refine At.s 22 3 ?_ ?_
     ·refine At.g [22] 6 ?_;apply rt;exact At.jn 0
     ·refine At.g [22] 2 ?_;refine At.B 0 (bAi j64) λe6=>?_;refine At.g [22] 3 ?_;apply rt;exact At.jn 0
    ·refine At.c 0 ?_ ?_
     ·intro e;apply wH g2 e;exact At.r 1
     ·exact λh=>At.v 3 _ h
   ·apply rt;exact At.xs 0
  ·refine At.J 0 0 [1] 0 (λp7=>([(41,(eB p7))],[],[])) (λp7=>?_) λp7=>?_
   ·refine At.y 2 uD λr8=>?_;refine At.s 32 1 ?_ ?_
    ·refine At.g [32,37] 9 ?_;apply rt;exact At.jn 0
    ·refine At.g [32] 2 ?_;refine At.y 0 uD λr9=>?_;refine At.g [32] 2 ?_;refine At.s 37 0 ?_ ?_
     ·refine At.g [37] 4 ?_;apply rt;exact At.jn 0
     ·refine At.g [37] 2 ?_;refine At.y 0 uD λr10=>?_;refine At.g [37] 1 ?_;apply rt;exact At.jn 0
   ·refine At.c 0 ?_ ?_
    ·apply rt;exact At.r 1
    ·refine At.J 3 0 [] 1 (λp11=>([(68,(eB p11))],[],[])) (λp11=>?_) λp11=>?_
     ·refine At.s 46 4 ?_ ?_
      ·refine At.g [46] 3 ?_;refine At.O 0 (bNe wJ (a0.gAt:aA) (aA.mk 0 0 0:aA)) ?_;apply lx;intro x12;refine At.g [46] 2 ?_;refine At.s 52 0 ?_ ?_
       ·refine At.g [52,56,61] 16 ?_;apply rt;exact At.jn 0
       ·refine At.g [52] 4 ?_;refine At.s 56 0 ?_ ?_
        ·refine At.g [56] 3 ?_;refine At.O 0 (bNe wJ (a0.gU:aA) (aA.mk 0 0 0:aA)) ?_;apply lx;intro x13;refine At.g [56] 1 ?_;refine At.s 61 0 ?_ ?_
         ·refine At.g [61,56,52] 7 ?_;apply rt;exact At.jn 0
         ·refine At.g [61] 3 ?_;refine At.O 0 (bNe wJ (a0.gV:aA) (aA.mk 0 0 0:aA)) ?_;refine At.g [56,61,52] 3 ?_;apply rt;exact At.jn 0
        ·refine At.g [56,61,52] 12 ?_;apply rt;exact At.jn 0
      ·refine At.g [46,52] 10 ?_;refine At.s 56 0 ?_ ?_
       ·refine At.g [56] 3 ?_;refine At.O 0 (bNe wJ (a0.gU:aA) (aA.mk 0 0 0:aA)) ?_;apply lx;intro x14;refine At.g [56] 1 ?_;refine At.s 61 0 ?_ ?_
        ·refine At.g [61,56,52] 7 ?_;apply rt;exact At.jn 0
        ·refine At.g [61] 3 ?_;refine At.O 0 (bNe wJ (a0.gV:aA) (aA.mk 0 0 0:aA)) ?_;refine At.g [56,61,52] 3 ?_;apply rt;exact At.jn 0
       ·refine At.g [56,61,52] 12 ?_;apply rt;exact At.jn 0
     ·refine At.c 0 ?_ ?_
      ·apply rt;exact At.r 1
      ·apply rt;exact At.r 1
def oM(N:Nat)(a1:Int):Nat->(List Int)->Int->Int->Option ((List Int))
 | 0,_,_,_=>none
 | k+1,s11,s12,s13=>
  cond (decide (s13 < a1)) (
   ae (fT 1 s11 (([U8 (cp s12 256)]:List Int))) λz14=>
   oM N a1 k z14 (U64 (eg s12 256)) (I64 (s13+1))) (
   some s11)
def mT(N:Nat)(a2:(List Int))(a1:Int):Nat->(List Int)->Int->Option (Sum ((List Int)) ((List Int)×Int))
 | 0,_,_=>none
 | k+1,s4,s5=>
  aM (decide (s5 < ((a2.length:Int)))) λx6=>
  cond x6 (
   ae (idx a2 s5) λe7=>
   ae (iK N a1) λr8=>
   cond (decide (e7 > r8)) (
    some (Sum.inr (([],3)))) (
    ae (idx a2 s5) λe9=>
    ae (oM N a1 N s4 e9 0) λp10=>
    mT N a2 a1 k p10 (I64 (s5+1)))) (
   some (Sum.inl s4))
def lO(N:Nat)(a0:(List Int))(a1:Int)(a2:(List Int)):Option ((List Int)×Int):=
 aM (cond (decide (a1 < 1)) true (decide (a1 > 8))) λx1=>
 cond x1 (
  some (([],2))) (
  ae (fT 1 (([]:List Int)) a0) λz2=>
  ae (mT N a2 a1 N z2 0) λo=>mZ o (λp3=>
   some ((p3,0))) (λr=>some r))
theorem aAy{N a0 a1 a2 r}(h:lO N a0 a1 a2=some r):FnM Tryz.prog 154 [] [(eL 1 k8 a0),(j64 a1),(eL 1 k64 a2)] (.tup [(eO 0 1 k8 r.1),(j64 r.2)]) [.tail (r.1.length*1)]:=by
 refine Af cM Tryz.func154 h ?_;apply lx;intro x1;refine At.c 8 ?_ ?_
 ·refine At.ownn 2 6 1 ?_;apply rt;exact At.r 0
 ·refine At.o 0 (sH hT k8 (k:=1) ([]:List Int) (by kernel_rfl) (by kernel_rfl)) ?_;refine At.U 1 (bAp k8) λz2=>?_;refine At.MS 2 [] 1 (λp3=>([(8,(eO 0 1 k8 p3))],[(0,.tail (p3.length*1))],[])) [1,2] 1 (CU2 (mT N a2 a1)) (cu2 λs4 s5=>([(8,(eO 0 1 k8 s4)),(9,(j64 s5))],[(0,.tail (s4.length*1))],[])) (_,_) N (λop3 g3 k=>un2 λs4 s5=>?_) λp3=>?_
  ·apply lx;intro x6;refine At.c 4 ?_ ?_
   ·refine At.D 0 [] ?_;refine DD.i hT 2 k64 λe7=>?_;refine DD.y 2 pZ λr8=>?_;refine De 1 ?_;refine At.c 0 ?_ ?_
    ·refine At.ownn 2 6 1 ?_;refine At.sw 0 1 0 ?_;intro e;apply wH g3 e;exact At.r 0
    ·refine At.i hT 2 k64 λe9=>?_;refine At.M 3 [1,2,9] 1 (λp10=>([(8,(eO 0 1 k8 p10))],[(0,.tail (p10.length*1))],[])) [1,2,9] 1 (CU3 (oM N a1)) (cu3 λs11 s12 s13=>([(8,(eO 0 1 k8 s11)),(10,(k64 s12)),(11,(j64 s13))],[(0,.tail (s11.length*1))],[])) (_,_,_) N (λp10 k=>un3 λs11 s12 s13=>?_) λp10=>?_
     ·refine At.c 3 ?_ ?_
      ·refine At.O 4 bRw ?_;refine At.U 0 (bAp k8) λz14=>?_;exact λh=>At.v 7 (_,_,_) h
      ·apply rt;exact At.x 0
     ·exact λh=>At.v 3 (_,_) h
   ·apply rt;exact At.xs 0
  ·apply rt;exact At.r 3
def jQ(N:Nat)(a2:(List Int))(x3 a1:Int):Nat->(List Int)->Int->Option (Sum ((List Int)) ((List Int)×Int))
 | 0,_,_=>none
 | k+1,s5,s6=>
  aM (decide (s6 < ((a2.length:Int)))) λx7=>
  cond x7 (
   ae (ae (idx a2 s6) λe9=>
   cond (decide (e9 > x3)) (
    some true) (
    ae (idx a2 s6) λe10=>
    aM (I64 ((I64 (0 - x3)) - 1)) λx11=>
    some (decide (e10 < x11)))) λp8=>
   cond p8 (
    some (Sum.inr (([],3)))) (
    ae (idx a2 s6) λe12=>
    ae (ae (idx a2 s6) λe14=>
    cond (decide (e14 < 0)) (
     ae (iK N a1) λr15=>
     ae (idx a2 s6) λe16=>
     aM (I64 (0 - (I64 (e16+1)))) λx17=>
     some (U64 (r15 - (U64 x17)))) (
     some (U64 e12))) λp13=>
    ae (fT 8 s5 (([p13]:List Int))) λz18=>
    jQ N a2 x3 a1 k z18 (I64 (s6+1)))) (
   some (Sum.inl s5))
def oN(N:Nat)(a0:(List Int))(a1:Int)(a2:(List Int)):Option ((List Int)×Int):=
 aM (cond (decide (a1 < 1)) true (decide (a1 > 8))) λx1=>
 cond x1 (
  some (([],2))) (
  ae (iK N a1) λr2=>
  aM (I64 (U64 (eg r2 2))) λx3=>
  ae (jQ N a2 x3 a1 N [] 0) λo=>mZ o (λp4=>
   ae (lO N a0 a1 p4) λr19=>
   some ((r19.1,r19.2))) (λr=>some r))
theorem aCw{N a0 a1 a2 r}(h:oN N a0 a1 a2=some r):FnM Tryz.prog 172 [] [(eL 1 k8 a0),(j64 a1),(eL 1 j64 a2)] (.tup [(eO 0 1 k8 r.1),(j64 r.2)]) [.tail (r.1.length*1)]:=by
 refine Af cM Tryz.func172 h ?_;apply lx;intro x1;refine At.c 8 ?_ ?_
 ·refine At.ownn 2 6 1 ?_;apply rt;exact At.r 0
 ·refine At.y 1 pZ λr2=>?_;apply lx;intro x3;refine At.ownn 5 9 1 ?_;refine At.MS 0 [0,1] 1 (λp4=>([(9,(eO 0 1 k64 p4))],[(0,.tail (p4.length*1))],[])) [0,1,2,8] 1 (CU2 (jQ N a2 x3 a1)) (cu2 λs5 s6=>([(9,(eO 0 1 k64 s5)),(10,(j64 s6))],[(0,.tail (s5.length*1))],[])) (_,_) N (λop4 g4 k=>un2 λs5 s6=>?_) λp4=>?_
  ·apply lx;intro x7;refine At.c 4 ?_ ?_
   ·refine At.J 0 0 [0,1,2,8,9,10] 1 (λp8=>([(43,(eB p8))],[],[])) (λp8=>?_) λp8=>?_
    ·refine At.i hT 2 j64 λe9=>?_;refine At.s 34 4 ?_ ?_
     ·refine At.g [34] 9 ?_;apply rt;exact At.jn 0
     ·refine At.g [34] 2 ?_;refine At.i hT 0 j64 λe10=>?_;apply lx;intro x11;refine At.g [34] 6 ?_;apply rt;exact At.jn 0
    ·refine At.c 0 ?_ ?_
     ·refine At.ownn 2 6 1 ?_;refine At.sw 0 1 0 ?_;intro e;apply wH g4 e;exact At.r 0
     ·refine At.i hT 2 j64 λe12=>?_;refine At.J 3 1 [0,1,2,8,9,10] 1 (λp13=>([(11,(k64 p13))],[],[])) (λp13=>?_) λp13=>?_
      ·refine At.i hT 2 j64 λe14=>?_;refine At.c 2 ?_ ?_
       ·refine At.D 0 [] ?_;refine DD.y 1 pZ λr15=>?_;refine DD.i hT 2 j64 λe16=>?_;apply lx;intro x17;refine De 6 ?_;apply rt;exact At.jn 0
       ·apply rt;exact At.jn 0
      ·refine At.O 2 bRw ?_;refine At.U 0 (bAp k64) λz18=>?_;exact λh=>At.v 4 (_,_) h
   ·apply rt;exact At.xs 0
  ·refine At.Y 3 [] aAy λr19=>?_;refine At.sw 4 1 0 ?_;apply rt;exact At.r 0
def aEK : Nat->Bool:=imL [3]
def lI(N:Nat)(a0:(List Int))(a1:aA):Option ((List Int)):=
 ae (oN N a0 2 ([a1.gX,a1.gY,a1.gZ])) λr1=>
 some r1.1
theorem rP{N a0 a1 r}(h:lI N a0 a1=some r):FnM Tryz.prog 155 [] [(eL 1 k8 a0),(aA.enc a1)] (eO 0 1 k8 r) [.tail (r.length*1)]:=by
 refine Af aEK Tryz.func155 h ?_;refine At.O 9 bRw ?_;refine At.Y 0 [] aCw λr1=>?_;apply rt;exact At.r 7
def aDL : Nat->Bool:=imL [1]
def jF(N:Nat)(a0:aK):Nat->(List Int)->Int->Option ((List Int))
 | 0,_,_=>none
 | k+1,s5,s6=>
  aM ((a0.gG.length:Int)) λx7=>
  cond (decide (s6 < x7)) (
   ae (idx a0.gG s6) λe8=>
   ae (lI N s5 e8) λr9=>
   jF N a0 k r9 (I64 (s6+1))) (
   some s5)
def jL(N:Nat)(a0:aK)(s12:Int):Nat->(List Int)->Int->Option ((List Int))
 | 0,_,_=>none
 | k+1,s15,s16=>
  cond (decide (s16 < 2)) (
   ae (idx a0.gL s12) λe17=>
   ae (idx e17.toList s16) λe18=>
   ae (idx a0.gL s12) λe19=>
   ae (idx e19.toList s16) λe20=>
   aM (U8 (I64 (eg e20 256))) λx21=>
   ae (fT 1 s15 (([U8 (cp e18 256),x21]:List Int))) λz22=>
   jL N a0 s12 k z22 (I64 (s16+1))) (
   some s15)
def jJ(N:Nat)(a0:aK):Nat->(List Int)->Int->Option ((List Int))
 | 0,_,_=>none
 | k+1,s11,s12=>
  aM (decide (s12 < ((a0.gL.length:Int)))) λx13=>
  cond x13 (
   ae (jL N a0 s12 N s11 0) λp14=>
   jJ N a0 k p14 (I64 (s12+1))) (
   some s11)
def fQ(N:Nat)(a0:aK)(s25:Int):Nat->(List Int)->Int->Option ((List Int))
 | 0,_,_=>none
 | k+1,s28,s29=>
  cond (decide (s29 < 3)) (
   ae (idx a0.gJ s25) λe30=>
   ae (idx e30.toList s29) λe31=>
   ae (fT 1 s28 (([U8 e31]:List Int))) λz32=>
   fQ N a0 s25 k z32 (I64 (s29+1))) (
   some s28)
def jC(N:Nat)(a0:aK):Nat->(List Int)->Int->Option ((List Int))
 | 0,_,_=>none
 | k+1,s24,s25=>
  aM ((a0.gJ.length:Int)) λx26=>
  cond (decide (s25 < x26)) (
   ae (fQ N a0 s25 N s24 0) λp27=>
   jC N a0 k p27 (I64 (s25+1))) (
   some s24)
def rK(N:Nat)(a0:aK):Option ((List Int)×Int):=
 ae (nR N a0) λr1=>
 cond (r1 != 0) (
  some (([],r1))) (
  aM ((a0.gG.length:Int)) λx2=>
  aM ((a0.gJ.length:Int)) λx3=>
  ae (jF N a0 N (([U8 x2,U8 x3]:List Int)) 0) λp4=>
  ae (jJ N a0 N p4 0) λp10=>
  ae (jC N a0 N p10 0) λp23=>
  some ((p23,0)))
theorem aCO{N a0 r}(h:rK N a0=some r):FnM Tryz.prog 152 [] [(aK.enc a0)] (.tup [(eL 1 k8 r.1),(j64 r.2)]) []:=by
 refine Af aDL Tryz.func152 h ?_;refine At.y 4 vR λr1=>?_;refine At.c 3 ?_ ?_
 ·apply rt;exact At.r 3
 ·apply lx;intro x2;apply lx;intro x3;refine At.o 8 (sH hT k8 (k:=1) ([U8 x2,U8 x3]:List Int) (by kernel_rfl) (by kernel_rfl)) ?_;refine At.M 2 [1] 1 (λp4=>([(5,(eO 0 1 k8 p4))],[(0,.tail (p4.length*1))],[])) [1] 1 (CU2 (jF N a0)) (cu2 λs5 s6=>([(5,(eO 0 1 k8 s5)),(6,(j64 s6))],[(0,.tail (s5.length*1))],[])) (_,_) N (λp4 k=>un2 λs5 s6=>?_) λp4=>?_
  ·apply lx;intro x7;refine At.c 5 ?_ ?_
   ·refine At.i hT 4 aA.enc λe8=>?_;refine At.Y 1 [] rP λr9=>?_;exact λh=>At.vw 4 (_,_) (aJx 1 0 (by kernel_rfl) jr) h
   ·apply rt;exact At.x 0
  ·refine At.M 1 [1] 1 (λp10=>([(5,(eO 0 1 k8 p10))],[(0,.tail (p10.length*1))],[])) [1] 1 (CU2 (jJ N a0)) (cu2 λs11 s12=>([(5,(eO 0 1 k8 s11)),(7,(j64 s12))],[(0,.tail (s11.length*1))],[])) (_,_) N (λp10 k=>un2 λs11 s12=>?_) λp10=>?_
   ·apply lx;intro x13;refine At.c 5 ?_ ?_
    ·refine At.M 1 [1,7] 1 (λp14=>([(5,(eO 0 1 k8 p14))],[(0,.tail (p14.length*1))],[])) [1,7] 1 (CU2 (jL N a0 s12)) (cu2 λs15 s16=>([(5,(eO 0 1 k8 s15)),(8,(j64 s16))],[(0,.tail (s15.length*1))],[])) (_,_) N (λp14 k=>un2 λs15 s16=>?_) λp14=>?_
     ·refine At.c 2 ?_ ?_
      ·refine At.D 0 [] ?_;refine DD.i hT 5 (eA 2 1 j64) λe17=>?_;refine DD.B 0 (bAi j64) λe18=>?_;refine DD.i hT 7 (eA 2 1 j64) λe19=>?_;refine DD.B 0 (bAi j64) λe20=>?_;apply lx;intro x21;refine DD.O 3 bRw ?_;refine DD.U 0 (bAp k8) λz22=>?_;refine De 1 ?_;exact λh=>At.v 3 (_,_) h
      ·apply rt;exact At.x 0
     ·exact λh=>At.v 3 (_,_) h
    ·apply rt;exact At.x 0
   ·refine At.M 1 [] 1 (λp23=>([(5,(eO 0 1 k8 p23))],[(0,.tail (p23.length*1))],[])) [1] 1 (CU2 (jC N a0)) (cu2 λs24 s25=>([(5,(eO 0 1 k8 s24)),(9,(j64 s25))],[(0,.tail (s24.length*1))],[])) (_,_) N (λp23 k=>un2 λs24 s25=>?_) λp23=>?_
    ·apply lx;intro x26;refine At.c 5 ?_ ?_
     ·refine At.M 1 [1,9] 1 (λp27=>([(5,(eO 0 1 k8 p27))],[(0,.tail (p27.length*1))],[])) [1,9] 1 (CU2 (fQ N a0 s25)) (cu2 λs28 s29=>([(5,(eO 0 1 k8 s28)),(10,(j64 s29))],[(0,.tail (s28.length*1))],[])) (_,_) N (λp27 k=>un2 λs28 s29=>?_) λp27=>?_
      ·refine At.c 2 ?_ ?_
       ·refine At.i hT 5 (eA 3 1 j64) λe30=>?_;refine At.B 0 (bAi j64) λe31=>?_;refine At.O 2 bRw ?_;refine At.U 0 (bAp k8) λz32=>?_;exact λh=>At.v 4 (_,_) h
       ·apply rt;exact At.x 0
      ·exact λh=>At.v 3 (_,_) h
     ·apply rt;exact At.x 0
    ·apply rt;exact At.r 3
def aDO : Nat->Bool:=imL [1]
def fM(N:Nat)(a0:aJ)(s4:Int):Nat->(List Int)->Int->Option ((List Int))
 | 0,_,_=>none
 | k+1,s7,s8=>
  cond (decide (s8 < 3)) (
   ae (idx a0.gK s4) λe9=>
   ae (idx e9.toList s8) λe10=>
   ae (fT 1 s7 (([U8 e10]:List Int))) λz11=>
   fM N a0 s4 k z11 (I64 (s8+1))) (
   some s7)
def iX(N:Nat)(a0:aJ):Nat->(List Int)->Int->Option ((List Int))
 | 0,_,_=>none
 | k+1,s3,s4=>
  aM ((a0.gK.length:Int)) λx5=>
  cond (decide (s4 < x5)) (
   ae (fM N a0 s4 N s3 0) λp6=>
   iX N a0 k p6 (I64 (s4+1))) (
   some s3)
def rG(N:Nat)(a0:aJ):Option ((List Int)×Int):=
 ae (lH N a0) λr1=>
 cond (r1 != 0) (
  some (([],r1))) (
  ae (iX N a0 N (([U8 a0.gM]:List Int)) 0) λp2=>
  some ((p2,0)))
theorem aCW{N a0 r}(h:rG N a0=some r):FnM Tryz.prog 153 [] [(aJ.enc a0)] (.tup [(eL 1 k8 r.1),(j64 r.2)]) []:=by
 refine Af aDO Tryz.func153 h ?_;refine At.y 4 vS λr1=>?_;refine At.c 3 ?_ ?_
 ·apply rt;exact At.r 3
 ·refine At.o 3 (sH hT k8 (k:=1) ([U8 a0.gM]:List Int) (by kernel_rfl) (by kernel_rfl)) ?_;refine At.M 2 [] 1 (λp2=>([(5,(eO 0 1 k8 p2))],[(0,.tail (p2.length*1))],[])) [1] 1 (CU2 (iX N a0)) (cu2 λs3 s4=>([(5,(eO 0 1 k8 s3)),(6,(j64 s4))],[(0,.tail (s3.length*1))],[])) (_,_) N (λp2 k=>un2 λs3 s4=>?_) λp2=>?_
  ·apply lx;intro x5;refine At.c 5 ?_ ?_
   ·refine At.M 1 [1,6] 1 (λp6=>([(5,(eO 0 1 k8 p6))],[(0,.tail (p6.length*1))],[])) [1,6] 1 (CU2 (fM N a0 s4)) (cu2 λs7 s8=>([(5,(eO 0 1 k8 s7)),(7,(j64 s8))],[(0,.tail (s7.length*1))],[])) (_,_) N (λp6 k=>un2 λs7 s8=>?_) λp6=>?_
    ·refine At.c 2 ?_ ?_
     ·refine At.i hT 5 (eA 3 1 j64) λe9=>?_;refine At.B 0 (bAi j64) λe10=>?_;refine At.O 2 bRw ?_;refine At.U 0 (bAp k8) λz11=>?_;exact λh=>At.v 4 (_,_) h
     ·apply rt;exact At.x 0
    ·exact λh=>At.v 3 (_,_) h
   ·apply rt;exact At.x 0
  ·apply rt;exact At.r 3
def aEI : Nat->Bool:=imL [1]
def kH(N:Nat)(e4 e6 e8:Int)(a0:aI):Nat->(List Int)->Int->Option ((List Int))
 | 0,_,_=>none
 | k+1,s10,s11=>
  cond (decide (s11 < 4)) (
   ae (idx ([e4,e6,e8,a0.gI.gW]) s11) λe12=>
   ae (idx ([e4,e6,e8,a0.gI.gW]) s11) λe13=>
   aM (U8 (I64 (eg e13 256))) λx14=>
   ae (fT 1 s10 (([U8 (cp e12 256),x14]:List Int))) λz15=>
   kH N e4 e6 e8 a0 k z15 (I64 (s11+1))) (
   some s10)
def kS(N:Nat)(a0:aI):Nat->(List Int)->Int->Option ((List Int))
 | 0,_,_=>none
 | k+1,s17,s18=>
  cond (decide (s18 < 3)) (
   ae (aS s18 3) λ_=>
   ae (a0.gD.gF.toList[s18.toNat]?) λe20=>
   ae (lO N s17 4 ([U64 e20])) λr21=>
   kS N a0 k r21.1 (I64 (s18+1))) (
   some s17)
def pX(N:Nat)(a0:aI):Option ((List Int)):=
 cond (a0.gA==1) (
  ae (rK N a0.gP) λr1=>
  some r1.1) (
  cond (a0.gA==2) (
   ae (rG N a0.gR) λr2=>
   some r2.1) (
   cond (a0.gA==3) (
    ae (aS 0 3) λ_=>
    ae (a0.gI.gF.toList[(ag 0)]?) λe4=>
    ae (aS 1 3) λ_=>
    ae (a0.gI.gF.toList[(ag 1)]?) λe6=>
    ae (aS 2 3) λ_=>
    ae (a0.gI.gF.toList[(ag 2)]?) λe8=>
    ae (kH N e4 e6 e8 a0 N (([U8 a0.gI.gA]:List Int)) 0) λp9=>
    some p9) (
    ae (kS N a0 N ([U8 a0.gD.gA]) 0) λp16=>
    ae (lI N p16 a0.gD.gAt) λr22=>
    ae (lI N r22 a0.gD.gU) λr23=>
    ae (lI N r23 a0.gD.gV) λr24=>
    some r24)))
theorem aDK{N a0 r}(h:pX N a0=some r):FnM Tryz.prog 116 [] [(aI.enc a0)] (eL 1 k8 r) []:=by
 refine Af aEI Tryz.func116 h ?_;refine At.c 5 ?_ ?_
 ·refine At.y 2 aCO λr1=>?_;apply rt;exact At.r 7
 ·refine At.c 3 ?_ ?_
  ·refine At.y 2 aCW λr2=>?_;apply rt;exact At.r 7
  ·refine At.c 3 ?_ ?_
   ·refine At.o 7 (sH hT k8 (k:=1) ([U8 a0.gI.gA]:List Int) (by kernel_rfl) (by kernel_rfl)) ?_;refine At.B 2 bAr λu3=>?_;refine At.U 0 (bLd j64 1) λe4=>?_;refine At.B 1 bAr λu5=>?_;refine At.U 0 (bLd j64 1) λe6=>?_;refine At.B 1 bAr λu7=>?_;refine At.U 0 (bLd j64 1) λe8=>?_;refine At.O 2 bRw ?_;refine At.M 2 [] 2 (λp9=>([(8,(eO 1 1 k8 p9))],[(1,.tail (p9.length*1))],[])) [9] 2 (CU2 (kH N e4 e6 e8 a0)) (cu2 λs10 s11=>([(8,(eO 1 1 k8 s10)),(10,(j64 s11))],[(1,.tail (s10.length*1))],[])) (_,_) N (λp9 k=>un2 λs10 s11=>?_) λp9=>?_
    ·refine At.c 2 ?_ ?_
     ·refine At.D 0 [] ?_;refine DD.i hT 3 j64 λe12=>?_;refine DD.i hT 5 j64 λe13=>?_;apply lx;intro x14;refine DD.O 3 bRw ?_;refine DD.U 0 (bAp k8) λz15=>?_;refine De 1 ?_;exact λh=>At.v 3 (_,_) h
     ·apply rt;exact At.x 0
    ·apply rt;exact At.r 2
   ·refine At.O 7 bRw ?_;refine At.M 2 [11] 1 (λp16=>([(12,(eL 1 k8 p16))],[],[])) [11] 1 (CU2 (kS N a0)) (cu2 λs17 s18=>([(12,(eL 1 k8 s17)),(13,(j64 s18))],[],[])) (_,_) N (λp16 k=>un2 λs17 s18=>?_) λp16=>?_
    ·refine At.c 2 ?_ ?_
     ·refine At.B 3 bAr λu19=>?_;refine At.U 0 (bLd j64 1) λe20=>?_;refine At.O 1 bRw ?_;refine At.Y 0 [] aAy λr21=>?_;exact λh=>At.v 7 (_,_) h
     ·apply rt;exact At.x 0
    ·refine At.D 0 [] ?_;refine DD.Z 3 [] 1 rP λr22=>?_;refine DD.Z 2 [] 2 rP λr23=>?_;refine DD.Z 2 [] 3 rP λr24=>?_;refine De 1 ?_;apply rt;exact At.r 0
def aES : Nat->Bool:=imL [1]
def lG(N:Nat)(a0:aI):Option (Int):=
 ae (cond (a0.gA==1) (
  ae (nR N a0.gP) λr2=>
  ae (nT N a0.gR) λr3=>
  cond r3 (
   some ((r2,true))) (
   aM (!(aG.eq a0.gI (aG.mk 0 (#v[0,0,0]) 0))) λx4=>
   cond x4 (
    some ((r2,true))) (
    aM (!(aL.eq a0.gD (aL.mk 0 (#v[0,0,0]) (aA.mk 0 0 0) (aA.mk 0 0 0) (aA.mk 0 0 0)))) λx5=>
    some ((r2,x5))))) (
  cond (a0.gA==2) (
   ae (lH N a0.gR) λr6=>
   ae (rA N a0.gP) λr7=>
   cond r7 (
    some ((r6,true))) (
    aM (!(aG.eq a0.gI (aG.mk 0 (#v[0,0,0]) 0))) λx8=>
    cond x8 (
     some ((r6,true))) (
     aM (!(aL.eq a0.gD (aL.mk 0 (#v[0,0,0]) (aA.mk 0 0 0) (aA.mk 0 0 0) (aA.mk 0 0 0)))) λx9=>
     some ((r6,x9))))) (
   cond (a0.gA==3) (
    ae (qD N a0.gI) λr10=>
    ae (rA N a0.gP) λr11=>
    cond r11 (
     some ((r10,true))) (
     ae (nT N a0.gR) λr12=>
     cond r12 (
      some ((r10,true))) (
      aM (!(aL.eq a0.gD (aL.mk 0 (#v[0,0,0]) (aA.mk 0 0 0) (aA.mk 0 0 0) (aA.mk 0 0 0)))) λx13=>
      some ((r10,x13))))) (
    cond (a0.gA==4) (
     ae (sX N a0.gD) λr14=>
     ae (rA N a0.gP) λr15=>
     cond r15 (
      some ((r14,true))) (
      ae (nT N a0.gR) λr16=>
      cond r16 (
       some ((r14,true))) (
       aM (!(aG.eq a0.gI (aG.mk 0 (#v[0,0,0]) 0))) λx17=>
       some ((r14,x17))))) (
     some ((12,false))))))) λp1=>
 cond (p1.1 != 0) (
  some p1.1) (
  cond p1.2 (
   some 5) (
   ae (pX N a0) λr18=>
   ae (jO N a0.gA) λr19=>
   aM (decide (((r18.length:Int)) > r19)) λx20=>
   cond x20 (some 9) (some 0)))
theorem aDN{N a0 r}(h:lG N a0=some r):FnM Tryz.prog 72 [] [(aI.enc a0)] (j64 r) []:=by
 refine Af aES Tryz.func72 h ?_;refine At.J 4 1 [1] 0 (λp1=>([(3,(j64 p1.1)),(4,(eB p1.2))],[],[])) (λp1=>?_) λp1=>?_
 ·refine At.c 4 ?_ ?_
  ·refine At.y 2 vR λr2=>?_;refine At.y 3 tN λr3=>?_;refine At.s 15 1 ?_ ?_
   ·refine At.g [15,21] 12 ?_;apply rt;exact At.jn 0
   ·refine At.g [15] 3 ?_;refine At.O 0 (bNe aIa (a0.gI:aG) (aG.mk 0 (#v[0,0,0]) 0:aG)) ?_;apply lx;intro x4;refine At.g [15] 2 ?_;refine At.s 21 0 ?_ ?_
    ·refine At.g [21] 6 ?_;apply rt;exact At.jn 0
    ·refine At.g [21] 3 ?_;refine At.O 0 (bNe aI7 (a0.gD:aL) (aL.mk 0 (#v[0,0,0]) (aA.mk 0 0 0) (aA.mk 0 0 0) (aA.mk 0 0 0):aL)) ?_;apply lx;intro x5;refine At.g [21] 2 ?_;apply rt;exact At.jn 0
  ·refine At.c 2 ?_ ?_
   ·refine At.y 2 vS λr6=>?_;refine At.y 3 wF λr7=>?_;refine At.s 35 1 ?_ ?_
    ·refine At.g [35,41] 12 ?_;apply rt;exact At.jn 0
    ·refine At.g [35] 3 ?_;refine At.O 0 (bNe aIa (a0.gI:aG) (aG.mk 0 (#v[0,0,0]) 0:aG)) ?_;apply lx;intro x8;refine At.g [35] 2 ?_;refine At.s 41 0 ?_ ?_
     ·refine At.g [41] 6 ?_;apply rt;exact At.jn 0
     ·refine At.g [41] 3 ?_;refine At.O 0 (bNe aI7 (a0.gD:aL) (aL.mk 0 (#v[0,0,0]) (aA.mk 0 0 0) (aA.mk 0 0 0) (aA.mk 0 0 0):aL)) ?_;apply lx;intro x9;refine At.g [41] 2 ?_;apply rt;exact At.jn 0
   ·refine At.c 2 ?_ ?_
    ·refine At.y 2 aBo λr10=>?_;refine At.y 3 wF λr11=>?_;refine At.s 55 1 ?_ ?_
     ·refine At.g [55,60] 11 ?_;apply rt;exact At.jn 0
     ·refine At.g [55] 2 ?_;refine At.y 0 tN λr12=>?_;refine At.g [55] 2 ?_;refine At.s 60 0 ?_ ?_
      ·refine At.g [60] 6 ?_;apply rt;exact At.jn 0
      ·refine At.g [60] 3 ?_;refine At.O 0 (bNe aI7 (a0.gD:aL) (aL.mk 0 (#v[0,0,0]) (aA.mk 0 0 0) (aA.mk 0 0 0) (aA.mk 0 0 0):aL)) ?_;apply lx;intro x13;refine At.g [60] 2 ?_;apply rt;exact At.jn 0
    ·refine At.c 2 ?_ ?_
     ·refine At.y 2 aDP λr14=>?_;refine At.y 3 wF λr15=>?_;refine At.s 74 1 ?_ ?_
      ·refine At.g [74,79] 11 ?_;apply rt;exact At.jn 0
      ·refine At.g [74] 2 ?_;refine At.y 0 tN λr16=>?_;refine At.g [74] 2 ?_;refine At.s 79 0 ?_ ?_
       ·refine At.g [79] 6 ?_;apply rt;exact At.jn 0
       ·refine At.g [79] 3 ?_;refine At.O 0 (bNe aIa (a0.gI:aG) (aG.mk 0 (#v[0,0,0]) 0:aG)) ?_;apply lx;intro x17;refine At.g [79] 2 ?_;apply rt;exact At.jn 0
     ·apply rt;exact At.jn 0
 ·refine At.c 2 ?_ ?_
  ·apply rt;exact At.r 2
  ·refine At.c 1 ?_ ?_
   ·apply rt;exact At.r 1
   ·refine At.D 0 [] ?_;refine DD.y 1 aDK λr18=>?_;refine DD.y 3 wZ λr19=>?_;apply lx;intro x20;refine De 1 ?_;refine At.c 0 ?_ ?_
    ·apply rt;exact At.r 1
    ·apply rt;exact At.r 1
def rN(N:Nat)(a0:Int)(a1:(List Int)):Option (aI×Int):=
 ae (cond (a0==1) (
  ae (rQ N a1) λr2=>
  some ((r2.1.gG,r2.1.gL,r2.1.gJ,0,[],0,#v[0,0,0],0,0,#v[0,0,0],0,0,0,0,0,0,0,0,0,a1,0,0,r2.2))) (
  cond (a0==2) (
   ae (rF N a1) λr3=>
   some (([],[],[],r3.1.gM,r3.1.gK,0,#v[0,0,0],0,0,#v[0,0,0],0,0,0,0,0,0,0,0,0,a1,0,0,r3.2))) (
   cond (a0==3) (
    ae (aF N 1 (aD.mk a1 0 0)) λr4=>
    ae (iE N 2 (aD.mk r4.1 r4.2.1 r4.2.2.1)) λr5=>
    ae (aF N 2 (aD.mk r5.1 r5.2.1 r5.2.2.1)) λr6=>
    ae (dP N (aD.mk r6.1 r6.2.1 r6.2.2.1)) λr7=>
    some (([],[],[],0,[],I64 r4.2.2.2,r5.2.2.2,I64 r6.2.2.2,0,#v[0,0,0],0,0,0,0,0,0,0,0,0,r6.1,r6.2.1,r6.2.2.1,r7))) (
    cond (a0==4) (
     ae (aF N 1 (aD.mk a1 0 0)) λr8=>
     ae (iE N 4 (aD.mk r8.1 r8.2.1 r8.2.2.1)) λr9=>
     ae (jX N (aD.mk r9.1 r9.2.1 r9.2.2.1)) λr10=>
     ae (jX N (aD.mk r10.1 r10.2.1 r10.2.2.1)) λr11=>
     ae (jX N (aD.mk r11.1 r11.2.1 r11.2.2.1)) λr12=>
     ae (dP N (aD.mk r12.1 r12.2.1 r12.2.2.1)) λr13=>
     some (([],[],[],0,[],0,#v[0,0,0],0,I64 r8.2.2.2,r9.2.2.2,r10.2.2.2.gX,r10.2.2.2.gY,r10.2.2.2.gZ,r11.2.2.2.gX,r11.2.2.2.gY,r11.2.2.2.gZ,r12.2.2.2.gX,r12.2.2.2.gY,r12.2.2.2.gZ,r12.1,r12.2.1,r12.2.2.1,r13))) (
     some (([],[],[],0,[],0,#v[0,0,0],0,0,#v[0,0,0],0,0,0,0,0,0,0,0,0,a1,0,0,0))))))) λp1=>
 aM p1.2.2.2.2.2.2.2.2.2.2.2.2.2.2.2.2.2.2.2.2.2.2 λx14=>
 cond (x14 != 0) (
  aM p1.2.2.2.2.2.2.2.2.2.2.2.2.2.2.2.2.2.2.2.2.2.2 λx15=>
  some ((aI.mk 0 (aK.mk [] [] []) (aJ.mk 0 []) (aG.mk 0 (#v[0,0,0]) 0) (aL.mk 0 (#v[0,0,0]) (aA.mk 0 0 0) (aA.mk 0 0 0) (aA.mk 0 0 0)),x15))) (
  ae (lG N (aI.mk a0 (aK.mk p1.1 p1.2.1 p1.2.2.1) (aJ.mk p1.2.2.2.1 p1.2.2.2.2.1) (aG.mk p1.2.2.2.2.2.1 p1.2.2.2.2.2.2.1 p1.2.2.2.2.2.2.2.1) (aL.mk p1.2.2.2.2.2.2.2.2.1 p1.2.2.2.2.2.2.2.2.2.1 (aA.mk p1.2.2.2.2.2.2.2.2.2.2.1 p1.2.2.2.2.2.2.2.2.2.2.2.1 p1.2.2.2.2.2.2.2.2.2.2.2.2.1) (aA.mk p1.2.2.2.2.2.2.2.2.2.2.2.2.2.1 p1.2.2.2.2.2.2.2.2.2.2.2.2.2.2.1 p1.2.2.2.2.2.2.2.2.2.2.2.2.2.2.2.1) (aA.mk p1.2.2.2.2.2.2.2.2.2.2.2.2.2.2.2.2.1 p1.2.2.2.2.2.2.2.2.2.2.2.2.2.2.2.2.2.1 p1.2.2.2.2.2.2.2.2.2.2.2.2.2.2.2.2.2.2.1)))) λr16=>
  cond (r16 != 0) (
   some ((aI.mk 0 (aK.mk [] [] []) (aJ.mk 0 []) (aG.mk 0 (#v[0,0,0]) 0) (aL.mk 0 (#v[0,0,0]) (aA.mk 0 0 0) (aA.mk 0 0 0) (aA.mk 0 0 0)),r16))) (
   some ((aI.mk a0 (aK.mk p1.1 p1.2.1 p1.2.2.1) (aJ.mk p1.2.2.2.1 p1.2.2.2.2.1) (aG.mk p1.2.2.2.2.2.1 p1.2.2.2.2.2.2.1 p1.2.2.2.2.2.2.2.1) (aL.mk p1.2.2.2.2.2.2.2.2.1 p1.2.2.2.2.2.2.2.2.2.1 (aA.mk p1.2.2.2.2.2.2.2.2.2.2.1 p1.2.2.2.2.2.2.2.2.2.2.2.1 p1.2.2.2.2.2.2.2.2.2.2.2.2.1) (aA.mk p1.2.2.2.2.2.2.2.2.2.2.2.2.2.1 p1.2.2.2.2.2.2.2.2.2.2.2.2.2.2.1 p1.2.2.2.2.2.2.2.2.2.2.2.2.2.2.2.1) (aA.mk p1.2.2.2.2.2.2.2.2.2.2.2.2.2.2.2.2.1 p1.2.2.2.2.2.2.2.2.2.2.2.2.2.2.2.2.2.1 p1.2.2.2.2.2.2.2.2.2.2.2.2.2.2.2.2.2.2.1)),0))))
theorem aCG{N a0 a1 r}(h:rN N a0 a1=some r):FnM Tryz.prog 44 [] [(j64 a0),(eL 1 k8 a1)] (.tup [(aI.enc r.1),(j64 r.2)]) []:=by
 refine Af cM Tryz.func44 h ?_;refine At.J 11 1 [4,6] 3 (λp1=>([(8,(j64 p1.2.2.2.2.2.2.2.2.2.2.2.2.2.2.2.2.2.2.2.2.2.2))],[(1,.var (.st 24 [(j64 a0),(.st 3 [(eL 3 aA.enc p1.1),(eL 2 (eA 2 1 j64) p1.2.1),(eL 3 (eA 3 1 j64) p1.2.2.1)]),(.st 2 [(j64 p1.2.2.2.1),(eL 3 (eA 3 1 j64) p1.2.2.2.2.1)]),(.st 5 [(j64 p1.2.2.2.2.2.1),(eA 3 1 j64 p1.2.2.2.2.2.2.1),(j64 p1.2.2.2.2.2.2.2.1)]),(.st 13 [(j64 p1.2.2.2.2.2.2.2.2.1),(eA 3 1 j64 p1.2.2.2.2.2.2.2.2.2.1),(.st 3 [(j64 p1.2.2.2.2.2.2.2.2.2.2.1),(j64 p1.2.2.2.2.2.2.2.2.2.2.2.1),(j64 p1.2.2.2.2.2.2.2.2.2.2.2.2.1)]),(.st 3 [(j64 p1.2.2.2.2.2.2.2.2.2.2.2.2.2.1),(j64 p1.2.2.2.2.2.2.2.2.2.2.2.2.2.2.1),(j64 p1.2.2.2.2.2.2.2.2.2.2.2.2.2.2.2.1)]),(.st 3 [(j64 p1.2.2.2.2.2.2.2.2.2.2.2.2.2.2.2.2.1),(j64 p1.2.2.2.2.2.2.2.2.2.2.2.2.2.2.2.2.2.1),(j64 p1.2.2.2.2.2.2.2.2.2.2.2.2.2.2.2.2.2.2.1)])])])),(2,.var (.st 3 [(eL 1 k8 p1.2.2.2.2.2.2.2.2.2.2.2.2.2.2.2.2.2.2.2.1),(j64 p1.2.2.2.2.2.2.2.2.2.2.2.2.2.2.2.2.2.2.2.2.1),(j64 p1.2.2.2.2.2.2.2.2.2.2.2.2.2.2.2.2.2.2.2.2.2.1)]))],[])) (λp1=>?_) λp1=>?_
 ·refine At.c 3 ?_ ?_
  ·refine At.y 1 aCP λr2=>?_;apply rt;exact At.jn 6
  ·refine At.c 2 ?_ ?_
   ·refine At.y 1 aCr λr3=>?_;apply rt;exact At.jn 6
   ·refine At.c 2 ?_ ?_
    ·refine At.Y 1 [2] aR λr4=>?_;refine At.Y 5 [2] wS λr5=>?_;refine At.Y 4 [2] aR λr6=>?_;refine At.Y 5 [2] mJ λr7=>?_;apply rt;exact At.jn 1
    ·refine At.c 2 ?_ ?_
     ·refine At.Y 1 [2] aR λr8=>?_;refine At.Y 5 [2] wS λr9=>?_;refine At.Y 4 [2] qZ λr10=>?_;refine At.Y 4 [2] qZ λr11=>?_;refine At.Y 4 [2] qZ λr12=>?_;refine At.Y 4 [2] mJ λr13=>?_;apply rt;exact At.jn 1
     ·apply rt;exact At.jn 0
 ·apply lx;intro x14;refine At.c 2 ?_ ?_
  ·apply lx;intro x15;apply rt;exact At.r 4
  ·refine At.y 1 aDN λr16=>?_;refine At.c 3 ?_ ?_
   ·apply rt;exact At.r 4
   ·apply rt;exact At.r 3
def aEe : Nat->Bool:=imL [2]
def iU(N:Nat)(a1:(List Int))(s4:Int)(r9:(List Int)):Nat->Int->Option (Sum (Unit) (aE×aI×Int))
 | 0,_=>none
 | k+1,s11=>
  cond (decide (s11 < 4)) (
   ae (idx a1 (I64 (s4+s11))) λe12=>
   ae (idx r9 s11) λe13=>
   cond (e12 != e13) (
    some (Sum.inr ((aE.mk 0 0 0 (ai 8 0) 0 0 0 0,aI.mk 0 (aK.mk [] [] []) (aJ.mk 0 []) (aG.mk 0 (#v[0,0,0]) 0) (aL.mk 0 (#v[0,0,0]) (aA.mk 0 0 0) (aA.mk 0 0 0) (aA.mk 0 0 0)),7)))) (
    iU N a1 s4 r9 k (I64 (s11+1)))) (
   some (Sum.inl (())))
def fH(N:Nat)(r1:aE×Int)(a1:(List Int))(a0:(Vector Int 32)):Nat->(List Int)->Int->Int->Option (Sum ((List Int)×Int) (aE×aI×Int))
 | 0,_,_,_=>none
 | k+1,s3,s4,s5=>
  aM (decide (s5 < r1.1.gA0)) λx6=>
  cond x6 (
   aM (I64 (r1.1.gT - (I64 (256*s5)))) λx7=>
   aM (I64 (((a1.length:Int)) - s4)) λx8=>
   cond (decide (x8 < 4)) (
    some (Sum.inr ((aE.mk 0 0 0 (ai 8 0) 0 0 0 0,aI.mk 0 (aK.mk [] [] []) (aJ.mk 0 []) (aG.mk 0 (#v[0,0,0]) 0) (aL.mk 0 (#v[0,0,0]) (aA.mk 0 0 0) (aA.mk 0 0 0) (aA.mk 0 0 0)),4)))) (
    ae (uC N s5 (nE 256 x7)) λr9=>
    ae (iU N a1 s4 r9 N 0) λo=>mZ o (λp10=>
     aM (I64 (((a1.length:Int)) - s4)) λx14=>
     aM (I64 ((nE 256 x7)+16)) λx15=>
     aM (decide ((I64 (x14 - 4)) < x15)) λx16=>
     cond x16 (
      some (Sum.inr ((aE.mk 0 0 0 (ai 8 0) 0 0 0 0,aI.mk 0 (aK.mk [] [] []) (aJ.mk 0 []) (aG.mk 0 (#v[0,0,0]) 0) (aL.mk 0 (#v[0,0,0]) (aA.mk 0 0 0) (aA.mk 0 0 0) (aA.mk 0 0 0)),4)))) (
      ae (oD N a1) λr17=>
      ae (nO N r17 (I64 (s5+1))) λr18=>
      ae (cR a1 47 63) λs19=>
      ae (fT 1 r9 s19) λz20=>
      aM (I64 ((I64 (s4+4))+(nE 256 x7))) λx21=>
      ae (cR a1 (I64 (s4+4)) (I64 (x21+16))) λs22=>
      ae (oH N a0 r18 z20 s22) λr23=>
      cond (r23.2 != 0) (
       some (Sum.inr ((aE.mk 0 0 0 (ai 8 0) 0 0 0 0,aI.mk 0 (aK.mk [] [] []) (aJ.mk 0 []) (aG.mk 0 (#v[0,0,0]) 0) (aL.mk 0 (#v[0,0,0]) (aA.mk 0 0 0) (aA.mk 0 0 0) (aA.mk 0 0 0)),r23.2)))) (
       ae (fT 1 s3 r23.1) λz24=>
       aM (I64 ((I64 (s4+4))+(nE 256 x7))) λx25=>
       fH N r1 a1 a0 k z24 (I64 (x25+16)) (I64 (s5+1))))) (λr=>some (Sum.inr r)))) (
   some (Sum.inl ((s3,s4))))
def uF(N:Nat)(a0:(Vector Int 32))(a1:(List Int)):Option (aE×aI×Int):=
 ae (tX N a0 a1) λr1=>
 cond (r1.2 != 0) (
  some ((aE.mk 0 0 0 (ai 8 0) 0 0 0 0,aI.mk 0 (aK.mk [] [] []) (aJ.mk 0 []) (aG.mk 0 (#v[0,0,0]) 0) (aL.mk 0 (#v[0,0,0]) (aA.mk 0 0 0) (aA.mk 0 0 0) (aA.mk 0 0 0)),r1.2))) (
  ae (fH N r1 a1 a0 N [] 63 0) λo=>mZ o (λp2=>
   aM (decide (p2.2 < ((a1.length:Int)))) λx26=>
   cond x26 (
    some ((aE.mk 0 0 0 (ai 8 0) 0 0 0 0,aI.mk 0 (aK.mk [] [] []) (aJ.mk 0 []) (aG.mk 0 (#v[0,0,0]) 0) (aL.mk 0 (#v[0,0,0]) (aA.mk 0 0 0) (aA.mk 0 0 0) (aA.mk 0 0 0)),7))) (
    ae (rN N r1.1.gA p2.1) λr27=>
    cond (r27.2 != 0) (
     some ((aE.mk 0 0 0 (ai 8 0) 0 0 0 0,aI.mk 0 (aK.mk [] [] []) (aJ.mk 0 []) (aG.mk 0 (#v[0,0,0]) 0) (aL.mk 0 (#v[0,0,0]) (aA.mk 0 0 0) (aA.mk 0 0 0) (aA.mk 0 0 0)),r27.2))) (
     some ((r1.1,r27.1,0))))) (λr=>some r))
theorem aEH{N a0 a1 r}(h:uF N a0 a1=some r):FnM Tryz.prog 23 [] [(eA 32 1 k8 a0),(eL 1 k8 a1)] (.tup [(aE.enc r.1),(aI.enc r.2.1),(j64 r.2.2)]) []:=by
 refine Af aEe Tryz.func23 h ?_;refine At.y 6 aDu λr1=>?_;refine At.c 8 ?_ ?_
 ·apply rt;exact At.r 6
 ·refine At.ownn 3 9 1 ?_;refine At.MS 0 [1,4,5,7] 4 (λp2=>([(9,(eO 3 1 k8 p2.1)),(10,(j64 p2.2))],[(3,.tail (p2.1.length*1))],[])) [1,2,4,5,7] 4 (CU3 (fH N r1 a1 a0)) (cu3 λs3 s4 s5=>([(9,(eO 3 1 k8 s3)),(10,(j64 s4)),(11,(j64 s5))],[(3,.tail (s3.length*1))],[])) (_,_,_) N (λop2 g2 k=>un3 λs3 s4 s5=>?_) λp2=>?_
  ·apply lx;intro x6;refine At.c 4 ?_ ?_
   ·apply lx;intro x7;apply lx;intro x8;refine At.c 12 ?_ ?_
    ·intro e;apply wH g2 e;exact At.r 5
    ·refine At.Y 2 [] aDr λr9=>?_;refine At.MS 2 [1,2,4,5,7,9,10,11,12,13] 5 (λp10=>([],[],[])) [1,2,4,5,7,9,10,11,12,13] 5 (iU N a1 s4 r9) (λ(s11:Int)=>([(14,(j64 s11))],[],[])) _ N (λop10 g10 k s11=>?_) λp10=>?_
     ·refine At.c 2 ?_ ?_
      ·refine At.D 0 [] ?_;refine DD.i hT 4 k8 λe12=>?_;refine DD.i hT 3 k8 λe13=>?_;refine De 2 ?_;refine At.c 0 ?_ ?_
       ·intro e;apply rtS2 g10 g2 e;exact At.r 5
       ·exact λh=>At.v 3 _ h
      ·apply rt;exact At.xs 0
     ·apply lx;intro x14;apply lx;intro x15;apply lx;intro x16;refine At.c 8 ?_ ?_
      ·intro e;apply wH g2 e;exact At.r 5
      ·refine At.D 0 [] ?_;refine DD.y 2 aAY λr17=>?_;refine DD.y 2 zR λr18=>?_;refine DD.B 2 (bSl k8) λs19=>?_;refine DD.U 0 (bAp k8) λz20=>?_;apply lx;intro x21;refine DD.B 8 (bSl k8) λs22=>?_;refine DD.y 0 aAb λr23=>?_;refine De 5 ?_;refine At.c 2 ?_ ?_
       ·intro e;apply wH g2 e;exact At.r 6
       ·refine At.U 2 (bAp k8) λz24=>?_;apply lx;intro x25;exact λh=>At.v 10 (_,_,_) h
   ·apply rt;exact At.xs 0
  ·apply lx;intro x26;refine At.c 4 ?_ ?_
   ·apply rt;exact At.r 5
   ·refine At.y 3 aCG λr27=>?_;refine At.c 8 ?_ ?_
    ·apply rt;exact At.r 6
    ·refine At.D 0 [] ?_;refine De 5 ?_;apply rt;exact At.r 0
def nF(N:Nat)(b1:(List aH))(a1:(List Int))(a2:(Vector Int 32)):Option (Int×aE×aI×Int):=
 aM (decide (((a1.length:Int)) < 10)) λx1=>
 cond x1 (
  some ((0,aE.mk 0 0 0 (ai 8 0) 0 0 0 0,aI.mk 0 (aK.mk [] [] []) (aJ.mk 0 []) (aG.mk 0 (#v[0,0,0]) 0) (aL.mk 0 (#v[0,0,0]) (aA.mk 0 0 0) (aA.mk 0 0 0) (aA.mk 0 0 0)),4))) (
  ae (ae (idx a1 0) λe3=>
  cond (e3 != 85) (
   some true) (
   ae (idx a1 1) λe4=>
   cond (e4 != 77) (
    some true) (
    ae (idx a1 2) λe5=>
    cond (e5 != 75) (
     some true) (
     ae (idx a1 3) λe6=>
     some (e6 != 49))))) λp2=>
  cond p2 (
   some ((0,aE.mk 0 0 0 (ai 8 0) 0 0 0 0,aI.mk 0 (aK.mk [] [] []) (aJ.mk 0 []) (aG.mk 0 (#v[0,0,0]) 0) (aL.mk 0 (#v[0,0,0]) (aA.mk 0 0 0) (aA.mk 0 0 0) (aA.mk 0 0 0)),5))) (
   ae (idx a1 4) λe7=>
   ae (idx a1 5) λe8=>
   aM (I64 ((I64 e7)+(I64 (256*(I64 e8))))) λx9=>
   ae (idx a1 6) λe10=>
   ae (idx a1 7) λe11=>
   ae (idx a1 8) λe12=>
   ae (idx a1 9) λe13=>
   aM (I64 ((I64 e12)+(I64 (256*(I64 e13))))) λx14=>
   aM (I64 ((I64 e11)+(I64 (256*x14)))) λx15=>
   aM (I64 ((I64 e10)+(I64 (256*x15)))) λx16=>
   ae (cX N b1 x9 a2) λr17=>
   cond (decide (r17 < 0)) (
    some ((0,aE.mk 0 0 0 (ai 8 0) 0 0 0 0,aI.mk 0 (aK.mk [] [] []) (aJ.mk 0 []) (aG.mk 0 (#v[0,0,0]) 0) (aL.mk 0 (#v[0,0,0]) (aA.mk 0 0 0) (aA.mk 0 0 0) (aA.mk 0 0 0)),11))) (
    ae (ae (aS r17 b1.length) λ_=>
    ae (b1[r17.toNat]?) λe20=>
    aM (decide (x16 < e20.gQ)) λx21=>
    cond x21 (
     some true) (
     ae (aS r17 b1.length) λ_=>
     ae (b1[r17.toNat]?) λe23=>
     some (decide (x16 > e23.gTo)))) λp18=>
    cond p18 (
     some ((0,aE.mk 0 0 0 (ai 8 0) 0 0 0 0,aI.mk 0 (aK.mk [] [] []) (aJ.mk 0 []) (aG.mk 0 (#v[0,0,0]) 0) (aL.mk 0 (#v[0,0,0]) (aA.mk 0 0 0) (aA.mk 0 0 0) (aA.mk 0 0 0)),18))) (
     ae (vF N a2 x9 x16) λr24=>
     ae (cR a1 10 ((a1.length:Int))) λs25=>
     ae (uF N r24 s25) λr26=>
     cond (r26.2.2 != 0) (
      some ((0,aE.mk 0 0 0 (ai 8 0) 0 0 0 0,aI.mk 0 (aK.mk [] [] []) (aJ.mk 0 []) (aG.mk 0 (#v[0,0,0]) 0) (aL.mk 0 (#v[0,0,0]) (aA.mk 0 0 0) (aA.mk 0 0 0) (aA.mk 0 0 0)),r26.2.2))) (
      some ((x9,r26.1,r26.2.1,0)))))))
theorem aAe{N b1 a1 a2 r}(h:nF N b1 a1 a2=some r):FnM Tryz.prog 12 [.var (.st 33 [(eA 32 1 k8 a2),(.gro 1 3 b1.length .all)]),.gro 3 (List.map aH.enc b1)] [(.ref 0 [] 0),(eL 1 k8 a1)] (.tup [(j64 r.1),(aE.enc r.2.1),(aI.enc r.2.2.1),(j64 r.2.2.2)]) [.var (.st 33 [(eA 32 1 k8 a2),(.gro 1 3 b1.length .all)]),.gro 3 (List.map aH.enc b1)]:=by
 refine Af cM Tryz.func12 h ?_;apply lx;intro x1;refine At.c 7 ?_ ?_
 ·apply rt;exact At.r 6
 ·refine At.J 0 0 [0,1,5,6] 4 (λp2=>([(40,(eB p2))],[],[])) (λp2=>?_) λp2=>?_
  ·refine At.i hT 1 k8 λe3=>?_;refine At.s 23 3 ?_ ?_
   ·refine At.g [23,29,35] 17 ?_;apply rt;exact At.jn 0
   ·refine At.g [23] 1 ?_;refine At.i hT 0 k8 λe4=>?_;refine At.g [23] 4 ?_;refine At.s 29 0 ?_ ?_
    ·refine At.g [29,35] 11 ?_;apply rt;exact At.jn 0
    ·refine At.g [29] 1 ?_;refine At.i hT 0 k8 λe5=>?_;refine At.g [29] 4 ?_;refine At.s 35 0 ?_ ?_
     ·refine At.g [35] 5 ?_;apply rt;exact At.jn 0
     ·refine At.g [35] 1 ?_;refine At.i hT 0 k8 λe6=>?_;refine At.g [35] 3 ?_;apply rt;exact At.jn 0
  ·refine At.c 0 ?_ ?_
   ·apply rt;exact At.r 6
   ·refine At.D 0 [] ?_;refine DD.i hT 1 k8 λe7=>?_;refine DD.i hT 3 k8 λe8=>?_;apply lx;intro x9;refine De 5 ?_;refine At.D 0 [] ?_;refine DD.i hT 1 k8 λe10=>?_;refine DD.i hT 3 k8 λe11=>?_;refine DD.i hT 3 k8 λe12=>?_;refine DD.i hT 3 k8 λe13=>?_;apply lx;intro x14;apply lx;intro x15;apply lx;intro x16;refine De 9 ?_;refine At.Y 2 [0,1] lA λr17=>?_;refine At.c 3 ?_ ?_
    ·apply rt;exact At.r 6
    ·refine At.J 0 0 [0,1,5,6,8,9] 4 (λp18=>([(103,(eB p18))],[],[])) (λp18=>?_) λp18=>?_
     ·refine At.b 6 (λ_ e=>uG hT (id:=1) (k:=3) e (by kernel_rfl) (by kernel_rfl)) λu19=>?_;refine At.b 1 (λ_ e=>xD hT aH.enc [1] e rfl (by kernel_rfl) (by kernel_rfl)) λe20=>?_;apply lx;intro x21;refine At.s 92 2 ?_ ?_
      ·refine At.g [92] 11 ?_;apply rt;exact At.jn 0
      ·refine At.g [92] 6 ?_;refine At.b 0 (λ_ e=>uG hT (id:=1) (k:=3) e (by kernel_rfl) (by kernel_rfl)) λu22=>?_;refine At.g [92] 1 ?_;refine At.b 0 (λ_ e=>xD hT aH.enc [2] e rfl (by kernel_rfl) (by kernel_rfl)) λe23=>?_;refine At.g [92] 2 ?_;apply rt;exact At.jn 0
     ·refine At.c 0 ?_ ?_
      ·apply rt;exact At.r 6
      ·refine At.D 0 [false,false] ?_;refine DD.y 6 aEp λr24=>?_;refine DD.B 1 (bSl k8) λs25=>?_;refine DD.y 0 aEH λr26=>?_;refine De 9 ?_;refine At.c 2 ?_ ?_
       ·apply rt;exact At.r 7
       ·refine At.D 0 [] ?_;refine De 7 ?_;apply rt;exact At.r 0
def aEq : Nat->Bool:=imL [2,3]
def lR(N:Nat)(a0 a1:aK):Nat->Int->Option (Sum (Unit) (Bool))
 | 0,_=>none
 | k+1,s9=>
  aM ((a0.gG.length:Int)) λx10=>
  cond (decide (s9 < x10)) (
   ae (idx a0.gG s9) λe11=>
   ae (idx a1.gG s9) λe12=>
   cond (!(aA.eq e11 e12)) (
    some (Sum.inr false)) (
    lR N a0 a1 k (I64 (s9+1)))) (
   some (Sum.inl (())))
def lW(N:Nat)(a0 a1:aK):Nat->Int->Option (Sum (Unit) (Bool))
 | 0,_=>none
 | k+1,s14=>
  aM (decide (s14 < ((a0.gL.length:Int)))) λx15=>
  cond x15 (
   ae (idx a0.gL s14) λe16=>
   ae (idx a1.gL s14) λe17=>
   cond (!((eqV (λa b=>a==b)) e16 e17)) (
    some (Sum.inr false)) (
    lW N a0 a1 k (I64 (s14+1)))) (
   some (Sum.inl (())))
def lS(N:Nat)(a0 a1:aK):Nat->Int->Option (Sum (Unit) (Bool))
 | 0,_=>none
 | k+1,s19=>
  aM ((a0.gJ.length:Int)) λx20=>
  cond (decide (s19 < x20)) (
   ae (idx a0.gJ s19) λe21=>
   ae (idx a1.gJ s19) λe22=>
   cond (!((eqV (λa b=>a==b)) e21 e22)) (
    some (Sum.inr false)) (
    lS N a0 a1 k (I64 (s19+1)))) (
   some (Sum.inl (())))
def uE(N:Nat)(a0 a1:aK):Option (Bool):=
 aM ((a0.gG.length:Int)) λx1=>
 aM ((a1.gG.length:Int)) λx2=>
 aM (((a0.gL.length:Int)) != ((a1.gL.length:Int))) λx3=>
 aM (cond (x1 != x2) true x3) λx4=>
 aM ((a0.gJ.length:Int)) λx5=>
 aM ((a1.gJ.length:Int)) λx6=>
 aM (cond x4 true (x5 != x6)) λx7=>
 cond x7 (
  some false) (
  ae (lR N a0 a1 N 0) λo=>mZ o (λp8=>
   ae (lW N a0 a1 N 0) λo=>mZ o (λp13=>
    ae (lS N a0 a1 N 0) λo=>mZ o (λp18=>
     some true) (λr=>some r)) (λr=>some r)) (λr=>some r))
theorem aEQ{N a0 a1 r}(h:uE N a0 a1=some r):FnM Tryz.prog 25 [] [(aK.enc a0),(aK.enc a1)] (eB r) []:=by
 refine Af aEq Tryz.func25 h ?_;apply lx;intro x1;apply lx;intro x2;apply lx;intro x3;apply lx;intro x4;apply lx;intro x5;apply lx;intro x6;apply lx;intro x7;refine At.c 28 ?_ ?_
 ·apply rt;exact At.r 1
 ·refine At.MS 1 [2,3] 0 (λp8=>([],[],[])) [2,3] 0 (lR N a0 a1) (λ(s9:Int)=>([(5,(j64 s9))],[],[])) _ N (λop8 g8 k s9=>?_) λp8=>?_
  ·apply lx;intro x10;refine At.c 5 ?_ ?_
   ·refine At.D 0 [] ?_;refine DD.i hT 3 aA.enc λe11=>?_;refine DD.i hT 4 aA.enc λe12=>?_;refine DD.O 1 (bNe wJ (e11:aA) (e12:aA)) ?_;refine De 0 ?_;refine At.c 0 ?_ ?_
    ·intro e;apply wH g8 e;exact At.r 1
    ·exact λh=>At.v 3 _ h
   ·apply rt;exact At.xs 0
  ·refine At.MS 1 [2,3] 0 (λp13=>([],[],[])) [2,3] 0 (lW N a0 a1) (λ(s14:Int)=>([(6,(j64 s14))],[],[])) _ N (λop13 g13 k s14=>?_) λp13=>?_
   ·apply lx;intro x15;refine At.c 5 ?_ ?_
    ·refine At.D 0 [] ?_;refine DD.i hT 3 (eA 2 1 j64) λe16=>?_;refine DD.i hT 4 (eA 2 1 j64) λe17=>?_;refine DD.O 1 (bNe aOC (e16:(Vector Int 2)) (e17:(Vector Int 2))) ?_;refine De 0 ?_;refine At.c 0 ?_ ?_
     ·intro e;apply wH g13 e;exact At.r 1
     ·exact λh=>At.v 3 _ h
    ·apply rt;exact At.xs 0
   ·refine At.MS 1 [] 0 (λp18=>([],[],[])) [2,3] 0 (lS N a0 a1) (λ(s19:Int)=>([(7,(j64 s19))],[],[])) _ N (λop18 g18 k s19=>?_) λp18=>?_
    ·apply lx;intro x20;refine At.c 5 ?_ ?_
     ·refine At.D 0 [] ?_;refine DD.i hT 3 (eA 3 1 j64) λe21=>?_;refine DD.i hT 4 (eA 3 1 j64) λe22=>?_;refine DD.O 1 (bNe aJA (e21:(Vector Int 3)) (e22:(Vector Int 3))) ?_;refine De 0 ?_;refine At.c 0 ?_ ?_
      ·intro e;apply wH g18 e;exact At.r 1
      ·exact λh=>At.v 3 _ h
     ·apply rt;exact At.xs 0
    ·apply rt;exact At.r 1
def aEc : Nat->Bool:=imL [2,3]
def lU(N:Nat)(a0 a1:aJ):Nat->Int->Option (Sum (Unit) (Bool))
 | 0,_=>none
 | k+1,s5=>
  aM ((a0.gK.length:Int)) λx6=>
  cond (decide (s5 < x6)) (
   ae (idx a0.gK s5) λe7=>
   ae (idx a1.gK s5) λe8=>
   cond (!((eqV (λa b=>a==b)) e7 e8)) (
    some (Sum.inr false)) (
    lU N a0 a1 k (I64 (s5+1)))) (
   some (Sum.inl (())))
def tV(N:Nat)(a0 a1:aJ):Option (Bool):=
 aM ((a0.gK.length:Int)) λx1=>
 aM ((a1.gK.length:Int)) λx2=>
 aM (cond (a0.gM != a1.gM) true (x1 != x2)) λx3=>
 cond x3 (
  some false) (
  ae (lU N a0 a1 N 0) λo=>mZ o (λp4=>
   some true) (λr=>some r))
theorem aD8{N a0 a1 r}(h:tV N a0 a1=some r):FnM Tryz.prog 26 [] [(aJ.enc a0),(aJ.enc a1)] (eB r) []:=by
 refine Af aEc Tryz.func26 h ?_;apply lx;intro x1;apply lx;intro x2;apply lx;intro x3;refine At.c 17 ?_ ?_
 ·apply rt;exact At.r 1
 ·refine At.MS 1 [] 0 (λp4=>([],[],[])) [2,3] 0 (lU N a0 a1) (λ(s5:Int)=>([(5,(j64 s5))],[],[])) _ N (λop4 g4 k s5=>?_) λp4=>?_
  ·apply lx;intro x6;refine At.c 5 ?_ ?_
   ·refine At.D 0 [] ?_;refine DD.i hT 3 (eA 3 1 j64) λe7=>?_;refine DD.i hT 4 (eA 3 1 j64) λe8=>?_;refine DD.O 1 (bNe aJA (e7:(Vector Int 3)) (e8:(Vector Int 3))) ?_;refine De 0 ?_;refine At.c 0 ?_ ?_
    ·intro e;apply wH g4 e;exact At.r 1
    ·exact λh=>At.v 3 _ h
   ·apply rt;exact At.xs 0
  ·apply rt;exact At.r 1
def aFW : Nat->Bool:=imL [2,3]
def tW(N:Nat)(a0 a1:aI):Option (Bool):=
 ae (cond (a0.gA==a1.gA) (
  ae (uE N a0.gP a1.gP) λr2=>
  cond r2 (
   ae (tV N a0.gR a1.gR) λr3=>
   cond r3 (
    aM (aG.eq a0.gI a1.gI) λx4=>
    cond x4 (
     aM (aL.eq a0.gD a1.gD) λx5=>
     some x5) (
     some false)) (
    some false)) (
   some false)) (
  some false)) λp1=>
 some p1
theorem aEO{N a0 a1 r}(h:tW N a0 a1=some r):FnM Tryz.prog 13 [] [(aI.enc a0),(aI.enc a1)] (eB r) []:=by
 refine Af aFW Tryz.func13 h ?_;refine At.J 3 0 [] 0 (λp1=>([(4,(eB p1))],[],[])) (λp1=>?_) λp1=>?_
 ·refine At.s 10 6 ?_ ?_
  ·refine At.g [10] 4 ?_;refine At.y 0 aEQ λr2=>?_;refine At.g [10] 2 ?_;refine At.s 17 0 ?_ ?_
   ·refine At.g [17] 4 ?_;refine At.y 0 aD8 λr3=>?_;refine At.g [17] 2 ?_;refine At.s 24 0 ?_ ?_
    ·refine At.g [24] 4 ?_;refine At.O 0 (bEq aIa (a0.gI:aG) (a1.gI:aG)) ?_;apply lx;intro x4;refine At.g [24] 2 ?_;refine At.s 31 0 ?_ ?_
     ·refine At.g [31] 4 ?_;refine At.O 0 (bEq aI7 (a0.gD:aL) (a1.gD:aL)) ?_;apply lx;intro x5;refine At.g [31] 2 ?_;apply rt;exact At.jn 0
     ·refine At.g [31] 7 ?_;apply rt;exact At.jn 0
    ·refine At.g [24,31] 14 ?_;apply rt;exact At.jn 0
   ·refine At.g [17,24,31] 21 ?_;apply rt;exact At.jn 0
  ·refine At.g [10,17,24,31] 28 ?_;apply rt;exact At.jn 0
 ·apply rt;exact At.r 0
def aBS(N:Nat):Option (aI):=
 some (aI.mk 3 (aK.mk [] [] []) (aJ.mk 0 []) (aG.mk 0 (#v[0,0,0]) 0) (aL.mk 0 (#v[0,0,0]) (aA.mk 0 0 0) (aA.mk 0 0 0) (aA.mk 0 0 0)))
theorem aE6{N r}(h:aBS N=some r):FnM Tryz.prog 28 [] [] (aI.enc r) []:=by
 refine Af cM Tryz.func28 h ?_;apply rt;exact At.r 3
def aIe : Nat->Bool:=imL [1]
def aCM(N:Nat)(a0:aI):Option ((List Int)×Int):=
 ae (kU N a0) λr1=>
 cond (r1 != 0) (
  some (([],r1))) (
  ae (uS N a0) λr2=>
  some ((r2,0)))
theorem aHL{N a0 r}(h:aCM N a0=some r):FnM Tryz.prog 76 [] [(aI.enc a0)] (.tup [(eL 1 k8 r.1),(j64 r.2)]) []:=by
 refine Af aIe Tryz.func76 h ?_;refine At.y 4 aCk λr1=>?_;refine At.c 3 ?_ ?_
 ·apply rt;exact At.r 3
 ·refine At.y 1 aB2 λr2=>?_;apply rt;exact At.r 2
def aEy : Nat->Bool:=imL [1]
def aAr(N:Nat)(a0:aE):Option ((List Int)×Int):=
 ae (rT N a0) λr1=>
 cond (r1 != 0) (
  some (([],r1))) (
  ae (bW N [] 8 ([a0.gId])) λr2=>
  ae (bW N r2.1 1 ([U64 a0.gA])) λr3=>
  ae (bW N r3.1 4 ([U64 a0.gA3])) λr4=>
  ae (cR a0.gA2.toList 0 8) λs5=>
  ae (fT 1 r4.1 s5) λz6=>
  ae (bW N z6 4 ([U64 a0.gQ,U64 a0.gTo,U64 a0.gT])) λr7=>
  ae (bW N r7.1 2 ([U64 a0.gA0])) λr8=>
  some ((r8.1,r8.2)))
theorem aDx{N a0 r}(h:aAr N a0=some r):FnM Tryz.prog 78 [] [(aE.enc a0)] (.tup [(eL 1 k8 r.1),(j64 r.2)]) []:=by
 refine Af aEy Tryz.func78 h ?_;refine At.y 4 aAu λr1=>?_;refine At.c 3 ?_ ?_
 ·apply rt;exact At.r 3
 ·refine At.O 2 bRw ?_;refine At.Y 0 [] fL λr2=>?_;refine At.O 9 bRw ?_;refine At.Y 0 [] fL λr3=>?_;refine At.O 8 bRw ?_;refine At.Y 0 [] fL λr4=>?_;refine At.B 6 (bSI k8) λs5=>?_;refine At.U 0 (bAp k8) λz6=>?_;refine At.O 11 bRw ?_;refine At.Y 0 [] fL λr7=>?_;refine At.O 8 bRw ?_;refine At.Y 0 [] fL λr8=>?_;apply rt;exact At.r 4
def aL4 : Nat->Bool:=imL [4,5]
def aCX(N:Nat)(a0:(Vector Int 32))(a1:(Vector Int 12))(a2 a3:(List Int)):Option ((List Int)×Int):=
 aM (decide (((a2.length:Int)) > 16384)) λx1=>
 aM (decide (((a3.length:Int)) > 16384)) λx2=>
 cond (cond x1 true x2) (
  some (([],3))) (
  ae (xC N a0 1 a1 ([a3])) λr3=>
  ae (sN N a0 a1 a2 r3) λr4=>
  ae (cR r4.toList 0 16) λs6=>
  ae (cT N ([r3,s6])) λr7=>
  some ((r7,0)))
theorem aFT{N a0 a1 a2 a3 r}(h:aCX N a0 a1 a2 a3=some r):FnM Tryz.prog 79 [] [(eA 32 1 k8 a0),(eA 12 1 k8 a1),(eL 1 k8 a2),(eL 1 k8 a3)] (.tup [(eL 1 k8 r.1),(j64 r.2)]) []:=by
 refine Af aL4 Tryz.func79 h ?_;apply lx;intro x1;apply lx;intro x2;refine At.c 12 ?_ ?_
 ·apply rt;exact At.r 2
 ·refine At.O 3 bRw ?_;refine At.y 0 aDe λr3=>?_;refine At.y 5 aGl λr4=>?_;refine At.gz 3 0 ((eA 16 1 k8 r4)) ?_;refine At.B 0 (bSI k8) λs6=>?_;refine At.O 0 bRw ?_;refine At.Y 0 [] mC λr7=>?_;apply rt;exact At.r 2
def aB7(N:Nat)(a0:(List Int)):Option (Unit):=
 some (())
theorem aGN{N a0 r}(h:aB7 N a0=some r):FnM Tryz.prog 80 [] [(eL 1 k8 a0)] (.fn (.func 119) [] [(.ref 0 [] 0)]) [.var (eL 1 k8 a0)]:=by
 refine Af cM Tryz.func80 h ?_;refine At.o 2 (aKX (x:=(.fn (.func 119) [] [(.ref 0 [] 0)])) (by kernel_rfl) (by kernel_rfl)) ?_;apply rt;exact At.r 1
def aFo : Nat->Bool:=imL [4,5,7]
def xZ(N:Nat)(b3:(List Int))(a1:(Vector Int 32))(a2:(Vector Int 8))(a3 a4:(List Int))(a5:Int)(a6:(List Int)):Option ((List Int)):=
 aM (U64 ((a6.length:Int))) λx1=>
 ae (bW N [] 2 ([U64 a5,x1])) λr2=>
 ae (iS N a2 (I64 (a5+1))) λr3=>
 ae (cT N ([r2.1,a3])) λr4=>
 ae (aCX N a1 r3 r4 a6) λr5=>
 ae (fT 1 b3 r2.1) λz6=>
 ae (fT 1 z6 r5.1) λz7=>
 some z7
theorem aFN{N:Nat}{b3:(List Int)}{a1:(Vector Int 32)}{a2:(Vector Int 8)}{a3:(List Int)}{a4:(List Int)}{a5:Int}{a6:(List Int)}{r:(List Int)}(h:xZ N b3 a1 a2 a3 a4 a5 a6=some r):YldM Tryz.prog (aSO 101 Tryz.f46.body [1,1,1,1,1,1,1,1,1,1,0,1,0]) [en 4 (.im (eA 32 1 k8 a1)),en 5 (.im (eA 8 1 k8 a2)),en 13 (.ref 0 [] 0),en 14 (.ref 1 [] 0)] [.var (eO 3 1 k8 b3),.var (eL 1 k8 a3),.var (eL 1 k8 a4),.tail (b3.length*1)] [(j64 a5),(eL 1 k8 a6)] [.var (eO 3 1 k8 r),.var (eL 1 k8 a3),.var (eL 1 k8 a4),.tail (r.length*1)] none:=by
 unfold xZ at h;refine aN9 (lo:=5) (by kernel_rfl) (λbk rl=>At.of aFo hT hmo h ?_)
 refine At.to 0 ⟨[en 4 (.im (eA 32 1 k8 a1)),en 5 (.im (eA 8 1 k8 a2)),en 13 (.ref 0 [] 0),en 14 (.ref 1 [] 0),en 69 (j64 a5),en 70 (eL 1 k8 a6)],[.var (eO 3 1 k8 b3),.var (eL 1 k8 a3),.var (eL 1 k8 a4),.tail (b3.length*1),.loop rl]⟩ ?_;refine At.mid 2 (λrl2=>?_)
 apply lx;intro x1;refine At.O 5 bRw ?_;refine At.Y 0 [] fL λr2=>?_;refine At.wk 5 18 ((eL 1 k8 r2.1)) ?_;refine At.D 0 [] ?_;refine DD.y 4 wC λr3=>?_;refine DD.O 2 bRw ?_;refine DD.Z 0 [] 6 mC λr4=>?_;refine DD.y 1 aFT λr5=>?_;refine De 5 ?_;refine At.U 2 (bAp k8) λz6=>?_;refine At.U 1 (bAp k8) λz7=>?_;apply rt;exact At.rnd 1
def iM(N:Nat)(a1:(Vector Int 32))(a2:(Vector Int 8))(a3:(List Int)):Nat->(List Int)->(List Int)->Int->Option ((List Int)×(List Int))
 | 0,_,_,_=>none
 | k+1,s2,s3,s4=>
  aM (decide (((s3.length:Int)) > 0)) λx5=>
  cond x5 (
   aM (nE ((s3.length:Int)) 256) λx6=>
   ae (aIz s3 0 x6 x6) λs7=>
   ae (xZ N s2 a1 a2 a3 s3 s4 s7) λr8=>
   ae (cR s3 x6 ((s3.length:Int))) λs9=>
   iM N a1 a2 a3 k r8 s9 (I64 (s4+1))) (
   some ((s2,s3)))
def kC(N:Nat)(b3:(List Int))(a1:(Vector Int 32))(a2:(Vector Int 8))(a3 a4:(List Int)):Option ((List Int)×(List Int)):=
 ae (iM N a1 a2 a3 N b3 a4 0) λp1=>
 some ((p1.1,p1.2))
theorem vO{N:Nat}{b3:(List Int)}{a1:(Vector Int 32)}{a2:(Vector Int 8)}{a3:(List Int)}{a4:(List Int)}{r:(List Int)×(List Int)}(h:kC N b3 a1 a2 a3 a4=some r):ItM Tryz.prog 119 (aSO 101 Tryz.f46.body [1,1,1,1,1,1,1,1,1,1,0,1,0]) [en 4 (.im (eA 32 1 k8 a1)),en 5 (.im (eA 8 1 k8 a2)),en 13 (.ref 0 [] 0),en 14 (.ref 1 [] 0)] [.var (eO 3 1 k8 b3),.var (eL 1 k8 a3),.var (eL 1 k8 a4),.tail (b3.length*1)] [(.yld 4),(.ref 2 [] 0)] (.tup []) [.var (eO 3 1 k8 r.1),.var (eL 1 k8 a3),.var (eL 1 k8 r.2),.tail (r.1.length*1)] none:=by
 unfold kC at h;refine aP1 (m:=24) (lo:=5) (rs:=[]) hT Tryz.func119 rfl (by kernel_rfl) rfl (λfn tmps D hsz=>At.of cM hT hmo h ?_)
 refine At.M 1 [] 5 (λp1=>([],[(0,.var (eO 3 1 k8 p1.1)),(2,.var (eL 1 k8 p1.2)),(3,.tail (p1.1.length*1))],[])) [0,1] 5 (CU3 (iM N a1 a2 a3)) (cu3 λs2 s3 s4=>([(3,(j64 s4))],[(0,.var (eO 3 1 k8 s2)),(2,.var (eL 1 k8 s3)),(3,.tail (s2.length*1))],[])) (_,_,_) N (λp1 k=>un3 λs2 s3 s4=>?_) λp1=>?_
 ·apply lx;intro x5;refine At.c 3 ?_ ?_
  ·apply lx;intro x6;refine At.b 9 (λ_ e=>aLf hT (k:=1) k8 e (by kernel_rfl) (by kernel_rfl)) λs7=>?_;refine At.b 0 (λ_ e=>aUH (aFN e) (fn:=fn) (D:=D) hsz rfl (List.mem_singleton.2 rfl) (by kernel_rfl) (by kernel_rfl)) λr8=>?_;refine At.B 4 (bSl k8) λs9=>?_;exact λh=>At.v 4 (_,_,_) h
  ·apply rt;exact At.x 0
 ·apply rt;exact At.z 0
theorem uJ : vY Tryz.prog 119:=wU (show nM Tryz.prog 119=true by kernel_rfl)
def aJf : Nat->Bool:=imL [4,5,7]
def aBB(N:Nat)(a0:(Vector Int 32))(a1:(Vector Int 8))(a2:aE)(a3:aI):Option ((List Int)×Int):=
 ae (aCM N a3) λr1=>
 cond (r1.2 != 0) (
  some (([],r1.2))) (
  cond (a2.gA != a3.gA) (
   some (([],12))) (
   ae (qV N ((r1.1.length:Int))) λr2=>
   ae (aAr N (aE.mk a2.gId a2.gA a2.gA3 a2.gA2 a2.gQ a2.gTo ((r1.1.length:Int)) r2)) λr3=>
   cond (r3.2 != 0) (
    some (([],r3.2))) (
    ae (cR a1.toList 0 8) λs4=>
    ae (cT N ([([85,77,66,49]:List Int),s4,r3.1])) λr5=>
    ae (iS N a1 0) λr6=>
    ae (aCX N a0 r6 r5 []) λr7=>
    ae (fT 1 r5 r7.1) λz8=>
    ae (aB7 N r1.1) λr9=>
    ae (kC N z8 a0 a1 r7.1 r1.1) λr10=>
    some ((r10.1,0)))))
theorem aHf{N a0 a1 a2 a3 r}(h:aBB N a0 a1 a2 a3=some r):FnM Tryz.prog 46 [] [(eA 32 1 k8 a0),(eA 8 1 k8 a1),(aE.enc a2),(aI.enc a3)] (.tup [(eL 1 k8 r.1),(j64 r.2)]) []:=by
 unfold aBB at h;refine At.fR aJf hT hmo Tryz.func46 rfl h ?_;refine At.y 7 aHL λr1=>?_;refine At.c 7 ?_ ?_
 ·apply rt;exact At.r 3
 ·refine At.c 5 ?_ ?_
  ·apply rt;exact At.r 2
  ·refine At.y 4 aAO λr2=>?_;refine At.y 5 aDx λr3=>?_;refine At.c 7 ?_ ?_
   ·apply rt;exact At.r 3
   ·refine At.l2 hT 0 (d1:=50) (d2:=51) (t:=24) (e:=5) k8 (z:=1) ([85,77,66,49]:List Int) rfl rfl rfl ?_;refine At.B 0 (bSI k8) λs4=>?_;refine At.wk 1 51 ((eL 1 k8 (([85,77,66,49]:List Int)))) ?_;refine At.O 0 bRw ?_;refine At.Y 0 [] mC λr5=>?_;refine At.D 2 [] ?_;refine DD.y 2 wC λr6=>?_;refine DD.y 1 aFT λr7=>?_;refine De 6 ?_;refine At.U 2 (bAp k8) λz8=>?_;refine At.Y 2 [] aGN λr9=>?_;refine bi λr10 hr10=>?_;refine At.rg 0 (vO hr10) uJ (.tmp 68) [3,4,5,2] ⟨[en 13 (.ref 3 [] 0)],[.var (.st 15 [(k64 a2.gId),(j64 a2.gA),(k32 a2.gA3),(eA 8 1 k8 a2.gA2),(k32 a2.gQ),(k32 a2.gTo),(j64 ((r1.1.length:Int))),(j64 r2)]),.tail ((([85,77,66,49]:List Int)).length*1),.tail (r10.1.length*1),.var (eO 2 1 k8 r10.1),.var (eL 1 k8 r7.1),.var (eL 1 k8 r10.2)]⟩ [(.ref 5 [] 0)] ?_;apply rt;exact At.r 3
def aMm : Nat->Bool:=imL [6,9,10,11]
def aG5(N:Nat)(a0:(Vector Int 32))(a1 a2:Int)(a3:(Vector Int 8))(a4:aE)(a5:aI):Option ((List Int)×Int):=
 ae (ae (uU N a1) λr2=>
 cond (!r2) (
  some true) (
  ae (uU N a2) λr3=>
  some (!r3))) λp1=>
 cond p1 (
  some (([],2))) (
  ae (aAS N a0 a1 a2) λr4=>
  ae (aBB N r4 a3 a4 a5) λr5=>
  cond (r5.2 != 0) (
   some (([],r5.2))) (
   ae (bW N (([85,77,75,49]:List Int)) 2 ([U64 a1])) λr6=>
   ae (bW N r6.1 4 ([U64 a2])) λr7=>
   ae (fT 1 r7.1 r5.1) λz8=>
   some ((z8,0))))
theorem aKN{N a0 a1 a2 a3 a4 a5 r}(h:aG5 N a0 a1 a2 a3 a4 a5=some r):FnM Tryz.prog 27 [] [(eA 32 1 k8 a0),(j64 a1),(j64 a2),(eA 8 1 k8 a3),(aE.enc a4),(aI.enc a5)] (.tup [(eL 1 k8 r.1),(j64 r.2)]) []:=by
 refine Af aMm Tryz.func27 h ?_;refine At.J 6 0 [1,2,6,9,10,11] 0 (λp1=>([(25,(eB p1))],[],[])) (λp1=>?_) λp1=>?_
 ·refine At.y 1 zK λr2=>?_;refine At.s 21 2 ?_ ?_
  ·refine At.g [21] 4 ?_;apply rt;exact At.jn 0
  ·refine At.g [21] 1 ?_;refine At.y 0 zK λr3=>?_;refine At.g [21] 2 ?_;apply rt;exact At.jn 0
 ·refine At.c 0 ?_ ?_
  ·apply rt;exact At.r 2
  ·refine At.D 0 [] ?_;refine DD.y 3 aGR λr4=>?_;refine DD.y 3 aHf λr5=>?_;refine De 5 ?_;refine At.c 2 ?_ ?_
   ·apply rt;exact At.r 3
   ·refine At.l2 hT 0 (d1:=41) (d2:=42) (t:=24) (e:=5) k8 (z:=1) ([85,77,75,49]:List Int) rfl rfl rfl ?_;refine At.O 2 bRw ?_;refine At.Y 0 [] fL λr6=>?_;refine At.O 8 bRw ?_;refine At.Y 0 [] fL λr7=>?_;refine At.U 6 (bAp k8) λz8=>?_;apply rt;exact At.r 2
def sW(N:Nat):Option (Bool):=
 ae (aBr N ((ai 32 0).setIfInBounds 0 1)) λr1=>
 ae (pT N (([]:(List (Int×aV)))) 7 (((ai 32 0).setIfInBounds 0 1))) λr2=>
 cond (r2.2 != 0) (
  some false) (
  ae (aBS N ) λr3=>
  ae (aG5 N ((ai 32 0).setIfInBounds 0 1) 7 1 (ai 8 0) (aE.mk 0 3 0 (ai 8 0) 0 0 0 0) r3) λr4=>
  ae (mU N r2.1 r4.1 (((ai 32 0).setIfInBounds 0 1))) λr5=>
  ae (nL N r2.1 7 (((ai 32 0).setIfInBounds 0 1))) λr6=>
  ae (mL N r6.1 7 1 (((ai 32 0).setIfInBounds 0 1))) λr7=>
  ae (mU N r7.1 r4.1 (((ai 32 0).setIfInBounds 0 1))) λr8=>
  aM (((r4.1.length:Int))==102) λx9=>
  aM (cond (r4.2==0) x9 false) λx10=>
  aM (cond x10 (r5.2.2.2==0) false) λx11=>
  aM (cond x11 (r5.1==7) false) λx12=>
  aM (cond x12 (r6.2.1==2) false) λx13=>
  aM (cond x13 (r6.2.2==0) false) λx14=>
  aM (cond x14 (r7.2==0) false) λx15=>
  aM (cond x15 (r8.2.2.2==18) false) λx16=>
  some x16)
theorem aDS{N r}(h:sW N=some r):FnM Tryz.prog 14 [] [] (eB r) []:=by
 refine Af cM Tryz.func14 h ?_;refine At.Y 2 [] aGu λr1=>?_;refine At.o 2 (aBj hT (t:=25) (x:=(.ref 1 [] 0)) (b:=true) (by kernel_rfl) rfl rfl (by kernel_rfl)) ?_;refine At.g [19] 2 ?_;refine At.Y 0 [1,0] zS λr2=>?_;refine At.g [19] 2 ?_;refine At.c 0 ?_ ?_
 ·apply rt;exact At.r 1
 ·refine At.y 3 aE6 λr3=>?_;refine At.y 0 aKN λr4=>?_;refine At.Y 7 [1,0] uT λr5=>?_;refine At.Y 12 [1,0] wV λr6=>?_;refine At.Y 6 [1,0] wM λr7=>?_;refine At.Y 3 [1,0] uT λr8=>?_;apply lx;intro x9;apply lx;intro x10;apply lx;intro x11;apply lx;intro x12;apply lx;intro x13;apply lx;intro x14;apply lx;intro x15;apply lx;intro x16;apply rt;exact At.r 43
def aBn : Nat->Bool:=imL [3]
def jS(N:Nat)(a1:(List bF))(a0:(Vector Int 32)):Nat->(List (Int×aV))->(List aH)->Int->Option ((List (Int×aV))×(List aH))
 | 0,_,_,_=>none
 | k+1,s5,s6,s7=>
  aM (decide (s7 < ((a1.length:Int)))) λx8=>
  aM (cond x8 (decide (s7 < 20)) false) λx9=>
  cond x9 (
   ae (ae (idx a1 s7) λe11=>
   cond (e11.gA==0) (
    ae (idx a1 s7) λe12=>
    ae (pT N s5 e12.gId a0) λr13=>
    ae (idx a1 s7) λe14=>
    ae (fB N s6 e14.gId a0) λq=>
    mZ q (λr15=>
     some ((r13.1,s6))) (λr16=>
     some ((r13.1,r16.1)))) (
    cond (e11.gA==1) (
     ae (idx a1 s7) λe17=>
     ae (nL N s5 e17.gId a0) λr18=>
     ae (idx a1 s7) λe19=>
     ae (lY N s6 e19.gId a0) λr20=>
     some ((r18.1,r20.1))) (
     ae (idx a1 s7) λe21=>
     ae (idx a1 s7) λe22=>
     ae (mL N s5 e21.gId e22.gA5 a0) λr23=>
     ae (idx a1 s7) λe24=>
     ae (idx a1 s7) λe25=>
     ae (lC N s6 e24.gId e25.gA5 a0) λr26=>
     some ((r23.1,r26.1))))) λp10=>
   jS N a1 a0 k p10.1 p10.2 (I64 (s7+1))) (
   some ((s5,s6)))
def sQ(N:Nat)(a0:(Vector Int 32))(a1:(List bF))(a2:(List Int)):Option (Bool):=
 aM (nE ((a2.length:Int)) 1200) λx1=>
 ae (cR a2 0 x1) λs2=>
 ae (aBr N a0) λr3=>
 ae (jS N a1 a0 N [] [] 0) λp4=>
 ae (mU N p4.1 s2 a0) λr27=>
 ae (nF N p4.2 s2 a0) λr28=>
 ae (cond (r27.1==r28.1) (
  aM (aE.eq r27.2.1 r28.2.1) λx30=>
  cond x30 (
   ae (tW N r27.2.2.1 r28.2.2.1) λr31=>
   aM (cond r31 (r27.2.2.2==r28.2.2.2) false) λx32=>
   cond x32 (
    ae (sW N ) λr33=>
    some r33) (
    some false)) (
   some false)) (
  some false)) λp29=>
 some p29
theorem aBH{N a0 a1 a2 r}(h:sQ N a0 a1 a2=some r):FnM Tryz.prog 3 [] [(eA 32 1 k8 a0),(eL 3 bF.enc a1),(eL 1 k8 a2)] (eB r) []:=by
 refine Af aBn Tryz.func3 h ?_;apply lx;intro x1;refine At.B 6 (bSl k8) λs2=>?_;refine At.D 1 [false] ?_;refine DD.Z 1 [] 1 aGu λr3=>?_;refine De 5 ?_;refine At.o 1 (aBj hT (t:=25) (x:=(.ref 2 [] 0)) (b:=true) (by kernel_rfl) rfl rfl (by kernel_rfl)) ?_;refine At.grob 2 0 3 [1] ?_;refine At.M 0 [2,7,8] 4 (λp4=>([],[(0,.var (.st 33 [(eA 32 1 k8 a0),(.gro 3 3 p4.2.length .all)])),(1,.mp (eM .i64 aV.enc p4.1)),(3,.gro 3 (List.map aH.enc p4.2))],[])) [1,2,7,8] 4 (CU3 (jS N a1 a0)) (cu3 λs5 s6 s7=>([(9,(j64 s7))],[(0,.var (.st 33 [(eA 32 1 k8 a0),(.gro 3 3 s6.length .all)])),(1,.mp (eM .i64 aV.enc s5)),(3,.gro 3 (List.map aH.enc s6))],[])) (_,_,_) N (λp4 k=>un3 λs5 s6 s7=>?_) λp4=>?_
 ·apply lx;intro x8;apply lx;intro x9;refine At.c 8 ?_ ?_
  ·refine At.J 0 2 [1,2,7,8,9] 4 (λp10=>([],[(0,.var (.st 33 [(eA 32 1 k8 a0),(.gro 3 3 p10.2.length .all)])),(1,.mp (eM .i64 aV.enc p10.1)),(3,.gro 3 (List.map aH.enc p10.2))],[])) (λp10=>?_) λp10=>?_
   ·refine At.i hT 2 bF.enc λe11=>?_;refine At.c 4 ?_ ?_
    ·refine At.i hT 3 bF.enc λe12=>?_;refine At.Y 2 [2,1] zS λr13=>?_;refine At.i hT 3 bF.enc λe14=>?_;refine sumI (λr15 hr15=>?_) (λr16 hr16=>?_)
     ·refine At.o 2 (aLl [0,3] (yT hr15)) ?_;apply rt;exact At.jn 0
     ·refine At.o 2 (aLl [0,3] (yM hr16)) ?_;apply rt;exact At.jw 0 (aJx 4 3 (by kernel_rfl) jr)
    ·refine At.c 2 ?_ ?_
     ·refine At.i hT 3 bF.enc λe17=>?_;refine At.Y 2 [2,1] wV λr18=>?_;refine At.i hT 3 bF.enc λe19=>?_;refine At.Y 2 [0,3] zP λr20=>?_;apply rt;exact At.jn 0
     ·refine At.D 0 [] ?_;refine DD.i hT 3 bF.enc λe21=>?_;refine DD.i hT 4 bF.enc λe22=>?_;refine DD.Y 2 [2,1] wM λr23=>?_;refine De 0 ?_;refine At.D 0 [] ?_;refine DD.i hT 3 bF.enc λe24=>?_;refine DD.i hT 4 bF.enc λe25=>?_;refine DD.Y 2 [0,3] yP λr26=>?_;refine De 0 ?_;apply rt;exact At.jn 0
   ·exact λh=>At.v 3 (_,_,_) h
  ·apply rt;exact At.x 0
 ·refine At.Y 2 [2,1] uT λr27=>?_;refine At.Y 13 [0,3] aAe λr28=>?_;refine At.J 11 0 [] 8 (λp29=>([(6,(eB p29))],[],[])) (λp29=>?_) λp29=>?_
  ·refine At.s 120 4 ?_ ?_
   ·refine At.g [120] 2 ?_;refine At.O 0 (bEq aVi (r27.2.1:aE) (r28.2.1:aE)) ?_;apply lx;intro x30;refine At.g [120] 2 ?_;refine At.s 125 0 ?_ ?_
    ·refine At.g [125] 2 ?_;refine At.y 0 aEO λr31=>?_;apply lx;intro x32;refine At.g [125] 7 ?_;refine At.s 135 0 ?_ ?_
     ·refine At.y 0 aDS λr33=>?_;refine At.g [135] 2 ?_;apply rt;exact At.jn 0
     ·refine At.g [135] 3 ?_;apply rt;exact At.jn 0
    ·refine At.g [125,130,135] 13 ?_;apply rt;exact At.jn 0
   ·refine At.g [120,125,130,135] 18 ?_;apply rt;exact At.jn 0
  ·apply rt;exact At.r 0
end Go.UK
