/- A part of the proof: what the functions of the program compute. -/
import Derived.Test.YtogkmakcedgneaaGreatWT
open Int renaming tmod→cp,toNat→ag
open List renaming length_map→cr,map→dk,replicate→ak
open Option renaming bind→ae
open Vector renaming replicate→ai
namespace Go.UK
open Go Go.Proofs
set_option maxRecDepth 20000
set_option maxHeartbeats 40000000
set_option linter.all false
attribute [local irreducible] adv aCx aF3 aAR brPt aO8 aH6 qJ aBm iN qH dN yW aMI aNk lPt bP opD mK aAP aNJ stD dCl dEn dH DD aM owp awl aw FnM aKF opS TOK Big
def aNb : Nat->Bool:=imL [1]
def aBr(N:Nat)(a0:(Vector Int 32)):Option (Unit):=
 some (())
theorem aGu{N a0 r}(h:aBr N a0=some r):FnM Tryz.prog 4 [] [(eA 32 1 k8 a0)] (.ref 1 [] 0) [.mp (eM .i64 aV.enc []),.var (.st 33 [(eA 32 1 k8 a0),(.mp 0)])]:=by
 refine Af aNb Tryz.func4 h ?_;refine At.o 3 (aUB .i64 aV.enc (by kernel_rfl) (by kernel_rfl)) ?_;apply rt;exact At.r 3
def lM(N:Nat)(b1:(List (Int×aV)))(a1:(Vector Int 32)):Option (Unit):=
 some (())
theorem vU{N b1 a1 r}(h:lM N b1 a1=some r):FnM Tryz.prog 15 [.var (.st 33 [(eA 32 1 k8 a1),(.mp 1)]),.mp (eM .i64 aV.enc b1)] [(.ref 0 [] 0)] (eB false) [.var (.st 33 [(eA 32 1 k8 a1),(.mp 1)]),.mp (eM .i64 aV.enc b1)]:=by
 refine Af cM Tryz.func15 h ?_;refine At.o 2 (aBj hT (t:=25) (x:=(.ref 0 [] 0)) (b:=true) (by kernel_rfl) rfl rfl (by kernel_rfl)) ?_;refine At.g [5] 5 ?_;refine At.o 0 (aSg (t:=70) (kt:=3) (et:=75) (x:=(.mp 1)) (b:=true) (by kernel_rfl) rfl rfl (by kernel_rfl)) ?_;refine At.g [5] 2 ?_;apply rt;exact At.r 0
def uU(N:Nat)(a0:Int):Option (Bool):=
 aM (cond (decide (a0>=1)) (decide (a0<=65535)) false) λx1=>
 some x1
theorem zK{N a0 r}(h:uU N a0=some r):FnM Tryz.prog 16 [] [(j64 a0)] (eB r) []:=by
 refine Af cM Tryz.func16 h ?_;apply lx;intro x1;apply rt;exact At.r 8
theorem aIG : MpT Tryz.prog tbl 70 .i64 ⟨2,16,(aV.enc (aV.mk 0 0)),.st [(0,3),(1,3)]⟩:=⟨⟨3,75,rfl,rfl,by kernel_rfl⟩⟩
def pT(N:Nat)(b1:(List (Int×aV)))(a1:Int)(a2:(Vector Int 32)):Option ((List (Int×aV))×Int):=
 ae (lM N b1 a2) λr1=>
 ae (uU N a1) λr2=>
 cond (!r2) (
  some ((b1,2))) (
  cond (aMW b1 a1) (some ((b1,10))) (some ((uI b1 a1 (aV.mk 1 1),0))))
theorem zS{N b1 a1 a2 r}(h:pT N b1 a1 a2=some r):FnM Tryz.prog 5 [.var (.st 33 [(eA 32 1 k8 a2),(.mp 1)]),.mp (eM .i64 aV.enc b1)] [(.ref 0 [] 0),(j64 a1)] (j64 r.2) [.var (.st 33 [(eA 32 1 k8 a2),(.mp 1)]),.mp (eM .i64 aV.enc r.1)]:=by
 refine Af cM Tryz.func5 h ?_;refine At.Y 2 [0,1] vU λr1=>?_;refine At.y 3 zK λr2=>?_;refine At.c 2 ?_ ?_
 ·apply rt;exact At.r 1
 ·refine At.o 5 (aOY hT (f:=aV.enc) (z:=aV.mk 0 0) (id:=1) (k:=a1) aIG (λ_ _ h=>by cases h) (b1:List (Int×aV)) (by kernel_rfl) (by kernel_rfl) (by kernel_rfl)) ?_;refine At.c 7 ?_ ?_
  ·apply rt;exact At.r 1
  ·refine At.o 6 (aK4 (f:=aV.enc) (id:=1) (k:=a1) (v:=(aV.mk 1 1)) aIG (λ_=>rfl) (b1:List (Int×aV)) (by kernel_rfl) (by kernel_rfl) (by kernel_rfl)) ?_;apply rt;exact At.r 1
def mS(N:Nat)(b1:(List (Int×aV)))(a1:Int)(a2:(Vector Int 32)):Option (aV×Int):=
 ae (lM N b1 a2) λr1=>
 cond (!(aMW b1 a1)) (
  some ((aV.mk 0 0,11))) (
  some ((aJ4 b1 a1 (aV.mk 0 0),0)))
theorem vB{N b1 a1 a2 r}(h:mS N b1 a1 a2=some r):FnM Tryz.prog 18 [.var (.st 33 [(eA 32 1 k8 a2),(.mp 1)]),.mp (eM .i64 aV.enc b1)] [(.ref 0 [] 0),(j64 a1)] (.tup [(aV.enc r.1),(j64 r.2)]) [.var (.st 33 [(eA 32 1 k8 a2),(.mp 1)]),.mp (eM .i64 aV.enc b1)]:=by
 refine Af cM Tryz.func18 h ?_;refine At.Y 3 [0,1] vU λr1=>?_;refine At.o 6 (aOY hT (f:=aV.enc) (z:=aV.mk 0 0) (id:=1) (k:=a1) aIG (λ_ _ h=>by cases h) (b1:List (Int×aV)) (by kernel_rfl) (by kernel_rfl) (by kernel_rfl)) ?_;refine At.c 8 ?_ ?_
 ·apply rt;exact At.r 3
 ·apply rt;exact At.r 3
def nL(N:Nat)(b1:(List (Int×aV)))(a1:Int)(a2:(Vector Int 32)):Option ((List (Int×aV))×Int×Int):=
 ae (mS N b1 a1 a2) λr1=>
 cond (r1.2 != 0) (
  some ((b1,0,r1.2))) (
  cond (r1.1.gto==65535) (
   some ((b1,0,3))) (
   some ((uI b1 a1 (aV.mk r1.1.gA4 (I64 (r1.1.gto+1))),I64 (r1.1.gto+1),0))))
theorem wV{N b1 a1 a2 r}(h:nL N b1 a1 a2=some r):FnM Tryz.prog 7 [.var (.st 33 [(eA 32 1 k8 a2),(.mp 1)]),.mp (eM .i64 aV.enc b1)] [(.ref 0 [] 0),(j64 a1)] (.tup [(j64 r.2.1),(j64 r.2.2)]) [.var (.st 33 [(eA 32 1 k8 a2),(.mp 1)]),.mp (eM .i64 aV.enc r.1)]:=by
 refine Af cM Tryz.func7 h ?_;refine At.Y 4 [0,1] vB λr1=>?_;refine At.c 8 ?_ ?_
 ·apply rt;exact At.r 3
 ·refine At.c 3 ?_ ?_
  ·apply rt;exact At.r 2
  ·refine At.D 5 [] ?_;refine DD.w 6 (.v (.bool false)) ⟨[(1,.mp (eM .i64 aV.enc (uI b1 a1 (aV.mk r1.1.gA4 (I64 (r1.1.gto+1))))))],[]⟩ (λ_ e=>aK4 (f:=aV.enc) (id:=1) (k:=a1) (v:=(aV.mk r1.1.gA4 (I64 (r1.1.gto+1)))) aIG (λ_=>rfl) (b1:List (Int×aV)) (pj1 e) (pj1 (pj2 e)) (pj2 (pj2 e))) ?_;refine De 0 ?_;apply rt;exact At.r 4
def eX(N:Nat)(b1:(List aH))(a1:Int):Nat->Int->Option (Sum (Unit) (Int))
 | 0,_=>none
 | k+1,s2=>
  aM (decide (s2 < ((b1.length:Int)))) λx3=>
  cond x3 (
   ae (aS s2 b1.length) λ_=>
   ae (b1[s2.toNat]?) λe5=>
   cond (e5.gId==a1) (
    some (Sum.inr s2)) (
    eX N b1 a1 k (I64 (s2+1)))) (
   some (Sum.inl (())))
def cX(N:Nat)(b1:(List aH))(a1:Int)(a2:(Vector Int 32)):Option (Int):=
 ae (eX N b1 a1 N 0) λo=>mZ o (λp1=>
  some (-1)) (λr=>some r)
theorem lA{N b1 a1 a2 r}(h:cX N b1 a1 a2=some r):FnM Tryz.prog 17 [.var (.st 33 [(eA 32 1 k8 a2),(.gro 1 3 b1.length .all)]),.gro 3 (dk aH.enc b1)] [(.ref 0 [] 0),(j64 a1)] (j64 r) [.var (.st 33 [(eA 32 1 k8 a2),(.gro 1 3 b1.length .all)]),.gro 3 (dk aH.enc b1)]:=by
 refine Af cM Tryz.func17 h ?_;refine At.MS 2 [] 2 (λp1=>([],[],[])) [0,1] 2 (eX N b1 a1) (λ(s2:Int)=>([(5,(j64 s2))],[],[])) _ N (λop1 g1 k s2=>?_) λp1=>?_
 ·apply lx;intro x3;refine At.c 7 ?_ ?_
  ·refine At.b 5 (λ_ e=>uG hT (id:=1) (k:=3) e (by kernel_rfl) (by kernel_rfl)) λu4=>?_;refine At.b 1 (λ_ e=>xD hT aH.enc [0] e rfl (by kernel_rfl) (by kernel_rfl)) λe5=>?_;refine At.c 2 ?_ ?_
   ·intro e;apply wH g1 e;exact At.r 2
   ·exact λh=>At.v 3 _ h
  ·apply rt;exact At.xs 0
 ·apply rt;exact At.r 1
def lY(N:Nat)(b1:(List aH))(a1:Int)(a2:(Vector Int 32)):Option ((List aH)×Int×Int):=
 ae (cX N b1 a1 a2) λr1=>
 cond (decide (r1 < 0)) (
  some ((b1,0,11))) (
  ae (aS r1 b1.length) λ_=>
  ae (b1[r1.toNat]?) λe3=>
  aM (decide (e3.gTo>=65535)) λx4=>
  cond x4 (
   some ((b1,0,3))) (
   ae (aS r1 b1.length) λ_=>
   ae (b1[r1.toNat]?) λe6=>
   ae (aS r1 b1.length) λ_=>
   ae (aNg b1 r1.toNat (λ(e:aH)=>aH.mk e.gId e.gQ (I64 (e6.gTo+1)))) λz8=>
   ae (aS r1 z8.length) λ_=>
   ae (z8[r1.toNat]?) λe10=>
   some ((z8,e10.gTo,0))))
theorem zP{N b1 a1 a2 r}(h:lY N b1 a1 a2=some r):FnM Tryz.prog 8 [.var (.st 33 [(eA 32 1 k8 a2),(.gro 1 3 b1.length .all)]),.gro 3 (dk aH.enc b1)] [(.ref 0 [] 0),(j64 a1)] (.tup [(j64 r.2.1),(j64 r.2.2)]) [.var (.st 33 [(eA 32 1 k8 a2),(.gro 1 3 r.1.length .all)]),.gro 3 (dk aH.enc r.1)]:=by
 refine Af cM Tryz.func8 h ?_;refine At.Y 4 [0,1] lA λr1=>?_;refine At.c 3 ?_ ?_
 ·apply rt;exact At.r 2
 ·refine At.b 5 (λ_ e=>uG hT (id:=1) (k:=3) e (by kernel_rfl) (by kernel_rfl)) λu2=>?_;refine At.b 1 (λ_ e=>xD hT aH.enc [2] e rfl (by kernel_rfl) (by kernel_rfl)) λe3=>?_;apply lx;intro x4;refine At.c 1 ?_ ?_
  ·apply rt;exact At.r 2
  ·refine At.b 5 (λ_ e=>uG hT (id:=1) (k:=3) e (by kernel_rfl) (by kernel_rfl)) λu5=>?_;refine At.b 1 (λ_ e=>xD hT aH.enc [2] e rfl (by kernel_rfl) (by kernel_rfl)) λe6=>?_;refine At.b 1 (λ_ e=>uG hT (id:=1) (k:=3) e (by kernel_rfl) (by kernel_rfl)) λu7=>?_;refine bi λz8 hz8=>?_;refine At.o 1 (aMu hT aH.enc [2] (k:=3) (λ(e:aH)=>aH.mk e.gId e.gQ (I64 (e6.gTo+1))) hz8 rfl (by kernel_rfl) (λ_=>by kernel_rfl) (by kernel_rfl) (H':=[.var (.st 33 [(eA 32 1 k8 a2),(.gro 1 3 b1.length .all)]),.gro 3 (dk aH.enc z8)]) (by kernel_rfl)) ?_;refine At.gl 0 [31] [0] 1 b1.length z8.length ((aOA hz8).2) ?_;refine At.b 5 (λ_ e=>uG hT (id:=1) (k:=3) e (by kernel_rfl) (by kernel_rfl)) λu9=>?_;refine At.b 1 (λ_ e=>xD hT aH.enc [2] e rfl (by kernel_rfl) (by kernel_rfl)) λe10=>?_;apply rt;exact At.r 2
def mL(N:Nat)(b1:(List (Int×aV)))(a1 a2:Int)(a3:(Vector Int 32)):Option ((List (Int×aV))×Int):=
 ae (mS N b1 a1 a3) λr1=>
 cond (r1.2 != 0) (
  some ((b1,r1.2))) (
  aM (decide (a2 < r1.1.gA4)) λx2=>
  aM (cond x2 true (decide (a2>=r1.1.gto))) λx3=>
  cond x3 (
   some ((b1,2))) (
   some ((uI b1 a1 (aV.mk (I64 (a2+1)) r1.1.gto),0))))
theorem wM{N b1 a1 a2 a3 r}(h:mL N b1 a1 a2 a3=some r):FnM Tryz.prog 9 [.var (.st 33 [(eA 32 1 k8 a3),(.mp 1)]),.mp (eM .i64 aV.enc b1)] [(.ref 0 [] 0),(j64 a1),(j64 a2)] (j64 r.2) [.var (.st 33 [(eA 32 1 k8 a3),(.mp 1)]),.mp (eM .i64 aV.enc r.1)]:=by
 refine Af cM Tryz.func9 h ?_;refine At.Y 3 [0,1] vB λr1=>?_;refine At.c 8 ?_ ?_
 ·apply rt;exact At.r 2
 ·apply lx;intro x2;apply lx;intro x3;refine At.c 10 ?_ ?_
  ·apply rt;exact At.r 1
  ·refine At.D 4 [] ?_;refine DD.w 6 (.v (.bool false)) ⟨[(1,.mp (eM .i64 aV.enc (uI b1 a1 (aV.mk (I64 (a2+1)) r1.1.gto))))],[]⟩ (λ_ e=>aK4 (f:=aV.enc) (id:=1) (k:=a1) (v:=(aV.mk (I64 (a2+1)) r1.1.gto)) aIG (λ_=>rfl) (b1:List (Int×aV)) (pj1 e) (pj1 (pj2 e)) (pj2 (pj2 e))) ?_;refine De 0 ?_;apply rt;exact At.r 1
def lC(N:Nat)(b1:(List aH))(a1 a2:Int)(a3:(Vector Int 32)):Option ((List aH)×Int):=
 ae (cX N b1 a1 a3) λr1=>
 cond (decide (r1 < 0)) (
  some ((b1,11))) (
  ae (ae (aS r1 b1.length) λ_=>
  ae (b1[r1.toNat]?) λe4=>
  cond (decide (a2 < e4.gQ)) (
   some true) (
   ae (aS r1 b1.length) λ_=>
   ae (b1[r1.toNat]?) λe6=>
   some (decide (a2>=e6.gTo)))) λp2=>
  cond p2 (
   some ((b1,2))) (
   ae (aS r1 b1.length) λ_=>
   ae (aNg b1 r1.toNat (λ(e:aH)=>aH.mk e.gId (I64 (a2+1)) e.gTo)) λz8=>
   some ((z8,0))))
theorem yP{N b1 a1 a2 a3 r}(h:lC N b1 a1 a2 a3=some r):FnM Tryz.prog 10 [.var (.st 33 [(eA 32 1 k8 a3),(.gro 1 3 b1.length .all)]),.gro 3 (dk aH.enc b1)] [(.ref 0 [] 0),(j64 a1),(j64 a2)] (j64 r.2) [.var (.st 33 [(eA 32 1 k8 a3),(.gro 1 3 r.1.length .all)]),.gro 3 (dk aH.enc r.1)]:=by
 refine Af cM Tryz.func10 h ?_;refine At.Y 3 [0,1] lA λr1=>?_;refine At.c 3 ?_ ?_
 ·apply rt;exact At.r 1
 ·refine At.J 0 0 [0,2,7] 2 (λp2=>([(34,(eB p2))],[],[])) (λp2=>?_) λp2=>?_
  ·refine At.b 6 (λ_ e=>uG hT (id:=1) (k:=3) e (by kernel_rfl) (by kernel_rfl)) λu3=>?_;refine At.b 1 (λ_ e=>xD hT aH.enc [1] e rfl (by kernel_rfl) (by kernel_rfl)) λe4=>?_;refine At.s 23 2 ?_ ?_
   ·refine At.g [23] 11 ?_;apply rt;exact At.jn 0
   ·refine At.g [23] 6 ?_;refine At.b 0 (λ_ e=>uG hT (id:=1) (k:=3) e (by kernel_rfl) (by kernel_rfl)) λu5=>?_;refine At.g [23] 1 ?_;refine At.b 0 (λ_ e=>xD hT aH.enc [2] e rfl (by kernel_rfl) (by kernel_rfl)) λe6=>?_;refine At.g [23] 2 ?_;apply rt;exact At.jn 0
  ·refine At.c 0 ?_ ?_
   ·apply rt;exact At.r 1
   ·refine At.b 7 (λ_ e=>uG hT (id:=1) (k:=3) e (by kernel_rfl) (by kernel_rfl)) λu7=>?_;refine bi λz8 hz8=>?_;refine At.o 1 (aMu hT aH.enc [1] (k:=3) (λ(e:aH)=>aH.mk e.gId (I64 (a2+1)) e.gTo) hz8 rfl (by kernel_rfl) (λ_=>by kernel_rfl) (by kernel_rfl) (H':=[.var (.st 33 [(eA 32 1 k8 a3),(.gro 1 3 b1.length .all)]),.gro 3 (dk aH.enc z8)]) (by kernel_rfl)) ?_;refine At.gl 0 [43] [0] 1 b1.length z8.length ((aOA hz8).2) ?_;apply rt;exact At.r 1
def dK(N:Nat)(b1:(List aH))(a1:Int):Nat->(List aH)->Bool->Int->Option ((List aH)×Bool)
 | 0,_,_,_=>none
 | k+1,s4,s5,s6=>
  aM (decide (s6 < ((b1.length:Int)))) λx7=>
  cond x7 (
   ae (ae (cond (!s5) (
    ae (aS s6 b1.length) λ_=>
    ae (b1[s6.toNat]?) λe11=>
    some (decide (e11.gId > a1))) (
    some false)) λp9=>
   cond p9 (
    ae (fT 24 s4 (([aH.mk a1 1 1]:List aH))) λz12=>
    some ((z12,true))) (
    some ((s4,s5)))) λp8=>
   ae (aS s6 b1.length) λ_=>
   ae (b1[s6.toNat]?) λe14=>
   ae (fT 24 p8.1 (([e14]:List aH))) λz15=>
   dK N b1 a1 k z15 p8.2 (I64 (s6+1))) (
   some ((s4,s5)))
def fB(N:Nat)(b1:(List aH))(a1:Int)(a2:(Vector Int 32)):Option (Sum (Int) ((List aH)×Int)):=
 aM (cond (decide (a1 < 1)) true (decide (a1 > 65535))) λx1=>
 cond x1 (
  some (Sum.inl 2)) (
  ae (cX N b1 a1 a2) λr2=>
  cond (decide (r2>=0)) (
   some (Sum.inl 10)) (
   ae (dK N b1 a1 N [] false 0) λp3=>
   ae (cond (!p3.2) (
    ae (fT 24 p3.1 (([aH.mk a1 1 1]:List aH))) λz17=>
    some z17) (
    some p3.1)) λp16=>
   some (Sum.inr ((p16,0)))))
theorem tY{N b1 a1 a2 r}(h:fB N b1 a1 a2=some r):FnM Tryz.prog 6 [.var (.st 33 [(eA 32 1 k8 a2),(.gro 1 3 b1.length .all)]),.gro 3 (dk aH.enc b1)] [(.ref 0 [] 0),(j64 a1)] (selS r (λr=>(j64 r)) (λr=>(j64 r.2))) (selS r (λr=>[.var (.st 33 [(eA 32 1 k8 a2),(.gro 1 3 b1.length .all)]),.gro 3 (dk aH.enc b1)]) (λr=>[.var (.st 33 [(eA 32 1 k8 a2),(.gro 2 3 r.1.length .all)]),.gro 3 (dk aH.enc b1),.gro 3 (dk aH.enc r.1)])):=by
 refine Af cM Tryz.func6 h ?_;apply lx;intro x1;refine At.c 7 ?_ ?_
 ·apply rt;exact At.r 1
 ·refine At.Y 2 [0,1] lA λr2=>?_;refine At.c 1 ?_ ?_
  ·apply rt;exact At.r 1
  ·refine At.gron 3 5 3 ?_;refine At.M 0 [0,1] 3 (λp3=>([(5,(.gro 2 3 p3.1.length .all)),(6,(eB p3.2))],[(2,.gro 3 (dk aH.enc p3.1))],[])) [0,1] 3 (CU3 (dK N b1 a1)) (cu3 λs4 s5 s6=>([(5,(.gro 2 3 s4.length .all)),(6,(eB s5)),(7,(j64 s6))],[(2,.gro 3 (dk aH.enc s4))],[])) (_,_,_) N (λp3 k=>un3 λs4 s5 s6=>?_) λp3=>?_
   ·apply lx;intro x7;refine At.c 7 ?_ ?_
    ·refine At.J 0 1 [0,1,7] 3 (λp8=>([(5,(.gro 2 3 p8.1.length .all)),(6,(eB p8.2))],[(2,.gro 3 (dk aH.enc p8.1))],[])) (λp8=>?_) λp8=>?_
     ·refine At.J 0 0 [0,1,5,6,7] 3 (λp9=>([(40,(eB p9))],[],[])) (λp9=>?_) λp9=>?_
      ·refine At.s 29 3 ?_ ?_
       ·refine At.g [29] 5 ?_;refine At.b 0 (λ_ e=>uG hT (id:=1) (k:=3) e (by kernel_rfl) (by kernel_rfl)) λu10=>?_;refine At.g [29] 1 ?_;refine At.b 0 (λ_ e=>xD hT aH.enc [0] e rfl (by kernel_rfl) (by kernel_rfl)) λe11=>?_;refine At.g [29] 3 ?_;apply rt;exact At.jn 0
       ·refine At.g [29] 11 ?_;apply rt;exact At.jn 0
      ·refine At.c 0 ?_ ?_
       ·refine At.O 3 bRw ?_;refine At.b 0 (λz12 e=>aC3 hT aH.enc (id:=2) (k:=3) e (by kernel_rfl) (by kernel_rfl) (H':=[.var (.st 33 [(eA 32 1 k8 a2),(.gro 1 3 b1.length .all)]),.gro 3 (dk aH.enc b1),.gro 3 (dk aH.enc z12)]) (by kernel_rfl)) λz12=>?_;apply rt;exact At.jn 2
       ·apply rt;exact At.jn 0
     ·refine At.b 6 (λ_ e=>uG hT (id:=1) (k:=3) e (by kernel_rfl) (by kernel_rfl)) λu13=>?_;refine At.b 0 (λ_ e=>xD hT aH.enc [] e rfl (by kernel_rfl) (by kernel_rfl)) λe14=>?_;refine At.O 0 bRw ?_;refine At.b 0 (λz15 e=>aC3 hT aH.enc (id:=2) (k:=3) e (by kernel_rfl) (by kernel_rfl) (H':=[.var (.st 33 [(eA 32 1 k8 a2),(.gro 1 3 b1.length .all)]),.gro 3 (dk aH.enc b1),.gro 3 (dk aH.enc z15)]) (by kernel_rfl)) λz15=>?_;exact λh=>At.v 4 (_,_,_) h
    ·apply rt;exact At.x 0
   ·refine At.J 0 1 [0] 3 (λp16=>([(5,(.gro 2 3 p16.length .all))],[(2,.gro 3 (dk aH.enc p16))],[])) (λp16=>?_) λp16=>?_
    ·refine At.c 2 ?_ ?_
     ·refine At.O 3 bRw ?_;refine At.b 0 (λz17 e=>aC3 hT aH.enc (id:=2) (k:=3) e (by kernel_rfl) (by kernel_rfl) (H':=[.var (.st 33 [(eA 32 1 k8 a2),(.gro 1 3 b1.length .all)]),.gro 3 (dk aH.enc b1),.gro 3 (dk aH.enc z17)]) (by kernel_rfl)) λz17=>?_;apply rt;exact At.jn 1
     ·apply rt;exact At.jn 0
    ·apply rt;exact At.r 6
theorem yT{N b1 a1 a2 r}(h:fB N b1 a1 a2=some (Sum.inl r)):FnM Tryz.prog 6 [.var (.st 33 [(eA 32 1 k8 a2),(.gro 1 3 b1.length .all)]),.gro 3 (dk aH.enc b1)] [(.ref 0 [] 0),(j64 a1)] (j64 r) [.var (.st 33 [(eA 32 1 k8 a2),(.gro 1 3 b1.length .all)]),.gro 3 (dk aH.enc b1)]:=tY h
theorem yM{N b1 a1 a2 r}(h:fB N b1 a1 a2=some (Sum.inr r)):FnM Tryz.prog 6 [.var (.st 33 [(eA 32 1 k8 a2),(.gro 1 3 b1.length .all)]),.gro 3 (dk aH.enc b1)] [(.ref 0 [] 0),(j64 a1)] (j64 r.2) [.var (.st 33 [(eA 32 1 k8 a2),(.gro 2 3 r.1.length .all)]),.gro 3 (dk aH.enc b1),.gro 3 (dk aH.enc r.1)]:=tY h
def kW(N:Nat)(a0:(List Int)):Option ((List Int)):=
 ae (fT 1 (([]:List Int)) a0) λz1=>
 some z1
theorem vQ{N a0 r}(h:kW N a0=some r):FnM Tryz.prog 29 [] [(eL 1 k8 a0)] (eO 0 1 k8 r) [.tail (r.length*1)]:=by
 refine Af cM Tryz.func29 h ?_;refine At.q hT 2 (d:=4) (t:=24) (e:=5) (z:=1) (x:=(eL 1 k8 a0)) (es:=dk k8 a0) rfl ?_ (λhe=>?_)
 ·refine At.o 1 (sH hT k8 (k:=1) ([]:List Int) (by kernel_rfl) (by kernel_rfl)) ?_;refine At.U 1 (bAp k8) λz1=>?_;apply rt;exact At.r 1
 ·have h0:a0=[]:=List.map_eq_nil_iff.1 he;subst h0;change some []=_->_;refine At.ownn 2 2 1 ?_;apply rt;exact At.r 0
def qP(N:Nat)(a0:(List Int)):Option ((List Int)):=
 ae (kW N a0) λr1=>
 some r1
theorem vC{N a0 r}(h:qP N a0=some r):FnM Tryz.prog 19 [] [(eL 1 k8 a0)] (.ref 1 [] 0) [.tail (r.length*1),.var (.st 3 [(eO 0 1 k8 r),(j64 0),(eB true)])]:=by
 refine Af cM Tryz.func19 h ?_;refine At.Y 2 [] vQ λr1=>?_;apply rt;exact At.r 3
def nI(N:Nat)(a0:aB):Option (Bool):=
 some (!a0.gC)
theorem sU{N a0 r}(h:nI N a0=some r):FnM Tryz.prog 47 [.var (aB.enc a0)] [(.ref 0 [] 0)] (eB r) [.var (aB.enc a0)]:=by
 refine Af cM Tryz.func47 h ?_;refine At.o 2 (aBj hT (t:=81) (x:=(.ref 0 [] 0)) (b:=true) (by kernel_rfl) rfl rfl (by kernel_rfl)) ?_;refine At.g [5] 8 ?_;apply rt;exact At.r 0
def bC(N:Nat)(a0:Int)(a1:aB):Option ((List Int)×Int×(List Int)):=
 ae (nI N a1) λr1=>
 aM (cond r1 true (a1.ge != 0)) λx2=>
 cond x2 (
  some ((a1.gb,a1.ge,[]))) (
  cond (decide (a0 < 0)) (
   some ((a1.gb,2,[]))) (
   aM (decide (a0 > ((a1.gb.length:Int)))) λx3=>
   cond x3 (
    some ((a1.gb,4,[]))) (
    ae (aIz a1.gb 0 a0 a0) λs4=>
    ae (cR a1.gb a0 ((a1.gb.length:Int))) λs5=>
    some ((s5,a1.ge,s4)))))
theorem lP{N a0 a1 r}(h:bC N a0 a1=some r):FnM Tryz.prog 30 [.var (aB.enc a1)] [(.ref 0 [] 0),(j64 a0)] (eL 1 k8 r.2.2) [.var (.st 3 [(eL 1 k8 r.1),(j64 r.2.1),(eB a1.gC)])]:=by
 refine Af cM Tryz.func30 h ?_;refine At.Y 2 [0] sU λr1=>?_;apply lx;intro x2;refine At.c 8 ?_ ?_
 ·apply rt;exact At.r 1
 ·refine At.c 3 ?_ ?_
  ·apply rt;exact At.r 5
  ·apply lx;intro x3;refine At.c 8 ?_ ?_
   ·apply rt;exact At.r 5
   ·refine At.b 6 (λ_ e=>aLf hT (k:=1) k8 e (by kernel_rfl) (by kernel_rfl)) λs4=>?_;refine At.B 7 (bSl k8) λs5=>?_;apply rt;exact At.r 5
def cZ(N:Nat)(r3:(List Int)×Int×(List Int)):Nat->Int->Int->Option (Int)
 | 0,_,_=>none
 | k+1,s5,s6=>
  aM (decide (s6 < ((r3.2.2.length:Int)))) λx7=>
  cond x7 (
   ae (idx r3.2.2 s6) λe8=>
   ae (aFP .u64 (U64 e8) (I64 (8*s6))) λx9=>
   cZ N r3 k (bor .u64 s5 x9) (I64 (s6+1))) (
   some s5)
def bD(N:Nat)(a0:Int)(a1:aB):Option ((List Int)×Int×Int):=
 ae (aM (cond (decide (a0 < 1)) true (decide (a0 > 8))) λx2=>
 cond x2 (some (-1)) (some a0)) λp1=>
 ae (bC N p1 a1) λr3=>
 ae (cZ N r3 N 0 0) λp4=>
 some ((r3.1,r3.2.1,p4))
theorem cC{N a0 a1 r}(h:bD N a0 a1=some r):FnM Tryz.prog 20 [.var (aB.enc a1)] [(.ref 0 [] 0),(j64 a0)] (k64 r.2.2) [.var (.st 3 [(eL 1 k8 r.1),(j64 r.2.1),(eB a1.gC)])]:=by
 refine Af cM Tryz.func20 h ?_;refine At.J 1 1 [0] 1 (λp1=>([(1,(j64 p1))],[],[])) (λp1=>?_) λp1=>?_
 ·apply lx;intro x2;refine At.c 6 ?_ ?_
  ·apply rt;exact At.jn 1
  ·apply rt;exact At.jn 0
 ·refine At.Y 3 [0] lP λr3=>?_;refine At.M 2 [] 1 (λp4=>([(5,(k64 p4))],[],[])) [16,17] 1 (CU2 (cZ N r3)) (cu2 λs5 s6=>([(5,(k64 s5)),(18,(j64 s6))],[],[])) (_,_) N (λp4 k=>un2 λs5 s6=>?_) λp4=>?_
  ·apply lx;intro x7;refine At.c 1 ?_ ?_
   ·refine At.i hT 1 k8 λe8=>?_;refine At.B 8 bSh λx9=>?_;exact λh=>At.v 4 (_,_) h
   ·apply rt;exact At.x 0
  ·apply rt;exact At.r 2
def pU(N:Nat)(a1 e7:Int):Nat->(List Int)->Int->Option ((List Int))
 | 0,_,_=>none
 | k+1,s11,s12=>
  cond (decide (s12 < a1)) (
   ae (yR .u64 e7 (I64 (8*s12))) λx13=>
   ae (fT 1 s11 (([U8 x13]:List Int))) λz14=>
   pU N a1 e7 k z14 (I64 (s12+1))) (
   some s11)
def sF(N:Nat)(a2:(List Int))(a1:Int):Nat->(List Int)->Int->Option (Sum ((List Int)) ((List Int)×Int))
 | 0,_,_=>none
 | k+1,s4,s5=>
  aM (decide (s5 < ((a2.length:Int)))) λx6=>
  cond x6 (
   ae (idx a2 s5) λe7=>
   ae (cond (decide (a1 < 8)) (
    ae (yR .u64 e7 (I64 (8*a1))) λx9=>
    some (decide (x9 > 0))) (
    some false)) λp8=>
   cond p8 (
    some (Sum.inr (([],3)))) (
    ae (pU N a1 e7 N s4 0) λp10=>
    sF N a2 a1 k p10 (I64 (s5+1)))) (
   some (Sum.inl s4))
def bW(N:Nat)(a0:(List Int))(a1:Int)(a2:(List Int)):Option ((List Int)×Int):=
 aM (cond (decide (a1 < 1)) true (decide (a1 > 8))) λx1=>
 cond x1 (
  some (([],2))) (
  ae (kW N a0) λr2=>
  ae (sF N a2 a1 N r2 0) λo=>mZ o (λp3=>
   some ((p3,0))) (λr=>some r))
theorem fL{N a0 a1 a2 r}(h:bW N a0 a1 a2=some r):FnM Tryz.prog 37 [] [(eL 1 k8 a0),(j64 a1),(eL 1 k64 a2)] (.tup [(eO 0 1 k8 r.1),(j64 r.2)]) [.tail (r.1.length*1)]:=by
 refine Af cM Tryz.func37 h ?_;apply lx;intro x1;refine At.c 8 ?_ ?_
 ·refine At.ownn 2 6 1 ?_;apply rt;exact At.r 0
 ·refine At.Y 1 [] vQ λr2=>?_;refine At.MS 4 [] 1 (λp3=>([(8,(eO 0 1 k8 p3))],[(0,.tail (p3.length*1))],[])) [1,20,21] 1 (CU2 (sF N a2 a1)) (cu2 λs4 s5=>([(8,(eO 0 1 k8 s4)),(22,(j64 s5))],[(0,.tail (s4.length*1))],[])) (_,_) N (λop3 g3 k=>un2 λs4 s5=>?_) λp3=>?_
  ·apply lx;intro x6;refine At.c 1 ?_ ?_
   ·refine At.i hT 0 k64 λe7=>?_;refine At.J 2 0 [1,8,10,20,21,22] 1 (λp8=>([(34,(eB p8))],[],[])) (λp8=>?_) λp8=>?_
    ·refine At.s 28 3 ?_ ?_
     ·refine At.g [28] 3 ?_;refine At.B 0 bSr λx9=>?_;refine At.g [28] 2 ?_;apply rt;exact At.jn 0
     ·refine At.g [28] 6 ?_;apply rt;exact At.jn 0
    ·refine At.c 0 ?_ ?_
     ·refine At.ownn 2 6 1 ?_;refine At.sw 0 1 0 ?_;intro e;apply wH g3 e;exact At.r 0
     ·refine At.M 2 [1,20,21,22] 1 (λp10=>([(8,(eO 0 1 k8 p10))],[(0,.tail (p10.length*1))],[])) [1,10,20,21,22,35] 1 (CU2 (pU N a1 e7)) (cu2 λs11 s12=>([(8,(eO 0 1 k8 s11)),(36,(j64 s12))],[(0,.tail (s11.length*1))],[])) (_,_) N (λp10 k=>un2 λs11 s12=>?_) λp10=>?_
      ·refine At.c 1 ?_ ?_
       ·refine At.B 6 bSr λx13=>?_;refine At.O 1 bRw ?_;refine At.U 0 (bAp k8) λz14=>?_;exact λh=>At.v 3 (_,_) h
       ·apply rt;exact At.x 0
      ·exact λh=>At.v 2 (_,_) h
   ·apply rt;exact At.xs 0
  ·apply rt;exact At.r 3
def uZ(N:Nat)(x2 a0:Int):Nat->(List Int)->Int->Option ((List Int))
 | 0,_,_=>none
 | k+1,s4,s5=>
  cond (decide (s5 < x2)) (
   ae (yR .i64 a0 (I64 (8*s5))) λx6=>
   ae (aS s5 (ag 8)) λ_=>
   ae (s4[s5.toNat]?) λe8=>
   uZ N x2 a0 k (s4.set s5.toNat (U8 x6)) (I64 (s5+1))) (
   some s4)
def yI(N:Nat)(a0:Int):Option ((List Int)):=
 ae (mkO 1 8) λ_=>
 aM (((8:Int).toNat:Int)) λx2=>
 ae (uZ N x2 a0 N (ak (ag 8) (0:Int)) 0) λp3=>
 ae (aG7 p3 (ag 8)) λ_=>
 some p3
theorem aFd{N a0 r}(h:yI N a0=some r):FnM Tryz.prog 61 [] [(j64 a0)] (eL 1 k8 r) []:=by
 refine Af cM Tryz.func61 h ?_;refine At.b 1 (λ_ e=>aNF hT k8 ((0:Int)) (k:=1) (kd := .int .u8) e (by kernel_rfl) (by kernel_rfl) rfl) λu1=>?_;apply lx;intro x2;refine At.M 4 [3] 1 (λp3=>([],[(0,.var (.arr ((ag 8)*1) 1 (dk k8 p3)))],[])) [0,3,7] 1 (CU2 (uZ N x2 a0)) (cu2 λs4 s5=>([(8,(j64 s5))],[(0,.var (.arr ((ag 8)*1) 1 (dk k8 s4)))],[])) (_,_) N (λp3 k=>un2 λs4 s5=>?_) λp3=>?_
 ·refine At.c 1 ?_ ?_
  ·refine At.B 7 bSr λx6=>?_;refine At.b 1 (λ_ e=>aK8 hT 0 [] 0 0 (ag 8) (k:=1) e (by kernel_rfl) (by kernel_rfl)) λu7=>?_;refine At.b 0 (λ_ e=>aHc hT k8 0 e (U8 x6) (by kernel_rfl) (by kernel_rfl) (by kernel_rfl)) λe8=>?_;exact λh=>At.v 2 (_,_) h
  ·apply rt;exact At.x 0
 ·refine bi λu9 hu9=>?_;refine At.fz 2 0 1 (ag 8) _ (dk k8 p3) (cr _) (lenM k8 hu9) ?_;apply rt;exact At.r 0
def aBI(N:Nat):Option (Unit):=
 some (())
theorem aIA{N r}(h:aBI N=some r):FnM Tryz.prog 98 [] [] (.ref 0 [] 0) [.var (.st 73 [(.arr 8 1 [(k32 1779033703),(k32 3144134277),(k32 1013904242),(k32 2773480762),(k32 1359893119),(k32 2600822924),(k32 528734635),(k32 1541459225)]),(eA 64 1 k8 (ai 64 0)),(j64 0)])]:=by
 refine Af cM Tryz.func98 h ?_;apply rt;exact At.r 5
def qY(N:Nat)(a0:eE):Option (Bool):=
 aM ((eqV (λa b=>a==b)) a0.gh (ai 8 0)) λx1=>
 aM (cond x1 (a0.gn==0) false) λx2=>
 some x2
theorem aAV{N a0 r}(h:qY N a0=some r):FnM Tryz.prog 139 [.var (eE.enc a0)] [(.ref 0 [] 0)] (eB r) [.var (eE.enc a0)]:=by
 refine Af cM Tryz.func139 h ?_;refine At.o 2 (aBj hT (t:=172) (x:=(.ref 0 [] 0)) (b:=true) (by kernel_rfl) rfl rfl (by kernel_rfl)) ?_;refine At.g [5] 6 ?_;refine At.O 0 (bEq aSs (a0.gh:(Vector Int 8)) (ai 8 0:(Vector Int 8))) ?_;apply lx;intro x1;apply lx;intro x2;refine At.g [5] 9 ?_;apply rt;exact At.r 0
def bN(N:Nat)(a0 a1:Int):Option (Int):=
 ae (aFP .u32 a0 (cI .u64 (U64 a1) 31)) λx1=>
 aM (U64 (32 - (cI .u64 (U64 a1) 31))) λx2=>
 ae (yR .u32 a0 x2) λx3=>
 some (bor .u32 x1 x3)
theorem jR{N a0 a1 r}(h:bN N a0 a1=some r):FnM Tryz.prog 183 [] [(k32 a0),(j64 a1)] (k32 r) []:=by
 refine Af cM Tryz.func183 h ?_;refine At.B 7 bSh λx1=>?_;apply lx;intro x2;refine At.B 3 bSr λx3=>?_;apply rt;exact At.r 2
def jE(N:Nat)(a0 a1:Int):Option (Int):=
 ae (bN N a0 (I64 (0 - a1))) λr1=>
 some r1
theorem rD{N a0 a1 r}(h:jE N a0 a1=some r):FnM Tryz.prog 168 [] [(k32 a0),(j64 a1)] (k32 r) []:=by
 refine Af cM Tryz.func168 h ?_;refine At.y 4 jR λr1=>?_;apply rt;exact At.r 1
def aHp : Nat->Bool:=imL [2,3]
def fK : (Vector Int 64):=#v[1116352408,1899447441,3049323471,3921009573,961987163,1508970993,2453635748,2870763221,3624381080,310598401,607225278,1426881987,1925078388,2162078206,2614888103,3248222580,3835390401,4022224774,264347078,604807628,770255983,1249150122,1555081692,1996064986,2554220882,2821834349,2952996808,3210313671,3336571891,3584528711,113926993,338241895,666307205,773529912,1294757372,1396182291,1695183700,1986661051,2177026350,2456956037,2730485921,2820302411,3259730800,3345764771,3516065817,3600352804,4094571909,275423344,430227734,506948616,659060556,883997877,958139571,1322822218,1537002063,1747873779,1955562222,2024104815,2227730452,2361852424,2428436474,2756734187,3204031479,3329325298]
def mF(N:Nat)(a1:(Vector Int 64)):Nat->(Vector Int 64)->Int->Option ((Vector Int 64))
 | 0,_,_=>none
 | k+1,s2,s3=>
  cond (decide (s3 < 64)) (
   ae (cond (decide (s3 < 16)) (
    ae (idx a1.toList (I64 (4*s3))) λe5=>
    aM (I64 ((I64 (4*s3))+1)) λx6=>
    ae (idx a1.toList x6) λe7=>
    aM (bor .u32 (shl .u32 (U32 e5) 24) (shl .u32 (U32 e7) 16)) λx8=>
    aM (I64 ((I64 (4*s3))+2)) λx9=>
    ae (idx a1.toList x9) λe10=>
    aM (bor .u32 x8 (shl .u32 (U32 e10) 8)) λx11=>
    aM (I64 ((I64 (4*s3))+3)) λx12=>
    ae (idx a1.toList x12) λe13=>
    ae (aS s3 64) λ_=>
    ae (s2.toList[s3.toNat]?) λe15=>
    some (s2.setIfInBounds s3.toNat (bor .u32 x11 (U32 e13)))) (
    ae (aS (I64 (s3 - 15)) 64) λ_=>
    ae (s2.toList[(I64 (s3 - 15)).toNat]?) λe17=>
    ae (aS (I64 (s3 - 2)) 64) λ_=>
    ae (s2.toList[(I64 (s3 - 2)).toNat]?) λe19=>
    ae (aS (I64 (s3 - 16)) 64) λ_=>
    ae (s2.toList[(I64 (s3 - 16)).toNat]?) λe21=>
    ae (jE N e17 7) λr22=>
    ae (jE N e17 18) λr23=>
    aM (eT .u32 (eT .u32 r22 r23) (shr .u32 e17 3)) λx24=>
    ae (aS (I64 (s3 - 7)) 64) λ_=>
    ae (s2.toList[(I64 (s3 - 7)).toNat]?) λe26=>
    aM (U32 ((U32 (e21+x24))+e26)) λx27=>
    ae (jE N e19 17) λr28=>
    ae (jE N e19 19) λr29=>
    aM (eT .u32 (eT .u32 r28 r29) (shr .u32 e19 10)) λx30=>
    ae (aS s3 64) λ_=>
    ae (s2.toList[s3.toNat]?) λe32=>
    some (s2.setIfInBounds s3.toNat (U32 (x27+x30))))) λp4=>
   mF N a1 k p4 (I64 (s3+1))) (
   some s2)
def mH(N:Nat)(p1:(Vector Int 64)):Nat->(Vector Int 8)->Int->Option ((Vector Int 8))
 | 0,_,_=>none
 | k+1,s34,s35=>
  cond (decide (s35 < 64)) (
   ae (aS 0 8) λ_=>
   ae (s34.toList[(ag 0)]?) λe37=>
   ae (aS 4 8) λ_=>
   ae (s34.toList[(ag 4)]?) λe39=>
   ae (aS 7 8) λ_=>
   ae (s34.toList[(ag 7)]?) λe41=>
   ae (jE N e39 6) λr42=>
   ae (jE N e39 11) λr43=>
   ae (jE N e39 25) λr44=>
   aM (eT .u32 (eT .u32 r42 r43) r44) λx45=>
   ae (aS 5 8) λ_=>
   ae (s34.toList[(ag 5)]?) λe47=>
   ae (aS 6 8) λ_=>
   ae (s34.toList[(ag 6)]?) λe49=>
   aM (cI .u32 (bnot .u32 e39) e49) λx50=>
   aM (eT .u32 (cI .u32 e39 e47) x50) λx51=>
   aM (U32 ((U32 (e41+x45))+x51)) λx52=>
   ae (aS s35 64) λ_=>
   ae (fK.toList[s35.toNat]?) λe54=>
   ae (aS s35 64) λ_=>
   ae (p1.toList[s35.toNat]?) λe56=>
   aM (U32 ((U32 (x52+e54))+e56)) λx57=>
   ae (jE N e37 2) λr58=>
   ae (jE N e37 13) λr59=>
   ae (jE N e37 22) λr60=>
   aM (eT .u32 (eT .u32 r58 r59) r60) λx61=>
   ae (aS 1 8) λ_=>
   ae (s34.toList[(ag 1)]?) λe63=>
   ae (aS 2 8) λ_=>
   ae (s34.toList[(ag 2)]?) λe65=>
   aM (eT .u32 (cI .u32 e37 e63) (cI .u32 e37 e65)) λx66=>
   ae (aS 1 8) λ_=>
   ae (s34.toList[(ag 1)]?) λe68=>
   ae (aS 2 8) λ_=>
   ae (s34.toList[(ag 2)]?) λe70=>
   aM (eT .u32 x66 (cI .u32 e68 e70)) λx71=>
   aM (U32 (x57+(U32 (x61+x71)))) λx72=>
   ae (aS 0 8) λ_=>
   ae (s34.toList[(ag 0)]?) λe74=>
   ae (aS 1 8) λ_=>
   ae (s34.toList[(ag 1)]?) λe76=>
   ae (aS 2 8) λ_=>
   ae (s34.toList[(ag 2)]?) λe78=>
   ae (aS 3 8) λ_=>
   ae (s34.toList[(ag 3)]?) λe80=>
   ae (aS 4 8) λ_=>
   ae (s34.toList[(ag 4)]?) λe82=>
   ae (aS 5 8) λ_=>
   ae (s34.toList[(ag 5)]?) λe84=>
   ae (aS 6 8) λ_=>
   ae (s34.toList[(ag 6)]?) λe86=>
   mH N p1 k (#v[x72,e74,e76,e78,U32 (e80+x57),e82,e84,e86]) (I64 (s35+1))) (
   some s34)
def qS(N:Nat)(a0:(Vector Int 8)):Nat->(Vector Int 8)->Int->Option ((Vector Int 8))
 | 0,_,_=>none
 | k+1,s88,s89=>
  cond (decide (s89 < 8)) (
   ae (aS s89 8) λ_=>
   ae (s88.toList[s89.toNat]?) λe91=>
   ae (idx a0.toList s89) λe92=>
   ae (aS s89 8) λ_=>
   ae (s88.toList[s89.toNat]?) λe94=>
   qS N a0 k (s88.setIfInBounds s89.toNat (U32 (e91+e92))) (I64 (s89+1))) (
   some s88)
def xE(N:Nat)(a0:(Vector Int 8))(a1:(Vector Int 64)):Option ((Vector Int 8)):=
 ae (mF N a1 N (ai 64 0) 0) λp1=>
 ae (mH N p1 N a0 0) λp33=>
 ae (qS N a0 N p33 0) λp87=>
 some p87
theorem aHF{N a0 a1 r}(h:xE N a0 a1=some r):FnM Tryz.prog 140 [] [(eA 8 1 k32 a0),(eA 64 1 k8 a1)] (eA 8 1 k32 r) []:=by
 refine Af aHp Tryz.func140 h ?_;refine At.M 8 [2,4,5,6] 3 (λp1=>([],[(2,.var (eA 64 1 k32 p1))],[])) [2,3,4,5,6] 3 (CU2 (mF N a1)) (cu2 λs2 s3=>([(18,(j64 s3))],[(2,.var (eA 64 1 k32 s2))],[])) (_,_) N (λp1 k=>un2 λs2 s3=>?_) λp1=>?_
 ·refine At.c 1 ?_ ?_
  ·refine At.J 0 2 [2,3,4,5,6,18] 3 (λp4=>([],[(2,.var (eA 64 1 k32 p4))],[])) (λp4=>?_) λp4=>?_
   ·refine At.c 4 ?_ ?_
    ·refine At.D 0 [] ?_;refine DD.B 3 (bAi k8) λe5=>?_;apply lx;intro x6;refine DD.B 6 (bAi k8) λe7=>?_;apply lx;intro x8;apply lx;intro x9;refine DD.B 7 (bAi k8) λe10=>?_;apply lx;intro x11;apply lx;intro x12;refine DD.B 7 (bAi k8) λe13=>?_;refine DD.B 3 bAr λu14=>?_;refine DD.U 0 (bSv k32 0 (bor .u32 x11 (U32 e13))) λe15=>?_;refine De 0 ?_;apply rt;exact At.jn 0
    ·refine At.D 0 [] ?_;refine DD.B 2 bAr λu16=>?_;refine DD.l hT 0 k32 k32 0 λe17=>?_;refine DD.B 2 bAr λu18=>?_;refine DD.l hT 0 k32 k32 0 λe19=>?_;refine De 2 ?_;refine At.D 0 [] ?_;refine DD.B 3 bAr λu20=>?_;refine DD.l hT 0 k32 k32 0 λe21=>?_;refine DD.y 1 rD λr22=>?_;refine DD.y 1 rD λr23=>?_;apply lx;intro x24;refine DD.B 7 bAr λu25=>?_;refine DD.l hT 0 k32 k32 0 λe26=>?_;apply lx;intro x27;refine DD.y 2 rD λr28=>?_;refine DD.y 1 rD λr29=>?_;apply lx;intro x30;refine DD.B 5 bAr λu31=>?_;refine DD.U 0 (bSv k32 0 (U32 (x27+x30))) λe32=>?_;refine De 0 ?_;apply rt;exact At.jn 0
   ·exact λh=>At.v 2 (_,_) h
  ·apply rt;exact At.x 0
 ·refine At.M 4 [2,4,10] 4 (λp33=>([],[(3,.var (eA 8 1 k32 p33))],[])) [2,4,5,6,10] 4 (CU2 (mH N p1)) (cu2 λs34 s35=>([(93,(j64 s35))],[(3,.var (eA 8 1 k32 s34))],[])) (_,_) N (λp33 k=>un2 λs34 s35=>?_) λp33=>?_
  ·refine At.c 1 ?_ ?_
   ·refine At.D 2 [] ?_;refine DD.B 0 bAr λu36=>?_;refine DD.l hT 0 k32 k32 0 λe37=>?_;refine DD.B 0 bAr λu38=>?_;refine DD.l hT 0 k32 k32 0 λe39=>?_;refine De 2 ?_;refine At.D 0 [] ?_;refine DD.B 0 bAr λu40=>?_;refine DD.l hT 0 k32 k32 0 λe41=>?_;refine DD.y 1 rD λr42=>?_;refine DD.y 1 rD λr43=>?_;refine DD.y 2 rD λr44=>?_;apply lx;intro x45;refine DD.B 3 bAr λu46=>?_;refine DD.l hT 0 k32 k32 0 λe47=>?_;refine DD.B 3 bAr λu48=>?_;refine DD.l hT 0 k32 k32 0 λe49=>?_;apply lx;intro x50;apply lx;intro x51;apply lx;intro x52;refine DD.B 4 bAr λu53=>?_;refine DD.l hT 0 k32 k32 0 λe54=>?_;refine DD.B 2 bAr λu55=>?_;refine DD.l hT 0 k32 k32 0 λe56=>?_;apply lx;intro x57;refine De 2 ?_;refine At.D 0 [] ?_;refine DD.y 1 rD λr58=>?_;refine DD.y 1 rD λr59=>?_;refine DD.y 2 rD λr60=>?_;apply lx;intro x61;refine DD.B 2 bAr λu62=>?_;refine DD.l hT 0 k32 k32 0 λe63=>?_;refine DD.B 2 bAr λu64=>?_;refine DD.l hT 0 k32 k32 0 λe65=>?_;apply lx;intro x66;refine DD.B 2 bAr λu67=>?_;refine DD.l hT 0 k32 k32 0 λe68=>?_;refine DD.B 0 bAr λu69=>?_;refine DD.l hT 0 k32 k32 0 λe70=>?_;apply lx;intro x71;refine De 4 ?_;apply lx;intro x72;refine At.B 3 bAr λu73=>?_;refine At.U 0 (bLd k32 0) λe74=>?_;refine At.B 0 bAr λu75=>?_;refine At.U 0 (bLd k32 0) λe76=>?_;refine At.B 0 bAr λu77=>?_;refine At.U 0 (bLd k32 0) λe78=>?_;refine At.B 0 bAr λu79=>?_;refine At.U 0 (bLd k32 0) λe80=>?_;refine At.B 2 bAr λu81=>?_;refine At.U 0 (bLd k32 0) λe82=>?_;refine At.B 0 bAr λu83=>?_;refine At.U 0 (bLd k32 0) λe84=>?_;refine At.B 0 bAr λu85=>?_;refine At.U 0 (bLd k32 0) λe86=>?_;exact λh=>At.v 4 (_,_) h
   ·apply rt;exact At.x 0
  ·refine At.M 1 [4,10] 4 (λp87=>([],[(3,.var (eA 8 1 k32 p87))],[])) [2,4,10] 4 (CU2 (qS N a0)) (cu2 λs88 s89=>([(175,(j64 s89))],[(3,.var (eA 8 1 k32 s88))],[])) (_,_) N (λp87 k=>un2 λs88 s89=>?_) λp87=>?_
   ·refine At.c 1 ?_ ?_
    ·refine At.D 2 [] ?_;refine DD.B 1 bAr λu90=>?_;refine DD.l hT 0 k32 k32 0 λe91=>?_;refine DD.B 1 (bAi k32) λe92=>?_;refine DD.B 2 bAr λu93=>?_;refine DD.U 0 (bSv k32 0 (U32 (e91+e92))) λe94=>?_;refine De 0 ?_;exact λh=>At.v 2 (_,_) h
    ·apply rt;exact At.x 0
   ·apply rt;exact At.r 2
def jH(N:Nat)  : Nat->(Vector Int 8)->(Vector Int 64)->Int->(List Int)->Option ((Vector Int 8)×(Vector Int 64)×Int)
 | 0,_,_,_,_=>none
 | k+1,s10,s11,s12,s13=>
  aM (decide (((s13.length:Int)) > 0)) λx14=>
  cond x14 (
   ae (aSI 64 (cp s12 64) 64) λ_=>
   ae (cpV s11 s13 ((cp s12 64).toNat) ((64:Int).toNat - (cp s12 64).toNat)) λv16=>
   aM (((min s13.length ((64:Int).toNat - (cp s12 64).toNat):Nat):Int)) λx17=>
   ae (cR s13 x17 ((s13.length:Int))) λs18=>
   aM (cp (I64 (s12+x17)) 64) λx19=>
   cond (x19==0) (
    ae (xE N s10 v16) λr20=>
    jH N k r20 v16 (I64 (s12+x17)) s18) (
    jH N k s10 v16 (I64 (s12+x17)) s18)) (
   some ((s10,s11,s12)))
def jK(N:Nat)(a0:(List (List Int))):Nat->(Vector Int 8)->(Vector Int 64)->Int->Int->Option ((Vector Int 8)×(Vector Int 64)×Int)
 | 0,_,_,_,_=>none
 | k+1,s3,s4,s5,s6=>
  aM (decide (s6 < ((a0.length:Int)))) λx7=>
  cond x7 (
   ae (idx a0 s6) λe8=>
   ae (jH N N s3 s4 s5 e8) λp9=>
   jK N a0 k p9.1 p9.2.1 p9.2.2 (I64 (s6+1))) (
   some ((s3,s4,s5)))
def eV(N:Nat)(a0:(List (List Int)))(a1:eE):Option ((Vector Int 8)×(Vector Int 64)×Int):=
 ae (qY N a1) λr1=>
 cond r1 (
  some ((a1.gh,a1.gA6,a1.gn))) (
  ae (jK N a0 N a1.gh a1.gA6 a1.gn 0) λp2=>
  some ((p2.1,p2.2.1,p2.2.2)))
theorem rB{N a0 a1 r}(h:eV N a0 a1=some r):FnM Tryz.prog 99 [.var (eE.enc a1)] [(.ref 0 [] 0),(eL 1 (eL 1 k8) a0)] (.tup []) [.var (.st 73 [(eA 8 1 k32 r.1),(eA 64 1 k8 r.2.1),(j64 r.2.2)])]:=by
 refine Af cM Tryz.func99 h ?_;refine At.Y 1 [0] aAV λr1=>?_;refine At.c 0 ?_ ?_
 ·apply rt;exact At.r 0
 ·refine At.M 3 [] 1 (λp2=>([],[(0,.var (.st 73 [(eA 8 1 k32 p2.1),(eA 64 1 k8 p2.2.1),(j64 p2.2.2)]))],[])) [0,9,10] 1 (CU4 (jK N a0)) (cu4 λs3 s4 s5 s6=>([(11,(j64 s6))],[(0,.var (.st 73 [(eA 8 1 k32 s3),(eA 64 1 k8 s4),(j64 s5)]))],[])) (_,_,_,_) N (λp2 k=>un4 λs3 s4 s5 s6=>?_) λp2=>?_
  ·apply lx;intro x7;refine At.c 1 ?_ ?_
   ·refine At.i hT 0 (eL 1 k8) λe8=>?_;refine At.M 2 [0,9,10,11] 1 (λp9=>([],[(0,.var (.st 73 [(eA 8 1 k32 p9.1),(eA 64 1 k8 p9.2.1),(j64 p9.2.2)]))],[])) [0,9,10,11] 1 (CU4 (jH N)) (cu4 λs10 s11 s12 s13=>([(5,(eL 1 k8 s13))],[(0,.var (.st 73 [(eA 8 1 k32 s10),(eA 64 1 k8 s11),(j64 s12)]))],[])) (_,_,_,_) N (λp9 k=>un4 λs10 s11 s12 s13=>?_) λp9=>?_
    ·apply lx;intro x14;refine At.c 3 ?_ ?_
     ·refine At.D 0 [] ?_;refine DD.b 8 (λe _=>aRf hT (k:=1) 0 [1] 8 e (by kernel_rfl) (by kernel_rfl)) λs15=>?_;refine bi λv16 hv16=>?_;refine DD.w 1 (j64 (((min s13.length ((64:Int).toNat - (cp s12 64).toNat):Nat):Int))) ⟨[(0,.var (.st 73 [(eA 8 1 k32 s10),(eA 64 1 k8 v16),(j64 s12)]))],[]⟩ (λ_ e=>aCt hT k8 (id:=0) (path:=[1]) (off:=8) hv16 (pj1 e) (pj1 (pj2 e)) (pj2 (pj2 e))) ?_;apply lx;intro x17;refine De 1 ?_;refine At.B 11 (bSl k8) λs18=>?_;apply lx;intro x19;refine At.c 7 ?_ ?_
      ·refine At.D 0 [] ?_;refine DD.y 9 aHF λr20=>?_;refine De 3 ?_;exact λh=>At.v 0 (_,_,_,_) h
      ·exact λh=>At.v 0 (_,_,_,_) h
     ·apply rt;exact At.x 0
    ·exact λh=>At.v 2 (_,_,_,_) h
   ·apply rt;exact At.x 0
  ·apply rt;exact At.z 0
def tA(N:Nat)(x3 a0:Int):Nat->(List Int)->Int->Option ((List Int))
 | 0,_,_=>none
 | k+1,s8,s9=>
  cond (decide (s9 < 8)) (
   aM (I64 (((x3.toNat:Int)) - 1)) λx10=>
   aM (shl .u64 (U64 (uK a0 0)) 3) λx11=>
   ae (yR .u64 x11 (I64 (8*s9))) λx12=>
   ae (aS (I64 (x10 - s9)) x3.toNat) λ_=>
   ae (s8[(I64 (x10 - s9)).toNat]?) λe14=>
   tA N x3 a0 k (s8.set ((I64 (x10 - s9)).toNat) (U8 x12)) (I64 (s9+1))) (
   some s8)
def aBe(N:Nat)(a0:Int):Option ((List Int)):=
 aM (cp (uK a0 0) 64) λx1=>
 aM (cp (I64 (119 - x1)) 64) λx2=>
 aM (I64 ((I64 (1+x2))+8)) λx3=>
 ae (mkO 1 x3) λ_=>
 ae (aS 0 x3.toNat) λ_=>
 ae ((ak x3.toNat (0:Int))[(ag 0)]?) λe6=>
 ae (tA N x3 a0 N ((ak x3.toNat (0:Int)).set ((ag 0)) 128) 0) λp7=>
 ae (aG7 p7 x3.toNat) λ_=>
 some p7
theorem aM0{N a0 r}(h:aBe N a0=some r):FnM Tryz.prog 141 [] [(j64 a0)] (eL 1 k8 r) []:=by
 refine Af cM Tryz.func141 h ?_;apply lx;intro x1;apply lx;intro x2;apply lx;intro x3;refine At.b 10 (λ_ e=>aNF hT k8 ((0:Int)) (k:=1) (kd := .int .u8) e (by kernel_rfl) (by kernel_rfl) rfl) λu4=>?_;refine At.b 2 (λ_ e=>aK8 hT 0 [] 0 0 x3.toNat (k:=1) e (by kernel_rfl) (by kernel_rfl)) λu5=>?_;refine At.b 0 (λ_ e=>aHc hT k8 0 e 128 (by kernel_rfl) (by kernel_rfl) (by kernel_rfl)) λe6=>?_;refine At.M 1 [3] 1 (λp7=>([],[(0,.var (.arr (x3.toNat*1) 1 (dk k8 p7)))],[])) [0,3] 1 (CU2 (tA N x3 a0)) (cu2 λs8 s9=>([(16,(j64 s9))],[(0,.var (.arr (x3.toNat*1) 1 (dk k8 s8)))],[])) (_,_) N (λp7 k=>un2 λs8 s9=>?_) λp7=>?_
 ·refine At.c 1 ?_ ?_
  ·apply lx;intro x10;apply lx;intro x11;refine At.B 13 bSr λx12=>?_;refine At.b 1 (λ_ e=>aK8 hT 0 [] 0 0 x3.toNat (k:=1) e (by kernel_rfl) (by kernel_rfl)) λu13=>?_;refine At.b 0 (λ_ e=>aHc hT k8 0 e (U8 x12) (by kernel_rfl) (by kernel_rfl) (by kernel_rfl)) λe14=>?_;exact λh=>At.v 2 (_,_) h
  ·apply rt;exact At.x 0
 ·refine bi λu15 hu15=>?_;refine At.fz 2 0 1 x3.toNat _ (dk k8 p7) (cr _) (lenM k8 hu15) ?_;apply rt;exact At.r 0
def rO(N:Nat)(r3:(Vector Int 8)×(Vector Int 64)×Int):Nat->(Vector Int 32)->Int->Option ((Vector Int 32))
 | 0,_,_=>none
 | k+1,s5,s6=>
  cond (decide (s6 < 8)) (
   ae (idx r3.1.toList s6) λe7=>
   aM (I64 ((I64 (4*s6))+1)) λx8=>
   aM (I64 ((I64 (4*s6))+2)) λx9=>
   aM (I64 ((I64 (4*s6))+3)) λx10=>
   ae (aS (I64 (4*s6)) 32) λ_=>
   ae (s5.toList[(I64 (4*s6)).toNat]?) λe12=>
   ae (aS x8 32) λ_=>
   ae ((s5.setIfInBounds ((I64 (4*s6)).toNat) (U8 (shr .u32 e7 24))).toList[x8.toNat]?) λe14=>
   ae (aS x9 32) λ_=>
   ae (((s5.setIfInBounds ((I64 (4*s6)).toNat) (U8 (shr .u32 e7 24))).setIfInBounds x8.toNat (U8 (shr .u32 e7 16))).toList[x9.toNat]?) λe16=>
   ae (aS x10 32) λ_=>
   ae ((((s5.setIfInBounds ((I64 (4*s6)).toNat) (U8 (shr .u32 e7 24))).setIfInBounds x8.toNat (U8 (shr .u32 e7 16))).setIfInBounds x9.toNat (U8 (shr .u32 e7 8))).toList[x10.toNat]?) λe18=>
   rO N r3 k ((((s5.setIfInBounds ((I64 (4*s6)).toNat) (U8 (shr .u32 e7 24))).setIfInBounds x8.toNat (U8 (shr .u32 e7 16))).setIfInBounds x9.toNat (U8 (shr .u32 e7 8))).setIfInBounds x10.toNat (U8 e7)) (I64 (s6+1))) (
   some s5)
def pO(N:Nat)(a0:eE):Option ((Vector Int 32)):=
 ae (qY N a0) λr1=>
 cond r1 (
  some (ai 32 0)) (
  ae (aBe N a0.gn) λr2=>
  ae (eV N ([r2]) a0) λr3=>
  ae (rO N r3 N (ai 32 0) 0) λp4=>
  some p4)
theorem aA2{N a0 r}(h:pO N a0=some r):FnM Tryz.prog 100 [.var (eE.enc a0)] [(.ref 0 [] 0)] (eA 32 1 k8 r) [.var (eE.enc a0)]:=by
 refine Af cM Tryz.func100 h ?_;refine At.Y 2 [0] aAV λr1=>?_;refine At.c 0 ?_ ?_
 ·apply rt;exact At.r 2
 ·refine At.y 9 aM0 λr2=>?_;refine At.O 0 bRw ?_;refine At.Y 0 [2] rB λr3=>?_;refine At.M 4 [2,4] 4 (λp4=>([],[(3,.var (eA 32 1 k8 p4))],[])) [2,4,21] 4 (CU2 (rO N r3)) (cu2 λs5 s6=>([(22,(j64 s6))],[(3,.var (eA 32 1 k8 s5))],[])) (_,_) N (λp4 k=>un2 λs5 s6=>?_) λp4=>?_
  ·refine At.c 1 ?_ ?_
   ·refine At.b 1 (λ_ e=>aHV hT k32 r3.1 e (by kernel_rfl) (by kernel_rfl)) λe7=>?_;apply lx;intro x8;apply lx;intro x9;apply lx;intro x10;refine At.B 24 bAr λu11=>?_;refine At.U 0 (bSv k8 0 (U8 (shr .u32 e7 24))) λe12=>?_;refine At.B 0 bAr λu13=>?_;refine At.U 0 (bSv k8 0 (U8 (shr .u32 e7 16))) λe14=>?_;refine At.B 0 bAr λu15=>?_;refine At.U 0 (bSv k8 0 (U8 (shr .u32 e7 8))) λe16=>?_;refine At.B 0 bAr λu17=>?_;refine At.U 0 (bSv k8 0 (U8 e7)) λe18=>?_;exact λh=>At.v 2 (_,_) h
   ·apply rt;exact At.x 0
  ·apply rt;exact At.r 2
def xM(N:Nat)(a0:(List (List Int))):Option ((Vector Int 32)):=
 ae (aBI N ) λr1=>
 ae (eV N a0 (eE.mk (#v[1779033703,3144134277,1013904242,2773480762,1359893119,2600822924,528734635,1541459225]) (ai 64 0) 0)) λr2=>
 ae (pO N (eE.mk r2.1 r2.2.1 r2.2.2)) λr3=>
 some r3
theorem aIt{N a0 r}(h:xM N a0=some r):FnM Tryz.prog 101 [] [(eL 1 (eL 1 k8) a0)] (eA 32 1 k8 r) []:=by
 refine Af cM Tryz.func101 h ?_;refine At.Y 1 [] aIA λr1=>?_;refine At.Y 3 [1] rB λr2=>?_;refine At.Y 1 [1] aA2 λr3=>?_;apply rt;exact At.r 1
def tK(N:Nat)  : Nat->(Vector Int 64)->(Vector Int 64)->Int->Option ((Vector Int 64)×(Vector Int 64))
 | 0,_,_,_=>none
 | k+1,s9,s10,s11=>
  cond (decide (s11 < 64)) (
   ae (aS s11 64) λ_=>
   ae (s9.toList[s11.toNat]?) λe13=>
   ae (aS s11 64) λ_=>
   ae (s9.toList[s11.toNat]?) λe15=>
   ae (aS s11 64) λ_=>
   ae (s10.toList[s11.toNat]?) λe17=>
   ae (aS s11 64) λ_=>
   ae (s10.toList[s11.toNat]?) λe19=>
   tK N k (s9.setIfInBounds s11.toNat (eT .u8 e13 54)) (s10.setIfInBounds s11.toNat (eT .u8 e17 92)) (I64 (s11+1))) (
   some ((s9,s10)))
def aBk(N:Nat)(a0:(List Int)):Option ((Vector Int 64)×(Vector Int 64)):=
 ae (aM (decide (((a0.length:Int)) > 64)) λx2=>
 cond x2 (
  ae (xM N ([a0])) λr3=>
  ae (cR r3.toList 0 32) λs5=>
  some s5) (
  some a0)) λp1=>
 ae (aEB 64 0 64) λ_=>
 ae (cpV (ai 64 0) p1 0 64) λv7=>
 ae (tK N N v7 v7 0) λp8=>
 some ((p8.1,p8.2))
theorem aLx{N a0 r}(h:aBk N a0=some r):FnM Tryz.prog 97 [] [(eL 1 k8 a0)] (.tup [(eA 64 1 k8 r.1),(eA 64 1 k8 r.2)]) []:=by
 refine Af cM Tryz.func97 h ?_;refine At.J 2 1 [2,3] 2 (λp1=>([(0,(eL 1 k8 p1))],[],[])) (λp1=>?_) λp1=>?_
 ·apply lx;intro x2;refine At.c 3 ?_ ?_
  ·refine At.O 1 bRw ?_;refine At.y 0 aIt λr3=>?_;refine At.gz 2 2 ((eA 32 1 k8 r3)) ?_;refine At.B 0 (bSI k8) λs5=>?_;apply rt;exact At.jn 1
  ·apply rt;exact At.jn 0
 ·refine At.b 0 (λ_ e=>aFV hT (k:=1) 0 [] 0 e (by kernel_rfl) (by kernel_rfl) (by decide)) λs6=>?_;refine At.b 1 (λv7 e=>aCt hT k8 (id:=0) (path:=[]) (off:=0) (H':=[.var (eA 64 1 k8 v7),.var (eA 64 1 k8 (ai 64 0))]) e (by kernel_rfl) (by kernel_rfl) (by kernel_rfl)) λv7=>?_;refine At.M 3 [2,3] 2 (λp8=>([],[(0,.var (eA 64 1 k8 p8.1)),(1,.var (eA 64 1 k8 p8.2))],[])) [2,3] 2 (CU3 (tK N)) (cu3 λs9 s10 s11=>([(17,(j64 s11))],[(0,.var (eA 64 1 k8 s9)),(1,.var (eA 64 1 k8 s10))],[])) (_,_,_) N (λp8 k=>un3 λs9 s10 s11=>?_) λp8=>?_
  ·refine At.c 1 ?_ ?_
   ·refine At.B 3 bAr λu12=>?_;refine At.U 0 (bLd k8 0) λe13=>?_;refine At.B 1 bAr λu14=>?_;refine At.U 0 (bSv k8 0 (eT .u8 e13 54)) λe15=>?_;refine At.B 1 bAr λu16=>?_;refine At.U 0 (bLd k8 0) λe17=>?_;refine At.B 1 bAr λu18=>?_;refine At.U 0 (bSv k8 0 (eT .u8 e17 92)) λe19=>?_;exact λh=>At.v 2 (_,_,_) h
   ·apply rt;exact At.x 0
  ·refine At.D 0 [] ?_;refine De 4 ?_;apply rt;exact At.r 0
def aC5(N:Nat)(a0:(List Int))(a1:(List (List Int))):Option ((Vector Int 32)):=
 ae (aBk N a0) λr1=>
 ae (aBI N ) λr2=>
 ae (cR r1.1.toList 0 64) λs4=>
 ae (eV N ([s4]) (eE.mk (#v[1779033703,3144134277,1013904242,2773480762,1359893119,2600822924,528734635,1541459225]) (ai 64 0) 0)) λr5=>
 ae (eV N a1 (eE.mk r5.1 r5.2.1 r5.2.2)) λr6=>
 ae (pO N (eE.mk r6.1 r6.2.1 r6.2.2)) λr7=>
 ae (cR r1.2.toList 0 64) λs8=>
 ae (cR r7.toList 0 32) λs9=>
 ae (xM N ([s8,s9])) λr10=>
 some r10
theorem aN1{N a0 a1 r}(h:aC5 N a0 a1=some r):FnM Tryz.prog 62 [] [(eL 1 k8 a0),(eL 1 (eL 1 k8) a1)] (eA 32 1 k8 r) []:=by
 refine Af cM Tryz.func62 h ?_;refine At.y 2 aLx λr1=>?_;refine At.Y 7 [] aIA λr2=>?_;refine At.gz 2 1 ((eA 64 1 k8 r1.1)) ?_;refine At.B 0 (bSI k8) λs4=>?_;refine At.O 0 bRw ?_;refine At.Y 0 [3] rB λr5=>?_;refine At.Y 2 [3] rB λr6=>?_;refine At.Y 1 [3] aA2 λr7=>?_;refine At.gz 2 2 ((eA 64 1 k8 r1.2)) ?_;refine At.gz 0 4 ((eA 32 1 k8 r7)) ?_;refine At.D 0 [] ?_;refine DD.B 0 (bSI k8) λs8=>?_;refine DD.B 0 (bSI k8) λs9=>?_;refine DD.O 0 bRw ?_;refine DD.y 0 aIt λr10=>?_;refine De 1 ?_;apply rt;exact At.r 0
def aLO : Nat->Bool:=imL [3]
def qO(N:Nat)(a2:(List (List Int))):Nat->(List (List Int))->Int->Option ((List (List Int)))
 | 0,_,_=>none
 | k+1,s4,s5=>
  aM (decide (s5 < ((a2.length:Int)))) λx6=>
  cond x6 (
   ae (idx a2 s5) λe7=>
   ae (yI N ((e7.length:Int))) λr8=>
   ae (fT 24 s4 (([r8,e7]:List (List Int)))) λz9=>
   qO N a2 k z9 (I64 (s5+1))) (
   some s4)
def aAL(N:Nat)(a0:(Vector Int 32))(a1:ByteArray)(a2:(List (List Int))):Option ((Vector Int 32)):=
 aM ((ByteArray.size a1:Int)) λx1=>
 ae (yI N x1) λr2=>
 ae (qO N a2 N (([r2,vW a1]:List (List Int))) 0) λp3=>
 ae (cR a0.toList 0 32) λs10=>
 ae (aC5 N s10 p3) λr11=>
 some r11
theorem aJa{N a0 a1 a2 r}(h:aAL N a0 a1 a2=some r):FnM Tryz.prog 38 [] [(eA 32 1 k8 a0),(eS a1),(eL 1 (eL 1 k8) a2)] (eA 32 1 k8 r) []:=by
 refine Af aLO Tryz.func38 h ?_;apply lx;intro x1;refine At.y 4 aFd λr2=>?_;refine At.o 1 (aOQ hT a1 (e:=5) (by kernel_rfl) (by kernel_rfl)) ?_;refine At.o 0 (sH hT (eL 1 k8) (k:=1) ([r2,vW a1]:List (List Int)) (by kernel_rfl) (by kernel_rfl)) ?_;refine At.M 4 [3,6] 2 (λp3=>([(7,(eO 1 1 (eL 1 k8) p3))],[(1,.tail (p3.length*1))],[])) [3,6,16,17] 2 (CU2 (qO N a2)) (cu2 λs4 s5=>([(7,(eO 1 1 (eL 1 k8) s4)),(18,(j64 s5))],[(1,.tail (s4.length*1))],[])) (_,_) N (λp3 k=>un2 λs4 s5=>?_) λp3=>?_
 ·apply lx;intro x6;refine At.c 1 ?_ ?_
  ·refine At.i hT 0 (eL 1 k8) λe7=>?_;refine At.y 5 aFd λr8=>?_;refine At.O 1 bRw ?_;refine At.U 0 (bAp (eL 1 k8)) λz9=>?_;exact λh=>At.v 3 (_,_) h
  ·apply rt;exact At.x 0
 ·refine At.B 0 (bSI k8) λs10=>?_;refine At.y 1 aN1 λr11=>?_;apply rt;exact At.r 1
def aNz : Nat->Bool:=imL [3]
def aAS(N:Nat)(a0:(Vector Int 32))(a1 a2:Int):Option ((Vector Int 32)):=
 aM (cI .u64 (U64 a1) 65535) λx1=>
 ae (bW N [] 2 ([x1])) λr2=>
 aM (cI .u64 (U64 a2) 4294967295) λx3=>
 ae (bW N [] 4 ([x3])) λr4=>
 ae (aAL N a0 aMx ([r2.1,r4.1])) λr5=>
 some r5
theorem aGR{N a0 a1 a2 r}(h:aAS N a0 a1 a2=some r):FnM Tryz.prog 22 [] [(eA 32 1 k8 a0),(j64 a1),(j64 a2)] (eA 32 1 k8 r) []:=by
 refine Af aNz Tryz.func22 h ?_;apply lx;intro x1;refine At.O 5 bRw ?_;refine At.Y 0 [] fL λr2=>?_;apply lx;intro x3;refine At.O 8 bRw ?_;refine At.Y 0 [] fL λr4=>?_;refine At.wk 8 28 ((eL 1 k8 r2.1)) ?_;refine At.wk 0 29 ((eL 1 k8 r4.1)) ?_;refine At.O 0 bRw ?_;refine At.y 0 aJa λr5=>?_;apply rt;exact At.r 1
def tM(N:Nat)(a0 a1:(List Int)):Option (Bool):=
 aM (ByteArray.toList (aIi a0)==ByteArray.toList (aIi a1)) λx1=>
 some x1
theorem aCj{N a0 a1 r}(h:tM N a0 a1=some r):FnM Tryz.prog 51 [] [(eL 1 k8 a0),(eL 1 k8 a1)] (eB r) []:=by
 refine Af cM Tryz.func51 h ?_;refine At.o 2 (aKe hT a0 (v:=(eL 1 k8 a0)) (e:=5) (by kernel_rfl) (by kernel_rfl) (by kernel_rfl)) ?_;refine At.o 1 (aKe hT a1 (v:=(eL 1 k8 a1)) (e:=5) (by kernel_rfl) (by kernel_rfl) (by kernel_rfl)) ?_;apply lx;intro x1;apply rt;exact At.r 2
def tT(N:Nat)(a0 a1:(List Int)):Option (Bool):=
 ae (aM (decide (((a0.length:Int))>=((a1.length:Int)))) λx2=>
 cond x2 (
  ae (cR a0 0 ((a1.length:Int))) λs3=>
  ae (tM N s3 a1) λr4=>
  some r4) (
  some false)) λp1=>
 some p1
theorem aDv{N a0 a1 r}(h:tT N a0 a1=some r):FnM Tryz.prog 48 [] [(eL 1 k8 a0),(eL 1 k8 a1)] (eB r) []:=by
 refine Af cM Tryz.func48 h ?_;refine At.J 1 0 [] 0 (λp1=>([(4,(eB p1))],[],[])) (λp1=>?_) λp1=>?_
 ·apply lx;intro x2;refine At.s 10 6 ?_ ?_
  ·refine At.g [10] 3 ?_;refine At.B 0 (bSl k8) λs3=>?_;refine At.g [10] 1 ?_;refine At.y 0 aCj λr4=>?_;refine At.g [10] 2 ?_;apply rt;exact At.jn 0
  ·refine At.g [10] 8 ?_;apply rt;exact At.jn 0
 ·apply rt;exact At.r 0
def aIc : Nat->Bool:=imL [2]
def iJ(N:Nat)(a1:Int):Nat->(Vector Int 12)->Int->Option ((Vector Int 12))
 | 0,_,_=>none
 | k+1,s5,s6=>
  cond (decide (s6 < 4)) (
   ae (yR .i64 a1 (I64 (8*s6))) λx7=>
   ae (aS (I64 (8+s6)) 12) λ_=>
   ae (s5.toList[(I64 (8+s6)).toNat]?) λe9=>
   iJ N a1 k (s5.setIfInBounds ((I64 (8+s6)).toNat) (U8 x7)) (I64 (s6+1))) (
   some s5)
def iS(N:Nat)(a0:(Vector Int 8))(a1:Int):Option ((Vector Int 12)):=
 ae (aEB 12 0 12) λ_=>
 ae (cR a0.toList 0 8) λs2=>
 ae (cpV (ai 12 0) s2 0 12) λv3=>
 ae (iJ N a1 N v3 0) λp4=>
 some p4
theorem wC{N a0 a1 r}(h:iS N a0 a1=some r):FnM Tryz.prog 34 [] [(eA 8 1 k8 a0),(j64 a1)] (eA 12 1 k8 r) []:=by
 refine Af aIc Tryz.func34 h ?_;refine At.D 3 [] ?_;refine DD.b 0 (λe _=>aFV hT (k:=1) 1 [] 0 e (by kernel_rfl) (by kernel_rfl) (by decide)) λs1=>?_;refine DD.B 0 (bSI k8) λs2=>?_;refine bi λv3 hv3=>?_;refine DD.w 0 (j64 (((min s2.length 12:Nat):Int))) ⟨[(1,.var (eA 12 1 k8 v3))],[]⟩ (λ_ e=>aCt hT k8 (id:=1) (path:=[]) (off:=0) hv3 (pj1 e) (pj1 (pj2 e)) (pj2 (pj2 e))) ?_;refine De 0 ?_;refine At.M 1 [4,5] 2 (λp4=>([],[(1,.var (eA 12 1 k8 p4))],[])) [1,4,5] 2 (CU2 (iJ N a1)) (cu2 λs5 s6=>([(10,(j64 s6))],[(1,.var (eA 12 1 k8 s5))],[])) (_,_) N (λp4 k=>un2 λs5 s6=>?_) λp4=>?_
 ·refine At.c 1 ?_ ?_
  ·refine At.B 7 bSr λx7=>?_;refine At.B 1 bAr λu8=>?_;refine At.U 0 (bSv k8 0 (U8 x7)) λe9=>?_;exact λh=>At.v 2 (_,_) h
  ·apply rt;exact At.x 0
 ·apply rt;exact At.r 2
def nA(N:Nat)(a0:(List Int)):Option (Int):=
 ae (idx a0 0) λe1=>
 ae (idx a0 1) λe2=>
 aM (bor .u32 (U32 e1) (shl .u32 (U32 e2) 8)) λx3=>
 ae (idx a0 2) λe4=>
 aM (bor .u32 x3 (shl .u32 (U32 e4) 16)) λx5=>
 ae (idx a0 3) λe6=>
 aM (bor .u32 x5 (shl .u32 (U32 e6) 24)) λx7=>
 some x7
theorem aBP{N a0 r}(h:nA N a0=some r):FnM Tryz.prog 190 [] [(eL 1 k8 a0)] (k32 r) []:=by
 refine Af cM Tryz.func190 h ?_;refine At.D 1 [] ?_;refine DD.i hT 1 k8 λe1=>?_;refine DD.i hT 3 k8 λe2=>?_;apply lx;intro x3;refine DD.i hT 5 k8 λe4=>?_;apply lx;intro x5;refine DD.i hT 5 k8 λe6=>?_;apply lx;intro x7;refine De 5 ?_;apply rt;exact At.r 0
def aIW : Nat->Bool:=imL [3,5]
def dS(N:Nat)(a0:(Vector Int 32)):Nat->(Vector Int 16)->Int->Option ((Vector Int 16))
 | 0,_,_=>none
 | k+1,s2,s3=>
  cond (decide (s3 < 8)) (
   ae (cR a0.toList (I64 (4*s3)) 32) λs4=>
   ae (nA N s4) λr5=>
   ae (aS (I64 (4+s3)) 16) λ_=>
   ae (s2.toList[(I64 (4+s3)).toNat]?) λe7=>
   dS N a0 k (s2.setIfInBounds ((I64 (4+s3)).toNat) r5) (I64 (s3+1))) (
   some s2)
def dW(N:Nat)(a2:(Vector Int 12)):Nat->(Vector Int 16)->Int->Option ((Vector Int 16))
 | 0,_,_=>none
 | k+1,s9,s10=>
  cond (decide (s10 < 3)) (
   ae (cR a2.toList (I64 (4*s10)) 12) λs11=>
   ae (nA N s11) λr12=>
   ae (aS (I64 (13+s10)) 16) λ_=>
   ae (s9.toList[(I64 (13+s10)).toNat]?) λe14=>
   dW N a2 k (s9.setIfInBounds ((I64 (13+s10)).toNat) r12) (I64 (s10+1))) (
   some s9)
def sE(N:Nat)(a0:(Vector Int 32))(a1:Int)(a2:(Vector Int 12)):Option ((Vector Int 16)):=
 ae (dS N a0 N (#v[1634760805,857760878,2036477234,1797285236,0,0,0,0,0,0,0,0,a1,0,0,0]) 0) λp1=>
 ae (dW N a2 N p1 0) λp8=>
 some p8
theorem aHD{N a0 a1 a2 r}(h:sE N a0 a1 a2=some r):FnM Tryz.prog 179 [] [(eA 32 1 k8 a0),(k32 a1),(eA 12 1 k8 a2)] (eA 16 1 k32 r) []:=by
 refine Af aIW Tryz.func179 h ?_;refine At.M 8 [5,6,7] 2 (λp1=>([],[(1,.var (eA 16 1 k32 p1))],[])) [3,5,6,7] 2 (CU2 (dS N a0)) (cu2 λs2 s3=>([(12,(j64 s3))],[(1,.var (eA 16 1 k32 s2))],[])) (_,_) N (λp1 k=>un2 λs2 s3=>?_) λp1=>?_
 ·refine At.c 1 ?_ ?_
  ·refine At.B 6 (bSI k8) λs4=>?_;refine At.y 0 aBP λr5=>?_;refine At.B 0 bAr λu6=>?_;refine At.U 0 (bSv k32 0 r5) λe7=>?_;exact λh=>At.v 2 (_,_) h
  ·apply rt;exact At.x 0
 ·refine At.M 1 [6,7] 2 (λp8=>([],[(1,.var (eA 16 1 k32 p8))],[])) [5,6,7] 2 (CU2 (dW N a2)) (cu2 λs9 s10=>([(23,(j64 s10))],[(1,.var (eA 16 1 k32 s9))],[])) (_,_) N (λp8 k=>un2 λs9 s10=>?_) λp8=>?_
  ·refine At.c 1 ?_ ?_
   ·refine At.B 6 (bSI k8) λs11=>?_;refine At.y 0 aBP λr12=>?_;refine At.B 0 bAr λu13=>?_;refine At.U 0 (bSv k32 0 r12) λe14=>?_;exact λh=>At.v 2 (_,_) h
   ·apply rt;exact At.x 0
  ·apply rt;exact At.r 2
def aGP : Nat->Bool:=imL [1]
def pL(N:Nat)(a0:(Vector Int 4)):Option ((Vector Int 4)):=
 ae (idx a0.toList 0) λe1=>
 ae (idx a0.toList 1) λe2=>
 ae (idx a0.toList 2) λe3=>
 ae (idx a0.toList 3) λe4=>
 aM (eT .u32 e4 (U32 (e1+e2))) λx5=>
 ae (bN N x5 16) λr6=>
 aM (eT .u32 e2 (U32 (e3+r6))) λx7=>
 ae (bN N x7 12) λr8=>
 aM (U32 ((U32 (e1+e2))+r8)) λx9=>
 ae (bN N (eT .u32 r6 x9) 8) λr10=>
 aM (U32 ((U32 (e3+r6))+r10)) λx11=>
 ae (bN N (eT .u32 r8 x11) 7) λr12=>
 some (#v[x9,r12,x11,r10])
theorem aEm{N a0 r}(h:pL N a0=some r):FnM Tryz.prog 180 [] [(eA 4 1 k32 a0)] (eA 4 1 k32 r) []:=by
 refine Af aGP Tryz.func180 h ?_;refine At.D 2 [] ?_;refine DD.B 0 (bAi k32) λe1=>?_;refine DD.B 1 (bAi k32) λe2=>?_;refine DD.B 1 (bAi k32) λe3=>?_;refine DD.B 1 (bAi k32) λe4=>?_;refine De 5 ?_;apply lx;intro x5;refine At.y 7 jR λr6=>?_;apply lx;intro x7;refine At.y 8 jR λr8=>?_;apply lx;intro x9;refine At.y 8 jR λr10=>?_;apply lx;intro x11;refine At.y 8 jR λr12=>?_;apply rt;exact At.r 7
def aIr : Nat->Bool:=imL [3,5]
def aZ(N:Nat)  : Nat->(Vector Int 16)->Int->Option ((Vector Int 16))
 | 0,_,_=>none
 | k+1,s6,s7=>
  cond (decide (s7 < 8)) (
   ae (idx (#v[#v[0,4,8,12],#v[1,5,9,13],#v[2,6,10,14],#v[3,7,11,15],#v[0,5,10,15],#v[1,6,11,12],#v[2,7,8,13],#v[3,4,9,14]]).toList s7) λe8=>
   ae (aS 0 4) λ_=>
   ae (e8.toList[(ag 0)]?) λe10=>
   ae (aS e10 16) λ_=>
   ae (s6.toList[e10.toNat]?) λe12=>
   ae (aS 1 4) λ_=>
   ae (e8.toList[(ag 1)]?) λe14=>
   ae (aS e14 16) λ_=>
   ae (s6.toList[e14.toNat]?) λe16=>
   ae (aS 2 4) λ_=>
   ae (e8.toList[(ag 2)]?) λe18=>
   ae (aS e18 16) λ_=>
   ae (s6.toList[e18.toNat]?) λe20=>
   ae (aS 3 4) λ_=>
   ae (e8.toList[(ag 3)]?) λe22=>
   ae (aS e22 16) λ_=>
   ae (s6.toList[e22.toNat]?) λe24=>
   ae (pL N (#v[e12,e16,e20,e24])) λr25=>
   ae (aS 0 4) λ_=>
   ae (e8.toList[(ag 0)]?) λe27=>
   ae (aS 1 4) λ_=>
   ae (e8.toList[(ag 1)]?) λe29=>
   ae (aS 2 4) λ_=>
   ae (e8.toList[(ag 2)]?) λe31=>
   ae (aS 3 4) λ_=>
   ae (e8.toList[(ag 3)]?) λe33=>
   ae (aS 0 4) λ_=>
   ae (r25.toList[(ag 0)]?) λe35=>
   ae (aS 1 4) λ_=>
   ae (r25.toList[(ag 1)]?) λe37=>
   ae (aS 2 4) λ_=>
   ae (r25.toList[(ag 2)]?) λe39=>
   ae (aS 3 4) λ_=>
   ae (r25.toList[(ag 3)]?) λe41=>
   ae (aS e27 16) λ_=>
   ae (s6.toList[e27.toNat]?) λe43=>
   ae (aS e29 16) λ_=>
   ae ((s6.setIfInBounds e27.toNat e35).toList[e29.toNat]?) λe45=>
   ae (aS e31 16) λ_=>
   ae (((s6.setIfInBounds e27.toNat e35).setIfInBounds e29.toNat e37).toList[e31.toNat]?) λe47=>
   ae (aS e33 16) λ_=>
   ae ((((s6.setIfInBounds e27.toNat e35).setIfInBounds e29.toNat e37).setIfInBounds e31.toNat e39).toList[e33.toNat]?) λe49=>
   aZ N k ((((s6.setIfInBounds e27.toNat e35).setIfInBounds e29.toNat e37).setIfInBounds e31.toNat e39).setIfInBounds e33.toNat e41) (I64 (s7+1))) (
   some s6)
def iH(N:Nat)  : Nat->(Vector Int 16)->Int->Option ((Vector Int 16))
 | 0,_,_=>none
 | k+1,s3,s4=>
  cond (decide (s4 < 10)) (
   ae (aZ N N s3 0) λp5=>
   iH N k p5 (I64 (s4+1))) (
   some s3)
def fD(N:Nat)(p2 r1:(Vector Int 16)):Nat->(Vector Int 64)->Int->Option ((Vector Int 64))
 | 0,_,_=>none
 | k+1,s51,s52=>
  cond (decide (s52 < 16)) (
   ae (idx p2.toList s52) λe53=>
   ae (aS s52 16) λ_=>
   ae (r1.toList[s52.toNat]?) λe55=>
   aM (I64 ((I64 (4*s52))+1)) λx56=>
   aM (I64 ((I64 (4*s52))+2)) λx57=>
   aM (I64 ((I64 (4*s52))+3)) λx58=>
   aM (shr .u32 (U32 (e53+e55)) 8) λx59=>
   aM (shr .u32 (U32 (e53+e55)) 16) λx60=>
   aM (shr .u32 (U32 (e53+e55)) 24) λx61=>
   ae (aS (I64 (4*s52)) 64) λ_=>
   ae (s51.toList[(I64 (4*s52)).toNat]?) λe63=>
   ae (aS x56 64) λ_=>
   ae ((s51.setIfInBounds ((I64 (4*s52)).toNat) (U8 (U32 (e53+e55)))).toList[x56.toNat]?) λe65=>
   ae (aS x57 64) λ_=>
   ae (((s51.setIfInBounds ((I64 (4*s52)).toNat) (U8 (U32 (e53+e55)))).setIfInBounds x56.toNat (U8 x59)).toList[x57.toNat]?) λe67=>
   ae (aS x58 64) λ_=>
   ae ((((s51.setIfInBounds ((I64 (4*s52)).toNat) (U8 (U32 (e53+e55)))).setIfInBounds x56.toNat (U8 x59)).setIfInBounds x57.toNat (U8 x60)).toList[x58.toNat]?) λe69=>
   fD N p2 r1 k ((((s51.setIfInBounds ((I64 (4*s52)).toNat) (U8 (U32 (e53+e55)))).setIfInBounds x56.toNat (U8 x59)).setIfInBounds x57.toNat (U8 x60)).setIfInBounds x58.toNat (U8 x61)) (I64 (s52+1))) (
   some s51)
def mI(N:Nat)(a0:(Vector Int 32))(a1:Int)(a2:(Vector Int 12)):Option ((Vector Int 64)):=
 ae (sE N a0 a1 a2) λr1=>
 ae (iH N N r1 0) λp2=>
 ae (fD N p2 r1 N (ai 64 0) 0) λp50=>
 some p50
theorem aB1{N a0 a1 a2 r}(h:mI N a0 a1 a2=some r):FnM Tryz.prog 161 [] [(eA 32 1 k8 a0),(k32 a1),(eA 12 1 k8 a2)] (eA 64 1 k8 r) []:=by
 refine Af aIr Tryz.func161 h ?_;refine At.y 6 aHD λr1=>?_;refine At.M 17 [6,7,8] 4 (λp2=>([],[(2,.var (eA 16 1 k32 p2))],[])) [6,7,8,9] 4 (CU2 (iH N)) (cu2 λs3 s4=>([(30,(j64 s4))],[(2,.var (eA 16 1 k32 s3))],[])) (_,_) N (λp2 k=>un2 λs3 s4=>?_) λp2=>?_
 ·refine At.c 1 ?_ ?_
  ·refine At.M 2 [6,7,8,9,30] 4 (λp5=>([],[(2,.var (eA 16 1 k32 p5))],[])) [6,7,8,9,30,32] 4 (CU2 (aZ N)) (cu2 λs6 s7=>([(33,(j64 s7))],[(2,.var (eA 16 1 k32 s6))],[])) (_,_) N (λp5 k=>un2 λs6 s7=>?_) λp5=>?_
   ·refine At.c 1 ?_ ?_
    ·refine At.b 0 (λ_ e=>aHV hT (eA 4 1 j64) (#v[#v[0,4,8,12],#v[1,5,9,13],#v[2,6,10,14],#v[3,7,11,15],#v[0,5,10,15],#v[1,6,11,12],#v[2,7,8,13],#v[3,4,9,14]]) e (by kernel_rfl) (by kernel_rfl)) λe8=>?_;refine At.D 2 [] ?_;refine DD.B 0 bAr λu9=>?_;refine DD.l hT 0 j64 j64 0 λe10=>?_;refine DD.B 0 bAr λu11=>?_;refine DD.l hT 0 k32 k32 0 λe12=>?_;refine DD.B 0 bAr λu13=>?_;refine DD.l hT 0 j64 j64 0 λe14=>?_;refine DD.B 0 bAr λu15=>?_;refine DD.l hT 0 k32 k32 0 λe16=>?_;refine DD.B 0 bAr λu17=>?_;refine DD.l hT 0 j64 j64 0 λe18=>?_;refine DD.B 0 bAr λu19=>?_;refine DD.l hT 0 k32 k32 0 λe20=>?_;refine DD.B 0 bAr λu21=>?_;refine DD.l hT 0 j64 j64 0 λe22=>?_;refine DD.B 0 bAr λu23=>?_;refine DD.l hT 0 k32 k32 0 λe24=>?_;refine DD.y 1 aEm λr25=>?_;refine De 2 ?_;refine At.D 0 [] ?_;refine DD.B 0 bAr λu26=>?_;refine DD.l hT 0 j64 j64 0 λe27=>?_;refine DD.B 0 bAr λu28=>?_;refine DD.l hT 0 j64 j64 0 λe29=>?_;refine DD.B 0 bAr λu30=>?_;refine DD.l hT 0 j64 j64 0 λe31=>?_;refine DD.B 0 bAr λu32=>?_;refine DD.l hT 0 j64 j64 0 λe33=>?_;refine DD.B 0 bAr λu34=>?_;refine DD.l hT 0 k32 k32 0 λe35=>?_;refine DD.B 0 bAr λu36=>?_;refine DD.l hT 0 k32 k32 0 λe37=>?_;refine DD.B 0 bAr λu38=>?_;refine DD.l hT 0 k32 k32 0 λe39=>?_;refine DD.B 0 bAr λu40=>?_;refine DD.l hT 0 k32 k32 0 λe41=>?_;refine DD.B 0 bAr λu42=>?_;refine DD.U 0 (bSv k32 0 e35) λe43=>?_;refine DD.B 0 bAr λu44=>?_;refine DD.U 0 (bSv k32 0 e37) λe45=>?_;refine DD.B 0 bAr λu46=>?_;refine DD.U 0 (bSv k32 0 e39) λe47=>?_;refine DD.B 0 bAr λu48=>?_;refine DD.U 0 (bSv k32 0 e41) λe49=>?_;refine De 0 ?_;exact λh=>At.v 2 (_,_) h
    ·apply rt;exact At.x 0
   ·exact λh=>At.v 2 (_,_) h
  ·apply rt;exact At.x 0
 ·refine At.M 3 [6,13] 5 (λp50=>([],[(4,.var (eA 64 1 k8 p50))],[])) [6,7,13,76] 5 (CU2 (fD N p2 r1)) (cu2 λs51 s52=>([(77,(j64 s52))],[(4,.var (eA 64 1 k8 s51))],[])) (_,_) N (λp50 k=>un2 λs51 s52=>?_) λp50=>?_
  ·refine At.c 1 ?_ ?_
   ·refine At.b 1 (λ_ e=>aHV hT k32 p2 e (by kernel_rfl) (by kernel_rfl)) λe53=>?_;refine At.B 4 bAr λu54=>?_;refine At.U 0 (bLd k32 0) λe55=>?_;apply lx;intro x56;apply lx;intro x57;apply lx;intro x58;apply lx;intro x59;apply lx;intro x60;apply lx;intro x61;refine At.B 24 bAr λu62=>?_;refine At.U 0 (bSv k8 0 (U8 (U32 (e53+e55)))) λe63=>?_;refine At.B 0 bAr λu64=>?_;refine At.U 0 (bSv k8 0 (U8 x59)) λe65=>?_;refine At.B 0 bAr λu66=>?_;refine At.U 0 (bSv k8 0 (U8 x60)) λe67=>?_;refine At.B 0 bAr λu68=>?_;refine At.U 0 (bSv k8 0 (U8 x61)) λe69=>?_;exact λh=>At.v 2 (_,_) h
   ·apply rt;exact At.x 0
  ·apply rt;exact At.r 2
def aN8 : Nat->Bool:=imL [2,3]
def xX(N:Nat)(a0:(Vector Int 32))(a1:(Vector Int 12)):Option ((Vector Int 32)):=
 ae (mI N a0 0 a1) λr1=>
 ae (cR r1.toList 0 32) λs3=>
 ae (aHI 32 s3) λv4=>
 some v4
theorem aLj{N a0 a1 r}(h:xX N a0 a1=some r):FnM Tryz.prog 122 [] [(eA 32 1 k8 a0),(eA 12 1 k8 a1)] (eA 32 1 k8 r) []:=by
 refine Af aN8 Tryz.func122 h ?_;refine At.y 5 aB1 λr1=>?_;refine At.gz 2 1 ((eA 64 1 k8 r1)) ?_;refine At.B 0 (bSI k8) λs3=>?_;refine At.b 0 (λv4 e=>aEo hT k8 s3 v4 e rfl (by kernel_rfl) (by kernel_rfl)) λv4=>?_;apply rt;exact At.r 2
def sP(N:Nat)(a0:(List Int)):Option ((List Int)):=
 aM (cp ((a0.length:Int)) 16) λx1=>
 aM (cp (I64 (16 - x1)) 16) λx2=>
 ae (mkO 1 x2) λ_=>
 ae (aG7 (ak x2.toNat (0:Int)) x2.toNat) λ_=>
 some (ak x2.toNat (0:Int))
theorem aDj{N a0 r}(h:sP N a0=some r):FnM Tryz.prog 120 [] [(eL 1 k8 a0)] (eL 1 k8 r) []:=by
 refine Af cM Tryz.func120 h ?_;apply lx;intro x1;apply lx;intro x2;refine At.b 6 (λ_ e=>aNF hT k8 ((0:Int)) (k:=1) (kd := .int .u8) e (by kernel_rfl) (by kernel_rfl) rfl) λu3=>?_;refine bi λu4 hu4=>?_;refine At.fz 1 0 1 x2.toNat _ (dk k8 (ak x2.toNat (0:Int))) (cr _) (lenM k8 hu4) ?_;apply rt;exact At.r 0
def kZ(N:Nat)  : Nat->(Vector Int 16)->Int->Option ((Vector Int 16))
 | 0,_,_=>none
 | k+1,s2,s3=>
  cond (decide (s3 < 4)) (
   ae (aM (I64 ((I64 (4*s3))+3)) λx5=>
   ae (aS x5 16) λ_=>
   ae (s2.toList[x5.toNat]?) λe7=>
   ae (aS x5 16) λ_=>
   ae (s2.toList[x5.toNat]?) λe9=>
   cond (decide (s3 > 0)) (
    ae (aS (I64 (4*s3)) 16) λ_=>
    ae ((s2.setIfInBounds x5.toNat (cI .u8 e7 15)).toList[(I64 (4*s3)).toNat]?) λe11=>
    ae (aS (I64 (4*s3)) 16) λ_=>
    ae ((s2.setIfInBounds x5.toNat (cI .u8 e7 15)).toList[(I64 (4*s3)).toNat]?) λe13=>
    some ((s2.setIfInBounds x5.toNat (cI .u8 e7 15)).setIfInBounds ((I64 (4*s3)).toNat) (cI .u8 e11 252))) (
    some (s2.setIfInBounds x5.toNat (cI .u8 e7 15)))) λp4=>
   kZ N k p4 (I64 (s3+1))) (
   some s2)
def sR(N:Nat)(a0:(Vector Int 16)):Option ((Vector Int 16)):=
 ae (kZ N N a0 0) λp1=>
 some p1
theorem aJh{N a0 r}(h:sR N a0=some r):FnM Tryz.prog 174 [] [(eA 16 1 k8 a0)] (eA 16 1 k8 r) []:=by
 refine Af cM Tryz.func174 h ?_;refine At.M 3 [1,2] 2 (λp1=>([],[(0,.var (eA 16 1 k8 p1))],[])) [1,2] 2 (CU2 (kZ N)) (cu2 λs2 s3=>([(4,(j64 s3))],[(0,.var (eA 16 1 k8 s2))],[])) (_,_) N (λp1 k=>un2 λs2 s3=>?_) λp1=>?_
 ·refine At.c 1 ?_ ?_
  ·refine At.J 0 2 [1,2,4] 2 (λp4=>([],[(0,.var (eA 16 1 k8 p4))],[])) (λp4=>?_) λp4=>?_
   ·apply lx;intro x5;refine At.B 5 bAr λu6=>?_;refine At.U 0 (bLd k8 0) λe7=>?_;refine At.B 1 bAr λu8=>?_;refine At.U 0 (bSv k8 0 (cI .u8 e7 15)) λe9=>?_;refine At.c 2 ?_ ?_
    ·refine At.B 2 bAr λu10=>?_;refine At.U 0 (bLd k8 0) λe11=>?_;refine At.B 1 bAr λu12=>?_;refine At.U 0 (bSv k8 0 (cI .u8 e11 252)) λe13=>?_;apply rt;exact At.jn 0
    ·apply rt;exact At.jn 0
   ·exact λh=>At.v 2 (_,_) h
  ·apply rt;exact At.x 0
 ·apply rt;exact At.r 2
def iY(N:Nat)(a0:(List Int)):Nat->Int->Int->Option (Int)
 | 0,_,_=>none
 | k+1,s2,s3=>
  cond (decide (s3 < 8)) (
   ae (idx a0 s3) λe4=>
   ae (aFP .u64 (U64 e4) (I64 (8*s3))) λx5=>
   iY N a0 k (bor .u64 s2 x5) (I64 (s3+1))) (
   some s2)
def dD(N:Nat)(a0:(List Int)):Option (Int):=
 ae (iY N a0 N 0 0) λp1=>
 some p1
theorem nW{N a0 r}(h:dD N a0=some r):FnM Tryz.prog 175 [] [(eL 1 k8 a0)] (k64 r) []:=by
 refine Af cM Tryz.func175 h ?_;refine At.M 3 [] 0 (λp1=>([(3,(k64 p1))],[],[])) [0] 0 (CU2 (iY N a0)) (cu2 λs2 s3=>([(3,(k64 s2)),(5,(j64 s3))],[],[])) (_,_) N (λp1 k=>un2 λs2 s3=>?_) λp1=>?_
 ·refine At.c 1 ?_ ?_
  ·refine At.i hT 5 k8 λe4=>?_;refine At.B 4 bSh λx5=>?_;exact λh=>At.v 4 (_,_) h
  ·apply rt;exact At.x 0
 ·apply rt;exact At.r 2
def aN3 : Nat->Bool:=imL [1]
def xN(N:Nat)(a0:(Vector Int 32)):Option (Int×Int×Int×Int):=
 ae (cR a0.toList 0 16) λs1=>
 ae (aHI 16 s1) λv2=>
 ae (sR N v2) λr3=>
 ae (cR r3.toList 0 16) λs4=>
 ae (dD N s4) λr5=>
 ae (cR r3.toList 8 16) λs6=>
 ae (dD N s6) λr7=>
 ae (cR a0.toList 16 32) λs8=>
 ae (dD N s8) λr9=>
 ae (cR a0.toList 24 32) λs10=>
 ae (dD N s10) λr11=>
 some ((r5,r7,r9,r11))
theorem aL2{N a0 r}(h:xN N a0=some r):FnM Tryz.prog 158 [] [(eA 32 1 k8 a0)] (.ref 1 [] 0) [.dead,.var (.st 10 [(.st 3 [(.arr 3 1 [(k64 0),(k64 0),(k64 0)])]),(eB true),(k64 r.1),(k64 r.2.1),(k64 r.2.2.1),(k64 r.2.2.2),(.v (.slice none 0 0)),(j64 0)])]:=by
 refine Af aN3 Tryz.func158 h ?_;refine At.B 2 (bSI k8) λs1=>?_;refine At.b 0 (λv2 e=>aEo hT k8 s1 v2 e rfl (by kernel_rfl) (by kernel_rfl)) λv2=>?_;refine At.y 1 aJh λr3=>?_;refine At.gz 2 0 ((eA 16 1 k8 r3)) ?_;refine At.D 0 [] ?_;refine DD.B 0 (bSI k8) λs4=>?_;refine DD.y 0 nW λr5=>?_;refine DD.B 0 (bSI k8) λs6=>?_;refine DD.y 0 nW λr7=>?_;refine DD.B 0 (bSI k8) λs8=>?_;refine DD.y 0 nW λr9=>?_;refine DD.B 0 (bSI k8) λs10=>?_;refine DD.y 0 nW λr11=>?_;refine De 3 ?_;apply rt;exact At.r 0
def lN(N:Nat)  : Nat->(List (Vector Int 17))->(List Int)->Option ((List (Vector Int 17)))
 | 0,_,_=>none
 | k+1,s4,s5=>
  aM (decide (((s5.length:Int)) > 0)) λx6=>
  cond x6 (
   ae (aEB 17 0 16) λ_=>
   ae (cpV (ai 17 0) s5 0 16) λv8=>
   aM (((min s5.length 16:Nat):Int)) λx9=>
   ae (aS x9 17) λ_=>
   ae (v8.toList[x9.toNat]?) λe11=>
   ae (fT 17 s4 (([v8.setIfInBounds x9.toNat 1]:List (Vector Int 17)))) λz12=>
   ae (cR s5 x9 ((s5.length:Int))) λs13=>
   lN N k z12 s13) (
   some s4)
def mA(N:Nat)(a0:(List Int)):Option ((List (Vector Int 17))):=
 aM (nE ((a0.length:Int)) 65536) λx1=>
 ae (cR a0 0 x1) λs2=>
 ae (lN N N [] s2) λp3=>
 some p3
theorem aCi{N a0 r}(h:mA N a0=some r):FnM Tryz.prog 177 [] [(eL 1 k8 a0)] (eL 17 (eA 17 1 k8) r) []:=by
 refine Af cM Tryz.func177 h ?_;apply lx;intro x1;refine At.B 5 (bSl k8) λs2=>?_;refine At.ownn 2 3 17 ?_;refine At.M 0 [] 1 (λp3=>([(3,(eO 0 17 (eA 17 1 k8) p3))],[(0,.tail (p3.length*17))],[])) [] 1 (CU2 (lN N)) (cu2 λs4 s5=>([(0,(eL 1 k8 s5)),(3,(eO 0 17 (eA 17 1 k8) s4))],[(0,.tail (s4.length*17))],[])) (_,_) N (λp3 k=>un2 λs4 s5=>?_) λp3=>?_
 ·apply lx;intro x6;refine At.c 3 ?_ ?_
  ·refine At.b 1 (λ_ e=>aFV hT (k:=1) 1 [] 0 e (by kernel_rfl) (by kernel_rfl) (by decide)) λs7=>?_;refine At.b 1 (λv8 e=>aCt hT k8 (id:=1) (path:=[]) (off:=0) (H':=[.tail (s4.length*17),.var (eA 17 1 k8 v8)]) e (by kernel_rfl) (by kernel_rfl) (by kernel_rfl)) λv8=>?_;apply lx;intro x9;refine At.B 2 bAr λu10=>?_;refine At.U 0 (bSv k8 0 1) λe11=>?_;refine At.O 2 bRw ?_;refine At.U 0 (bAp (eA 17 1 k8)) λz12=>?_;refine At.B 3 (bSl k8) λs13=>?_;exact λh=>At.v 1 (_,_) h
  ·apply rt;exact At.x 0
 ·apply rt;exact At.r 2
theorem fC{x y c:Int}{r:Int×Int}(h:cW x y c=some r):aKF Tryz.prog 187 [.int .u64 x,.int .u64 y,.int .u64 c] (.tuple #[.int .u64 r.1,.int .u64 r.2]):=
 aP0 Tryz.func187 (by kernel_rfl) (by kernel_rfl) (by kernel_rfl) (by kernel_rfl) h
def cB(N:Nat)(a0 a1:Int):Option (Int×Int):=
 aM (cI .u64 a0 4294967295) λx1=>
 aM (cI .u64 a1 4294967295) λx2=>
 aM (U64 ((shr .u64 a0 32)*x2)) λx3=>
 aM (shr .u64 (U64 (x1*x2)) 32) λx4=>
 aM (cI .u64 (U64 (x3+x4)) 4294967295) λx5=>
 aM (shr .u64 (U64 (x3+x4)) 32) λx6=>
 aM (U64 (x1*(shr .u64 a1 32))) λx7=>
 aM (U64 ((shr .u64 a0 32)*(shr .u64 a1 32))) λx8=>
 aM (shr .u64 (U64 (x5+x7)) 32) λx9=>
 aM (U64 ((U64 (x8+x6))+x9)) λx10=>
 some ((x10,U64 (a0*a1)))
theorem iQ{N a0 a1 r}(h:cB N a0 a1=some r):FnM Tryz.prog 188 [] [(k64 a0),(k64 a1)] (.tup [(k64 r.1),(k64 r.2)]) []:=by
 refine Af cM Tryz.func188 h ?_;apply lx;intro x1;apply lx;intro x2;apply lx;intro x3;apply lx;intro x4;apply lx;intro x5;apply lx;intro x6;apply lx;intro x7;apply lx;intro x8;apply lx;intro x9;apply lx;intro x10;apply rt;exact At.r 50
def iR(N:Nat)(a0 a1:Int)(a2:aT):Option ((Vector Int 3)):=
 ae (aS 0 3) λ_=>
 ae (a2.gA1.gh.toList[(ag 0)]?) λe2=>
 ae (cW e2 a0 0) λr3=>
 ae (aS 0 3) λ_=>
 ae (a2.gA1.gh.toList[(ag 0)]?) λe5=>
 ae (aS 1 3) λ_=>
 ae ((a2.gA1.gh.setIfInBounds ((ag 0)) r3.1).toList[(ag 1)]?) λe7=>
 ae (cW e7 a1 r3.2) λr8=>
 ae (aS 1 3) λ_=>
 ae ((a2.gA1.gh.setIfInBounds ((ag 0)) r3.1).toList[(ag 1)]?) λe10=>
 ae (aS 2 3) λ_=>
 ae (((a2.gA1.gh.setIfInBounds ((ag 0)) r3.1).setIfInBounds ((ag 1)) r8.1).toList[(ag 2)]?) λe12=>
 ae (aS 2 3) λ_=>
 ae (((a2.gA1.gh.setIfInBounds ((ag 0)) r3.1).setIfInBounds ((ag 1)) r8.1).toList[(ag 2)]?) λe14=>
 some (((a2.gA1.gh.setIfInBounds ((ag 0)) r3.1).setIfInBounds ((ag 1)) r8.1).setIfInBounds ((ag 2)) (U64 (e12+r8.2)))
theorem xH{N a0 a1 a2 r}(h:iR N a0 a1 a2=some r):FnM Tryz.prog 189 [.var (aT.enc a2)] [(.ref 0 [0] 0),(k64 a0),(k64 a1)] (.tup []) [.var (.st 10 [(.st 3 [(eA 3 1 k64 r)]),(eB a2.gC),(k64 a2.gr0),(k64 a2.gr1),(k64 a2.gs0),(k64 a2.gs1),(eL 1 k8 a2.gN),(j64 a2.gO)])]:=by
 refine Af cM Tryz.func189 h ?_;refine At.D 1 [] ?_;refine DD.B 4 bAr λu1=>?_;refine DD.l hT 0 k64 k64 2 λe2=>?_;refine DD.B 1 (bNt fC) λr3=>?_;refine DD.B 5 bAr λu4=>?_;refine DD.U 0 (bSv k64 2 r3.1) λe5=>?_;refine De 1 ?_;refine At.D 0 [] ?_;refine DD.B 4 bAr λu6=>?_;refine DD.l hT 0 k64 k64 2 λe7=>?_;refine DD.B 2 (bNt fC) λr8=>?_;refine DD.B 5 bAr λu9=>?_;refine DD.U 0 (bSv k64 2 r8.1) λe10=>?_;refine De 1 ?_;refine At.D 0 [] ?_;refine DD.B 3 bAr λu11=>?_;refine DD.l hT 0 k64 k64 2 λe12=>?_;refine DD.B 4 bAr λu13=>?_;refine DD.U 0 (bSv k64 2 (U64 (e12+r8.2))) λe14=>?_;refine De 0 ?_;apply rt;exact At.z 0
def aBq : Nat->Bool:=imL [5]
def jN(N:Nat)(a0:(Vector Int 17))(a1 a2:Int)(a3:aT):Option ((Vector Int 3)×Bool×Int×Int×Int×Int×(List Int)×Int):=
 ae (aS 0 3) λ_=>
 ae (a3.gA1.gh.toList[(ag 0)]?) λe2=>
 ae (cR a0.toList 0 8) λs3=>
 ae (dD N s3) λr4=>
 ae (cW e2 r4 0) λr5=>
 ae (aS 0 3) λ_=>
 ae (a3.gA1.gh.toList[(ag 0)]?) λe7=>
 ae (aS 1 3) λ_=>
 ae ((a3.gA1.gh.setIfInBounds ((ag 0)) r5.1).toList[(ag 1)]?) λe9=>
 ae (cR a0.toList 8 16) λs10=>
 ae (dD N s10) λr11=>
 ae (cW e9 r11 r5.2) λr12=>
 ae (aS 1 3) λ_=>
 ae ((a3.gA1.gh.setIfInBounds ((ag 0)) r5.1).toList[(ag 1)]?) λe14=>
 ae (aS 2 3) λ_=>
 ae (((a3.gA1.gh.setIfInBounds ((ag 0)) r5.1).setIfInBounds ((ag 1)) r12.1).toList[(ag 2)]?) λe16=>
 ae (idx a0.toList 16) λe17=>
 aM (U64 ((U64 e17)+r12.2)) λx18=>
 ae (aS 2 3) λ_=>
 ae (((a3.gA1.gh.setIfInBounds ((ag 0)) r5.1).setIfInBounds ((ag 1)) r12.1).toList[(ag 2)]?) λe20=>
 ae (aS 0 3) λ_=>
 ae ((((a3.gA1.gh.setIfInBounds ((ag 0)) r5.1).setIfInBounds ((ag 1)) r12.1).setIfInBounds ((ag 2)) (U64 (e16+x18))).toList[(ag 0)]?) λe22=>
 ae (cB N e22 a1) λr23=>
 ae (aS 1 3) λ_=>
 ae ((((a3.gA1.gh.setIfInBounds ((ag 0)) r5.1).setIfInBounds ((ag 1)) r12.1).setIfInBounds ((ag 2)) (U64 (e16+x18))).toList[(ag 1)]?) λe25=>
 ae (cB N e25 a1) λr26=>
 ae (aS 0 3) λ_=>
 ae ((((a3.gA1.gh.setIfInBounds ((ag 0)) r5.1).setIfInBounds ((ag 1)) r12.1).setIfInBounds ((ag 2)) (U64 (e16+x18))).toList[(ag 0)]?) λe28=>
 ae (cB N e28 a2) λr29=>
 ae (aS 1 3) λ_=>
 ae ((((a3.gA1.gh.setIfInBounds ((ag 0)) r5.1).setIfInBounds ((ag 1)) r12.1).setIfInBounds ((ag 2)) (U64 (e16+x18))).toList[(ag 1)]?) λe31=>
 ae (cB N e31 a2) λr32=>
 ae (aS 2 3) λ_=>
 ae ((((a3.gA1.gh.setIfInBounds ((ag 0)) r5.1).setIfInBounds ((ag 1)) r12.1).setIfInBounds ((ag 2)) (U64 (e16+x18))).toList[(ag 2)]?) λe34=>
 ae (aS 2 3) λ_=>
 ae ((((a3.gA1.gh.setIfInBounds ((ag 0)) r5.1).setIfInBounds ((ag 1)) r12.1).setIfInBounds ((ag 2)) (U64 (e16+x18))).toList[(ag 2)]?) λe36=>
 ae (cW r26.2 r29.2 0) λr37=>
 ae (cW r26.1 r29.1 r37.2) λr38=>
 ae (cW 0 0 r38.2) λr39=>
 ae (cW r38.1 r32.2 0) λr40=>
 ae (cW r39.1 r32.1 r40.2) λr41=>
 ae (cW r40.1 (U64 (e34*a1)) 0) λr42=>
 ae (cW r41.1 (U64 (e36*a2)) r42.2) λr43=>
 ae (cW r37.1 r23.1 0) λr44=>
 ae (cW r42.1 0 r44.2) λr45=>
 ae (cW r43.1 0 r45.2) λr46=>
 ae (iR N (aJL .u64 r45.1 3) r46.1 (aT.mk (aO.mk (#v[r23.2,r44.1,cI .u64 r45.1 3])) a3.gC a3.gr0 a3.gr1 a3.gs0 a3.gs1 a3.gN a3.gO)) λr47=>
 aM (bor .u64 (shr .u64 r45.1 2) (shl .u64 r46.1 62)) λx48=>
 ae (iR N x48 (shr .u64 r46.1 2) (aT.mk (aO.mk r47) ((aT.mk (aO.mk (#v[r23.2,r44.1,cI .u64 r45.1 3])) a3.gC a3.gr0 a3.gr1 a3.gs0 a3.gs1 a3.gN a3.gO).gC) ((aT.mk (aO.mk (#v[r23.2,r44.1,cI .u64 r45.1 3])) a3.gC a3.gr0 a3.gr1 a3.gs0 a3.gs1 a3.gN a3.gO).gr0) ((aT.mk (aO.mk (#v[r23.2,r44.1,cI .u64 r45.1 3])) a3.gC a3.gr0 a3.gr1 a3.gs0 a3.gs1 a3.gN a3.gO).gr1) ((aT.mk (aO.mk (#v[r23.2,r44.1,cI .u64 r45.1 3])) a3.gC a3.gr0 a3.gr1 a3.gs0 a3.gs1 a3.gN a3.gO).gs0) ((aT.mk (aO.mk (#v[r23.2,r44.1,cI .u64 r45.1 3])) a3.gC a3.gr0 a3.gr1 a3.gs0 a3.gs1 a3.gN a3.gO).gs1) ((aT.mk (aO.mk (#v[r23.2,r44.1,cI .u64 r45.1 3])) a3.gC a3.gr0 a3.gr1 a3.gs0 a3.gs1 a3.gN a3.gO).gN) ((aT.mk (aO.mk (#v[r23.2,r44.1,cI .u64 r45.1 3])) a3.gC a3.gr0 a3.gr1 a3.gs0 a3.gs1 a3.gN a3.gO).gO))) λr49=>
 some ((r49,(aT.mk (aO.mk r47) ((aT.mk (aO.mk (#v[r23.2,r44.1,cI .u64 r45.1 3])) a3.gC a3.gr0 a3.gr1 a3.gs0 a3.gs1 a3.gN a3.gO).gC) ((aT.mk (aO.mk (#v[r23.2,r44.1,cI .u64 r45.1 3])) a3.gC a3.gr0 a3.gr1 a3.gs0 a3.gs1 a3.gN a3.gO).gr0) ((aT.mk (aO.mk (#v[r23.2,r44.1,cI .u64 r45.1 3])) a3.gC a3.gr0 a3.gr1 a3.gs0 a3.gs1 a3.gN a3.gO).gr1) ((aT.mk (aO.mk (#v[r23.2,r44.1,cI .u64 r45.1 3])) a3.gC a3.gr0 a3.gr1 a3.gs0 a3.gs1 a3.gN a3.gO).gs0) ((aT.mk (aO.mk (#v[r23.2,r44.1,cI .u64 r45.1 3])) a3.gC a3.gr0 a3.gr1 a3.gs0 a3.gs1 a3.gN a3.gO).gs1) ((aT.mk (aO.mk (#v[r23.2,r44.1,cI .u64 r45.1 3])) a3.gC a3.gr0 a3.gr1 a3.gs0 a3.gs1 a3.gN a3.gO).gN) ((aT.mk (aO.mk (#v[r23.2,r44.1,cI .u64 r45.1 3])) a3.gC a3.gr0 a3.gr1 a3.gs0 a3.gs1 a3.gN a3.gO).gO)).gC,(aT.mk (aO.mk r47) ((aT.mk (aO.mk (#v[r23.2,r44.1,cI .u64 r45.1 3])) a3.gC a3.gr0 a3.gr1 a3.gs0 a3.gs1 a3.gN a3.gO).gC) ((aT.mk (aO.mk (#v[r23.2,r44.1,cI .u64 r45.1 3])) a3.gC a3.gr0 a3.gr1 a3.gs0 a3.gs1 a3.gN a3.gO).gr0) ((aT.mk (aO.mk (#v[r23.2,r44.1,cI .u64 r45.1 3])) a3.gC a3.gr0 a3.gr1 a3.gs0 a3.gs1 a3.gN a3.gO).gr1) ((aT.mk (aO.mk (#v[r23.2,r44.1,cI .u64 r45.1 3])) a3.gC a3.gr0 a3.gr1 a3.gs0 a3.gs1 a3.gN a3.gO).gs0) ((aT.mk (aO.mk (#v[r23.2,r44.1,cI .u64 r45.1 3])) a3.gC a3.gr0 a3.gr1 a3.gs0 a3.gs1 a3.gN a3.gO).gs1) ((aT.mk (aO.mk (#v[r23.2,r44.1,cI .u64 r45.1 3])) a3.gC a3.gr0 a3.gr1 a3.gs0 a3.gs1 a3.gN a3.gO).gN) ((aT.mk (aO.mk (#v[r23.2,r44.1,cI .u64 r45.1 3])) a3.gC a3.gr0 a3.gr1 a3.gs0 a3.gs1 a3.gN a3.gO).gO)).gr0,(aT.mk (aO.mk r47) ((aT.mk (aO.mk (#v[r23.2,r44.1,cI .u64 r45.1 3])) a3.gC a3.gr0 a3.gr1 a3.gs0 a3.gs1 a3.gN a3.gO).gC) ((aT.mk (aO.mk (#v[r23.2,r44.1,cI .u64 r45.1 3])) a3.gC a3.gr0 a3.gr1 a3.gs0 a3.gs1 a3.gN a3.gO).gr0) ((aT.mk (aO.mk (#v[r23.2,r44.1,cI .u64 r45.1 3])) a3.gC a3.gr0 a3.gr1 a3.gs0 a3.gs1 a3.gN a3.gO).gr1) ((aT.mk (aO.mk (#v[r23.2,r44.1,cI .u64 r45.1 3])) a3.gC a3.gr0 a3.gr1 a3.gs0 a3.gs1 a3.gN a3.gO).gs0) ((aT.mk (aO.mk (#v[r23.2,r44.1,cI .u64 r45.1 3])) a3.gC a3.gr0 a3.gr1 a3.gs0 a3.gs1 a3.gN a3.gO).gs1) ((aT.mk (aO.mk (#v[r23.2,r44.1,cI .u64 r45.1 3])) a3.gC a3.gr0 a3.gr1 a3.gs0 a3.gs1 a3.gN a3.gO).gN) ((aT.mk (aO.mk (#v[r23.2,r44.1,cI .u64 r45.1 3])) a3.gC a3.gr0 a3.gr1 a3.gs0 a3.gs1 a3.gN a3.gO).gO)).gr1,(aT.mk (aO.mk r47) ((aT.mk (aO.mk (#v[r23.2,r44.1,cI .u64 r45.1 3])) a3.gC a3.gr0 a3.gr1 a3.gs0 a3.gs1 a3.gN a3.gO).gC) ((aT.mk (aO.mk (#v[r23.2,r44.1,cI .u64 r45.1 3])) a3.gC a3.gr0 a3.gr1 a3.gs0 a3.gs1 a3.gN a3.gO).gr0) ((aT.mk (aO.mk (#v[r23.2,r44.1,cI .u64 r45.1 3])) a3.gC a3.gr0 a3.gr1 a3.gs0 a3.gs1 a3.gN a3.gO).gr1) ((aT.mk (aO.mk (#v[r23.2,r44.1,cI .u64 r45.1 3])) a3.gC a3.gr0 a3.gr1 a3.gs0 a3.gs1 a3.gN a3.gO).gs0) ((aT.mk (aO.mk (#v[r23.2,r44.1,cI .u64 r45.1 3])) a3.gC a3.gr0 a3.gr1 a3.gs0 a3.gs1 a3.gN a3.gO).gs1) ((aT.mk (aO.mk (#v[r23.2,r44.1,cI .u64 r45.1 3])) a3.gC a3.gr0 a3.gr1 a3.gs0 a3.gs1 a3.gN a3.gO).gN) ((aT.mk (aO.mk (#v[r23.2,r44.1,cI .u64 r45.1 3])) a3.gC a3.gr0 a3.gr1 a3.gs0 a3.gs1 a3.gN a3.gO).gO)).gs0,(aT.mk (aO.mk r47) ((aT.mk (aO.mk (#v[r23.2,r44.1,cI .u64 r45.1 3])) a3.gC a3.gr0 a3.gr1 a3.gs0 a3.gs1 a3.gN a3.gO).gC) ((aT.mk (aO.mk (#v[r23.2,r44.1,cI .u64 r45.1 3])) a3.gC a3.gr0 a3.gr1 a3.gs0 a3.gs1 a3.gN a3.gO).gr0) ((aT.mk (aO.mk (#v[r23.2,r44.1,cI .u64 r45.1 3])) a3.gC a3.gr0 a3.gr1 a3.gs0 a3.gs1 a3.gN a3.gO).gr1) ((aT.mk (aO.mk (#v[r23.2,r44.1,cI .u64 r45.1 3])) a3.gC a3.gr0 a3.gr1 a3.gs0 a3.gs1 a3.gN a3.gO).gs0) ((aT.mk (aO.mk (#v[r23.2,r44.1,cI .u64 r45.1 3])) a3.gC a3.gr0 a3.gr1 a3.gs0 a3.gs1 a3.gN a3.gO).gs1) ((aT.mk (aO.mk (#v[r23.2,r44.1,cI .u64 r45.1 3])) a3.gC a3.gr0 a3.gr1 a3.gs0 a3.gs1 a3.gN a3.gO).gN) ((aT.mk (aO.mk (#v[r23.2,r44.1,cI .u64 r45.1 3])) a3.gC a3.gr0 a3.gr1 a3.gs0 a3.gs1 a3.gN a3.gO).gO)).gs1,(aT.mk (aO.mk r47) ((aT.mk (aO.mk (#v[r23.2,r44.1,cI .u64 r45.1 3])) a3.gC a3.gr0 a3.gr1 a3.gs0 a3.gs1 a3.gN a3.gO).gC) ((aT.mk (aO.mk (#v[r23.2,r44.1,cI .u64 r45.1 3])) a3.gC a3.gr0 a3.gr1 a3.gs0 a3.gs1 a3.gN a3.gO).gr0) ((aT.mk (aO.mk (#v[r23.2,r44.1,cI .u64 r45.1 3])) a3.gC a3.gr0 a3.gr1 a3.gs0 a3.gs1 a3.gN a3.gO).gr1) ((aT.mk (aO.mk (#v[r23.2,r44.1,cI .u64 r45.1 3])) a3.gC a3.gr0 a3.gr1 a3.gs0 a3.gs1 a3.gN a3.gO).gs0) ((aT.mk (aO.mk (#v[r23.2,r44.1,cI .u64 r45.1 3])) a3.gC a3.gr0 a3.gr1 a3.gs0 a3.gs1 a3.gN a3.gO).gs1) ((aT.mk (aO.mk (#v[r23.2,r44.1,cI .u64 r45.1 3])) a3.gC a3.gr0 a3.gr1 a3.gs0 a3.gs1 a3.gN a3.gO).gN) ((aT.mk (aO.mk (#v[r23.2,r44.1,cI .u64 r45.1 3])) a3.gC a3.gr0 a3.gr1 a3.gs0 a3.gs1 a3.gN a3.gO).gO)).gN,(aT.mk (aO.mk r47) ((aT.mk (aO.mk (#v[r23.2,r44.1,cI .u64 r45.1 3])) a3.gC a3.gr0 a3.gr1 a3.gs0 a3.gs1 a3.gN a3.gO).gC) ((aT.mk (aO.mk (#v[r23.2,r44.1,cI .u64 r45.1 3])) a3.gC a3.gr0 a3.gr1 a3.gs0 a3.gs1 a3.gN a3.gO).gr0) ((aT.mk (aO.mk (#v[r23.2,r44.1,cI .u64 r45.1 3])) a3.gC a3.gr0 a3.gr1 a3.gs0 a3.gs1 a3.gN a3.gO).gr1) ((aT.mk (aO.mk (#v[r23.2,r44.1,cI .u64 r45.1 3])) a3.gC a3.gr0 a3.gr1 a3.gs0 a3.gs1 a3.gN a3.gO).gs0) ((aT.mk (aO.mk (#v[r23.2,r44.1,cI .u64 r45.1 3])) a3.gC a3.gr0 a3.gr1 a3.gs0 a3.gs1 a3.gN a3.gO).gs1) ((aT.mk (aO.mk (#v[r23.2,r44.1,cI .u64 r45.1 3])) a3.gC a3.gr0 a3.gr1 a3.gs0 a3.gs1 a3.gN a3.gO).gN) ((aT.mk (aO.mk (#v[r23.2,r44.1,cI .u64 r45.1 3])) a3.gC a3.gr0 a3.gr1 a3.gs0 a3.gs1 a3.gN a3.gO).gO)).gO))
theorem aBF{N a0 a1 a2 a3 r}(h:jN N a0 a1 a2 a3=some r):FnM Tryz.prog 176 [.var (aT.enc a3)] [(.ref 0 [0] 0),(eA 17 1 k8 a0),(k64 a1),(k64 a2)] (.tup []) [.var (.st 10 [(.st 3 [(eA 3 1 k64 r.1)]),(eB r.2.1),(k64 r.2.2.1),(k64 r.2.2.2.1),(k64 r.2.2.2.2.1),(k64 r.2.2.2.2.2.1),(eL 1 k8 r.2.2.2.2.2.2.1),(j64 r.2.2.2.2.2.2.2)])]:=by
 refine Af aBq Tryz.func176 h ?_;refine At.D 8 [] ?_;refine DD.B 0 bAr λu1=>?_;refine DD.l hT 0 k64 k64 0 λe2=>?_;refine DD.B 0 (bSI k8) λs3=>?_;refine DD.y 0 nW λr4=>?_;refine DD.B 0 (bNt fC) λr5=>?_;refine DD.B 3 bAr λu6=>?_;refine DD.U 0 (bSv k64 0 r5.1) λe7=>?_;refine De 1 ?_;refine At.D 0 [] ?_;refine DD.B 0 bAr λu8=>?_;refine DD.l hT 0 k64 k64 0 λe9=>?_;refine DD.B 0 (bSI k8) λs10=>?_;refine DD.y 0 nW λr11=>?_;refine DD.B 1 (bNt fC) λr12=>?_;refine DD.B 3 bAr λu13=>?_;refine DD.U 0 (bSv k64 0 r12.1) λe14=>?_;refine De 1 ?_;refine At.B 0 bAr λu15=>?_;refine At.U 0 (bLd k64 0) λe16=>?_;refine At.B 0 (bAi k8) λe17=>?_;apply lx;intro x18;refine At.B 5 bAr λu19=>?_;refine At.U 0 (bSv k64 0 (U64 (e16+x18))) λe20=>?_;refine At.B 0 bAr λu21=>?_;refine At.U 0 (bLd k64 0) λe22=>?_;refine At.y 1 iQ λr23=>?_;refine At.B 5 bAr λu24=>?_;refine At.U 0 (bLd k64 0) λe25=>?_;refine At.y 1 iQ λr26=>?_;refine At.B 5 bAr λu27=>?_;refine At.U 0 (bLd k64 0) λe28=>?_;refine At.y 1 iQ λr29=>?_;refine At.B 5 bAr λu30=>?_;refine At.U 0 (bLd k64 0) λe31=>?_;refine At.y 1 iQ λr32=>?_;refine At.D 5 [] ?_;refine DD.B 0 bAr λu33=>?_;refine DD.l hT 0 k64 k64 0 λe34=>?_;refine DD.B 2 bAr λu35=>?_;refine DD.l hT 0 k64 k64 0 λe36=>?_;refine De 4 ?_;refine At.B 2 (bNt fC) λr37=>?_;refine At.B 8 (bNt fC) λr38=>?_;refine At.B 6 (bNt fC) λr39=>?_;refine At.B 7 (bNt fC) λr40=>?_;refine At.B 8 (bNt fC) λr41=>?_;refine At.B 6 (bNt fC) λr42=>?_;refine At.B 8 (bNt fC) λr43=>?_;refine At.B 8 (bNt fC) λr44=>?_;refine At.B 7 (bNt fC) λr45=>?_;refine At.B 7 (bNt fC) λr46=>?_;refine At.Y 18 [0] xH λr47=>?_;apply lx;intro x48;refine At.Y 8 [0] xH λr49=>?_;apply rt;exact At.z 0
def fG(N:Nat)(a1:(List (List Int))):Nat->(List Int)->Int->Int->Option ((List Int)×Int)
 | 0,_,_,_=>none
 | k+1,s2,s3,s4=>
  aM (decide (s4 < ((a1.length:Int)))) λx5=>
  cond x5 (
   ae (idx a1 s4) λe6=>
   aM (nE ((e6.length:Int)) (I64 (65536 - s3))) λx7=>
   ae (cR e6 0 x7) λs8=>
   aM (I64 (s3+((s8.length:Int)))) λx9=>
   ae (fT 1 s2 s8) λz10=>
   fG N a1 k z10 ((I64 (s3+((s8.length:Int))))) (I64 (s4+1))) (
   some ((s2,s3)))
def fJ(N:Nat)  : Nat->(Vector Int 3)->Bool->Int->Int->Int->Int->(List Int)->Int->Option ((Vector Int 3)×Bool×Int×Int×Int×Int×(List Int)×Int)
 | 0,_,_,_,_,_,_,_,_=>none
 | k+1,s12,s13,s14,s15,s16,s17,s18,s19=>
  aM (decide (((s18.length:Int))>=16)) λx20=>
  cond x20 (
   ae (cR s18 0 16) λs21=>
   ae (mA N s21) λr22=>
   ae (idx r22 0) λe23=>
   ae (jN N e23 s14 s15 (aT.mk (aO.mk s12) s13 s14 s15 s16 s17 s18 s19)) λr24=>
   ae (cR r24.2.2.2.2.2.2.1 16 ((r24.2.2.2.2.2.2.1.length:Int))) λs25=>
   fJ N k r24.1 r24.2.1 r24.2.2.1 r24.2.2.2.1 r24.2.2.2.2.1 r24.2.2.2.2.2.1 s25 r24.2.2.2.2.2.2.2) (
   some ((s12,s13,s14,s15,s16,s17,s18,s19)))
def uA(N:Nat)(b1:(List Int))(a1:(List (List Int)))(a2:aO)(a3:Bool)(a4 a5 a6 a7 a8:Int):Option ((List Int)×(Vector Int 3)×Bool×Int×Int×Int×Int×(List Int)×Int):=
 cond (!a3) (
  some ((b1,a2.gh,a3,a4,a5,a6,a7,b1,a8))) (
  ae (fG N a1 N b1 a8 0) λp1=>
  ae (fJ N N a2.gh a3 a4 a5 a6 a7 p1.1 p1.2) λp11=>
  some ((p1.1,p11.1,p11.2.1,p11.2.2.1,p11.2.2.2.1,p11.2.2.2.2.1,p11.2.2.2.2.2.1,p11.2.2.2.2.2.2.1,p11.2.2.2.2.2.2.2)))
theorem aDs{N b1 a1 a2 a3 a4 a5 a6 a7 a8 r}(h:uA N b1 a1 a2 a3 a4 a5 a6 a7 a8=some r):FnM Tryz.prog 159 [.var (.st 10 [(aO.enc a2),(eB a3),(k64 a4),(k64 a5),(k64 a6),(k64 a7),(eO 1 1 k8 b1),(j64 a8)]),.tail (b1.length*1)] [(.ref 0 [] 0),(eL 1 (eL 1 k8) a1)] (.tup []) [.var (.st 10 [(.st 3 [(eA 3 1 k64 r.2.1)]),(eB r.2.2.1),(k64 r.2.2.2.1),(k64 r.2.2.2.2.1),(k64 r.2.2.2.2.2.1),(k64 r.2.2.2.2.2.2.1),(eL 1 k8 r.2.2.2.2.2.2.2.1),(j64 r.2.2.2.2.2.2.2.2)]),.tail (r.1.length*1)]:=by
 refine Af cM Tryz.func159 h ?_;refine At.o 1 (aBj hT (t:=224) (x:=(.ref 0 [] 0)) (b:=true) (by kernel_rfl) rfl rfl (by kernel_rfl)) ?_;refine At.g [8] 7 ?_;refine At.c 0 ?_ ?_
 ·apply rt;exact At.r 0
 ·refine At.M 3 [0] 2 (λp1=>([],[(0,.var (.st 10 [(aO.enc a2),(eB a3),(k64 a4),(k64 a5),(k64 a6),(k64 a7),(eO 1 1 k8 p1.1),(j64 p1.2)])),(1,.tail (p1.1.length*1))],[])) [0,15,16] 2 (CU3 (fG N a1)) (cu3 λs2 s3 s4=>([(17,(j64 s4))],[(0,.var (.st 10 [(aO.enc a2),(eB a3),(k64 a4),(k64 a5),(k64 a6),(k64 a7),(eO 1 1 k8 s2),(j64 s3)])),(1,.tail (s2.length*1))],[])) (_,_,_) N (λp1 k=>un3 λs2 s3 s4=>?_) λp1=>?_
  ·apply lx;intro x5;refine At.c 1 ?_ ?_
   ·refine At.i hT 0 (eL 1 k8) λe6=>?_;apply lx;intro x7;refine At.B 11 (bSl k8) λs8=>?_;apply lx;intro x9;refine At.U 17 (bAp k8) λz10=>?_;exact λh=>At.v 5 (_,_,_) h
   ·apply rt;exact At.x 0
  ·refine At.M 0 [] 2 (λp11=>([],[(0,.var (.st 10 [(.st 3 [(eA 3 1 k64 p11.1)]),(eB p11.2.1),(k64 p11.2.2.1),(k64 p11.2.2.2.1),(k64 p11.2.2.2.2.1),(k64 p11.2.2.2.2.2.1),(eL 1 k8 p11.2.2.2.2.2.2.1),(j64 p11.2.2.2.2.2.2.2)]))],[])) [0] 2 (CU8 (fJ N)) (cu8 λs12 s13 s14 s15 s16 s17 s18 s19=>([],[(0,.var (.st 10 [(.st 3 [(eA 3 1 k64 s12)]),(eB s13),(k64 s14),(k64 s15),(k64 s16),(k64 s17),(eL 1 k8 s18),(j64 s19)]))],[])) (_,_,_,_,_,_,_,_) N (λp11 k=>un8 λs12 s13 s14 s15 s16 s17 s18 s19=>?_) λp11=>?_
   ·apply lx;intro x20;refine At.c 6 ?_ ?_
    ·refine At.D 0 [] ?_;refine DD.B 7 (bSl k8) λs21=>?_;refine DD.y 0 aCi λr22=>?_;refine DD.i hT 0 (eA 17 1 k8) λe23=>?_;refine DD.Y 9 [0] aBF λr24=>?_;refine De 0 ?_;refine At.B 5 (bSl k8) λs25=>?_;exact λh=>At.v 3 (_,_,_,_,_,_,_,_) h
    ·apply rt;exact At.x 0
   ·apply rt;exact At.z 0
def cA(N:Nat)(a0 a1:Int)(a2:aO):Option ((Vector Int 3)):=
 ae (aS 0 3) λ_=>
 ae (a2.gh.toList[(ag 0)]?) λe2=>
 ae (cW e2 a0 0) λr3=>
 ae (aS 0 3) λ_=>
 ae (a2.gh.toList[(ag 0)]?) λe5=>
 ae (aS 1 3) λ_=>
 ae ((a2.gh.setIfInBounds ((ag 0)) r3.1).toList[(ag 1)]?) λe7=>
 ae (cW e7 a1 r3.2) λr8=>
 ae (aS 1 3) λ_=>
 ae ((a2.gh.setIfInBounds ((ag 0)) r3.1).toList[(ag 1)]?) λe10=>
 ae (aS 2 3) λ_=>
 ae (((a2.gh.setIfInBounds ((ag 0)) r3.1).setIfInBounds ((ag 1)) r8.1).toList[(ag 2)]?) λe12=>
 ae (aS 2 3) λ_=>
 ae (((a2.gh.setIfInBounds ((ag 0)) r3.1).setIfInBounds ((ag 1)) r8.1).toList[(ag 2)]?) λe14=>
 some (((a2.gh.setIfInBounds ((ag 0)) r3.1).setIfInBounds ((ag 1)) r8.1).setIfInBounds ((ag 2)) (U64 (e12+r8.2)))
theorem wK{N a0 a1 a2 r}(h:cA N a0 a1 a2=some r):FnM Tryz.prog 189 [.var (aO.enc a2)] [(.ref 0 [] 0),(k64 a0),(k64 a1)] (.tup []) [.var (.st 3 [(eA 3 1 k64 r)])]:=by
 refine Af cM Tryz.func189 h ?_;refine At.D 1 [] ?_;refine DD.B 4 bAr λu1=>?_;refine DD.l hT 0 k64 k64 1 λe2=>?_;refine DD.B 1 (bNt fC) λr3=>?_;refine DD.B 5 bAr λu4=>?_;refine DD.U 0 (bSv k64 1 r3.1) λe5=>?_;refine De 1 ?_;refine At.D 0 [] ?_;refine DD.B 4 bAr λu6=>?_;refine DD.l hT 0 k64 k64 1 λe7=>?_;refine DD.B 2 (bNt fC) λr8=>?_;refine DD.B 5 bAr λu9=>?_;refine DD.U 0 (bSv k64 1 r8.1) λe10=>?_;refine De 1 ?_;refine At.D 0 [] ?_;refine DD.B 3 bAr λu11=>?_;refine DD.l hT 0 k64 k64 1 λe12=>?_;refine DD.B 4 bAr λu13=>?_;refine DD.U 0 (bSv k64 1 (U64 (e12+r8.2))) λe14=>?_;refine De 0 ?_;apply rt;exact At.z 0
def aA7 : Nat->Bool:=imL [5]
def dB(N:Nat)(a0:(Vector Int 17))(a1 a2:Int)(a3:aO):Option ((Vector Int 3)):=
 ae (aS 0 3) λ_=>
 ae (a3.gh.toList[(ag 0)]?) λe2=>
 ae (cR a0.toList 0 8) λs3=>
 ae (dD N s3) λr4=>
 ae (cW e2 r4 0) λr5=>
 ae (aS 0 3) λ_=>
 ae (a3.gh.toList[(ag 0)]?) λe7=>
 ae (aS 1 3) λ_=>
 ae ((a3.gh.setIfInBounds ((ag 0)) r5.1).toList[(ag 1)]?) λe9=>
 ae (cR a0.toList 8 16) λs10=>
 ae (dD N s10) λr11=>
 ae (cW e9 r11 r5.2) λr12=>
 ae (aS 1 3) λ_=>
 ae ((a3.gh.setIfInBounds ((ag 0)) r5.1).toList[(ag 1)]?) λe14=>
 ae (aS 2 3) λ_=>
 ae (((a3.gh.setIfInBounds ((ag 0)) r5.1).setIfInBounds ((ag 1)) r12.1).toList[(ag 2)]?) λe16=>
 ae (idx a0.toList 16) λe17=>
 aM (U64 ((U64 e17)+r12.2)) λx18=>
 ae (aS 2 3) λ_=>
 ae (((a3.gh.setIfInBounds ((ag 0)) r5.1).setIfInBounds ((ag 1)) r12.1).toList[(ag 2)]?) λe20=>
 ae (aS 0 3) λ_=>
 ae ((((a3.gh.setIfInBounds ((ag 0)) r5.1).setIfInBounds ((ag 1)) r12.1).setIfInBounds ((ag 2)) (U64 (e16+x18))).toList[(ag 0)]?) λe22=>
 ae (cB N e22 a1) λr23=>
 ae (aS 1 3) λ_=>
 ae ((((a3.gh.setIfInBounds ((ag 0)) r5.1).setIfInBounds ((ag 1)) r12.1).setIfInBounds ((ag 2)) (U64 (e16+x18))).toList[(ag 1)]?) λe25=>
 ae (cB N e25 a1) λr26=>
 ae (aS 0 3) λ_=>
 ae ((((a3.gh.setIfInBounds ((ag 0)) r5.1).setIfInBounds ((ag 1)) r12.1).setIfInBounds ((ag 2)) (U64 (e16+x18))).toList[(ag 0)]?) λe28=>
 ae (cB N e28 a2) λr29=>
 ae (aS 1 3) λ_=>
 ae ((((a3.gh.setIfInBounds ((ag 0)) r5.1).setIfInBounds ((ag 1)) r12.1).setIfInBounds ((ag 2)) (U64 (e16+x18))).toList[(ag 1)]?) λe31=>
 ae (cB N e31 a2) λr32=>
 ae (aS 2 3) λ_=>
 ae ((((a3.gh.setIfInBounds ((ag 0)) r5.1).setIfInBounds ((ag 1)) r12.1).setIfInBounds ((ag 2)) (U64 (e16+x18))).toList[(ag 2)]?) λe34=>
 ae (aS 2 3) λ_=>
 ae ((((a3.gh.setIfInBounds ((ag 0)) r5.1).setIfInBounds ((ag 1)) r12.1).setIfInBounds ((ag 2)) (U64 (e16+x18))).toList[(ag 2)]?) λe36=>
 ae (cW r26.2 r29.2 0) λr37=>
 ae (cW r26.1 r29.1 r37.2) λr38=>
 ae (cW 0 0 r38.2) λr39=>
 ae (cW r38.1 r32.2 0) λr40=>
 ae (cW r39.1 r32.1 r40.2) λr41=>
 ae (cW r40.1 (U64 (e34*a1)) 0) λr42=>
 ae (cW r41.1 (U64 (e36*a2)) r42.2) λr43=>
 ae (cW r37.1 r23.1 0) λr44=>
 ae (cW r42.1 0 r44.2) λr45=>
 ae (cW r43.1 0 r45.2) λr46=>
 ae (cA N (aJL .u64 r45.1 3) r46.1 (aO.mk (#v[r23.2,r44.1,cI .u64 r45.1 3]))) λr47=>
 aM (bor .u64 (shr .u64 r45.1 2) (shl .u64 r46.1 62)) λx48=>
 ae (cA N x48 (shr .u64 r46.1 2) (aO.mk r47)) λr49=>
 some r49
theorem aAi{N a0 a1 a2 a3 r}(h:dB N a0 a1 a2 a3=some r):FnM Tryz.prog 176 [.var (aO.enc a3)] [(.ref 0 [] 0),(eA 17 1 k8 a0),(k64 a1),(k64 a2)] (.tup []) [.var (.st 3 [(eA 3 1 k64 r)])]:=by
 refine Af aA7 Tryz.func176 h ?_;refine At.D 8 [] ?_;refine DD.B 0 bAr λu1=>?_;refine DD.l hT 0 k64 k64 0 λe2=>?_;refine DD.B 0 (bSI k8) λs3=>?_;refine DD.y 0 nW λr4=>?_;refine DD.B 0 (bNt fC) λr5=>?_;refine DD.B 3 bAr λu6=>?_;refine DD.U 0 (bSv k64 0 r5.1) λe7=>?_;refine De 1 ?_;refine At.D 0 [] ?_;refine DD.B 0 bAr λu8=>?_;refine DD.l hT 0 k64 k64 0 λe9=>?_;refine DD.B 0 (bSI k8) λs10=>?_;refine DD.y 0 nW λr11=>?_;refine DD.B 1 (bNt fC) λr12=>?_;refine DD.B 3 bAr λu13=>?_;refine DD.U 0 (bSv k64 0 r12.1) λe14=>?_;refine De 1 ?_;refine At.B 0 bAr λu15=>?_;refine At.U 0 (bLd k64 0) λe16=>?_;refine At.B 0 (bAi k8) λe17=>?_;apply lx;intro x18;refine At.B 5 bAr λu19=>?_;refine At.U 0 (bSv k64 0 (U64 (e16+x18))) λe20=>?_;refine At.B 0 bAr λu21=>?_;refine At.U 0 (bLd k64 0) λe22=>?_;refine At.y 1 iQ λr23=>?_;refine At.B 5 bAr λu24=>?_;refine At.U 0 (bLd k64 0) λe25=>?_;refine At.y 1 iQ λr26=>?_;refine At.B 5 bAr λu27=>?_;refine At.U 0 (bLd k64 0) λe28=>?_;refine At.y 1 iQ λr29=>?_;refine At.B 5 bAr λu30=>?_;refine At.U 0 (bLd k64 0) λe31=>?_;refine At.y 1 iQ λr32=>?_;refine At.D 5 [] ?_;refine DD.B 0 bAr λu33=>?_;refine DD.l hT 0 k64 k64 0 λe34=>?_;refine DD.B 2 bAr λu35=>?_;refine DD.l hT 0 k64 k64 0 λe36=>?_;refine De 4 ?_;refine At.B 2 (bNt fC) λr37=>?_;refine At.B 8 (bNt fC) λr38=>?_;refine At.B 6 (bNt fC) λr39=>?_;refine At.B 7 (bNt fC) λr40=>?_;refine At.B 8 (bNt fC) λr41=>?_;refine At.B 6 (bNt fC) λr42=>?_;refine At.B 8 (bNt fC) λr43=>?_;refine At.B 8 (bNt fC) λr44=>?_;refine At.B 7 (bNt fC) λr45=>?_;refine At.B 7 (bNt fC) λr46=>?_;refine At.Y 18 [0] wK λr47=>?_;apply lx;intro x48;refine At.Y 8 [0] wK λr49=>?_;apply rt;exact At.z 0
def aH2 : Nat->Bool:=imL [3]
def dZ(N:Nat)  : Nat->(Vector Int 3)->Int->Option ((Vector Int 3))
 | 0,_,_=>none
 | k+1,s2,s3=>
  cond (decide (s3 < 2)) (
   ae (ae (aS 0 3) λ_=>
   ae (s2.toList[(ag 0)]?) λe6=>
   ae (cW e6 5 0) λr7=>
   ae (aS 1 3) λ_=>
   ae (s2.toList[(ag 1)]?) λe9=>
   ae (cW e9 0 r7.2) λr10=>
   ae (aS 2 3) λ_=>
   ae (s2.toList[(ag 2)]?) λe12=>
   aM (decide ((U64 (e12+r10.2))>=4)) λx13=>
   cond x13 (
    aM (U64 ((U64 (e12+r10.2)) - 4)) λx14=>
    some (#v[r7.1,r10.1,(U64 ((U64 (e12+r10.2)) - 4))])) (
    some s2)) λp4=>
   dZ N k p4 (I64 (s3+1))) (
   some s2)
def fE(N:Nat)(r17 r20:Int×Int):Nat->(Vector Int 16)->Int->Option ((Vector Int 16))
 | 0,_,_=>none
 | k+1,s22,s23=>
  cond (decide (s23 < 8)) (
   ae (yR .u64 r17.1 (I64 (8*s23))) λx24=>
   ae (yR .u64 r20.1 (I64 (8*s23))) λx25=>
   ae (aS s23 16) λ_=>
   ae (s22.toList[s23.toNat]?) λe27=>
   ae (aS (I64 (8+s23)) 16) λ_=>
   ae ((s22.setIfInBounds s23.toNat (U8 x24)).toList[(I64 (8+s23)).toNat]?) λe29=>
   fE N r17 r20 k ((s22.setIfInBounds s23.toNat (U8 x24)).setIfInBounds ((I64 (8+s23)).toNat) (U8 x25)) (I64 (s23+1))) (
   some s22)
def sC(N:Nat)(a0:aO)(a1 a2:Int):Option ((Vector Int 16)):=
 ae (dZ N N a0.gh 0) λp1=>
 ae (aS 0 3) λ_=>
 ae (p1.toList[(ag 0)]?) λe16=>
 ae (cW e16 a1 0) λr17=>
 ae (aS 1 3) λ_=>
 ae (p1.toList[(ag 1)]?) λe19=>
 ae (cW e19 a2 r17.2) λr20=>
 ae (fE N r17 r20 N (ai 16 0) 0) λp21=>
 some p21
theorem aHM{N a0 a1 a2 r}(h:sC N a0 a1 a2=some r):FnM Tryz.prog 178 [] [(aO.enc a0),(k64 a1),(k64 a2)] (eA 16 1 k8 r) []:=by
 refine Af aH2 Tryz.func178 h ?_;refine At.M 7 [1,2,6,7] 2 (λp1=>([],[(1,.var (eA 3 1 k64 p1))],[])) [1,2,6,7] 2 (CU2 (dZ N)) (cu2 λs2 s3=>([(20,(j64 s3))],[(1,.var (eA 3 1 k64 s2))],[])) (_,_) N (λp1 k=>un2 λs2 s3=>?_) λp1=>?_
 ·refine At.c 1 ?_ ?_
  ·refine At.J 0 2 [1,2,6,7,20] 2 (λp4=>([],[(1,.var (eA 3 1 k64 p4))],[])) (λp4=>?_) λp4=>?_
   ·refine At.B 0 bAr λu5=>?_;refine At.U 0 (bLd k64 0) λe6=>?_;refine At.B 0 (bNt fC) λr7=>?_;refine At.B 5 bAr λu8=>?_;refine At.U 0 (bLd k64 0) λe9=>?_;refine At.B 1 (bNt fC) λr10=>?_;refine At.B 5 bAr λu11=>?_;refine At.U 0 (bLd k64 0) λe12=>?_;apply lx;intro x13;refine At.c 5 ?_ ?_
    ·apply lx;intro x14;apply rt;exact At.jn 6
    ·apply rt;exact At.jn 0
   ·exact λh=>At.v 2 (_,_) h
  ·apply rt;exact At.x 0
 ·refine At.B 0 bAr λu15=>?_;refine At.U 0 (bLd k64 0) λe16=>?_;refine At.B 1 (bNt fC) λr17=>?_;refine At.B 5 bAr λu18=>?_;refine At.U 0 (bLd k64 0) λe19=>?_;refine At.B 2 (bNt fC) λr20=>?_;refine At.M 7 [6,16] 3 (λp21=>([],[(2,.var (eA 16 1 k8 p21))],[])) [6,12,14,16] 3 (CU2 (fE N r17 r20)) (cu2 λs22 s23=>([(62,(j64 s23))],[(2,.var (eA 16 1 k8 s22))],[])) (_,_) N (λp21 k=>un2 λs22 s23=>?_) λp21=>?_
  ·refine At.c 1 ?_ ?_
   ·refine At.D 2 [] ?_;refine DD.B 6 bSr λx24=>?_;refine DD.B 4 bSr λx25=>?_;refine DD.B 1 bAr λu26=>?_;refine DD.U 0 (bSv k8 0 (U8 x24)) λe27=>?_;refine DD.B 0 bAr λu28=>?_;refine DD.U 0 (bSv k8 0 (U8 x25)) λe29=>?_;refine De 0 ?_;exact λh=>At.v 2 (_,_) h
   ·apply rt;exact At.x 0
  ·apply rt;exact At.r 2
def kD(N:Nat)(r1:(List (Vector Int 17)))(a0:aT):Nat->(Vector Int 3)->Int->Option ((Vector Int 3))
 | 0,_,_=>none
 | k+1,s3,s4=>
  aM (decide (s4 < ((r1.length:Int)))) λx5=>
  cond x5 (
   ae (idx r1 s4) λe6=>
   ae (dB N e6 a0.gr0 a0.gr1 (aO.mk s3)) λr7=>
   kD N r1 a0 k r7 (I64 (s4+1))) (
   some s3)
def sB(N:Nat)(a0:aT):Option ((Vector Int 16)):=
 cond (!a0.gC) (
  some (ai 16 0)) (
  ae (mA N a0.gN) λr1=>
  ae (kD N r1 a0 N a0.gA1.gh 0) λp2=>
  ae (sC N (aO.mk p2) a0.gs0 a0.gs1) λr8=>
  some r8)
theorem aFF{N a0 r}(h:sB N a0=some r):FnM Tryz.prog 160 [.var (aT.enc a0)] [(.ref 0 [] 0)] (eA 16 1 k8 r) [.var (aT.enc a0)]:=by
 refine Af cM Tryz.func160 h ?_;refine At.o 2 (aBj hT (t:=224) (x:=(.ref 0 [] 0)) (b:=true) (by kernel_rfl) rfl rfl (by kernel_rfl)) ?_;refine At.g [8] 7 ?_;refine At.c 0 ?_ ?_
 ·apply rt;exact At.r 2
 ·refine At.y 10 aCi λr1=>?_;refine At.M 2 [0,2,3] 3 (λp2=>([],[(2,.var (.st 3 [(eA 3 1 k64 p2)]))],[])) [0,2,3,24,25] 3 (CU2 (kD N r1 a0)) (cu2 λs3 s4=>([(26,(j64 s4))],[(2,.var (.st 3 [(eA 3 1 k64 s3)]))],[])) (_,_) N (λp2 k=>un2 λs3 s4=>?_) λp2=>?_
  ·apply lx;intro x5;refine At.c 1 ?_ ?_
   ·refine At.i hT 0 (eA 17 1 k8) λe6=>?_;refine At.D 3 [] ?_;refine DD.Y 9 [2] aAi λr7=>?_;refine De 0 ?_;exact λh=>At.v 2 (_,_) h
   ·apply rt;exact At.x 0
  ·refine At.D 0 [] ?_;refine DD.y 9 aHM λr8=>?_;refine De 1 ?_;apply rt;exact At.r 0
def aNO : Nat->Bool:=imL [2]
def wG(N:Nat)(a0:(Vector Int 32))(a1:(List (List Int))):Option ((Vector Int 16)):=
 ae (xN N a0) λr1=>
 ae (uA N [] a1 (aO.mk (#v[0,0,0])) true r1.1 r1.2.1 r1.2.2.1 r1.2.2.2 0) λr2=>
 ae (sB N (aT.mk (aO.mk r2.2.1) r2.2.2.1 r2.2.2.2.1 r2.2.2.2.2.1 r2.2.2.2.2.2.1 r2.2.2.2.2.2.2.1 r2.2.2.2.2.2.2.2.1 r2.2.2.2.2.2.2.2.2)) λr3=>
 some r3
theorem aL6{N a0 a1 r}(h:wG N a0 a1=some r):FnM Tryz.prog 121 [] [(eA 32 1 k8 a0),(eL 1 (eL 1 k8) a1)] (eA 16 1 k8 r) []:=by
 refine Af aNO Tryz.func121 h ?_;refine At.Y 3 [] aL2 λr1=>?_;refine At.ownb 3 2 1 [6] ?_;refine At.Y 0 [2,3] aDs λr2=>?_;refine At.Y 1 [2] aFF λr3=>?_;apply rt;exact At.r 1
def aNL : Nat->Bool:=imL [4,5]
def mB(N:Nat)(a2 a3:(List Int)):Nat->(Vector Int 16)->Int->Option ((Vector Int 16))
 | 0,_,_=>none
 | k+1,s2,s3=>
  cond (decide (s3 < 8)) (
   ae (yR .i64 ((a2.length:Int)) (I64 (8*s3))) λx4=>
   ae (yR .i64 ((a3.length:Int)) (I64 (8*s3))) λx5=>
   ae (aS s3 16) λ_=>
   ae (s2.toList[s3.toNat]?) λe7=>
   ae (aS (I64 (8+s3)) 16) λ_=>
   ae ((s2.setIfInBounds s3.toNat (U8 x4)).toList[(I64 (8+s3)).toNat]?) λe9=>
   mB N a2 a3 k ((s2.setIfInBounds s3.toNat (U8 x4)).setIfInBounds ((I64 (8+s3)).toNat) (U8 x5)) (I64 (s3+1))) (
   some s2)
def sN(N:Nat)(a0:(Vector Int 32))(a1:(Vector Int 12))(a2 a3:(List Int)):Option ((Vector Int 16)):=
 ae (mB N a2 a3 N (ai 16 0) 0) λp1=>
 ae (xX N a0 a1) λr10=>
 ae (sP N a2) λr11=>
 ae (sP N a3) λr12=>
 ae (cR p1.toList 0 16) λs13=>
 ae (wG N r10 ([a2,r11,a3,r12,s13])) λr14=>
 some r14
theorem aGl{N a0 a1 a2 a3 r}(h:sN N a0 a1 a2 a3=some r):FnM Tryz.prog 82 [] [(eA 32 1 k8 a0),(eA 12 1 k8 a1),(eL 1 k8 a2),(eL 1 k8 a3)] (eA 16 1 k8 r) []:=by
 refine Af aNL Tryz.func82 h ?_;refine At.M 6 [2,3,4,5,8,9,10] 2 (λp1=>([],[(1,.var (eA 16 1 k8 p1))],[])) [2,3,4,5,8,9,10] 2 (CU2 (mB N a2 a3)) (cu2 λs2 s3=>([(12,(j64 s3))],[(1,.var (eA 16 1 k8 s2))],[])) (_,_) N (λp1 k=>un2 λs2 s3=>?_) λp1=>?_
 ·refine At.c 1 ?_ ?_
  ·refine At.D 2 [] ?_;refine DD.B 7 bSr λx4=>?_;refine DD.B 5 bSr λx5=>?_;refine DD.B 1 bAr λu6=>?_;refine DD.U 0 (bSv k8 0 (U8 x4)) λe7=>?_;refine DD.B 0 bAr λu8=>?_;refine DD.U 0 (bSv k8 0 (U8 x5)) λe9=>?_;refine De 0 ?_;exact λh=>At.v 2 (_,_) h
  ·apply rt;exact At.x 0
 ·refine At.gz 0 1 ((eA 16 1 k8 p1)) ?_;refine At.D 0 [] ?_;refine DD.y 2 aLj λr10=>?_;refine DD.y 3 aDj λr11=>?_;refine DD.y 3 aDj λr12=>?_;refine DD.B 0 (bSI k8) λs13=>?_;refine DD.O 0 bRw ?_;refine DD.y 0 aL6 λr14=>?_;refine De 1 ?_;apply rt;exact At.r 0
def aLr : Nat->Bool:=imL [2,3]
def uO(N:Nat)(a0 a1:(Vector Int 16)):Nat->Int->Int->Option (Int)
 | 0,_,_=>none
 | k+1,s2,s3=>
  cond (decide (s3 < 16)) (
   ae (idx a0.toList s3) λe4=>
   ae (idx a1.toList s3) λe5=>
   aM (bor .u8 s2 (eT .u8 e4 e5)) λx6=>
   uO N a0 a1 k x6 (I64 (s3+1))) (
   some s2)
def aAz(N:Nat)(a0 a1:(Vector Int 16)):Option (Bool):=
 ae (uO N a0 a1 N 0 0) λp1=>
 some (p1==0)
theorem aLI{N a0 a1 r}(h:aAz N a0 a1=some r):FnM Tryz.prog 81 [] [(eA 16 1 k8 a0),(eA 16 1 k8 a1)] (eB r) []:=by
 refine Af aLr Tryz.func81 h ?_;refine At.M 5 [] 0 (λp1=>([(5,(k8 p1))],[],[])) [2,3] 0 (CU2 (uO N a0 a1)) (cu2 λs2 s3=>([(5,(k8 s2)),(7,(j64 s3))],[],[])) (_,_) N (λp1 k=>un2 λs2 s3=>?_) λp1=>?_
 ·refine At.c 1 ?_ ?_
  ·refine At.D 2 [] ?_;refine DD.B 2 (bAi k8) λe4=>?_;refine DD.B 2 (bAi k8) λe5=>?_;apply lx;intro x6;refine De 4 ?_;exact λh=>At.v 2 (_,_) h
  ·apply rt;exact At.x 0
 ·apply rt;exact At.r 3
def aG6 : Nat->Bool:=imL [4,6]
def lF(N:Nat)(a3:Int)(a0:(Vector Int 32))(a2:(Vector Int 12)):Nat->(List Int)->Int->Option ((List Int))
 | 0,_,_=>none
 | k+1,s2,s3=>
  aM (decide (((s2.length:Int)) < (nE a3 65536))) λx4=>
  cond x4 (
   ae (mI N a0 s3 a2) λr5=>
   aM (I64 ((nE a3 65536) - ((s2.length:Int)))) λx6=>
   ae (cR r5.toList 0 (nE 64 x6)) λs8=>
   ae (fT 1 s2 s8) λz9=>
   lF N a3 a0 a2 k z9 (U32 (s3+1))) (
   some s2)
def nD(N:Nat)(a0:(Vector Int 32))(a1:Int)(a2:(Vector Int 12))(a3:Int):Option ((List Int)):=
 ae (lF N a3 a0 a2 N [] a1) λp1=>
 some p1
theorem aGF{N a0 a1 a2 a3 r}(h:nD N a0 a1 a2 a3=some r):FnM Tryz.prog 123 [] [(eA 32 1 k8 a0),(k32 a1),(eA 12 1 k8 a2),(j64 a3)] (eL 1 k8 r) []:=by
 refine Af aG6 Tryz.func123 h ?_;refine At.ownn 7 9 1 ?_;refine At.M 0 [] 1 (λp1=>([(9,(eO 0 1 k8 p1))],[(0,.tail (p1.length*1))],[])) [3,4,6] 1 (CU2 (lF N a3 a0 a2)) (cu2 λs2 s3=>([(1,(k32 s3)),(9,(eO 0 1 k8 s2))],[(0,.tail (s2.length*1))],[])) (_,_) N (λp1 k=>un2 λs2 s3=>?_) λp1=>?_
 ·apply lx;intro x4;refine At.c 4 ?_ ?_
  ·refine At.y 3 aB1 λr5=>?_;apply lx;intro x6;refine At.gz 8 1 ((eA 64 1 k8 r5)) ?_;refine At.B 0 (bSI k8) λs8=>?_;refine At.U 0 (bAp k8) λz9=>?_;exact λh=>At.v 4 (_,_) h
  ·apply rt;exact At.x 0
 ·apply rt;exact At.r 2
def aKq : Nat->Bool:=imL [4,6]
def nB(N:Nat)(a3:(List (List Int))):Nat->(List Int)->Int->Option ((List Int))
 | 0,_,_=>none
 | k+1,s2,s3=>
  aM (decide (s3 < ((a3.length:Int)))) λx4=>
  cond x4 (
   ae (idx a3 s3) λe5=>
   aM (I64 (65536 - ((s2.length:Int)))) λx6=>
   aM (nE ((e5.length:Int)) x6) λx7=>
   ae (cR e5 0 x7) λs8=>
   ae (fT 1 s2 s8) λz9=>
   nB N a3 k z9 (I64 (s3+1))) (
   some s2)
def qM(N:Nat)(r10:(List Int)):Nat->(List Int)->Int->Option ((List Int))
 | 0,_,_=>none
 | k+1,s12,s13=>
  aM (decide (s13 < ((r10.length:Int)))) λx14=>
  cond x14 (
   ae (idx r10 s13) λe15=>
   ae (aS s13 s12.length) λ_=>
   ae (s12[s13.toNat]?) λe17=>
   ae (aS s13 s12.length) λ_=>
   ae (aQA s12 s13.toNat (eT .u8 e17 e15)) λz19=>
   qM N r10 k z19 (I64 (s13+1))) (
   some s12)
def xC(N:Nat)(a0:(Vector Int 32))(a1:Int)(a2:(Vector Int 12))(a3:(List (List Int))):Option ((List Int)):=
 ae (nB N a3 N [] 0) λp1=>
 ae (nD N a0 a1 a2 ((p1.length:Int))) λr10=>
 ae (qM N r10 N p1 0) λp11=>
 some p11
theorem aDe{N a0 a1 a2 a3 r}(h:xC N a0 a1 a2 a3=some r):FnM Tryz.prog 83 [] [(eA 32 1 k8 a0),(k32 a1),(eA 12 1 k8 a2),(eL 1 (eL 1 k8) a3)] (eL 1 k8 r) []:=by
 refine Af aKq Tryz.func83 h ?_;refine At.gron 7 9 1 ?_;refine At.M 0 [1,4,6] 1 (λp1=>([(9,(.gro 0 1 p1.length .all))],[(0,.gro 1 (dk k8 p1))],[])) [1,4,6,14,15] 1 (CU2 (nB N a3)) (cu2 λs2 s3=>([(9,(.gro 0 1 s2.length .all)),(16,(j64 s3))],[(0,.gro 1 (dk k8 s2))],[])) (_,_) N (λp1 k=>un2 λs2 s3=>?_) λp1=>?_
 ·apply lx;intro x4;refine At.c 1 ?_ ?_
  ·refine At.i hT 0 (eL 1 k8) λe5=>?_;apply lx;intro x6;apply lx;intro x7;refine At.B 10 (bSl k8) λs8=>?_;refine At.b 0 (λz9 e=>aC3 hT k8 (id:=0) (k:=1) e (by kernel_rfl) (by kernel_rfl) (H':=[.gro 1 (dk k8 z9)]) (by kernel_rfl)) λz9=>?_;exact λh=>At.v 3 (_,_) h
  ·apply rt;exact At.x 0
 ·refine At.y 5 aGF λr10=>?_;refine At.M 2 [] 1 (λp11=>([(9,(.gro 0 1 p11.length .all))],[(0,.gro 1 (dk k8 p11))],[])) [36,37] 1 (CU2 (qM N r10)) (cu2 λs12 s13=>([(9,(.gro 0 1 s12.length .all)),(38,(j64 s13))],[(0,.gro 1 (dk k8 s12))],[])) (_,_) N (λp11 k=>un2 λs12 s13=>?_) λp11=>?_
  ·apply lx;intro x14;refine At.c 1 ?_ ?_
   ·refine At.i hT 1 k8 λe15=>?_;refine At.b 5 (λ_ e=>uG hT (id:=0) (k:=1) e (by kernel_rfl) (by kernel_rfl)) λu16=>?_;refine At.b 0 (λ_ e=>xD hT k8 [] e rfl (by kernel_rfl) (by kernel_rfl)) λe17=>?_;refine At.b 2 (λ_ e=>uG hT (id:=0) (k:=1) e (by kernel_rfl) (by kernel_rfl)) λu18=>?_;refine bi λz19 hz19=>?_;refine At.o 0 (aSQ hT k8 (k:=1) (eT .u8 e17 e15) hz19 rfl (by kernel_rfl) (λ_=>by kernel_rfl) (by kernel_rfl) (H':=[.gro 1 (dk k8 z19)]) (by kernel_rfl)) ?_;refine At.gl 0 [9,49] [] 0 s12.length z19.length ((aQm hz19).2.2) ?_;exact λh=>At.v 2 (_,_) h
   ·apply rt;exact At.x 0
  ·refine At.fz 2 0 1 p11.length _ (dk k8 p11) (cr _) (cr _) ?_;apply rt;exact At.r 0
def aMk : Nat->Bool:=imL [4,5]
def kG(N:Nat)(a0:(Vector Int 32))(a1:(Vector Int 12))(a2 a3:(List Int)):Option ((List Int)×Int):=
 aM (I64 (((a3.length:Int)) - 16)) λx1=>
 cond (decide (x1 < 0)) (
  some (([],4))) (
  aM (decide (((a2.length:Int)) > 16384)) λx2=>
  aM (cond x2 true (decide (x1 > 16384))) λx3=>
  cond x3 (
   some (([],3))) (
   ae (cR a3 0 x1) λs4=>
   ae (sN N a0 a1 a2 s4) λr5=>
   ae (cR a3 x1 ((a3.length:Int))) λs6=>
   ae (aHI 16 s6) λv7=>
   ae (aAz N r5 v7) λr8=>
   cond (!r8) (
    some (([],6))) (
    ae (xC N a0 1 a1 ([s4])) λr9=>
    some ((r9,0)))))
theorem aFO{N a0 a1 a2 a3 r}(h:kG N a0 a1 a2 a3=some r):FnM Tryz.prog 49 [] [(eA 32 1 k8 a0),(eA 12 1 k8 a1),(eL 1 k8 a2),(eL 1 k8 a3)] (.tup [(eL 1 k8 r.1),(j64 r.2)]) []:=by
 refine Af aMk Tryz.func49 h ?_;apply lx;intro x1;refine At.c 11 ?_ ?_
 ·apply rt;exact At.r 2
 ·apply lx;intro x2;apply lx;intro x3;refine At.c 8 ?_ ?_
  ·apply rt;exact At.r 2
  ·refine At.B 2 (bSl k8) λs4=>?_;refine At.D 1 [] ?_;refine DD.y 4 aGl λr5=>?_;refine DD.B 2 (bSl k8) λs6=>?_;refine DD.b 0 (λ{v7} e _=>aEo hT k8 s6 v7 e rfl (by kernel_rfl) (by kernel_rfl)) λv7=>?_;refine DD.y 1 aLI λr8=>?_;refine De 1 ?_;refine At.c 0 ?_ ?_
   ·apply rt;exact At.r 2
   ·refine At.O 3 bRw ?_;refine At.y 0 aDe λr9=>?_;apply rt;exact At.r 2
def iG(N:Nat)(a0:Int)(a1:aB):Option ((List Int)×Int×Int):=
 ae (bD N a0 a1) λr1=>
 some ((r1.1,r1.2.1,I64 r1.2.2))
theorem oK{N a0 a1 r}(h:iG N a0 a1=some r):FnM Tryz.prog 84 [.var (aB.enc a1)] [(.st 1 [(.ref 0 [] 0)]),(j64 a0)] (j64 r.2.2) [.var (.st 3 [(eL 1 k8 r.1),(j64 r.2.1),(eB a1.gC)])]:=by
 refine Af cM Tryz.func84 h ?_;refine At.Y 5 [0] cC λr1=>?_;apply rt;exact At.r 2
def nZ(N:Nat)(a0:aB):Option (Int):=
 ae (nI N a0) λr1=>
 cond r1 (some 1) (some a0.ge)
theorem tR{N a0 r}(h:nZ N a0=some r):FnM Tryz.prog 52 [.var (aB.enc a0)] [(.ref 0 [] 0)] (j64 r) [.var (aB.enc a0)]:=by
 refine Af cM Tryz.func52 h ?_;refine At.Y 2 [0] sU λr1=>?_;refine At.c 0 ?_ ?_
 ·apply rt;exact At.r 1
 ·apply rt;exact At.r 5
def dC(N:Nat)(a0:aB):Option (Int):=
 ae (nZ N a0) λr1=>
 cond (r1 != 0) (
  some r1) (
  aM (decide (((a0.gb.length:Int)) > 0)) λx2=>
  cond x2 (some 5) (some 0))
theorem nJ{N a0 r}(h:dC N a0=some r):FnM Tryz.prog 58 [.var (aB.enc a0)] [(.ref 0 [] 0)] (j64 r) [.var (aB.enc a0)]:=by
 refine Af cM Tryz.func58 h ?_;refine At.Y 2 [0] tR λr1=>?_;refine At.c 3 ?_ ?_
 ·apply rt;exact At.r 2
 ·apply lx;intro x2;refine At.c 6 ?_ ?_
  ·apply rt;exact At.r 1
  ·apply rt;exact At.r 1
def uW(N:Nat)(a0:Int):Option (Int):=
 aM (cond (decide (a0 < 0)) true (decide (a0>=5))) λx1=>
 cond x1 (
  some 0) (
  ae (aS a0 5) λ_=>
  ae ((#v[0,2048,1024,64,64]).toList[a0.toNat]?) λe3=>
  some e3)
theorem aB3{N a0 r}(h:uW N a0=some r):FnM Tryz.prog 96 [] [(j64 a0)] (j64 r) []:=by
 refine Af cM Tryz.func96 h ?_;apply lx;intro x1;refine At.c 10 ?_ ?_
 ·apply rt;exact At.r 1
 ·refine At.B 1 bAr λu2=>?_;refine At.U 0 (bLd j64 0) λe3=>?_;apply rt;exact At.r 1
def qV(N:Nat)(a0:Int):Option (Int):=
 cond (decide (a0 < 1)) (
  some 0) (
  aM (I64 (Int.tdiv (I64 (a0 - 1)) 256)) λx1=>
  some (I64 (x1+1)))
theorem aAO{N a0 r}(h:qV N a0=some r):FnM Tryz.prog 77 [] [(j64 a0)] (j64 r) []:=by
 refine Af cM Tryz.func77 h ?_;refine At.c 3 ?_ ?_
 ·apply rt;exact At.r 1
 ·apply lx;intro x1;apply rt;exact At.r 5
def aF1 : Nat->Bool:=imL [1]
def jZ(N:Nat)(a0:aE):Nat->Int->Option (Sum (Unit) (Int))
 | 0,_=>none
 | k+1,s3=>
  cond (decide (s3 < 8)) (
   ae (idx a0.gA2.toList s3) λe4=>
   cond (decide (e4 > 15)) (some (Sum.inr 5)) (jZ N a0 k (I64 (s3+1)))) (
   some (Sum.inl (())))
def rT(N:Nat)(a0:aE):Option (Int):=
 ae (uW N a0.gA) λr1=>
 cond (r1==0) (
  some 12) (
  ae (jZ N a0 N 0) λo=>mZ o (λp2=>
   aM (decide (a0.gQ > a0.gTo)) λx5=>
   aM (cond x5 true (decide (a0.gT < 1))) λx6=>
   cond x6 (
    some 5) (
    cond (decide (a0.gT > r1)) (
     some 9) (
     ae (qV N a0.gT) λr7=>
     cond (a0.gA0 != r7) (some 5) (some 0)))) (λr=>some r))
theorem aAu{N a0 r}(h:rT N a0=some r):FnM Tryz.prog 85 [] [(aE.enc a0)] (j64 r) []:=by
 refine Af aF1 Tryz.func85 h ?_;refine At.y 4 aB3 λr1=>?_;refine At.c 3 ?_ ?_
 ·apply rt;exact At.r 1
 ·refine At.MS 3 [1,3] 0 (λp2=>([],[],[])) [1,3,12] 0 (jZ N a0) (λ(s3:Int)=>([(13,(j64 s3))],[],[])) _ N (λop2 g2 k s3=>?_) λp2=>?_
  ·refine At.c 1 ?_ ?_
   ·refine At.b 0 (λ_ e=>aHV hT k8 a0.gA2 e (by kernel_rfl) (by kernel_rfl)) λe4=>?_;refine At.c 3 ?_ ?_
    ·intro e;apply wH g2 e;exact At.r 1
    ·exact λh=>At.v 2 _ h
   ·apply rt;exact At.xs 0
  ·apply lx;intro x5;apply lx;intro x6;refine At.c 11 ?_ ?_
   ·apply rt;exact At.r 1
   ·refine At.c 5 ?_ ?_
    ·apply rt;exact At.r 1
    ·refine At.D 0 [] ?_;refine DD.y 4 aAO λr7=>?_;refine De 2 ?_;refine At.c 0 ?_ ?_
     ·apply rt;exact At.r 1
     ·apply rt;exact At.r 1
def qR(N:Nat)(a0:(List Int)):Option (aE×Int):=
 ae (qP N a0) λr1=>
 ae (bD N 8 (aB.mk r1 0 true)) λr2=>
 ae (iG N 1 (aB.mk r2.1 r2.2.1 ((aB.mk r1 0 true).gC))) λr3=>
 ae (bD N 4 (aB.mk r3.1 r3.2.1 ((aB.mk r2.1 r2.2.1 ((aB.mk r1 0 true).gC)).gC))) λr4=>
 ae (aEB 8 0 8) λ_=>
 ae (bC N 8 (aB.mk r4.1 r4.2.1 ((aB.mk r3.1 r3.2.1 ((aB.mk r2.1 r2.2.1 ((aB.mk r1 0 true).gC)).gC)).gC))) λr6=>
 ae (cpV (ai 8 0) r6.2.2 0 8) λv7=>
 ae (bD N 4 (aB.mk r6.1 r6.2.1 ((aB.mk r4.1 r4.2.1 ((aB.mk r3.1 r3.2.1 ((aB.mk r2.1 r2.2.1 ((aB.mk r1 0 true).gC)).gC)).gC)).gC))) λr8=>
 ae (bD N 4 (aB.mk r8.1 r8.2.1 ((aB.mk r6.1 r6.2.1 ((aB.mk r4.1 r4.2.1 ((aB.mk r3.1 r3.2.1 ((aB.mk r2.1 r2.2.1 ((aB.mk r1 0 true).gC)).gC)).gC)).gC)).gC))) λr9=>
 ae (iG N 4 (aB.mk r9.1 r9.2.1 ((aB.mk r8.1 r8.2.1 ((aB.mk r6.1 r6.2.1 ((aB.mk r4.1 r4.2.1 ((aB.mk r3.1 r3.2.1 ((aB.mk r2.1 r2.2.1 ((aB.mk r1 0 true).gC)).gC)).gC)).gC)).gC)).gC))) λr10=>
 ae (iG N 2 (aB.mk r10.1 r10.2.1 ((aB.mk r9.1 r9.2.1 ((aB.mk r8.1 r8.2.1 ((aB.mk r6.1 r6.2.1 ((aB.mk r4.1 r4.2.1 ((aB.mk r3.1 r3.2.1 ((aB.mk r2.1 r2.2.1 ((aB.mk r1 0 true).gC)).gC)).gC)).gC)).gC)).gC)).gC))) λr11=>
 ae (dC N (aB.mk r11.1 r11.2.1 ((aB.mk r10.1 r10.2.1 ((aB.mk r9.1 r9.2.1 ((aB.mk r8.1 r8.2.1 ((aB.mk r6.1 r6.2.1 ((aB.mk r4.1 r4.2.1 ((aB.mk r3.1 r3.2.1 ((aB.mk r2.1 r2.2.1 ((aB.mk r1 0 true).gC)).gC)).gC)).gC)).gC)).gC)).gC)).gC))) λr12=>
 cond (r12 != 0) (
  some ((aE.mk 0 0 0 (ai 8 0) 0 0 0 0,r12))) (
  ae (rT N (aE.mk r2.2.2 r3.2.2 (U32 r4.2.2) v7 (U32 r8.2.2) (U32 r9.2.2) r10.2.2 r11.2.2)) λr13=>
  cond (r13 != 0) (
   some ((aE.mk 0 0 0 (ai 8 0) 0 0 0 0,r13))) (
   some ((aE.mk r2.2.2 r3.2.2 (U32 r4.2.2) v7 (U32 r8.2.2) (U32 r9.2.2) r10.2.2 r11.2.2,0))))
theorem aEa{N a0 r}(h:qR N a0=some r):FnM Tryz.prog 50 [] [(eL 1 k8 a0)] (.tup [(aE.enc r.1),(j64 r.2)]) []:=by
 refine Af cM Tryz.func50 h ?_;refine At.Y 3 [] vC λr1=>?_;refine At.D 3 [] ?_;refine DD.Y 2 [2] cC λr2=>?_;refine DD.Y 1 [2] oK λr3=>?_;refine DD.Y 2 [2] cC λr4=>?_;refine De 4 ?_;refine At.D 0 [] ?_;refine DD.b 1 (λe _=>aFV hT (k:=1) 4 [3] 3 e (by kernel_rfl) (by kernel_rfl) (by decide)) λs5=>?_;refine DD.Y 2 [2] lP λr6=>?_;refine bi λv7 hv7=>?_;refine DD.w 0 (j64 (((min r6.2.2.length 8:Nat):Int))) ⟨[(4,.var (.st 15 [(k64 r2.2.2),(j64 r3.2.2),(k32 (U32 r4.2.2)),(eA 8 1 k8 v7),(k32 0),(k32 0),(j64 0),(j64 0)]))],[]⟩ (λ_ e=>aCt hT k8 (id:=4) (path:=[3]) (off:=3) hv7 (pj1 e) (pj1 (pj2 e)) (pj2 (pj2 e))) ?_;refine De 0 ?_;refine At.D 0 [] ?_;refine DD.Y 2 [2] cC λr8=>?_;refine DD.Y 3 [2] cC λr9=>?_;refine DD.Y 2 [2] oK λr10=>?_;refine DD.Y 1 [2] oK λr11=>?_;refine De 8 ?_;refine At.Y 2 [2] nJ λr12=>?_;refine At.c 3 ?_ ?_
 ·apply rt;exact At.r 4
 ·refine At.y 1 aAu λr13=>?_;refine At.c 3 ?_ ?_
  ·apply rt;exact At.r 4
  ·apply rt;exact At.r 3
def aJu : Nat->Bool:=imL [2]
def tF(N:Nat)(a0:(Vector Int 32))(a1:(List Int)):Option (aE×Int):=
 aM (decide (((a1.length:Int)) < 63)) λx1=>
 cond x1 (
  some ((aE.mk 0 0 0 (ai 8 0) 0 0 0 0,4))) (
  ae (tT N a1 (([85,77,66,49]:List Int))) λr2=>
  cond (!r2) (
   some ((aE.mk 0 0 0 (ai 8 0) 0 0 0 0,5))) (
   ae (cR a1 4 12) λs3=>
   ae (aHI 8 s3) λv4=>
   ae (iS N v4 0) λr5=>
   ae (cR a1 0 47) λs6=>
   ae (cR a1 47 63) λs7=>
   ae (kG N a0 r5 s6 s7) λr8=>
   cond (r8.2 != 0) (
    some ((aE.mk 0 0 0 (ai 8 0) 0 0 0 0,r8.2))) (
    ae (cR a1 12 47) λs9=>
    ae (qR N s9) λr10=>
    some ((r10.1,r10.2)))))
theorem aIh{N a0 a1 r}(h:tF N a0 a1=some r):FnM Tryz.prog 32 [] [(eA 32 1 k8 a0),(eL 1 k8 a1)] (.tup [(aE.enc r.1),(j64 r.2)]) []:=by
 refine Af aJu Tryz.func32 h ?_;apply lx;intro x1;refine At.c 7 ?_ ?_
 ·apply rt;exact At.r 3
 ·refine At.l2 hT 1 (d1:=16) (d2:=17) (t:=24) (e:=5) k8 (z:=1) ([85,77,66,49]:List Int) rfl rfl rfl ?_;refine At.y 0 aDv λr2=>?_;refine At.c 2 ?_ ?_
  ·apply rt;exact At.r 3
  ·refine At.B 1 (bSl k8) λs3=>?_;refine At.b 0 (λv4 e=>aEo hT k8 s3 v4 e rfl (by kernel_rfl) (by kernel_rfl)) λv4=>?_;refine At.D 3 [] ?_;refine DD.y 2 wC λr5=>?_;refine DD.B 1 (bSl k8) λs6=>?_;refine DD.B 1 (bSl k8) λs7=>?_;refine DD.y 0 aFO λr8=>?_;refine De 5 ?_;refine At.c 2 ?_ ?_
   ·apply rt;exact At.r 4
   ·refine At.B 1 (bSl k8) λs9=>?_;refine At.y 0 aEa λr10=>?_;apply rt;exact At.r 4
def tE(N:Nat)(a0:Int):Option (aE×aI×Int):=
 some ((aE.mk 0 0 0 (ai 8 0) 0 0 0 0,aI.mk 0 (aK.mk [] [] []) (aJ.mk 0 []) (aG.mk 0 (#v[0,0,0]) 0) (aL.mk 0 (#v[0,0,0]) (aA.mk 0 0 0) (aA.mk 0 0 0) (aA.mk 0 0 0)),a0))
theorem vN{N a0 r}(h:tE N a0=some r):FnM Tryz.prog 31 [] [(j64 a0)] (.tup [(aE.enc r.1),(aI.enc r.2.1),(j64 r.2.2)]) []:=by
 refine Af cM Tryz.func31 h ?_;apply rt;exact At.r 9
def aUG : Go.Shelf.Ren:=⟨λ | 4=>86 | n=>n,λ | 0=>0 | 3=>3 | 4=>4 | 9=>9 | 20=>20 | 22=>24 | 25=>5 | n=>n,λn=>n⟩
theorem aTj : Lays8.n4 Tryz.prog aUG:={ mixed:=by kernel_rfl,f4:=⟨Tryz.f86.name,by decide,Tryz.func86.trans (congrArg some (by kernel_rfl))⟩,t0:=Tryz.underlying0,a0:=Tryz.isAgg0,z0:=Tryz.sizeOf0,v0:=Tryz.zeroValue0,t3:=Tryz.underlying3,a3:=Tryz.isAgg3,z3:=Tryz.sizeOf3,v3:=Tryz.zeroValue3,t4:=Tryz.underlying4,a4:=Tryz.isAgg4,z4:=Tryz.sizeOf4,v4:=Tryz.zeroValue4,t9:=Tryz.underlying9,a9:=Tryz.isAgg9,z9:=Tryz.sizeOf9,v9:=Tryz.zeroValue9,t20:=Tryz.underlying20,a20:=Tryz.isAgg20,z20:=Tryz.sizeOf20,v20:=Tryz.zeroValue20,t22:=Tryz.underlying24,a22:=Tryz.isAgg24,z22:=Tryz.sizeOf24,v22:=Tryz.zeroValue24 }
theorem aUE{n:Int}{r:List Int}(h:aI0 Int 1 n=some r):FnM Tryz.prog 86 [] [.v (.slice none 0 0),.v (.int .i64 n)] (eO 0 1 k8 r) [.tail (r.length*1)]:=
 aTz (i0:=Tryz.t5) aTj rfl k8 (by kernel_rfl) rfl (by kernel_rfl) (by kernel_rfl) (by kernel_rfl) (by decide) h
theorem aPp : vY Tryz.prog 86:=wU (show nM Tryz.prog 86=true by kernel_rfl)
def fU(N:Nat)(a0:(List (List Int))):Nat->Int->Int->Option (Int)
 | 0,_,_=>none
 | k+1,s2,s3=>
  aM (decide (s3 < ((a0.length:Int)))) λx4=>
  cond x4 (
   ae (idx a0 s3) λe5=>
   aM (I64 (s2+((e5.length:Int)))) λx6=>
   cond (decide (x6 < 0)) (none) (fU N a0 k x6 (I64 (s3+1)))) (
   some s2)
def dR(N:Nat)(a0:(List (List Int))):Nat->(List Int)->Int->Option ((List Int))
 | 0,_,_=>none
 | k+1,s9,s10=>
  aM (decide (s10 < ((a0.length:Int)))) λx11=>
  cond x11 (
   ae (idx a0 s10) λe12=>
   ae (fT 1 s9 e12) λz13=>
   dR N a0 k z13 (I64 (s10+1))) (
   some s9)
def cT(N:Nat)(a0:(List (List Int))):Option ((List Int)):=
 ae (fU N a0 N 0 0) λp1=>
 ae (aI0 Int 1 p1) λr7=>
 ae (dR N a0 N r7 0) λp8=>
 some p8
theorem mC{N a0 r}(h:cT N a0=some r):FnM Tryz.prog 53 [] [(eL 1 (eL 1 k8) a0)] (eO 0 1 k8 r) [.tail (r.length*1)]:=by
 refine Af cM Tryz.func53 h ?_;refine At.M 5 [0] 0 (λp1=>([(3,(j64 p1))],[],[])) [0,9,10] 0 (CU2 (fU N a0)) (cu2 λs2 s3=>([(3,(j64 s2)),(11,(j64 s3))],[],[])) (_,_) N (λp1 k=>un2 λs2 s3=>?_) λp1=>?_
 ·apply lx;intro x4;refine At.c 1 ?_ ?_
  ·refine At.i hT 0 (eL 1 k8) λe5=>?_;apply lx;intro x6;refine At.c 9 ?_ ?_
   ·exact nn
   ·exact λh=>At.v 2 (_,_) h
  ·apply rt;exact At.x 0
 ·refine At.b 1 (λ_ e=>aIv [] (aUE e) aPp) λr7=>?_;refine At.M 4 [] 1 (λp8=>([(6,(eO 0 1 k8 p8))],[(0,.tail (p8.length*1))],[])) [25,26] 1 (CU2 (dR N a0)) (cu2 λs9 s10=>([(6,(eO 0 1 k8 s9)),(27,(j64 s10))],[(0,.tail (s9.length*1))],[])) (_,_) N (λp8 k=>un2 λs9 s10=>?_) λp8=>?_
  ·apply lx;intro x11;refine At.c 1 ?_ ?_
   ·refine At.i hT 0 (eL 1 k8) λe12=>?_;refine At.U 4 (bAp k8) λz13=>?_;exact λh=>At.v 3 (_,_) h
   ·apply rt;exact At.x 0
  ·apply rt;exact At.r 2
def aCE : Nat->Bool:=imL [6,7]
def kP(N:Nat)(a0:(Vector Int 32))(a1:(Vector Int 12))(a2:(List Int))(a3 a4:Int)(a5:aB):Option ((List Int)×Int×Bool×(List Int)×Int):=
 ae (bC N 4 a5) λr1=>
 aM (decide (((r1.2.2.length:Int)) < 4)) λx2=>
 cond x2 (
  some ((r1.1,r1.2.1,a5.gC,[],4))) (
  ae (bW N [] 2 ([U64 a3,U64 a4])) λr3=>
  ae (tM N r1.2.2 r3.1) λr4=>
  cond (!r4) (
   some ((r1.1,r1.2.1,a5.gC,[],7))) (
   ae (bC N (I64 (a4+16)) (aB.mk r1.1 r1.2.1 a5.gC)) λr5=>
   ae (nZ N (aB.mk r5.1 r5.2.1 ((aB.mk r1.1 r1.2.1 a5.gC).gC))) λr6=>
   cond (r6 != 0) (
    ae (nZ N (aB.mk r5.1 r5.2.1 ((aB.mk r1.1 r1.2.1 a5.gC).gC))) λr7=>
    some ((r5.1,r5.2.1,(aB.mk r1.1 r1.2.1 a5.gC).gC,[],r7))) (
    ae (cT N ([r1.2.2,a2])) λr8=>
    ae (kG N a0 a1 r8 r5.2.2) λr9=>
    some ((r5.1,r5.2.1,(aB.mk r1.1 r1.2.1 a5.gC).gC,r9.1,r9.2)))))
theorem aBl{N a0 a1 a2 a3 a4 a5 r}(h:kP N a0 a1 a2 a3 a4 a5=some r):FnM Tryz.prog 33 [.var (aB.enc a5)] [(eA 32 1 k8 a0),(eA 12 1 k8 a1),(.ref 0 [] 0),(eL 1 k8 a2),(j64 a3),(j64 a4)] (.tup [(eL 1 k8 r.2.2.2.1),(j64 r.2.2.2.2)]) [.var (.st 3 [(eL 1 k8 r.1),(j64 r.2.1),(eB r.2.2.1)])]:=by
 refine Af aCE Tryz.func33 h ?_;refine At.Y 5 [0] lP λr1=>?_;apply lx;intro x2;refine At.c 4 ?_ ?_
 ·apply rt;exact At.r 2
 ·refine At.O 4 bRw ?_;refine At.Y 0 [] fL λr3=>?_;refine At.y 7 aCj λr4=>?_;refine At.c 1 ?_ ?_
  ·apply rt;exact At.r 2
  ·refine At.Y 3 [0] lP λr5=>?_;refine At.Y 2 [0] tR λr6=>?_;refine At.c 1 ?_ ?_
   ·refine At.Y 1 [0] tR λr7=>?_;apply rt;exact At.r 2
   ·refine At.D 0 [] ?_;refine DD.O 4 bRw ?_;refine DD.Z 0 [] 2 mC λr8=>?_;refine DD.y 1 aFO λr9=>?_;refine De 4 ?_;apply rt;exact At.r 0
def tP(N:Nat)(a0:aB):Option (Int):=
 ae (nI N a0) λr1=>
 aM (cond r1 true (a0.ge != 0)) λx2=>
 cond x2 (some 0) (some ((a0.gb.length:Int)))
theorem aBs{N a0 r}(h:tP N a0=some r):FnM Tryz.prog 35 [.var (aB.enc a0)] [(.ref 0 [] 0)] (j64 r) [.var (aB.enc a0)]:=by
 refine Af cM Tryz.func35 h ?_;refine At.Y 2 [0] sU λr1=>?_;apply lx;intro x2;refine At.c 7 ?_ ?_
 ·apply rt;exact At.r 1
 ·apply rt;exact At.r 6
def aU(N:Nat)(a0:Int)(a1:aB):Option ((List Int)×Int×Int):=
 ae (bD N a0 a1) λr1=>
 some ((r1.1,r1.2.1,I64 r1.2.2))
theorem dQ{N a0 a1 r}(h:aU N a0 a1=some r):FnM Tryz.prog 87 [.var (aB.enc a1)] [(.st 1 [(.ref 0 [] 0)]),(j64 a0)] (j64 r.2.2) [.var (.st 3 [(eL 1 k8 r.1),(j64 r.2.1),(eB a1.gC)])]:=by
 refine Af cM Tryz.func87 h ?_;refine At.Y 5 [0] cC λr1=>?_;apply rt;exact At.r 2
def bY(N:Nat)(a0:Int)(a1:aB):Option ((List Int)×Int×Int):=
 ae (bD N a0 a1) λr1=>
 aM (cond (decide (a0 < 1)) true (decide (a0 > 8))) λx2=>
 cond x2 (
  some ((r1.1,r1.2.1,0))) (
  aM (I64 (64 - (I64 (8*a0)))) λx3=>
  ae (aFP .i64 (I64 r1.2.2) x3) λx4=>
  aM (I64 (64 - (I64 (8*a0)))) λx5=>
  ae (yR .i64 x4 x5) λx6=>
  some ((r1.1,r1.2.1,x6)))
theorem jA{N a0 a1 r}(h:bY N a0 a1=some r):FnM Tryz.prog 91 [.var (aB.enc a1)] [(.ref 0 [] 0),(j64 a0)] (j64 r.2.2) [.var (.st 3 [(eL 1 k8 r.1),(j64 r.2.1),(eB a1.gC)])]:=by
 refine Af cM Tryz.func91 h ?_;refine At.Y 3 [0] cC λr1=>?_;apply lx;intro x2;refine At.c 7 ?_ ?_
 ·apply rt;exact At.r 1
 ·apply lx;intro x3;refine At.B 5 bSh λx4=>?_;apply lx;intro x5;refine At.B 3 bSr λx6=>?_;apply rt;exact At.r 1
def fW(N:Nat)(a0:aB):Option ((List Int)×Int×Bool×aA):=
 ae (bY N 2 a0) λr1=>
 ae (bY N 2 (aB.mk r1.1 r1.2.1 a0.gC)) λr2=>
 ae (bY N 2 (aB.mk r2.1 r2.2.1 ((aB.mk r1.1 r1.2.1 a0.gC).gC))) λr3=>
 some ((r3.1,r3.2.1,(aB.mk r2.1 r2.2.1 ((aB.mk r1.1 r1.2.1 a0.gC).gC)).gC,aA.mk r1.2.2 r2.2.2 r3.2.2))
theorem aAg{N a0 r}(h:fW N a0=some r):FnM Tryz.prog 88 [.var (aB.enc a0)] [(.st 1 [(.ref 0 [] 0)])] (aA.enc r.2.2.2) [.var (.st 3 [(eL 1 k8 r.1),(j64 r.2.1),(eB r.2.2.1)])]:=by
 refine Af cM Tryz.func88 h ?_;refine At.D 2 [] ?_;refine DD.Y 2 [0] jA λr1=>?_;refine DD.Y 2 [0] jA λr2=>?_;refine DD.Y 2 [0] jA λr3=>?_;refine De 2 ?_;apply rt;exact At.r 0
def aI8 : Nat->Bool:=imL [1]
def sA(N:Nat)(a0:aA):Option (Bool):=
 ae (aM (decide ((uK (uK a0.gX a0.gY) a0.gZ) > 4096)) λx2=>
 cond x2 (
  some true) (
  aM (decide ((nE (nE a0.gX a0.gY) a0.gZ) < (-4096))) λx3=>
  some x3)) λp1=>
 some p1
theorem aHK{N a0 r}(h:sA N a0=some r):FnM Tryz.prog 124 [] [(aA.enc a0)] (eB r) []:=by
 refine Af aI8 Tryz.func124 h ?_;refine At.J 2 0 [] 0 (λp1=>([(2,(eB p1))],[],[])) (λp1=>?_) λp1=>?_
 ·refine At.o 6 (aEv (k := .i64) (i:=a0.gX) (j:=a0.gY) (l:=a0.gZ) (by kernel_rfl) (by kernel_rfl)) ?_;apply lx;intro x2;refine At.s 11 2 ?_ ?_
  ·refine At.g [11] 10 ?_;apply rt;exact At.jn 0
  ·refine At.g [11] 6 ?_;refine At.o 0 (aE9 (k := .i64) (i:=a0.gX) (j:=a0.gY) (l:=a0.gZ) (by kernel_rfl) (by kernel_rfl)) ?_;apply lx;intro x3;refine At.g [11] 3 ?_;apply rt;exact At.jn 0
 ·apply rt;exact At.r 0
def aY(N:Nat)(a0:(List aA)):Nat->Int->Option (Sum (Unit) (Int))
 | 0,_=>none
 | k+1,s2=>
  aM (decide (s2 < ((a0.length:Int)))) λx3=>
  cond x3 (
   ae (idx a0 s2) λe4=>
   ae (sA N e4) λr5=>
   cond r5 (
    some (Sum.inr s2)) (
    aY N a0 k (I64 (s2+1)))) (
   some (Sum.inl (())))
def cP(N:Nat)(a0:(List aA)):Option (Int):=
 ae (aY N a0 N 0) λo=>mZ o (λp1=>
  some (-1)) (λr=>some r)
theorem qQ{N a0 r}(h:cP N a0=some r):FnM Tryz.prog 162 [] [(eL 3 aA.enc a0),(.fn (.func 124) [] [])] (j64 r) []:=by
 refine Af cM Tryz.func162 h ?_;refine At.MS 4 [] 0 (λp1=>([],[],[])) [0,1,7] 0 (aY N a0) (λ(s2:Int)=>([(8,(j64 s2))],[],[])) _ N (λop1 g1 k s2=>?_) λp1=>?_
 ·apply lx;intro x3;refine At.c 1 ?_ ?_
  ·refine At.i hT 5 aA.enc λe4=>?_;refine At.y 1 aHK λr5=>?_;refine At.c 0 ?_ ?_
   ·intro e;apply wH g1 e;exact At.r 2
   ·exact λh=>At.v 2 _ h
  ·apply rt;exact At.xs 0
 ·apply rt;exact At.r 1
def cG(N:Nat)(a0:(List aA)):Option (Bool):=
 ae (cP N a0) λr1=>
 some (decide (r1>=0))
theorem pW{N a0 r}(h:cG N a0=some r):FnM Tryz.prog 127 [] [(eL 3 aA.enc a0),(.fn (.func 124) [] [])] (eB r) []:=by
 refine Af cM Tryz.func127 h ?_;refine At.y 3 qQ λr1=>?_;apply rt;exact At.r 2
def aIk : Nat->Bool:=imL [1]
def rV(N:Nat)(a0:(Vector Int 2)):Option (Bool):=
 ae (ae (idx a0.toList 0) λe2=>
 ae (idx a0.toList 1) λe3=>
 aM (decide ((nE e2 e3) < 0)) λx4=>
 cond x4 (
  some true) (
  ae (idx a0.toList 0) λe5=>
  ae (idx a0.toList 1) λe6=>
  aM (decide ((uK e5 e6) > 65535)) λx7=>
  some x7)) λp1=>
 some p1
theorem aHB{N a0 r}(h:rV N a0=some r):FnM Tryz.prog 125 [] [(eA 2 1 j64 a0)] (eB r) []:=by
 refine Af aIk Tryz.func125 h ?_;refine At.J 2 0 [] 0 (λp1=>([(2,(eB p1))],[],[])) (λp1=>?_) λp1=>?_
 ·refine At.B 0 (bAi j64) λe2=>?_;refine At.B 1 (bAi j64) λe3=>?_;apply lx;intro x4;refine At.s 9 4 ?_ ?_
  ·refine At.g [9] 8 ?_;apply rt;exact At.jn 0
  ·refine At.B 0 (bAi j64) λe5=>?_;refine At.g [9] 1 ?_;refine At.B 0 (bAi j64) λe6=>?_;apply lx;intro x7;refine At.g [9] 5 ?_;apply rt;exact At.jn 0
 ·apply rt;exact At.r 0
def bG(N:Nat)(a0:(List (Vector Int 2))):Nat->Int->Option (Sum (Unit) (Int))
 | 0,_=>none
 | k+1,s2=>
  aM (decide (s2 < ((a0.length:Int)))) λx3=>
  cond x3 (
   ae (idx a0 s2) λe4=>
   ae (rV N e4) λr5=>
   cond r5 (
    some (Sum.inr s2)) (
    bG N a0 k (I64 (s2+1)))) (
   some (Sum.inl (())))
def dU(N:Nat)(a0:(List (Vector Int 2))):Option (Int):=
 ae (bG N a0 N 0) λo=>mZ o (λp1=>
  some (-1)) (λr=>some r)
theorem uN{N a0 r}(h:dU N a0=some r):FnM Tryz.prog 163 [] [(eL 2 (eA 2 1 j64) a0),(.fn (.func 125) [] [])] (j64 r) []:=by
 refine Af cM Tryz.func163 h ?_;refine At.MS 4 [] 0 (λp1=>([],[],[])) [0,1,7] 0 (bG N a0) (λ(s2:Int)=>([(8,(j64 s2))],[],[])) _ N (λop1 g1 k s2=>?_) λp1=>?_
 ·apply lx;intro x3;refine At.c 1 ?_ ?_
  ·refine At.i hT 5 (eA 2 1 j64) λe4=>?_;refine At.y 1 aHB λr5=>?_;refine At.c 0 ?_ ?_
   ·intro e;apply wH g1 e;exact At.r 2
   ·exact λh=>At.v 2 _ h
  ·apply rt;exact At.xs 0
 ·apply rt;exact At.r 1
def dF(N:Nat)(a0:(List (Vector Int 2))):Option (Bool):=
 ae (dU N a0) λr1=>
 some (decide (r1>=0))
theorem tC{N a0 r}(h:dF N a0=some r):FnM Tryz.prog 128 [] [(eL 2 (eA 2 1 j64) a0),(.fn (.func 125) [] [])] (eB r) []:=by
 refine Af cM Tryz.func128 h ?_;refine At.y 3 uN λr1=>?_;apply rt;exact At.r 2
def aFD : Nat->Bool:=imL [2]
def oJ(N:Nat)(a0:(Vector Int 3))(a1:aK):Option (Bool):=
 ae (ae (idx a0.toList 0) λe2=>
 ae (idx a0.toList 1) λe3=>
 ae (idx a0.toList 2) λe4=>
 aM (decide ((nE (nE e2 e3) e4) < 0)) λx5=>
 cond x5 (
  some true) (
  ae (idx a0.toList 0) λe6=>
  ae (idx a0.toList 1) λe7=>
  ae (idx a0.toList 2) λe8=>
  aM ((a1.gG.length:Int)) λx9=>
  aM (decide ((uK (uK e6 e7) e8)>=x9)) λx10=>
  cond x10 (
   some true) (
   ae (idx a0.toList 0) λe11=>
   ae (idx a0.toList 1) λe12=>
   cond (e11==e12) (
    some true) (
    ae (idx a0.toList 1) λe13=>
    ae (idx a0.toList 2) λe14=>
    cond (e13==e14) (
     some true) (
     ae (idx a0.toList 2) λe15=>
     ae (idx a0.toList 0) λe16=>
     some (e15==e16)))))) λp1=>
 some p1
theorem aEV{N a0 a1 r}(h:oJ N a0 a1=some r):FnM Tryz.prog 126 [] [(eA 3 1 j64 a0),(.im (aK.enc a1))] (eB r) []:=by
 refine Af aFD Tryz.func126 h ?_;refine At.J 2 0 [] 0 (λp1=>([(3,(eB p1))],[],[])) (λp1=>?_) λp1=>?_
 ·refine At.B 0 (bAi j64) λe2=>?_;refine At.B 1 (bAi j64) λe3=>?_;refine At.B 1 (bAi j64) λe4=>?_;refine At.o 1 (aE9 (k := .i64) (i:=e2) (j:=e3) (l:=e4) (by kernel_rfl) (by kernel_rfl)) ?_;apply lx;intro x5;refine At.s 12 2 ?_ ?_
  ·refine At.g [12,25,32,39] 34 ?_;apply rt;exact At.jn 0
  ·refine At.B 0 (bAi j64) λe6=>?_;refine At.g [12] 1 ?_;refine At.B 0 (bAi j64) λe7=>?_;refine At.g [12] 1 ?_;refine At.B 0 (bAi j64) λe8=>?_;refine At.g [12] 1 ?_;refine At.o 0 (aEv (k := .i64) (i:=e6) (j:=e7) (l:=e8) (by kernel_rfl) (by kernel_rfl)) ?_;apply lx;intro x9;apply lx;intro x10;refine At.g [12] 6 ?_;refine At.s 25 0 ?_ ?_
   ·refine At.g [25,32,39] 21 ?_;apply rt;exact At.jn 0
   ·refine At.B 0 (bAi j64) λe11=>?_;refine At.g [25] 1 ?_;refine At.B 0 (bAi j64) λe12=>?_;refine At.g [25] 4 ?_;refine At.s 32 0 ?_ ?_
    ·refine At.g [32,39] 14 ?_;apply rt;exact At.jn 0
    ·refine At.B 0 (bAi j64) λe13=>?_;refine At.g [32] 1 ?_;refine At.B 0 (bAi j64) λe14=>?_;refine At.g [32] 4 ?_;refine At.s 39 0 ?_ ?_
     ·refine At.g [39] 7 ?_;apply rt;exact At.jn 0
     ·refine At.B 0 (bAi j64) λe15=>?_;refine At.g [39] 1 ?_;refine At.B 0 (bAi j64) λe16=>?_;refine At.g [39] 4 ?_;apply rt;exact At.jn 0
 ·apply rt;exact At.r 0
def bH(N:Nat)(a0:(List (Vector Int 3)))(a1:aK):Nat->Int->Option (Sum (Unit) (Int))
 | 0,_=>none
 | k+1,s2=>
  aM (decide (s2 < ((a0.length:Int)))) λx3=>
  cond x3 (
   ae (idx a0 s2) λe4=>
   ae (oJ N e4 a1) λr5=>
   cond r5 (
    some (Sum.inr s2)) (
    bH N a0 a1 k (I64 (s2+1)))) (
   some (Sum.inl (())))
def dY(N:Nat)(a0:(List (Vector Int 3)))(a1:aK):Option (Int):=
 ae (bH N a0 a1 N 0) λo=>mZ o (λp1=>
  some (-1)) (λr=>some r)
theorem uM{N a0 a1 r}(h:dY N a0 a1=some r):FnM Tryz.prog 164 [] [(eL 3 (eA 3 1 j64) a0),(.fn (.func 126) [] [(.im (aK.enc a1))])] (j64 r) []:=by
 refine Af cM Tryz.func164 h ?_;refine At.MS 4 [] 0 (λp1=>([],[],[])) [0,1,7] 0 (bH N a0 a1) (λ(s2:Int)=>([(8,(j64 s2))],[],[])) _ N (λop1 g1 k s2=>?_) λp1=>?_
 ·apply lx;intro x3;refine At.c 1 ?_ ?_
  ·refine At.i hT 5 (eA 3 1 j64) λe4=>?_;refine At.y 1 aEV λr5=>?_;refine At.c 0 ?_ ?_
   ·intro e;apply wH g1 e;exact At.r 2
   ·exact λh=>At.v 2 _ h
  ·apply rt;exact At.xs 0
 ·apply rt;exact At.r 1
def dE(N:Nat)(a0:(List (Vector Int 3)))(a1:aK):Option (Bool):=
 ae (dY N a0 a1) λr1=>
 some (decide (r1>=0))
theorem sV{N a0 a1 r}(h:dE N a0 a1=some r):FnM Tryz.prog 129 [] [(eL 3 (eA 3 1 j64) a0),(.fn (.func 126) [] [(.im (aK.enc a1))])] (eB r) []:=by
 refine Af cM Tryz.func129 h ?_;refine At.y 3 uM λr1=>?_;apply rt;exact At.r 2
def aKx : Nat->Bool:=imL [1]
def iI(N:Nat)(a0:aK):Option (Int):=
 aM ((a0.gG.length:Int)) λx1=>
 aM ((a0.gJ.length:Int)) λx2=>
 aM (cond (decide (x1 > 64)) true (decide (x2 > 64))) λx3=>
 cond x3 (
  some 3) (
  aM ((a0.gG.length:Int)) λx4=>
  aM ((a0.gJ.length:Int)) λx5=>
  aM (cond (x4==0) true (x5==0)) λx6=>
  aM ((a0.gG.length:Int)) λx7=>
  aM (((a0.gL.length:Int)) != x7) λx8=>
  cond (cond x6 true x8) (
   some 5) (
   ae (cG N a0.gG) λr9=>
   cond r9 (
    some 8) (
    ae (ae (dF N a0.gL) λr11=>
    cond r11 (
     some true) (
     ae (dE N a0.gJ a0) λr12=>
     some r12)) λp10=>
    cond p10 (some 5) (some 0))))
theorem aA6{N a0 r}(h:iI N a0=some r):FnM Tryz.prog 89 [] [(aK.enc a0)] (j64 r) []:=by
 refine Af aKx Tryz.func89 h ?_;refine At.o 4 (aKX (x:=(.fn (.func 126) [] [(.im (aK.enc a0))])) (by kernel_rfl) (by kernel_rfl)) ?_;apply lx;intro x1;apply lx;intro x2;apply lx;intro x3;refine At.c 12 ?_ ?_
 ·apply rt;exact At.r 1
 ·apply lx;intro x4;apply lx;intro x5;apply lx;intro x6;apply lx;intro x7;apply lx;intro x8;refine At.c 20 ?_ ?_
  ·apply rt;exact At.r 1
  ·refine At.y 3 pW λr9=>?_;refine At.c 1 ?_ ?_
   ·apply rt;exact At.r 1
   ·refine At.J 0 0 [] 0 (λp10=>([(43,(eB p10))],[],[])) (λp10=>?_) λp10=>?_
    ·refine At.y 3 tC λr11=>?_;refine At.s 48 1 ?_ ?_
     ·refine At.g [48] 6 ?_;apply rt;exact At.jn 0
     ·refine At.g [48] 3 ?_;refine At.y 0 sV λr12=>?_;refine At.g [48] 2 ?_;apply rt;exact At.jn 0
    ·refine At.c 0 ?_ ?_
     ·apply rt;exact At.r 1
     ·apply rt;exact At.r 1
def fX(N:Nat)(r2:(List Int)×Int×Int):Nat->(List aA)->(List Int)->Int->Bool->Int->Option ((List aA)×(List Int)×Int×Bool)
 | 0,_,_,_,_,_=>none
 | k+1,s5,s6,s7,s8,s9=>
  cond (decide (s9 < r2.2.2)) (
   ae (fW N (aB.mk s6 s7 s8)) λr10=>
   ae (fT 24 s5 (([r10.2.2.2]:List aA))) λz11=>
   fX N r2 k z11 r10.1 r10.2.1 r10.2.2.1 (I64 (s9+1))) (
   some ((s5,s6,s7,s8)))
def fV(N:Nat)(r2:(List Int)×Int×Int):Nat->(List (Vector Int 2))->(List Int)->Int->Bool->Int->Option ((List (Vector Int 2))×(List Int)×Int×Bool)
 | 0,_,_,_,_,_=>none
 | k+1,s13,s14,s15,s16,s17=>
  cond (decide (s17 < r2.2.2)) (
   ae (aU N 2 (aB.mk s14 s15 s16)) λr18=>
   ae (aU N 2 (aB.mk r18.1 r18.2.1 ((aB.mk s14 s15 s16).gC))) λr19=>
   ae (fT 16 s13 (([#v[r18.2.2,r19.2.2]]:List (Vector Int 2)))) λz20=>
   fV N r2 k z20 r19.1 r19.2.1 ((aB.mk r18.1 r18.2.1 ((aB.mk s14 s15 s16).gC)).gC) (I64 (s17+1))) (
   some ((s13,s14,s15,s16)))
def fY(N:Nat)(r3:(List Int)×Int×Int):Nat->(List (Vector Int 3))->(List Int)->Int->Bool->Int->Option ((List (Vector Int 3))×(List Int)×Int×Bool)
 | 0,_,_,_,_,_=>none
 | k+1,s22,s23,s24,s25,s26=>
  cond (decide (s26 < r3.2.2)) (
   ae (aU N 1 (aB.mk s23 s24 s25)) λr27=>
   ae (aU N 1 (aB.mk r27.1 r27.2.1 ((aB.mk s23 s24 s25).gC))) λr28=>
   ae (aU N 1 (aB.mk r28.1 r28.2.1 ((aB.mk r27.1 r27.2.1 ((aB.mk s23 s24 s25).gC)).gC))) λr29=>
   ae (fT 24 s22 (([#v[r27.2.2,r28.2.2,r29.2.2]]:List (Vector Int 3)))) λz30=>
   fY N r3 k z30 r29.1 r29.2.1 ((aB.mk r28.1 r28.2.1 ((aB.mk r27.1 r27.2.1 ((aB.mk s23 s24 s25).gC)).gC)).gC) (I64 (s26+1))) (
   some ((s22,s23,s24,s25)))
def tL(N:Nat)(a0:(List Int)):Option (aK×Int):=
 ae (qP N a0) λr1=>
 ae (aU N 1 (aB.mk r1 0 true)) λr2=>
 ae (aU N 1 (aB.mk r2.1 r2.2.1 ((aB.mk r1 0 true).gC))) λr3=>
 ae (fX N r2 N [] r3.1 r3.2.1 ((aB.mk r2.1 r2.2.1 ((aB.mk r1 0 true).gC)).gC) 0) λp4=>
 ae (fV N r2 N [] p4.2.1 p4.2.2.1 p4.2.2.2 0) λp12=>
 ae (fY N r3 N [] p12.2.1 p12.2.2.1 p12.2.2.2 0) λp21=>
 ae (dC N (aB.mk p21.2.1 p21.2.2.1 p21.2.2.2)) λr31=>
 cond (r31 != 0) (
  some ((aK.mk [] [] [],r31))) (
  ae (iI N (aK.mk p4.1 p12.1 p21.1)) λr32=>
  cond (r32 != 0) (
   some ((aK.mk [] [] [],r32))) (
   some ((aK.mk p4.1 p12.1 p21.1,0))))
theorem aIP{N a0 r}(h:tL N a0=some r):FnM Tryz.prog 54 [] [(eL 1 k8 a0)] (.tup [(aK.enc r.1),(j64 r.2)]) []:=by
 refine Af cM Tryz.func54 h ?_;refine At.Y 3 [] vC λr1=>?_;refine At.D 3 [] ?_;refine DD.Y 1 [2] dQ λr2=>?_;refine DD.Y 1 [2] dQ λr3=>?_;refine De 2 ?_;refine At.ownb 3 4 3 [0] ?_;refine At.M 0 [2,4,5,6,7] 6 (λp4=>([],[(2,.var (.st 3 [(eL 1 k8 p4.2.1),(j64 p4.2.2.1),(eB p4.2.2.2)])),(4,.var (.st 3 [(eO 5 3 aA.enc p4.1),(.v (.slice none 0 0)),(.v (.slice none 0 0))])),(5,.tail (p4.1.length*3))],[])) [2,4,5,6,7,17] 6 (CU5 (fX N r2)) (cu5 λs5 s6 s7 s8 s9=>([(18,(j64 s9))],[(2,.var (.st 3 [(eL 1 k8 s6),(j64 s7),(eB s8)])),(4,.var (.st 3 [(eO 5 3 aA.enc s5),(.v (.slice none 0 0)),(.v (.slice none 0 0))])),(5,.tail (s5.length*3))],[])) (_,_,_,_,_) N (λp4 k=>un5 λs5 s6 s7 s8 s9=>?_) λp4=>?_
 ·refine At.c 1 ?_ ?_
  ·refine At.D 0 [] ?_;refine DD.Y 3 [2] aAg λr10=>?_;refine DD.O 0 bRw ?_;refine DD.U 0 (bAp aA.enc) λz11=>?_;refine De 2 ?_;exact λh=>At.v 2 (_,_,_,_,_) h
  ·apply rt;exact At.x 0
 ·refine At.ownb 2 4 2 [1] ?_;refine At.M 0 [2,4,6,7] 7 (λp12=>([],[(2,.var (.st 3 [(eL 1 k8 p12.2.1),(j64 p12.2.2.1),(eB p12.2.2.2)])),(4,.var (.st 3 [(eO 5 3 aA.enc p4.1),(eO 6 2 (eA 2 1 j64) p12.1),(.v (.slice none 0 0))])),(6,.tail (p12.1.length*2))],[])) [2,4,6,7,28] 7 (CU5 (fV N r2)) (cu5 λs13 s14 s15 s16 s17=>([(29,(j64 s17))],[(2,.var (.st 3 [(eL 1 k8 s14),(j64 s15),(eB s16)])),(4,.var (.st 3 [(eO 5 3 aA.enc p4.1),(eO 6 2 (eA 2 1 j64) s13),(.v (.slice none 0 0))])),(6,.tail (s13.length*2))],[])) (_,_,_,_,_) N (λp12 k=>un5 λs13 s14 s15 s16 s17=>?_) λp12=>?_
  ·refine At.c 1 ?_ ?_
   ·refine At.D 0 [] ?_;refine DD.Y 3 [2] dQ λr18=>?_;refine DD.Y 1 [2] dQ λr19=>?_;refine DD.O 1 bRw ?_;refine DD.U 0 (bAp (eA 2 1 j64)) λz20=>?_;refine De 2 ?_;exact λh=>At.v 2 (_,_,_,_,_) h
   ·apply rt;exact At.x 0
  ·refine At.ownb 2 4 3 [2] ?_;refine At.M 0 [2,4,7] 8 (λp21=>([],[(2,.var (.st 3 [(eL 1 k8 p21.2.1),(j64 p21.2.2.1),(eB p21.2.2.2)])),(4,.var (.st 3 [(eO 5 3 aA.enc p4.1),(eO 6 2 (eA 2 1 j64) p12.1),(eO 7 3 (eA 3 1 j64) p21.1)])),(7,.tail (p21.1.length*3))],[])) [2,4,7,42] 8 (CU5 (fY N r3)) (cu5 λs22 s23 s24 s25 s26=>([(43,(j64 s26))],[(2,.var (.st 3 [(eL 1 k8 s23),(j64 s24),(eB s25)])),(4,.var (.st 3 [(eO 5 3 aA.enc p4.1),(eO 6 2 (eA 2 1 j64) p12.1),(eO 7 3 (eA 3 1 j64) s22)])),(7,.tail (s22.length*3))],[])) (_,_,_,_,_) N (λp21 k=>un5 λs22 s23 s24 s25 s26=>?_) λp21=>?_
   ·refine At.c 1 ?_ ?_
    ·refine At.D 0 [] ?_;refine DD.Y 3 [2] dQ λr27=>?_;refine DD.Y 1 [2] dQ λr28=>?_;refine DD.Y 1 [2] dQ λr29=>?_;refine DD.O 1 bRw ?_;refine DD.U 0 (bAp (eA 3 1 j64)) λz30=>?_;refine De 2 ?_;exact λh=>At.v 2 (_,_,_,_,_) h
    ·apply rt;exact At.x 0
   ·refine At.Y 2 [2] nJ λr31=>?_;refine At.c 3 ?_ ?_
    ·apply rt;exact At.r 4
    ·refine At.y 1 aA6 λr32=>?_;refine At.c 3 ?_ ?_
     ·apply rt;exact At.r 4
     ·apply rt;exact At.r 3
def cU(N:Nat)(a0:(List Int))(a1:Int):Nat->Int->Option (Sum (Unit) (Int))
 | 0,_=>none
 | k+1,s2=>
  aM (decide (s2 < ((a0.length:Int)))) λx3=>
  cond x3 (
   ae (idx a0 s2) λe4=>
   cond (a1==e4) (
    some (Sum.inr s2)) (
    cU N a0 a1 k (I64 (s2+1)))) (
   some (Sum.inl (())))
def oZ(N:Nat)(a0:(List Int))(a1:Int):Option (Int):=
 ae (cU N a0 a1 N 0) λo=>mZ o (λp1=>
  some (-1)) (λr=>some r)
theorem aBQ{N a0 a1 r}(h:oZ N a0 a1=some r):FnM Tryz.prog 165 [] [(eL 1 j64 a0),(j64 a1)] (j64 r) []:=by
 refine Af cM Tryz.func165 h ?_;refine At.MS 4 [] 0 (λp1=>([],[],[])) [0,1,7] 0 (cU N a0 a1) (λ(s2:Int)=>([(8,(j64 s2))],[],[])) _ N (λop1 g1 k s2=>?_) λp1=>?_
 ·apply lx;intro x3;refine At.c 1 ?_ ?_
  ·refine At.i hT 5 j64 λe4=>?_;refine At.c 2 ?_ ?_
   ·intro e;apply wH g1 e;exact At.r 2
   ·exact λh=>At.v 2 _ h
  ·apply rt;exact At.xs 0
 ·apply rt;exact At.r 1
def jT(N:Nat)(a0:(List Int))(a1:Int):Option (Bool):=
 ae (oZ N a0 a1) λr1=>
 some (decide (r1>=0))
theorem aAd{N a0 a1 r}(h:jT N a0 a1=some r):FnM Tryz.prog 130 [] [(eL 1 j64 a0),(j64 a1)] (eB r) []:=by
 refine Af cM Tryz.func130 h ?_;refine At.y 3 aBQ λr1=>?_;apply rt;exact At.r 2
def aHC : Nat->Bool:=imL [1]
def iP(N:Nat)(x5:Int)(a0:aJ):Nat->Int->Option (Sum (Unit) (Int))
 | 0,_=>none
 | k+1,s7=>
  cond (decide (s7 < x5)) (
   ae (idx a0.gK s7) λe8=>
   ae (ae (aS 0 3) λ_=>
   ae (e8.toList[(ag 0)]?) λe11=>
   ae (aS 1 3) λ_=>
   ae (e8.toList[(ag 1)]?) λe13=>
   ae (aS 2 3) λ_=>
   ae (e8.toList[(ag 2)]?) λe15=>
   aM (decide ((nE (nE e11 e13) e15) < 0)) λx16=>
   cond x16 (
    some true) (
    ae (aS 0 3) λ_=>
    ae (e8.toList[(ag 0)]?) λe18=>
    ae (aS 1 3) λ_=>
    ae (e8.toList[(ag 1)]?) λe20=>
    ae (aS 2 3) λ_=>
    ae (e8.toList[(ag 2)]?) λe22=>
    aM (decide ((uK (uK e18 e20) e22) > 255)) λx23=>
    some x23)) λp9=>
   cond p9 (some (Sum.inr 5)) (iP N x5 a0 k (I64 (s7+1)))) (
   some (Sum.inl (())))
def cH(N:Nat)(a0:aJ):Option (Int):=
 ae (jT N ([1,2,4,8,16]) a0.gM) λr1=>
 aM ((a0.gK.length:Int)) λx2=>
 aM (I64 (a0.gM*a0.gM)) λx3=>
 aM (cond (!r1) true (x2 != x3)) λx4=>
 cond x4 (
  some 5) (
  aM ((a0.gK.length:Int)) λx5=>
  ae (iP N x5 a0 N 0) λo=>mZ o (λp6=>
   some 0) (λr=>some r))
theorem xQ{N a0 r}(h:cH N a0=some r):FnM Tryz.prog 90 [] [(aJ.enc a0)] (j64 r) []:=by
 refine Af aHC Tryz.func90 h ?_;refine At.O 2 bRw ?_;refine At.y 2 aAd λr1=>?_;apply lx;intro x2;apply lx;intro x3;apply lx;intro x4;refine At.c 12 ?_ ?_
 ·apply rt;exact At.r 1
 ·apply lx;intro x5;refine At.MS 4 [] 0 (λp6=>([],[],[])) [22,23] 0 (iP N x5 a0) (λ(s7:Int)=>([(24,(j64 s7))],[],[])) _ N (λop6 g6 k s7=>?_) λp6=>?_
  ·refine At.c 1 ?_ ?_
   ·refine At.i hT 0 (eA 3 1 j64) λe8=>?_;refine At.J 3 0 [22,23,24] 1 (λp9=>([(45,(eB p9))],[],[])) (λp9=>?_) λp9=>?_
    ·refine At.B 0 bAr λu10=>?_;refine At.U 0 (bLd j64 0) λe11=>?_;refine At.B 0 bAr λu12=>?_;refine At.U 0 (bLd j64 0) λe13=>?_;refine At.B 0 bAr λu14=>?_;refine At.U 0 (bLd j64 0) λe15=>?_;refine At.o 0 (aE9 (k := .i64) (i:=e11) (j:=e13) (l:=e15) (by kernel_rfl) (by kernel_rfl)) ?_;apply lx;intro x16;refine At.s 36 2 ?_ ?_
     ·refine At.g [36] 9 ?_;apply rt;exact At.jn 0
     ·refine At.B 0 bAr λu17=>?_;refine At.U 0 (bLd j64 0) λe18=>?_;refine At.B 0 bAr λu19=>?_;refine At.U 0 (bLd j64 0) λe20=>?_;refine At.B 0 bAr λu21=>?_;refine At.U 0 (bLd j64 0) λe22=>?_;refine At.o 0 (aEv (k := .i64) (i:=e18) (j:=e20) (l:=e22) (by kernel_rfl) (by kernel_rfl)) ?_;apply lx;intro x23;refine At.g [36] 2 ?_;apply rt;exact At.jn 0
    ·refine At.c 0 ?_ ?_
     ·intro e;apply wH g6 e;exact At.r 1
     ·exact λh=>At.v 2 _ h
   ·apply rt;exact At.xs 0
  ·apply rt;exact At.r 1
def cE(N:Nat)(x3:Int):Nat->(List (Vector Int 3))->(List Int)->Int->Bool->Int->Option ((List (Vector Int 3))×(List Int)×Int×Bool)
 | 0,_,_,_,_,_=>none
 | k+1,s5,s6,s7,s8,s9=>
  cond (decide (s9 < x3)) (
   ae (bC N 3 (aB.mk s6 s7 s8)) λr10=>
   aM (decide (((r10.2.2.length:Int)) < 3)) λx11=>
   cond x11 (
    some ((s5,r10.1,r10.2.1,(aB.mk s6 s7 s8).gC))) (
    ae (idx r10.2.2 0) λe12=>
    ae (idx r10.2.2 1) λe13=>
    ae (idx r10.2.2 2) λe14=>
    ae (fT 24 s5 (([#v[I64 e12,I64 e13,I64 e14]]:List (Vector Int 3)))) λz15=>
    cE N x3 k z15 r10.1 r10.2.1 ((aB.mk s6 s7 s8).gC) (I64 (s9+1)))) (
   some ((s5,s6,s7,s8)))
def pK(N:Nat)(a0:(List Int)):Option (aJ×Int):=
 ae (qP N a0) λr1=>
 ae (bD N 1 (aB.mk r1 0 true)) λr2=>
 aM (I64 ((I64 r2.2.2)*(I64 r2.2.2))) λx3=>
 ae (cE N x3 N [] r2.1 r2.2.1 ((aB.mk r1 0 true).gC) 0) λp4=>
 ae (dC N (aB.mk p4.2.1 p4.2.2.1 p4.2.2.2)) λr16=>
 cond (r16 != 0) (
  some ((aJ.mk 0 [],r16))) (
  ae (cH N (aJ.mk (I64 r2.2.2) p4.1)) λr17=>
  cond (r17 != 0) (
   some ((aJ.mk 0 [],r17))) (
   some ((aJ.mk (I64 r2.2.2) p4.1,0))))
theorem aFG{N a0 r}(h:pK N a0=some r):FnM Tryz.prog 55 [] [(eL 1 k8 a0)] (.tup [(aJ.enc r.1),(j64 r.2)]) []:=by
 refine Af cM Tryz.func55 h ?_;refine At.Y 3 [] vC λr1=>?_;refine At.Y 2 [2] cC λr2=>?_;apply lx;intro x3;refine At.ownb 10 3 3 [1] ?_;refine At.M 0 [2,4,5] 5 (λp4=>([],[(2,.var (.st 3 [(eL 1 k8 p4.2.1),(j64 p4.2.2.1),(eB p4.2.2.2)])),(3,.var (.st 2 [(j64 (I64 r2.2.2)),(eO 4 3 (eA 3 1 j64) p4.1)])),(4,.tail (p4.1.length*3))],[])) [2,4,5,19] 5 (CU5 (cE N x3)) (cu5 λs5 s6 s7 s8 s9=>([(20,(j64 s9))],[(2,.var (.st 3 [(eL 1 k8 s6),(j64 s7),(eB s8)])),(3,.var (.st 2 [(j64 (I64 r2.2.2)),(eO 4 3 (eA 3 1 j64) s5)])),(4,.tail (s5.length*3))],[])) (_,_,_,_,_) N (λp4 k=>un5 λs5 s6 s7 s8 s9=>?_) λp4=>?_
 ·refine At.c 1 ?_ ?_
  ·refine At.Y 1 [2] lP λr10=>?_;apply lx;intro x11;refine At.c 4 ?_ ?_
   ·apply rt;exact At.x 0
   ·refine At.D 0 [] ?_;refine DD.i hT 3 k8 λe12=>?_;refine DD.i hT 3 k8 λe13=>?_;refine DD.i hT 3 k8 λe14=>?_;refine DD.O 3 bRw ?_;refine DD.U 0 (bAp (eA 3 1 j64)) λz15=>?_;refine De 2 ?_;exact λh=>At.v 2 (_,_,_,_,_) h
  ·apply rt;exact At.x 0
 ·refine At.Y 1 [2] nJ λr16=>?_;refine At.c 3 ?_ ?_
  ·apply rt;exact At.r 4
  ·refine At.y 1 xQ λr17=>?_;refine At.c 3 ?_ ?_
   ·apply rt;exact At.r 4
   ·apply rt;exact At.r 3
def aX(N:Nat)(a0:Int)(a1:aB):Option ((List Int)×Int×Int):=
 ae (bD N a0 a1) λr1=>
 some ((r1.1,r1.2.1,I64 r1.2.2))
theorem eY{N a0 a1 r}(h:aX N a0 a1=some r):FnM Tryz.prog 56 [.var (aB.enc a1)] [(.st 1 [(.ref 0 [] 0)]),(j64 a0)] (j64 r.2.2) [.var (.st 3 [(eL 1 k8 r.1),(j64 r.2.1),(eB a1.gC)])]:=by
 refine Af cM Tryz.func56 h ?_;refine At.Y 5 [0] cC λr1=>?_;apply rt;exact At.r 2
def bS(N:Nat)(a0:Int)(a1:aB):Option ((List Int)×Int×Bool×(Vector Int 3)):=
 ae (aX N a0 a1) λr1=>
 ae (aX N a0 (aB.mk r1.1 r1.2.1 a1.gC)) λr2=>
 ae (aX N a0 (aB.mk r2.1 r2.2.1 ((aB.mk r1.1 r1.2.1 a1.gC).gC))) λr3=>
 some ((r3.1,r3.2.1,(aB.mk r2.1 r2.2.1 ((aB.mk r1.1 r1.2.1 a1.gC).gC)).gC,#v[r1.2.2,r2.2.2,r3.2.2]))
theorem tZ{N a0 a1 r}(h:bS N a0 a1=some r):FnM Tryz.prog 57 [.var (aB.enc a1)] [(.st 1 [(.ref 0 [] 0)]),(j64 a0)] (eA 3 1 j64 r.2.2.2) [.var (.st 3 [(eL 1 k8 r.1),(j64 r.2.1),(eB r.2.2.1)])]:=by
 refine Af cM Tryz.func57 h ?_;refine At.D 2 [] ?_;refine DD.Y 2 [0] eY λr1=>?_;refine DD.Y 2 [0] eY λr2=>?_;refine DD.Y 2 [0] eY λr3=>?_;refine De 2 ?_;apply rt;exact At.r 0
def cV(N:Nat)(a0:aB):Option ((List Int)×Int×Bool×aA):=
 ae (bY N 2 a0) λr1=>
 ae (bY N 2 (aB.mk r1.1 r1.2.1 a0.gC)) λr2=>
 ae (bY N 2 (aB.mk r2.1 r2.2.1 ((aB.mk r1.1 r1.2.1 a0.gC).gC))) λr3=>
 some ((r3.1,r3.2.1,(aB.mk r2.1 r2.2.1 ((aB.mk r1.1 r1.2.1 a0.gC).gC)).gC,aA.mk r1.2.2 r2.2.2 r3.2.2))
theorem pR{N a0 r}(h:cV N a0=some r):FnM Tryz.prog 59 [.var (aB.enc a0)] [(.st 1 [(.ref 0 [] 0)])] (aA.enc r.2.2.2) [.var (.st 3 [(eL 1 k8 r.1),(j64 r.2.1),(eB r.2.2.1)])]:=by
 refine Af cM Tryz.func59 h ?_;refine At.D 2 [] ?_;refine DD.Y 2 [0] jA λr1=>?_;refine DD.Y 2 [0] jA λr2=>?_;refine DD.Y 2 [0] jA λr3=>?_;refine De 2 ?_;apply rt;exact At.r 0
def uY(N:Nat)(a0 a1:Int):Option (Bool):=
 aM (cond (decide (a0 < 0)) true (decide (a0 > a1))) λx1=>
 some x1
theorem aCA{N a0 a1 r}(h:uY N a0 a1=some r):FnM Tryz.prog 182 [] [(j64 a0),(.im (j64 a1))] (eB r) []:=by
 refine Af cM Tryz.func182 h ?_;apply lx;intro x1;apply rt;exact At.r 9
def bK(N:Nat)(a0:(List Int))(a1:Int):Nat->Int->Option (Sum (Unit) (Int))
 | 0,_=>none
 | k+1,s2=>
  aM (decide (s2 < ((a0.length:Int)))) λx3=>
  cond x3 (
   ae (idx a0 s2) λe4=>
   ae (uY N e4 a1) λr5=>
   cond r5 (
    some (Sum.inr s2)) (
    bK N a0 a1 k (I64 (s2+1)))) (
   some (Sum.inl (())))
def eU(N:Nat)(a0:(List Int))(a1:Int):Option (Int):=
 ae (bK N a0 a1 N 0) λo=>mZ o (λp1=>
  some (-1)) (λr=>some r)
theorem vD{N a0 a1 r}(h:eU N a0 a1=some r):FnM Tryz.prog 191 [] [(eL 1 j64 a0),(.fn (.func 182) [] [(.im (j64 a1))])] (j64 r) []:=by
 refine Af cM Tryz.func191 h ?_;refine At.MS 4 [] 0 (λp1=>([],[],[])) [0,1,7] 0 (bK N a0 a1) (λ(s2:Int)=>([(8,(j64 s2))],[],[])) _ N (λop1 g1 k s2=>?_) λp1=>?_
 ·apply lx;intro x3;refine At.c 1 ?_ ?_
  ·refine At.i hT 5 j64 λe4=>?_;refine At.y 1 aCA λr5=>?_;refine At.c 0 ?_ ?_
   ·intro e;apply wH g1 e;exact At.r 2
   ·exact λh=>At.v 2 _ h
  ·apply rt;exact At.xs 0
 ·apply rt;exact At.r 1
def dO(N:Nat)(a0:(List Int))(a1:Int):Option (Bool):=
 ae (eU N a0 a1) λr1=>
 some (decide (r1>=0))
theorem tS{N a0 a1 r}(h:dO N a0 a1=some r):FnM Tryz.prog 181 [] [(eL 1 j64 a0),(.fn (.func 182) [] [(.im (j64 a1))])] (eB r) []:=by
 refine Af cM Tryz.func181 h ?_;refine At.y 3 vD λr1=>?_;apply rt;exact At.r 2
def aG8 : Nat->Bool:=imL [2]
def lB(N:Nat)(a0:Int)(a1:(List Int)):Option (Bool):=
 ae (dO N a1 a0) λr1=>
 some r1
theorem vH{N a0 a1 r}(h:lB N a0 a1=some r):FnM Tryz.prog 166 [] [(j64 a0),(eL 1 j64 a1)] (eB r) []:=by
 refine Af aG8 Tryz.func166 h ?_;refine At.o 3 (aKX (x:=(.fn (.func 182) [] [(.im (j64 a0))])) (by kernel_rfl) (by kernel_rfl)) ?_;refine At.y 0 tS λr1=>?_;apply rt;exact At.r 1
def aFm : Nat->Bool:=imL [1]
def pJ(N:Nat)(a0:aG):Option (Int):=
 ae (ae (lB N 4 ([a0.gA])) λr2=>
 cond r2 (
  some true) (
  ae (idx a0.gF.toList 0) λe3=>
  ae (idx a0.gF.toList 1) λe4=>
  ae (idx a0.gF.toList 2) λe5=>
  ae (lB N 65535 ([e3,e4,e5,a0.gW])) λr6=>
  some r6)) λp1=>
 cond p1 (some 5) (some 0)
theorem aFR{N a0 r}(h:pJ N a0=some r):FnM Tryz.prog 131 [] [(aG.enc a0)] (j64 r) []:=by
 refine Af aFm Tryz.func131 h ?_;refine At.J 2 0 [] 0 (λp1=>([(21,(eB p1))],[],[])) (λp1=>?_) λp1=>?_
 ·refine At.O 2 bRw ?_;refine At.y 0 vH λr2=>?_;refine At.s 7 1 ?_ ?_
  ·refine At.g [7] 14 ?_;apply rt;exact At.jn 0
  ·refine At.g [7] 1 ?_;refine At.B 0 (bAi j64) λe3=>?_;refine At.g [7] 2 ?_;refine At.B 0 (bAi j64) λe4=>?_;refine At.g [7] 2 ?_;refine At.B 0 (bAi j64) λe5=>?_;refine At.g [7] 3 ?_;refine At.O 0 bRw ?_;refine At.y 0 vH λr6=>?_;refine At.g [7] 1 ?_;apply rt;exact At.jn 0
 ·refine At.c 0 ?_ ?_
  ·apply rt;exact At.r 1
  ·apply rt;exact At.r 1
def aHG : Nat->Bool:=imL [1]
def qN(N:Nat)(a0:aA):Option (Bool):=
 ae (aM (decide ((uK (uK a0.gX a0.gY) a0.gZ) > 4096)) λx2=>
 cond x2 (
  some true) (
  aM (decide ((nE (nE a0.gX a0.gY) a0.gZ) < (-4096))) λx3=>
  some x3)) λp1=>
 some p1
theorem xT{N a0 r}(h:qN N a0=some r):FnM Tryz.prog 167 [] [(aA.enc a0)] (eB r) []:=by
 refine Af aHG Tryz.func167 h ?_;refine At.J 2 0 [] 0 (λp1=>([(2,(eB p1))],[],[])) (λp1=>?_) λp1=>?_
 ·refine At.o 6 (aEv (k := .i64) (i:=a0.gX) (j:=a0.gY) (l:=a0.gZ) (by kernel_rfl) (by kernel_rfl)) ?_;apply lx;intro x2;refine At.s 11 2 ?_ ?_
  ·refine At.g [11] 10 ?_;apply rt;exact At.jn 0
  ·refine At.g [11] 6 ?_;refine At.o 0 (aE9 (k := .i64) (i:=a0.gX) (j:=a0.gY) (l:=a0.gZ) (by kernel_rfl) (by kernel_rfl)) ?_;apply lx;intro x3;refine At.g [11] 3 ?_;apply rt;exact At.jn 0
 ·apply rt;exact At.r 0
def aJS : Nat->Bool:=imL [1]
def tI(N:Nat)(a0:aL):Option (Int):=
 ae (ae (lB N 2 ([a0.gA])) λr2=>
 cond r2 (
  some true) (
  ae (cR a0.gF.toList 0 3) λs3=>
  ae (lB N 1048576 s3) λr4=>
  some r4)) λp1=>
 cond p1 (
  some 5) (
  ae (ae (qN N a0.gAt) λr6=>
  cond r6 (
   some true) (
   ae (qN N a0.gU) λr7=>
   cond r7 (
    some true) (
    ae (qN N a0.gV) λr8=>
    some r8))) λp5=>
  cond p5 (
   some 8) (
   ae (cond (a0.gA==2) (
    cond (!(aA.eq a0.gAt (aA.mk 0 0 0))) (
     some (Sum.inr 5)) (
     ae (aM (!(aA.eq a0.gU (aA.mk 0 0 0))) λx11=>
     cond x11 (
      some true) (
      some (!(aA.eq a0.gV (aA.mk 0 0 0))))) λp10=>
     cond p10 (some (Sum.inr 5)) (some (Sum.inl (()))))) (
    cond (a0.gA==0) (
     ae (aM (!(aA.eq a0.gU (aA.mk 0 0 0))) λx13=>
     cond x13 (
      some true) (
      some (!(aA.eq a0.gV (aA.mk 0 0 0))))) λp12=>
     cond p12 (some (Sum.inr 5)) (some (Sum.inl (())))) (
     some (Sum.inl (()))))) λo=>mZ o (λp9=>
    some 0) (λr=>some r)))
theorem aI9{N a0 r}(h:tI N a0=some r):FnM Tryz.prog 132 [] [(aL.enc a0)] (j64 r) []:=by
 refine Af aJS Tryz.func132 h ?_;refine At.J 6 0 [1,3,4] 1 (λp1=>([(6,(eB p1))],[],[])) (λp1=>?_) λp1=>?_
 ·refine At.O 2 bRw ?_;refine At.y 0 vH λr2=>?_;refine At.s 11 1 ?_ ?_
  ·refine At.g [11] 5 ?_;apply rt;exact At.jn 0
  ·refine At.g [11] 1 ?_;refine At.B 0 (bSI j64) λs3=>?_;refine At.y 0 vH λr4=>?_;refine At.g [11] 2 ?_;apply rt;exact At.jn 0
 ·refine At.c 0 ?_ ?_
  ·apply rt;exact At.r 1
  ·refine At.J 0 0 [1,4] 1 (λp5=>([(16,(eB p5))],[],[])) (λp5=>?_) λp5=>?_
   ·refine At.y 3 xT λr6=>?_;refine At.s 21 1 ?_ ?_
    ·refine At.g [21,27] 12 ?_;apply rt;exact At.jn 0
    ·refine At.g [21] 3 ?_;refine At.y 0 xT λr7=>?_;refine At.g [21] 2 ?_;refine At.s 27 0 ?_ ?_
     ·refine At.g [27] 6 ?_;apply rt;exact At.jn 0
     ·refine At.g [27] 3 ?_;refine At.y 0 xT λr8=>?_;refine At.g [27] 2 ?_;apply rt;exact At.jn 0
   ·refine At.c 0 ?_ ?_
    ·apply rt;exact At.r 1
    ·refine At.JS 0 1 [] 1 (λp9=>([],[],[])) (λop9 g9=>?_) λp9=>?_
     ·refine At.c 4 ?_ ?_
      ·refine At.O 3 (bNe wJ (a0.gAt:aA) (aA.mk 0 0 0:aA)) ?_;refine At.c 0 ?_ ?_
       ·intro e;apply wH g9 e;exact At.r 1
       ·refine At.J 0 0 [] 1 (λp10=>([(52,(eB p10))],[],[])) (λp10=>?_) λp10=>?_
        ·refine At.O 3 (bNe wJ (a0.gU:aA) (aA.mk 0 0 0:aA)) ?_;apply lx;intro x11;refine At.s 47 1 ?_ ?_
         ·refine At.g [47] 5 ?_;apply rt;exact At.jn 0
         ·refine At.g [47] 3 ?_;refine At.O 0 (bNe wJ (a0.gV:aA) (aA.mk 0 0 0:aA)) ?_;refine At.g [47] 1 ?_;apply rt;exact At.jn 0
        ·refine At.c 0 ?_ ?_
         ·intro e;apply wH g9 e;exact At.r 1
         ·apply rt;exact At.jsn 0
      ·refine At.c 2 ?_ ?_
       ·refine At.J 0 0 [] 1 (λp12=>([(52,(eB p12))],[],[])) (λp12=>?_) λp12=>?_
        ·refine At.O 3 (bNe wJ (a0.gU:aA) (aA.mk 0 0 0:aA)) ?_;apply lx;intro x13;refine At.s 47 1 ?_ ?_
         ·refine At.g [47] 5 ?_;apply rt;exact At.jn 0
         ·refine At.g [47] 3 ?_;refine At.O 0 (bNe wJ (a0.gV:aA) (aA.mk 0 0 0:aA)) ?_;refine At.g [47] 1 ?_;apply rt;exact At.jn 0
        ·refine At.c 0 ?_ ?_
         ·intro e;apply wH g9 e;exact At.r 1
         ·apply rt;exact At.jsn 0
       ·apply rt;exact At.jsn 0
     ·apply rt;exact At.r 1
def aMi : Nat->Bool:=imL [1]
def nC(N:Nat)(a0:aI):Option (Int):=
 cond (a0.gA==1) (
  ae (iI N a0.gP) λr1=>
  some r1) (
  cond (a0.gA==2) (
   ae (cH N a0.gR) λr2=>
   some r2) (
   cond (a0.gA==3) (
    ae (pJ N a0.gI) λr3=>
    some r3) (
    cond (a0.gA==4) (
     ae (tI N a0.gD) λr4=>
     some r4) (
     some 12))))
theorem aLT{N a0 r}(h:nC N a0=some r):FnM Tryz.prog 92 [] [(aI.enc a0)] (j64 r) []:=by
 refine Af aMi Tryz.func92 h ?_;refine At.c 6 ?_ ?_
 ·refine At.y 2 aA6 λr1=>?_;apply rt;exact At.r 1
 ·refine At.c 2 ?_ ?_
  ·refine At.y 2 xQ λr2=>?_;apply rt;exact At.r 1
  ·refine At.c 2 ?_ ?_
   ·refine At.y 2 aFR λr3=>?_;apply rt;exact At.r 1
   ·refine At.c 2 ?_ ?_
    ·refine At.y 2 aI9 λr4=>?_;apply rt;exact At.r 1
    ·apply rt;exact At.r 1
def aAK(N:Nat)(a0:aI):Option (aI):=
 ae (cond (a0.gA==1) (
  some (([],[],[],a0.gR.gM,a0.gR.gK,a0.gI.gA,a0.gI.gF,a0.gI.gW,a0.gD.gA,a0.gD.gF,a0.gD.gAt.gX,a0.gD.gAt.gY,a0.gD.gAt.gZ,a0.gD.gU.gX,a0.gD.gU.gY,a0.gD.gU.gZ,a0.gD.gV.gX,a0.gD.gV.gY,a0.gD.gV.gZ))) (
  cond (a0.gA==2) (
   some ((a0.gP.gG,a0.gP.gL,a0.gP.gJ,0,[],a0.gI.gA,a0.gI.gF,a0.gI.gW,a0.gD.gA,a0.gD.gF,a0.gD.gAt.gX,a0.gD.gAt.gY,a0.gD.gAt.gZ,a0.gD.gU.gX,a0.gD.gU.gY,a0.gD.gU.gZ,a0.gD.gV.gX,a0.gD.gV.gY,a0.gD.gV.gZ))) (
   cond (a0.gA==3) (
    some ((a0.gP.gG,a0.gP.gL,a0.gP.gJ,a0.gR.gM,a0.gR.gK,0,#v[0,0,0],0,a0.gD.gA,a0.gD.gF,a0.gD.gAt.gX,a0.gD.gAt.gY,a0.gD.gAt.gZ,a0.gD.gU.gX,a0.gD.gU.gY,a0.gD.gU.gZ,a0.gD.gV.gX,a0.gD.gV.gY,a0.gD.gV.gZ))) (
    cond (a0.gA==4) (
     some ((a0.gP.gG,a0.gP.gL,a0.gP.gJ,a0.gR.gM,a0.gR.gK,a0.gI.gA,a0.gI.gF,a0.gI.gW,0,#v[0,0,0],0,0,0,0,0,0,0,0,0))) (
     some ((a0.gP.gG,a0.gP.gL,a0.gP.gJ,a0.gR.gM,a0.gR.gK,a0.gI.gA,a0.gI.gF,a0.gI.gW,a0.gD.gA,a0.gD.gF,a0.gD.gAt.gX,a0.gD.gAt.gY,a0.gD.gAt.gZ,a0.gD.gU.gX,a0.gD.gU.gY,a0.gD.gU.gZ,a0.gD.gV.gX,a0.gD.gV.gY,a0.gD.gV.gZ))))))) λp1=>
 some (aI.mk a0.gA (aK.mk p1.1 p1.2.1 p1.2.2.1) (aJ.mk p1.2.2.2.1 p1.2.2.2.2.1) (aG.mk p1.2.2.2.2.2.1 p1.2.2.2.2.2.2.1 p1.2.2.2.2.2.2.2.1) (aL.mk p1.2.2.2.2.2.2.2.2.1 p1.2.2.2.2.2.2.2.2.2.1 (aA.mk p1.2.2.2.2.2.2.2.2.2.2.1 p1.2.2.2.2.2.2.2.2.2.2.2.1 p1.2.2.2.2.2.2.2.2.2.2.2.2.1) (aA.mk p1.2.2.2.2.2.2.2.2.2.2.2.2.2.1 p1.2.2.2.2.2.2.2.2.2.2.2.2.2.2.1 p1.2.2.2.2.2.2.2.2.2.2.2.2.2.2.2.1) (aA.mk p1.2.2.2.2.2.2.2.2.2.2.2.2.2.2.2.2.1 p1.2.2.2.2.2.2.2.2.2.2.2.2.2.2.2.2.2.1 p1.2.2.2.2.2.2.2.2.2.2.2.2.2.2.2.2.2.2)))
theorem aJW{N a0 r}(h:aAK N a0=some r):FnM Tryz.prog 94 [] [(aI.enc a0)] (aI.enc r) []:=by
 refine Af cM Tryz.func94 h ?_;refine At.J 2 1 [1,2] 2 (λp1=>([],[(0,.var (.st 24 [(j64 a0.gA),(.st 3 [(eL 3 aA.enc p1.1),(eL 2 (eA 2 1 j64) p1.2.1),(eL 3 (eA 3 1 j64) p1.2.2.1)]),(.st 2 [(j64 p1.2.2.2.1),(eL 3 (eA 3 1 j64) p1.2.2.2.2.1)]),(.st 5 [(j64 p1.2.2.2.2.2.1),(eA 3 1 j64 p1.2.2.2.2.2.2.1),(j64 p1.2.2.2.2.2.2.2.1)]),(.st 13 [(j64 p1.2.2.2.2.2.2.2.2.1),(eA 3 1 j64 p1.2.2.2.2.2.2.2.2.2.1),(.st 3 [(j64 p1.2.2.2.2.2.2.2.2.2.2.1),(j64 p1.2.2.2.2.2.2.2.2.2.2.2.1),(j64 p1.2.2.2.2.2.2.2.2.2.2.2.2.1)]),(.st 3 [(j64 p1.2.2.2.2.2.2.2.2.2.2.2.2.2.1),(j64 p1.2.2.2.2.2.2.2.2.2.2.2.2.2.2.1),(j64 p1.2.2.2.2.2.2.2.2.2.2.2.2.2.2.2.1)]),(.st 3 [(j64 p1.2.2.2.2.2.2.2.2.2.2.2.2.2.2.2.2.1),(j64 p1.2.2.2.2.2.2.2.2.2.2.2.2.2.2.2.2.2.1),(j64 p1.2.2.2.2.2.2.2.2.2.2.2.2.2.2.2.2.2.2)])])]))],[])) (λp1=>?_) λp1=>?_
 ·refine At.c 4 ?_ ?_
  ·apply rt;exact At.jn 3
  ·refine At.c 2 ?_ ?_
   ·apply rt;exact At.jn 3
   ·refine At.c 2 ?_ ?_
    ·apply rt;exact At.jn 3
    ·refine At.c 2 ?_ ?_
     ·apply rt;exact At.jn 3
     ·apply rt;exact At.jn 0
 ·apply rt;exact At.r 2
def eZ(N:Nat)(a0 a1:(List aA)):Nat->Int->Option (Sum (Unit) (Bool))
 | 0,_=>none
 | k+1,s3=>
  aM (decide (s3 < ((a0.length:Int)))) λx4=>
  cond x4 (
   ae (idx a0 s3) λe5=>
   ae (idx a1 s3) λe6=>
   cond (!(aA.eq e5 e6)) (
    some (Sum.inr false)) (
    eZ N a0 a1 k (I64 (s3+1)))) (
   some (Sum.inl (())))
def oG(N:Nat)(a0 a1:(List aA)):Option (Bool):=
 aM (((a0.length:Int)) != ((a1.length:Int))) λx1=>
 cond x1 (
  some false) (
  ae (eZ N a0 a1 N 0) λo=>mZ o (λp2=>
   some true) (λr=>some r))
theorem aA4{N a0 a1 r}(h:oG N a0 a1=some r):FnM Tryz.prog 133 [] [(eL 3 aA.enc a0),(eL 3 aA.enc a1)] (eB r) []:=by
 refine Af cM Tryz.func133 h ?_;apply lx;intro x1;refine At.c 6 ?_ ?_
 ·apply rt;exact At.r 1
 ·refine At.MS 3 [] 0 (λp2=>([],[],[])) [0,1,12] 0 (eZ N a0 a1) (λ(s3:Int)=>([(13,(j64 s3))],[],[])) _ N (λop2 g2 k s3=>?_) λp2=>?_
  ·apply lx;intro x4;refine At.c 1 ?_ ?_
   ·refine At.D 2 [] ?_;refine DD.i hT 2 aA.enc λe5=>?_;refine DD.i hT 3 aA.enc λe6=>?_;refine DD.O 1 (bNe wJ (e5:aA) (e6:aA)) ?_;refine De 0 ?_;refine At.c 0 ?_ ?_
    ·intro e;apply wH g2 e;exact At.r 1
    ·exact λh=>At.v 2 _ h
   ·apply rt;exact At.xs 0
  ·apply rt;exact At.r 1
def jP(N:Nat)(a0 a1:(List (Vector Int 2))):Nat->Int->Option (Sum (Unit) (Bool))
 | 0,_=>none
 | k+1,s3=>
  aM (decide (s3 < ((a0.length:Int)))) λx4=>
  cond x4 (
   ae (idx a0 s3) λe5=>
   ae (idx a1 s3) λe6=>
   cond (!((eqV (λa b=>a==b)) e5 e6)) (
    some (Sum.inr false)) (
    jP N a0 a1 k (I64 (s3+1)))) (
   some (Sum.inl (())))
def rR(N:Nat)(a0 a1:(List (Vector Int 2))):Option (Bool):=
 aM (((a0.length:Int)) != ((a1.length:Int))) λx1=>
 cond x1 (
  some false) (
  ae (jP N a0 a1 N 0) λo=>mZ o (λp2=>
   some true) (λr=>some r))
theorem aCh{N a0 a1 r}(h:rR N a0 a1=some r):FnM Tryz.prog 134 [] [(eL 2 (eA 2 1 j64) a0),(eL 2 (eA 2 1 j64) a1)] (eB r) []:=by
 refine Af cM Tryz.func134 h ?_;apply lx;intro x1;refine At.c 6 ?_ ?_
 ·apply rt;exact At.r 1
 ·refine At.MS 3 [] 0 (λp2=>([],[],[])) [0,1,12] 0 (jP N a0 a1) (λ(s3:Int)=>([(13,(j64 s3))],[],[])) _ N (λop2 g2 k s3=>?_) λp2=>?_
  ·apply lx;intro x4;refine At.c 1 ?_ ?_
   ·refine At.D 2 [] ?_;refine DD.i hT 2 (eA 2 1 j64) λe5=>?_;refine DD.i hT 3 (eA 2 1 j64) λe6=>?_;refine DD.O 1 (bNe aOC (e5:(Vector Int 2)) (e6:(Vector Int 2))) ?_;refine De 0 ?_;refine At.c 0 ?_ ?_
    ·intro e;apply wH g2 e;exact At.r 1
    ·exact λh=>At.v 2 _ h
   ·apply rt;exact At.xs 0
  ·apply rt;exact At.r 1
def jI(N:Nat)(a0 a1:(List (Vector Int 3))):Nat->Int->Option (Sum (Unit) (Bool))
 | 0,_=>none
 | k+1,s3=>
  aM (decide (s3 < ((a0.length:Int)))) λx4=>
  cond x4 (
   ae (idx a0 s3) λe5=>
   ae (idx a1 s3) λe6=>
   cond (!((eqV (λa b=>a==b)) e5 e6)) (
    some (Sum.inr false)) (
    jI N a0 a1 k (I64 (s3+1)))) (
   some (Sum.inl (())))
def oT(N:Nat)(a0 a1:(List (Vector Int 3))):Option (Bool):=
 aM (((a0.length:Int)) != ((a1.length:Int))) λx1=>
 cond x1 (
  some false) (
  ae (jI N a0 a1 N 0) λo=>mZ o (λp2=>
   some true) (λr=>some r))
theorem yV{N a0 a1 r}(h:oT N a0 a1=some r):FnM Tryz.prog 135 [] [(eL 3 (eA 3 1 j64) a0),(eL 3 (eA 3 1 j64) a1)] (eB r) []:=by
 refine Af cM Tryz.func135 h ?_;apply lx;intro x1;refine At.c 6 ?_ ?_
 ·apply rt;exact At.r 1
 ·refine At.MS 3 [] 0 (λp2=>([],[],[])) [0,1,12] 0 (jI N a0 a1) (λ(s3:Int)=>([(13,(j64 s3))],[],[])) _ N (λop2 g2 k s3=>?_) λp2=>?_
  ·apply lx;intro x4;refine At.c 1 ?_ ?_
   ·refine At.D 2 [] ?_;refine DD.i hT 2 (eA 3 1 j64) λe5=>?_;refine DD.i hT 3 (eA 3 1 j64) λe6=>?_;refine DD.O 1 (bNe aJA (e5:(Vector Int 3)) (e6:(Vector Int 3))) ?_;refine De 0 ?_;refine At.c 0 ?_ ?_
    ·intro e;apply wH g2 e;exact At.r 1
    ·exact λh=>At.v 2 _ h
   ·apply rt;exact At.xs 0
  ·apply rt;exact At.r 1
def aKQ : Nat->Bool:=imL [2,3]
def vG(N:Nat)(a0 a1:aI):Option (Bool):=
 ae (cond (a0.gA != a1.gA) (
  some true) (
  aM (!(aG.eq a0.gI a1.gI)) λx2=>
  cond x2 (
   some true) (
   aM (!(aL.eq a0.gD a1.gD)) λx3=>
   aM (a0.gR.gM != a1.gR.gM) λx4=>
   some (cond x3 true x4)))) λp1=>
 cond p1 (
  some false) (
  ae (ae (oG N a0.gP.gG a1.gP.gG) λr6=>
  cond r6 (
   ae (rR N a0.gP.gL a1.gP.gL) λr7=>
   cond r7 (
    ae (oT N a0.gP.gJ a1.gP.gJ) λr8=>
    cond r8 (
     ae (oT N a0.gR.gK a1.gR.gK) λr9=>
     some r9) (
     some false)) (
    some false)) (
   some false)) λp5=>
  some p5)
theorem aJU{N a0 a1 r}(h:vG N a0 a1=some r):FnM Tryz.prog 93 [] [(aI.enc a0),(aI.enc a1)] (eB r) []:=by
 refine Af aKQ Tryz.func93 h ?_;refine At.J 3 0 [2,3] 0 (λp1=>([(32,(eB p1))],[],[])) (λp1=>?_) λp1=>?_
 ·refine At.s 10 6 ?_ ?_
  ·refine At.g [10,17,24] 22 ?_;apply rt;exact At.jn 0
  ·refine At.g [10] 4 ?_;refine At.O 0 (bNe aIa (a0.gI:aG) (a1.gI:aG)) ?_;apply lx;intro x2;refine At.g [10] 2 ?_;refine At.s 17 0 ?_ ?_
   ·refine At.g [17,24] 15 ?_;apply rt;exact At.jn 0
   ·refine At.g [17] 4 ?_;refine At.O 0 (bNe aI7 (a0.gD:aL) (a1.gD:aL)) ?_;apply lx;intro x3;apply lx;intro x4;refine At.g [17] 10 ?_;apply rt;exact At.jn 0
 ·refine At.c 0 ?_ ?_
  ·apply rt;exact At.r 1
  ·refine At.J 0 0 [] 0 (λp5=>([(4,(eB p5))],[],[])) (λp5=>?_) λp5=>?_
   ·refine At.y 6 aA4 λr6=>?_;refine At.s 40 1 ?_ ?_
    ·refine At.g [40] 6 ?_;refine At.y 0 aCh λr7=>?_;refine At.g [40] 2 ?_;refine At.s 49 0 ?_ ?_
     ·refine At.g [49] 6 ?_;refine At.y 0 yV λr8=>?_;refine At.g [49] 2 ?_;refine At.s 58 0 ?_ ?_
      ·refine At.g [58] 6 ?_;refine At.y 0 yV λr9=>?_;refine At.g [58] 2 ?_;apply rt;exact At.jn 0
      ·refine At.g [58] 9 ?_;apply rt;exact At.jn 0
     ·refine At.g [49,58] 18 ?_;apply rt;exact At.jn 0
    ·refine At.g [40,49,58] 27 ?_;apply rt;exact At.jn 0
   ·apply rt;exact At.r 0
def oC(N:Nat)(a2:(List Int))(a1:Int):Nat->(List Int)->Int->Option (Sum ((List Int)) ((List Int)×Int))
 | 0,_,_=>none
 | k+1,s3,s4=>
  aM (decide (s4 < ((a2.length:Int)))) λx5=>
  cond x5 (
   ae (idx a2 s4) λe6=>
   aM (I64 (64 - (I64 (8*a1)))) λx7=>
   ae (aFP .i64 e6 x7) λx8=>
   aM (I64 (64 - (I64 (8*a1)))) λx9=>
   ae (yR .i64 x8 x9) λx10=>
   cond (x10 != e6) (
    some (Sum.inr (([],3)))) (
    aM (I64 (64 - (I64 (8*a1)))) λx11=>
    ae (aFP .u64 (U64 e6) x11) λx12=>
    aM (I64 (64 - (I64 (8*a1)))) λx13=>
    ae (yR .u64 x12 x13) λx14=>
    ae (fT 8 s3 (([x14]:List Int))) λz15=>
    oC N a2 a1 k z15 (I64 (s4+1)))) (
   some (Sum.inl s3))
def oA(N:Nat)(a0:(List Int))(a1:Int)(a2:(List Int)):Option ((List Int)×Int):=
 aM (cond (decide (a1 < 1)) true (decide (a1 > 8))) λx1=>
 cond x1 (
  some (([],2))) (
  ae (oC N a2 a1 N [] 0) λo=>mZ o (λp2=>
   ae (bW N a0 a1 p2) λr16=>
   some ((r16.1,r16.2))) (λr=>some r))
theorem aB6{N a0 a1 a2 r}(h:oA N a0 a1 a2=some r):FnM Tryz.prog 138 [] [(eL 1 k8 a0),(j64 a1),(eL 1 j64 a2)] (.tup [(eO 0 1 k8 r.1),(j64 r.2)]) [.tail (r.1.length*1)]:=by
 refine Af cM Tryz.func138 h ?_;apply lx;intro x1;refine At.c 8 ?_ ?_
 ·refine At.ownn 2 6 1 ?_;apply rt;exact At.r 0
 ·refine At.ownn 4 8 1 ?_;refine At.MS 0 [0,1] 1 (λp2=>([(8,(eO 0 1 k64 p2))],[(0,.tail (p2.length*1))],[])) [0,1,18,19] 1 (CU2 (oC N a2 a1)) (cu2 λs3 s4=>([(8,(eO 0 1 k64 s3)),(20,(j64 s4))],[(0,.tail (s3.length*1))],[])) (_,_) N (λop2 g2 k=>un2 λs3 s4=>?_) λp2=>?_
  ·apply lx;intro x5;refine At.c 1 ?_ ?_
   ·refine At.i hT 0 j64 λe6=>?_;apply lx;intro x7;refine At.B 6 bSh λx8=>?_;apply lx;intro x9;refine At.B 3 bSr λx10=>?_;refine At.c 4 ?_ ?_
    ·refine At.ownn 2 6 1 ?_;refine At.sw 0 1 0 ?_;intro e;apply wH g2 e;exact At.r 0
    ·apply lx;intro x11;refine At.B 6 bSh λx12=>?_;apply lx;intro x13;refine At.B 3 bSr λx14=>?_;refine At.O 0 bRw ?_;refine At.U 0 (bAp k64) λz15=>?_;exact λh=>At.v 3 (_,_) h
   ·apply rt;exact At.xs 0
  ·refine At.Y 3 [] fL λr16=>?_;refine At.sw 4 1 0 ?_;apply rt;exact At.r 0
def aJr : Nat->Bool:=imL [1]
def pM(N:Nat)(x4:Int)(a0:aK):Nat->(List Int)->Int->Option ((List Int))
 | 0,_,_=>none
 | k+1,s6,s7=>
  cond (decide (s7 < x4)) (
   ae (idx a0.gG s7) λe8=>
   ae (oA N s6 2 ([e8.gX,e8.gY,e8.gZ])) λr9=>
   pM N x4 a0 k r9.1 (I64 (s7+1))) (
   some s6)
def pI(N:Nat)(a0:aK):Nat->(List Int)->Int->Option ((List Int))
 | 0,_,_=>none
 | k+1,s11,s12=>
  aM (decide (s12 < ((a0.gL.length:Int)))) λx13=>
  cond x13 (
   ae (idx a0.gL s12) λe14=>
   ae (aS 0 2) λ_=>
   ae (e14.toList[(ag 0)]?) λe16=>
   ae (aS 1 2) λ_=>
   ae (e14.toList[(ag 1)]?) λe18=>
   ae (bW N s11 2 ([U64 e16,U64 e18])) λr19=>
   pI N a0 k r19.1 (I64 (s12+1))) (
   some s11)
def lQ(N:Nat)(x20:Int)(a0:aK):Nat->(List Int)->Int->Option ((List Int))
 | 0,_,_=>none
 | k+1,s22,s23=>
  cond (decide (s23 < x20)) (
   ae (idx a0.gJ s23) λe24=>
   ae (aS 0 3) λ_=>
   ae (e24.toList[(ag 0)]?) λe26=>
   ae (aS 1 3) λ_=>
   ae (e24.toList[(ag 1)]?) λe28=>
   ae (aS 2 3) λ_=>
   ae (e24.toList[(ag 2)]?) λe30=>
   ae (fT 1 s22 (([U8 e26,U8 e28,U8 e30]:List Int))) λz31=>
   lQ N x20 a0 k z31 (I64 (s23+1))) (
   some s22)
def yF(N:Nat)(a0:aK):Option ((List Int)×Int):=
 ae (iI N a0) λr1=>
 cond (r1 != 0) (
  some (([],r1))) (
  aM ((a0.gG.length:Int)) λx2=>
  aM ((a0.gJ.length:Int)) λx3=>
  aM ((a0.gG.length:Int)) λx4=>
  ae (pM N x4 a0 N (([U8 x2,U8 x3]:List Int)) 0) λp5=>
  ae (pI N a0 N p5 0) λp10=>
  aM ((a0.gJ.length:Int)) λx20=>
  ae (lQ N x20 a0 N p10 0) λp21=>
  some ((p21,0)))
theorem aHm{N a0 r}(h:yF N a0=some r):FnM Tryz.prog 136 [] [(aK.enc a0)] (.tup [(eL 1 k8 r.1),(j64 r.2)]) []:=by
 refine Af aJr Tryz.func136 h ?_;refine At.y 4 aA6 λr1=>?_;refine At.c 3 ?_ ?_
 ·apply rt;exact At.r 3
 ·apply lx;intro x2;apply lx;intro x3;refine At.o 8 (sH hT k8 (k:=1) ([U8 x2,U8 x3]:List Int) (by kernel_rfl) (by kernel_rfl)) ?_;apply lx;intro x4;refine At.M 5 [1] 1 (λp5=>([(5,(eO 0 1 k8 p5))],[(0,.tail (p5.length*1))],[])) [1,27,28] 1 (CU2 (pM N x4 a0)) (cu2 λs6 s7=>([(5,(eO 0 1 k8 s6)),(29,(j64 s7))],[(0,.tail (s6.length*1))],[])) (_,_) N (λp5 k=>un2 λs6 s7=>?_) λp5=>?_
  ·refine At.c 1 ?_ ?_
   ·refine At.i hT 0 aA.enc λe8=>?_;refine At.O 10 bRw ?_;refine At.Y 0 [] aB6 λr9=>?_;exact λh=>At.vw 6 (_,_) (aJx 2 0 (by kernel_rfl) jr) h
   ·apply rt;exact At.x 0
  ·refine At.M 4 [1] 1 (λp10=>([(5,(eO 0 1 k8 p10))],[(0,.tail (p10.length*1))],[])) [1,47,48] 1 (CU2 (pI N a0)) (cu2 λs11 s12=>([(5,(eO 0 1 k8 s11)),(49,(j64 s12))],[(0,.tail (s11.length*1))],[])) (_,_) N (λp10 k=>un2 λs11 s12=>?_) λp10=>?_
   ·apply lx;intro x13;refine At.c 1 ?_ ?_
    ·refine At.i hT 0 (eA 2 1 j64) λe14=>?_;refine At.B 4 bAr λu15=>?_;refine At.U 0 (bLd j64 0) λe16=>?_;refine At.B 1 bAr λu17=>?_;refine At.U 0 (bLd j64 0) λe18=>?_;refine At.O 1 bRw ?_;refine At.Y 0 [] fL λr19=>?_;exact λh=>At.vw 6 (_,_) (aJx 2 0 (by kernel_rfl) jr) h
    ·apply rt;exact At.x 0
   ·apply lx;intro x20;refine At.M 4 [] 1 (λp21=>([(5,(eO 0 1 k8 p21))],[(0,.tail (p21.length*1))],[])) [67,68] 1 (CU2 (lQ N x20 a0)) (cu2 λs22 s23=>([(5,(eO 0 1 k8 s22)),(69,(j64 s23))],[(0,.tail (s22.length*1))],[])) (_,_) N (λp21 k=>un2 λs22 s23=>?_) λp21=>?_
    ·refine At.c 1 ?_ ?_
     ·refine At.i hT 0 (eA 3 1 j64) λe24=>?_;refine At.B 4 bAr λu25=>?_;refine At.U 0 (bLd j64 0) λe26=>?_;refine At.B 1 bAr λu27=>?_;refine At.U 0 (bLd j64 0) λe28=>?_;refine At.B 1 bAr λu29=>?_;refine At.U 0 (bLd j64 0) λe30=>?_;refine At.O 1 bRw ?_;refine At.U 0 (bAp k8) λz31=>?_;exact λh=>At.v 3 (_,_) h
     ·apply rt;exact At.x 0
    ·apply rt;exact At.r 3
end Go.UK
