/- A part of the proof: what the functions of the program compute. -/
import Derived.Test.YtmmabhkichiikaaGreatTT
open Int renaming tdiv→d7,toNat→bj
open List renaming length_map→ai,map→ah,map_eq_nil_iff→cw,mem_singleton→c9,replicate→ak
open Option renaming bind→aa
open Vector renaming replicate→bu
namespace Go.UK
open Go Go.Proofs
set_option maxRecDepth 20000
set_option maxHeartbeats 40000000
set_option linter.all false
attribute [local irreducible] adv aHj aHF yU brPt aPY aJs nX aA0 aPx cJ uZ fF aDm aNl aL0 lPt cP opD vZ aCr aLJ stD dCl dEn dH DD aR owp awl aw FnM aJa opS Stab TOK Big
def aHI : Nat->Bool:=imL [1]
def nQ(N:Nat)(a0:aE):Nat->(List aC)->Int->Option ((List aC))
 | 0,_,_=>none
 | k+1,s2,s3=>
  aR ((a0.gQ.length:Int)) λx4=>
  aR (cond (decide (s3 < x4)) (decide (s3 < 4)) false) λx5=>
  cond x5 (
   aa (idx a0.gQ s3) λe6=>
   aR ((e6.gA6.length:Int)) λx7=>
   aa (xR e6.gA6 0 (dO x7 260)) λs8=>
   aa (nL 32 s2 (([aC.mk e6.gG s8]:List aC))) λz9=>
   nQ N a0 k z9 (I64 (s3+1))) (
   some s2)
def oH(N:Nat)(a0:aE):Option (aE):=
 aa (nQ N a0 N [] 0) λp1=>
 aR ((a0.gL.length:Int)) λx10=>
 aa (xR a0.gL 0 (dO x10 20)) λs11=>
 aR ((a0.gA4.length:Int)) λx12=>
 aa (xR a0.gA4 0 (dO x12 8)) λs13=>
 aR ((a0.gI.length:Int)) λx14=>
 aa (xR a0.gI 0 (dO x14 5)) λs15=>
 aR (dO ((a0.gJ.length:Int)) 20) λx16=>
 aa (xR a0.gJ 0 x16) λs17=>
 aR ((a0.gS.length:Int)) λx18=>
 aa (xR a0.gS 0 (dO x18 20)) λs19=>
 some (aE.mk s11 s13 p1 s15 s17 s19 a0.gR a0.gB2 a0.gTo)
theorem aGE{N a0 r}(h:oH N a0=some r):FnM Tryz.prog 5 [] [(aE.enc a0)] (aE.enc r) []:=by
 refine Af aHI Tryz.func5 h ?_;refine At.ownn 4 3 2 ?_;refine At.M 0 [1,2] 2 (λp1=>([(3,(eO 1 2 aC.enc p1))],[(1,.tail (p1.length*2))],[])) [1,2] 2 (CU2 (nQ N a0)) (cu2 λ(s2:(List aC)) (s3:Int)=>([(3,(eO 1 2 aC.enc s2)),(4,(j64 s3))],[(1,.tail (s2.length*2))],[])) (_,_) N (λp1 k=>un2 λs2 s3=>?_) λp1=>?_
 ·apply lx;intro x4;apply lx;intro x5;refine At.c 9 ?_ ?_
  ·refine At.i hT 3 aC.enc λe6=>?_;refine At.D 3 [] ?_;apply lx;intro x7;refine DD.b 9 (λe _=>aA7 hT (k:=3) (eA 3 1 j64) e) λs8=>?_;refine DD.o 1 (λ_=>bG hT (x:=(.sl 2 1 [(.st 2 [(j64 e6.gG),(eL 3 (eA 3 1 j64) s8)])]))) ?_;refine bi λz9 hz9=>?_;refine DD.w 0 (eO 1 2 aC.enc z9) ⟨[(1,.tail (z9.length*2))],[]⟩ (λ_ e=>iI hT aC.enc (id:=1) (k:=2) hz9 (pj1 e) (pj2 e)) ?_;refine De 1 ?_;exact λh=>At.v 3 (_,_) h
  ·apply rt;exact At.x 0
 ·refine At.D 0 [] ?_;apply lx;intro x10;refine DD.b 6 (λe _=>aA7 hT (k:=19) aJ.enc e) λs11=>?_;apply lx;intro x12;refine DD.b 6 (λe _=>aA7 hT (k:=5) aN.enc e) λs13=>?_;apply lx;intro x14;refine DD.b 7 (λe _=>aA7 hT (k:=13) aQ.enc e) λs15=>?_;apply lx;intro x16;refine DD.b 6 (λe _=>aA7 hT (k:=1) k64 e) λs17=>?_;apply lx;intro x18;refine DD.b 6 (λe _=>aA7 hT (k:=1) k32 e) λs19=>?_;refine De 8 ?_;apply rt;exact At.r 0
def aBm(N:Nat)(a0:aG):Option (aG):=
 some (aG.mk (dO a0.gW 3) (dO a0.gH 3) (dO a0.gA8 2) (dO a0.gK 3) a0.gM a0.gD6 a0.gD7 a0.gA5)
theorem aEu{N a0 r}(h:aBm N a0=some r):FnM Tryz.prog 15 [] [(aG.enc a0)] (aG.enc r) []:=by
 refine Af bO Tryz.func15 h ?_;apply rt;exact At.r 24
def oS(N:Nat)(a0:aG):Option (aG):=
 aa (aBm N a0) λr1=>
 some (aG.mk r1.gW r1.gH r1.gA8 r1.gK (dO r1.gM 1) r1.gD6 r1.gD7 r1.gA5)
theorem aE1{N a0 r}(h:oS N a0=some r):FnM Tryz.prog 6 [] [(aG.enc a0)] (aG.enc r) []:=by
 refine Af bO Tryz.func6 h ?_;refine At.y 3 aEu λr1=>?_;apply rt;exact At.r 8
def aLY : Nat->Bool:=imL [2]
def uF(N:Nat)(a0:aB)(a1:Int):Option (Bool):=
 aa (aR (decide ((jB (jB a0.gX a0.gY) a0.gZ)<=a1)) λx2=>
 cond x2 (
  aR (decide ((dO (dO a0.gX a0.gY) a0.gZ)>=(I64 (0 - a1)))) λx3=>
  some x3) (
  some false)) λp1=>
 some p1
theorem aCP{N a0 a1 r}(h:uF N a0 a1=some r):FnM Tryz.prog 157 [] [(aB.enc a0),(j64 a1)] (eB r) []:=by
 refine Af aLY Tryz.func157 h ?_;refine At.J 2 0 [] 0 (λp1=>([(4,(eB p1))],[],[])) (λp1=>?_) λp1=>?_
 ·refine At.o 6 (aBh (k := .i64) (i:=a0.gX) (j:=a0.gY) (l:=a0.gZ) (by kernel_rfl) (by kernel_rfl)) ?_;apply lx;intro x2;refine At.s 14 3 ?_ ?_
  ·refine At.g [14] 6 ?_;refine At.o 0 (aBK (k := .i64) (i:=a0.gX) (j:=a0.gY) (l:=a0.gZ) (by kernel_rfl) (by kernel_rfl)) ?_;apply lx;intro x3;refine At.g [14] 5 ?_;apply rt;exact At.jn 0
  ·refine At.g [14] 12 ?_;apply rt;exact At.jn 0
 ·apply rt;exact At.r 0
def aQi : Nat->Bool:=imL [2,3]
def xE(N:Nat)(a0 a1:aB):Option (Bool):=
 aa (aa (uF N a0 65536) λr2=>
 cond r2 (
  aa (uF N a1 131072) λr3=>
  cond r3 (
   aR (!(aB.eq a1 (aB.mk 0 0 0))) λx4=>
   some x4) (
   some false)) (
  some false)) λp1=>
 some p1
theorem aBQ{N a0 a1 r}(h:xE N a0 a1=some r):FnM Tryz.prog 105 [] [(aB.enc a0),(aB.enc a1)] (eB r) []:=by
 refine Af aQi Tryz.func105 h ?_;refine At.J 3 0 [] 0 (λp1=>([(4,(eB p1))],[],[])) (λp1=>?_) λp1=>?_
 ·refine At.y 1 aCP λr2=>?_;refine At.s 7 1 ?_ ?_
  ·refine At.g [7] 1 ?_;refine At.y 0 aCP λr3=>?_;refine At.g [7] 2 ?_;refine At.s 11 0 ?_ ?_
   ·refine At.g [11] 2 ?_;refine At.o 0 (aA6 aC8 (a1:aB) (aB.mk 0 0 0:aB) (by kernel_rfl) (by kernel_rfl) (λ_=>rfl) (λ_=>rfl) (by kernel_rfl) (by kernel_rfl)) ?_;apply lx;intro x4;refine At.g [11] 2 ?_;apply rt;exact At.jn 0
   ·refine At.g [11] 5 ?_;apply rt;exact At.jn 0
  ·refine At.g [7,11] 9 ?_;apply rt;exact At.jn 0
 ·apply rt;exact At.r 0
def aGw : Nat->Bool:=imL [2,3]
def lA(N:Nat)(a1:aJ):Nat->Int->Option (Sum (Unit) (Int))
 | 0,_=>none
 | k+1,s9=>
  cond (decide (s9 < 3)) (
   aa (idx a1.gUv.toList s9) λe10=>
   aa (aa (dS 0 2) λ_=>
   aa (e10.toList[(bj 0)]?) λe13=>
   aa (dS 1 2) λ_=>
   aa (e10.toList[(bj 1)]?) λe15=>
   aR (decide ((dO e13 e15) < 0)) λx16=>
   cond x16 (
    some true) (
    aa (dS 0 2) λ_=>
    aa (e10.toList[(bj 0)]?) λe18=>
    aa (dS 1 2) λ_=>
    aa (e10.toList[(bj 1)]?) λe20=>
    aR (decide ((jB e18 e20) > 65535)) λx21=>
    some x21)) λp11=>
   cond p11 (some (Sum.inr 5)) (lA N a1 k (I64 (s9+1)))) (
   some (Sum.inl (())))
def lB(N:Nat)(a1:aJ):Nat->Int->Option (Sum (Unit) (Int))
 | 0,_=>none
 | k+1,s23=>
  cond (decide (s23 < 3)) (
   aa (idx a1.gP.toList s23) λe24=>
   aa (xE N e24 (aB.mk 1 0 0)) λr25=>
   cond (!r25) (some (Sum.inr 8)) (lB N a1 k (I64 (s23+1)))) (
   some (Sum.inl (())))
def oG(N:Nat)(a0:aE)(a1:aJ):Option (Int):=
 aR ((a0.gA4.length:Int)) λx1=>
 aR (cond (decide (a1.gC5 < 0)) true (decide (a1.gC5>=x1))) λx2=>
 aR (decide (a1.gB7 < (-1))) λx3=>
 aR ((a0.gQ.length:Int)) λx4=>
 aR (cond (cond x2 true x3) true (decide (a1.gB7>=x4))) λx5=>
 aR (cond x5 true (decide (a1.gA3 < 0))) λx6=>
 aR (decide (a1.gA3>=((a0.gJ.length:Int)))) λx7=>
 cond (cond x6 true x7) (
  some 5) (
  aa (lA N a1 N 0) λo=>kG o (λp8=>
   aa (lB N a1 N 0) λo=>kG o (λp22=>
    some 0) (λr=>some r)) (λr=>some r))
theorem aGI{N a0 a1 r}(h:oG N a0 a1=some r):FnM Tryz.prog 68 [] [(aE.enc a0),(aJ.enc a1)] (j64 r) []:=by
 refine Af aGw Tryz.func68 h ?_;apply lx;intro x1;apply lx;intro x2;apply lx;intro x3;apply lx;intro x4;apply lx;intro x5;apply lx;intro x6;apply lx;intro x7;refine At.c 40 ?_ ?_
 ·apply rt;exact At.r 1
 ·refine At.MS 3 [3] 0 (λp8=>([],[],[])) [3,47] 0 (lA N a1) (λ(s9:Int)=>([(48,(j64 s9))],[],[])) _ N (λop8 g8 k s9=>?_) λp8=>?_
  ·refine At.c 1 ?_ ?_
   ·refine At.b 0 (λ_ e=>aA2 hT (eA 2 1 j64) a1.gUv e (by kernel_rfl) (by kernel_rfl)) λe10=>?_;refine At.J 2 0 [3,47,48] 1 (λp11=>([(64,(eB p11))],[],[])) (λp11=>?_) λp11=>?_
    ·refine At.b 0 (λ_ e=>bF hT (k:=1) 0 [] 0 e) λu12=>?_;refine At.b 0 (λ_ e=>pV hT j64 0 e) λe13=>?_;refine At.b 0 (λ_ e=>bF hT (k:=1) 0 [] 0 e) λu14=>?_;refine At.b 0 (λ_ e=>pV hT j64 0 e) λe15=>?_;apply lx;intro x16;refine At.s 57 3 ?_ ?_
     ·refine At.g [57] 7 ?_;apply rt;exact At.jn 0
     ·refine At.b 0 (λ_ e=>bF hT (k:=1) 0 [] 0 e) λu17=>?_;refine At.b 0 (λ_ e=>pV hT j64 0 e) λe18=>?_;refine At.b 0 (λ_ e=>bF hT (k:=1) 0 [] 0 e) λu19=>?_;refine At.b 0 (λ_ e=>pV hT j64 0 e) λe20=>?_;apply lx;intro x21;refine At.g [57] 3 ?_;apply rt;exact At.jn 0
    ·refine At.c 0 ?_ ?_
     ·intro e;apply aBp g8 e;exact At.r 1
     ·exact λh=>At.v 2 _ h
   ·apply rt;exact At.xs 0
  ·refine At.MS 3 [] 0 (λp22=>([],[],[])) [67] 0 (lB N a1) (λ(s23:Int)=>([(68,(j64 s23))],[],[])) _ N (λop22 g22 k s23=>?_) λp22=>?_
   ·refine At.c 1 ?_ ?_
    ·refine At.b 0 (λ_ e=>aA2 hT aB.enc a1.gP e (by kernel_rfl) (by kernel_rfl)) λe24=>?_;refine At.y 4 aBQ λr25=>?_;refine At.c 1 ?_ ?_
     ·intro e;apply aBp g22 e;exact At.r 1
     ·exact λh=>At.v 2 _ h
    ·apply rt;exact At.xs 0
   ·apply rt;exact At.r 1
def aFj : Nat->Bool:=imL [2]
def mA(N:Nat)(a0:aJ)(a1:aE):Option (Int):=
 aa (oG N a1 a0) λr1=>
 some r1
theorem aEz{N a0 a1 r}(h:mA N a0 a1=some r):FnM Tryz.prog 67 [] [(aJ.enc a0),(.im (aE.enc a1))] (j64 r) []:=by
 refine Af aFj Tryz.func67 h ?_;refine At.y 4 aGI λr1=>?_;apply rt;exact At.r 1
def eC(N:Nat)(a0:(List aJ))(a1:aE):Nat->Int->Option (Sum (Unit) (Int))
 | 0,_=>none
 | k+1,s2=>
  aR (decide (s2 < ((a0.length:Int)))) λx3=>
  cond x3 (
   aa (idx a0 s2) λe4=>
   aa (mA N e4 a1) λr5=>
   cond (r5 != 0) (
    some (Sum.inr r5)) (
    eC N a0 a1 k (I64 (s2+1)))) (
   some (Sum.inl (())))
def dK(N:Nat)(a0:(List aJ))(a1:aE):Option (Int):=
 aa (eC N a0 a1 N 0) λo=>kG o (λp1=>
  some 0) (λr=>some r)
theorem zM{N a0 a1 r}(h:dK N a0 a1=some r):FnM Tryz.prog 66 [] [(eL 19 aJ.enc a0),(.fn (.func 67) [] [(.im (aE.enc a1))])] (j64 r) []:=by
 refine Af bO Tryz.func66 h ?_;refine At.MS 4 [] 0 (λp1=>([],[],[])) [1,8,9] 0 (eC N a0 a1) (λ(s2:Int)=>([(10,(j64 s2))],[],[])) _ N (λop1 g1 k s2=>?_) λp1=>?_
 ·apply lx;intro x3;refine At.c 1 ?_ ?_
  ·refine At.i hT 0 aJ.enc λe4=>?_;refine At.y 5 aEz λr5=>?_;refine At.c 3 ?_ ?_
   ·intro e;apply aBp g1 e;exact At.r 2
   ·exact λh=>At.v 2 _ h
  ·apply rt;exact At.xs 0
 ·apply rt;exact At.r 1
def pR(N:Nat)(a0 a1:Int):Option (Bool):=
 aR (cond (decide (a0 < 0)) true (decide (a0 > a1))) λx1=>
 some x1
theorem aDo{N a0 a1 r}(h:pR N a0 a1=some r):FnM Tryz.prog 159 [] [(j64 a0),(.im (j64 a1))] (eB r) []:=by
 refine Af bO Tryz.func159 h ?_;apply lx;intro x1;apply rt;exact At.r 9
def dP(N:Nat)(a0:(List Int))(a1:Int):Nat->Int->Option (Sum (Unit) (Int))
 | 0,_=>none
 | k+1,s2=>
  aR (decide (s2 < ((a0.length:Int)))) λx3=>
  cond x3 (
   aa (idx a0 s2) λe4=>
   aa (pR N e4 a1) λr5=>
   cond r5 (
    some (Sum.inr s2)) (
    dP N a0 a1 k (I64 (s2+1)))) (
   some (Sum.inl (())))
def iW(N:Nat)(a0:(List Int))(a1:Int):Option (Int):=
 aa (dP N a0 a1 N 0) λo=>kG o (λp1=>
  some (-1)) (λr=>some r)
theorem uN{N a0 a1 r}(h:iW N a0 a1=some r):FnM Tryz.prog 171 [] [(eL 1 j64 a0),(.fn (.func 159) [] [(.im (j64 a1))])] (j64 r) []:=by
 refine Af bO Tryz.func171 h ?_;refine At.MS 4 [] 0 (λp1=>([],[],[])) [0,1,7] 0 (dP N a0 a1) (λ(s2:Int)=>([(8,(j64 s2))],[],[])) _ N (λop1 g1 k s2=>?_) λp1=>?_
 ·apply lx;intro x3;refine At.c 1 ?_ ?_
  ·refine At.i hT 5 j64 λe4=>?_;refine At.y 1 aDo λr5=>?_;refine At.c 0 ?_ ?_
   ·intro e;apply aBp g1 e;exact At.r 2
   ·exact λh=>At.v 2 _ h
  ·apply rt;exact At.xs 0
 ·apply rt;exact At.r 1
def iD(N:Nat)(a0:(List Int))(a1:Int):Option (Bool):=
 aa (iW N a0 a1) λr1=>
 some (decide (r1>=0))
theorem sV{N a0 a1 r}(h:iD N a0 a1=some r):FnM Tryz.prog 158 [] [(eL 1 j64 a0),(.fn (.func 159) [] [(.im (j64 a1))])] (eB r) []:=by
 refine Af bO Tryz.func158 h ?_;refine At.y 3 uN λr1=>?_;apply rt;exact At.r 2
def aIA : Nat->Bool:=imL [2]
def nB(N:Nat)(a0:Int)(a1:(List Int)):Option (Bool):=
 aa (iD N a1 a0) λr1=>
 some r1
theorem uL{N a0 a1 r}(h:nB N a0 a1=some r):FnM Tryz.prog 106 [] [(j64 a0),(eL 1 j64 a1)] (eB r) []:=by
 refine Af aIA Tryz.func106 h ?_;refine At.o 3 (pM (x:=(.fn (.func 159) [] [(.im (j64 a0))])) (by kernel_rfl) (by kernel_rfl)) ?_;refine At.y 0 sV λr1=>?_;apply rt;exact At.r 1
def aHJ : Nat->Bool:=imL [1]
def qJ(N:Nat)(a0:aN):Option (Int):=
 aa (aa (nB N 4 ([a0.gB1])) λr2=>
 cond r2 (
  some true) (
  aa (idx a0.gA9.toList 0) λe3=>
  aa (idx a0.gA9.toList 1) λe4=>
  aa (idx a0.gA9.toList 2) λe5=>
  aa (nB N 65535 ([e3,e4,e5,a0.gD5])) λr6=>
  some r6)) λp1=>
 cond p1 (some 5) (some 0)
theorem aGP{N a0 r}(h:qJ N a0=some r):FnM Tryz.prog 70 [] [(aN.enc a0)] (j64 r) []:=by
 refine Af aHJ Tryz.func70 h ?_;refine At.J 2 0 [] 0 (λp1=>([(21,(eB p1))],[],[])) (λp1=>?_) λp1=>?_
 ·refine At.o 2 (bG hT (x:=(.sl 1 1 [(j64 a0.gB1)]))) ?_;refine At.y 0 uL λr2=>?_;refine At.s 7 1 ?_ ?_
  ·refine At.g [7] 14 ?_;apply rt;exact At.jn 0
  ·refine At.g [7] 1 ?_;refine At.b 0 (λ_ e=>dI hT (N:=3) (k:=1) j64 a0.gA9 e) λe3=>?_;refine At.g [7] 2 ?_;refine At.b 0 (λ_ e=>dI hT (N:=3) (k:=1) j64 a0.gA9 e) λe4=>?_;refine At.g [7] 2 ?_;refine At.b 0 (λ_ e=>dI hT (N:=3) (k:=1) j64 a0.gA9 e) λe5=>?_;refine At.g [7] 3 ?_;refine At.o 0 (bG hT (x:=(.sl 1 4 [(j64 e3),(j64 e4),(j64 e5),(j64 a0.gD5)]))) ?_;refine At.y 0 uL λr6=>?_;refine At.g [7] 1 ?_;apply rt;exact At.jn 0
 ·refine At.c 0 ?_ ?_
  ·apply rt;exact At.r 1
  ·apply rt;exact At.r 1
def dZ(N:Nat)(a0:(List aN)):Nat->Int->Option (Sum (Unit) (Int))
 | 0,_=>none
 | k+1,s2=>
  aR (decide (s2 < ((a0.length:Int)))) λx3=>
  cond x3 (
   aa (idx a0 s2) λe4=>
   aa (qJ N e4) λr5=>
   cond (r5 != 0) (
    some (Sum.inr r5)) (
    dZ N a0 k (I64 (s2+1)))) (
   some (Sum.inl (())))
def fG(N:Nat)(a0:(List aN)):Option (Int):=
 aa (dZ N a0 N 0) λo=>kG o (λp1=>
  some 0) (λr=>some r)
theorem vG{N a0 r}(h:fG N a0=some r):FnM Tryz.prog 69 [] [(eL 5 aN.enc a0),(.fn (.func 70) [] [])] (j64 r) []:=by
 refine Af bO Tryz.func69 h ?_;refine At.MS 4 [] 0 (λp1=>([],[],[])) [1,8,9] 0 (dZ N a0) (λ(s2:Int)=>([(10,(j64 s2))],[],[])) _ N (λop1 g1 k s2=>?_) λp1=>?_
 ·apply lx;intro x3;refine At.c 1 ?_ ?_
  ·refine At.i hT 0 aN.enc λe4=>?_;refine At.y 5 aGP λr5=>?_;refine At.c 3 ?_ ?_
   ·intro e;apply aBp g1 e;exact At.r 2
   ·exact λh=>At.v 2 _ h
  ·apply rt;exact At.xs 0
 ·apply rt;exact At.r 1
def fI(N:Nat)(a0:(List Int))(a1:Int):Nat->Int->Option (Sum (Unit) (Int))
 | 0,_=>none
 | k+1,s2=>
  aR (decide (s2 < ((a0.length:Int)))) λx3=>
  cond x3 (
   aa (idx a0 s2) λe4=>
   cond (a1==e4) (
    some (Sum.inr s2)) (
    fI N a0 a1 k (I64 (s2+1)))) (
   some (Sum.inl (())))
def rK(N:Nat)(a0:(List Int))(a1:Int):Option (Int):=
 aa (fI N a0 a1 N 0) λo=>kG o (λp1=>
  some (-1)) (λr=>some r)
theorem aCl{N a0 a1 r}(h:rK N a0 a1=some r):FnM Tryz.prog 160 [] [(eL 1 j64 a0),(j64 a1)] (j64 r) []:=by
 refine Af bO Tryz.func160 h ?_;refine At.MS 4 [] 0 (λp1=>([],[],[])) [0,1,7] 0 (fI N a0 a1) (λ(s2:Int)=>([(8,(j64 s2))],[],[])) _ N (λop1 g1 k s2=>?_) λp1=>?_
 ·apply lx;intro x3;refine At.c 1 ?_ ?_
  ·refine At.i hT 5 j64 λe4=>?_;refine At.c 2 ?_ ?_
   ·intro e;apply aBp g1 e;exact At.r 2
   ·exact λh=>At.v 2 _ h
  ·apply rt;exact At.xs 0
 ·apply rt;exact At.r 1
def lK(N:Nat)(a0:(List Int))(a1:Int):Option (Bool):=
 aa (rK N a0 a1) λr1=>
 some (decide (r1>=0))
theorem aBu{N a0 a1 r}(h:lK N a0 a1=some r):FnM Tryz.prog 107 [] [(eL 1 j64 a0),(j64 a1)] (eB r) []:=by
 refine Af bO Tryz.func107 h ?_;refine At.y 3 aCl λr1=>?_;apply rt;exact At.r 2
def aHz : Nat->Bool:=imL [1]
def lQ(N:Nat)(x5:Int)(a0:aC):Nat->Int->Option (Sum (Unit) (Int))
 | 0,_=>none
 | k+1,s7=>
  cond (decide (s7 < x5)) (
   aa (idx a0.gA6 s7) λe8=>
   aa (aa (dS 0 3) λ_=>
   aa (e8.toList[(bj 0)]?) λe11=>
   aa (dS 1 3) λ_=>
   aa (e8.toList[(bj 1)]?) λe13=>
   aa (dS 2 3) λ_=>
   aa (e8.toList[(bj 2)]?) λe15=>
   aR (decide ((dO (dO e11 e13) e15) < 0)) λx16=>
   cond x16 (
    some true) (
    aa (dS 0 3) λ_=>
    aa (e8.toList[(bj 0)]?) λe18=>
    aa (dS 1 3) λ_=>
    aa (e8.toList[(bj 1)]?) λe20=>
    aa (dS 2 3) λ_=>
    aa (e8.toList[(bj 2)]?) λe22=>
    aR (decide ((jB (jB e18 e20) e22) > 255)) λx23=>
    some x23)) λp9=>
   cond p9 (some (Sum.inr 5)) (lQ N x5 a0 k (I64 (s7+1)))) (
   some (Sum.inl (())))
def lG(N:Nat)(a0:aC):Option (Int):=
 aa (lK N ([1,2,4,8,16]) a0.gG) λr1=>
 aR ((a0.gA6.length:Int)) λx2=>
 aR (I64 (a0.gG*a0.gG)) λx3=>
 aR (cond (!r1) true (x2 != x3)) λx4=>
 cond x4 (
  some 5) (
  aR ((a0.gA6.length:Int)) λx5=>
  aa (lQ N x5 a0 N 0) λo=>kG o (λp6=>
   some 0) (λr=>some r))
theorem uX{N a0 r}(h:lG N a0=some r):FnM Tryz.prog 72 [] [(aC.enc a0)] (j64 r) []:=by
 refine Af aHz Tryz.func72 h ?_;refine At.o 2 (bG hT (x:=(.sl 1 5 [(j64 1),(j64 2),(j64 4),(j64 8),(j64 16)]))) ?_;refine At.y 2 aBu λr1=>?_;apply lx;intro x2;apply lx;intro x3;apply lx;intro x4;refine At.c 12 ?_ ?_
 ·apply rt;exact At.r 1
 ·apply lx;intro x5;refine At.MS 4 [] 0 (λp6=>([],[],[])) [22,23] 0 (lQ N x5 a0) (λ(s7:Int)=>([(24,(j64 s7))],[],[])) _ N (λop6 g6 k s7=>?_) λp6=>?_
  ·refine At.c 1 ?_ ?_
   ·refine At.i hT 0 (eA 3 1 j64) λe8=>?_;refine At.J 3 0 [22,23,24] 1 (λp9=>([(45,(eB p9))],[],[])) (λp9=>?_) λp9=>?_
    ·refine At.b 0 (λ_ e=>bF hT (k:=1) 0 [] 0 e) λu10=>?_;refine At.b 0 (λ_ e=>pV hT j64 0 e) λe11=>?_;refine At.b 0 (λ_ e=>bF hT (k:=1) 0 [] 0 e) λu12=>?_;refine At.b 0 (λ_ e=>pV hT j64 0 e) λe13=>?_;refine At.b 0 (λ_ e=>bF hT (k:=1) 0 [] 0 e) λu14=>?_;refine At.b 0 (λ_ e=>pV hT j64 0 e) λe15=>?_;refine At.o 0 (aBK (k := .i64) (i:=e11) (j:=e13) (l:=e15) (by kernel_rfl) (by kernel_rfl)) ?_;apply lx;intro x16;refine At.s 36 2 ?_ ?_
     ·refine At.g [36] 9 ?_;apply rt;exact At.jn 0
     ·refine At.b 0 (λ_ e=>bF hT (k:=1) 0 [] 0 e) λu17=>?_;refine At.b 0 (λ_ e=>pV hT j64 0 e) λe18=>?_;refine At.b 0 (λ_ e=>bF hT (k:=1) 0 [] 0 e) λu19=>?_;refine At.b 0 (λ_ e=>pV hT j64 0 e) λe20=>?_;refine At.b 0 (λ_ e=>bF hT (k:=1) 0 [] 0 e) λu21=>?_;refine At.b 0 (λ_ e=>pV hT j64 0 e) λe22=>?_;refine At.o 0 (aBh (k := .i64) (i:=e18) (j:=e20) (l:=e22) (by kernel_rfl) (by kernel_rfl)) ?_;apply lx;intro x23;refine At.g [36] 2 ?_;apply rt;exact At.jn 0
    ·refine At.c 0 ?_ ?_
     ·intro e;apply aBp g6 e;exact At.r 1
     ·exact λh=>At.v 2 _ h
   ·apply rt;exact At.xs 0
  ·apply rt;exact At.r 1
def fK(N:Nat)(a0:(List aC)):Nat->Int->Option (Sum (Unit) (Int))
 | 0,_=>none
 | k+1,s2=>
  aR (decide (s2 < ((a0.length:Int)))) λx3=>
  cond x3 (
   aa (idx a0 s2) λe4=>
   aa (lG N e4) λr5=>
   cond (r5 != 0) (
    some (Sum.inr r5)) (
    fK N a0 k (I64 (s2+1)))) (
   some (Sum.inl (())))
def iG(N:Nat)(a0:(List aC)):Option (Int):=
 aa (fK N a0 N 0) λo=>kG o (λp1=>
  some 0) (λr=>some r)
theorem yN{N a0 r}(h:iG N a0=some r):FnM Tryz.prog 71 [] [(eL 2 aC.enc a0),(.fn (.func 72) [] [])] (j64 r) []:=by
 refine Af bO Tryz.func71 h ?_;refine At.MS 4 [] 0 (λp1=>([],[],[])) [1,8,9] 0 (fK N a0) (λ(s2:Int)=>([(10,(j64 s2))],[],[])) _ N (λop1 g1 k s2=>?_) λp1=>?_
 ·apply lx;intro x3;refine At.c 1 ?_ ?_
  ·refine At.i hT 0 aC.enc λe4=>?_;refine At.y 5 uX λr5=>?_;refine At.c 3 ?_ ?_
   ·intro e;apply aBp g1 e;exact At.r 2
   ·exact λh=>At.v 2 _ h
  ·apply rt;exact At.xs 0
 ·apply rt;exact At.r 1
def aHx : Nat->Bool:=imL [1]
def pG(N:Nat)(a0:aB):Option (Bool):=
 aa (aR (decide ((jB (jB a0.gX a0.gY) a0.gZ) > 4096)) λx2=>
 cond x2 (
  some true) (
  aR (decide ((dO (dO a0.gX a0.gY) a0.gZ) < (-4096))) λx3=>
  some x3)) λp1=>
 some p1
theorem zQ{N a0 r}(h:pG N a0=some r):FnM Tryz.prog 108 [] [(aB.enc a0)] (eB r) []:=by
 refine Af aHx Tryz.func108 h ?_;refine At.J 2 0 [] 0 (λp1=>([(2,(eB p1))],[],[])) (λp1=>?_) λp1=>?_
 ·refine At.o 6 (aBh (k := .i64) (i:=a0.gX) (j:=a0.gY) (l:=a0.gZ) (by kernel_rfl) (by kernel_rfl)) ?_;apply lx;intro x2;refine At.s 11 2 ?_ ?_
  ·refine At.g [11] 10 ?_;apply rt;exact At.jn 0
  ·refine At.g [11] 6 ?_;refine At.o 0 (aBK (k := .i64) (i:=a0.gX) (j:=a0.gY) (l:=a0.gZ) (by kernel_rfl) (by kernel_rfl)) ?_;apply lx;intro x3;refine At.g [11] 3 ?_;apply rt;exact At.jn 0
 ·apply rt;exact At.r 0
def aKZ : Nat->Bool:=imL [1]
def sH(N:Nat)(a0:aQ):Option (Int):=
 aa (aa (nB N 2 ([a0.gB1])) λr2=>
 cond r2 (
  some true) (
  aa (xR a0.gA9.toList 0 3) λs3=>
  aa (nB N 1048576 s3) λr4=>
  some r4)) λp1=>
 cond p1 (
  some 5) (
  aa (aa (pG N a0.gAt) λr6=>
  cond r6 (
   some true) (
   aa (pG N a0.gU) λr7=>
   cond r7 (
    some true) (
    aa (pG N a0.gV) λr8=>
    some r8))) λp5=>
  cond p5 (
   some 8) (
   aa (cond (a0.gB1==2) (
    cond (!(aB.eq a0.gAt (aB.mk 0 0 0))) (
     some (Sum.inr 5)) (
     aa (aR (!(aB.eq a0.gU (aB.mk 0 0 0))) λx11=>
     cond x11 (
      some true) (
      some (!(aB.eq a0.gV (aB.mk 0 0 0))))) λp10=>
     cond p10 (some (Sum.inr 5)) (some (Sum.inl (()))))) (
    cond (a0.gB1==0) (
     aa (aR (!(aB.eq a0.gU (aB.mk 0 0 0))) λx13=>
     cond x13 (
      some true) (
      some (!(aB.eq a0.gV (aB.mk 0 0 0))))) λp12=>
     cond p12 (some (Sum.inr 5)) (some (Sum.inl (())))) (
     some (Sum.inl (()))))) λo=>kG o (λp9=>
    some 0) (λr=>some r)))
theorem aEA{N a0 r}(h:sH N a0=some r):FnM Tryz.prog 74 [] [(aQ.enc a0)] (j64 r) []:=by
 refine Af aKZ Tryz.func74 h ?_;refine At.J 6 0 [1,3,4] 1 (λp1=>([(6,(eB p1))],[],[])) (λp1=>?_) λp1=>?_
 ·refine At.o 2 (bG hT (x:=(.sl 1 1 [(j64 a0.gB1)]))) ?_;refine At.y 0 uL λr2=>?_;refine At.s 11 1 ?_ ?_
  ·refine At.g [11] 5 ?_;apply rt;exact At.jn 0
  ·refine At.g [11] 1 ?_;refine At.b 0 (λ_ e=>aCG hT (N:=3) (k:=1) j64 a0.gA9 e) λs3=>?_;refine At.y 0 uL λr4=>?_;refine At.g [11] 2 ?_;apply rt;exact At.jn 0
 ·refine At.c 0 ?_ ?_
  ·apply rt;exact At.r 1
  ·refine At.J 0 0 [1,4] 1 (λp5=>([(16,(eB p5))],[],[])) (λp5=>?_) λp5=>?_
   ·refine At.y 3 zQ λr6=>?_;refine At.s 21 1 ?_ ?_
    ·refine At.g [21,27] 12 ?_;apply rt;exact At.jn 0
    ·refine At.g [21] 3 ?_;refine At.y 0 zQ λr7=>?_;refine At.g [21] 2 ?_;refine At.s 27 0 ?_ ?_
     ·refine At.g [27] 6 ?_;apply rt;exact At.jn 0
     ·refine At.g [27] 3 ?_;refine At.y 0 zQ λr8=>?_;refine At.g [27] 2 ?_;apply rt;exact At.jn 0
   ·refine At.c 0 ?_ ?_
    ·apply rt;exact At.r 1
    ·refine At.JS 0 1 [] 1 (λp9=>([],[],[])) (λop9 g9=>?_) λp9=>?_
     ·refine At.c 4 ?_ ?_
      ·refine At.o 3 (aA6 aC8 (a0.gAt:aB) (aB.mk 0 0 0:aB) (by kernel_rfl) (by kernel_rfl) (λ_=>rfl) (λ_=>rfl) (by kernel_rfl) (by kernel_rfl)) ?_;refine At.c 0 ?_ ?_
       ·intro e;apply aBp g9 e;exact At.r 1
       ·refine At.J 0 0 [] 1 (λp10=>([(52,(eB p10))],[],[])) (λp10=>?_) λp10=>?_
        ·refine At.o 3 (aA6 aC8 (a0.gU:aB) (aB.mk 0 0 0:aB) (by kernel_rfl) (by kernel_rfl) (λ_=>rfl) (λ_=>rfl) (by kernel_rfl) (by kernel_rfl)) ?_;apply lx;intro x11;refine At.s 47 1 ?_ ?_
         ·refine At.g [47] 5 ?_;apply rt;exact At.jn 0
         ·refine At.g [47] 3 ?_;refine At.o 0 (aA6 aC8 (a0.gV:aB) (aB.mk 0 0 0:aB) (by kernel_rfl) (by kernel_rfl) (λ_=>rfl) (λ_=>rfl) (by kernel_rfl) (by kernel_rfl)) ?_;refine At.g [47] 1 ?_;apply rt;exact At.jn 0
        ·refine At.c 0 ?_ ?_
         ·intro e;apply aBp g9 e;exact At.r 1
         ·apply rt;exact At.jsn 0
      ·refine At.c 2 ?_ ?_
       ·refine At.J 0 0 [] 1 (λp12=>([(52,(eB p12))],[],[])) (λp12=>?_) λp12=>?_
        ·refine At.o 3 (aA6 aC8 (a0.gU:aB) (aB.mk 0 0 0:aB) (by kernel_rfl) (by kernel_rfl) (λ_=>rfl) (λ_=>rfl) (by kernel_rfl) (by kernel_rfl)) ?_;apply lx;intro x13;refine At.s 47 1 ?_ ?_
         ·refine At.g [47] 5 ?_;apply rt;exact At.jn 0
         ·refine At.g [47] 3 ?_;refine At.o 0 (aA6 aC8 (a0.gV:aB) (aB.mk 0 0 0:aB) (by kernel_rfl) (by kernel_rfl) (λ_=>rfl) (λ_=>rfl) (by kernel_rfl) (by kernel_rfl)) ?_;refine At.g [47] 1 ?_;apply rt;exact At.jn 0
        ·refine At.c 0 ?_ ?_
         ·intro e;apply aBp g9 e;exact At.r 1
         ·apply rt;exact At.jsn 0
       ·apply rt;exact At.jsn 0
     ·apply rt;exact At.r 1
def hP(N:Nat)(a0:(List aQ)):Nat->Int->Option (Sum (Unit) (Int))
 | 0,_=>none
 | k+1,s2=>
  aR (decide (s2 < ((a0.length:Int)))) λx3=>
  cond x3 (
   aa (idx a0 s2) λe4=>
   aa (sH N e4) λr5=>
   cond (r5 != 0) (
    some (Sum.inr r5)) (
    hP N a0 k (I64 (s2+1)))) (
   some (Sum.inl (())))
def jC(N:Nat)(a0:(List aQ)):Option (Int):=
 aa (hP N a0 N 0) λo=>kG o (λp1=>
  some 0) (λr=>some r)
theorem zC{N a0 r}(h:jC N a0=some r):FnM Tryz.prog 73 [] [(eL 13 aQ.enc a0),(.fn (.func 74) [] [])] (j64 r) []:=by
 refine Af bO Tryz.func73 h ?_;refine At.MS 4 [] 0 (λp1=>([],[],[])) [1,8,9] 0 (hP N a0) (λ(s2:Int)=>([(10,(j64 s2))],[],[])) _ N (λop1 g1 k s2=>?_) λp1=>?_
 ·apply lx;intro x3;refine At.c 1 ?_ ?_
  ·refine At.i hT 0 aQ.enc λe4=>?_;refine At.y 5 aEA λr5=>?_;refine At.c 3 ?_ ?_
   ·intro e;apply aBp g1 e;exact At.r 2
   ·exact λh=>At.v 2 _ h
  ·apply rt;exact At.xs 0
 ·apply rt;exact At.r 1
def aKU : Nat->Bool:=imL [1]
def kI(N:Nat)(a0:aE):Option (Int):=
 aR ((a0.gS.length:Int)) λx1=>
 aR (x1 != ((a0.gJ.length:Int))) λx2=>
 cond x2 (
  some 5) (
  aa (dK N a0.gL a0) λr3=>
  cond (r3 != 0) (
   some r3) (
   aa (fG N a0.gA4) λr4=>
   cond (r4 != 0) (
    some r4) (
    aa (iG N a0.gQ) λr5=>
    cond (r5 != 0) (
     some r5) (
     aa (jC N a0.gI) λr6=>
     some r6))))
theorem aIr{N a0 r}(h:kI N a0=some r):FnM Tryz.prog 30 [] [(aE.enc a0)] (j64 r) []:=by
 refine Af aKU Tryz.func30 h ?_;apply lx;intro x1;apply lx;intro x2;refine At.c 9 ?_ ?_
 ·apply rt;exact At.r 1
 ·refine At.o 2 (pM (x:=(.fn (.func 67) [] [(.im (aE.enc a0))])) (by kernel_rfl) (by kernel_rfl)) ?_;refine At.y 0 zM λr3=>?_;refine At.c 3 ?_ ?_
  ·apply rt;exact At.r 2
  ·refine At.y 2 vG λr4=>?_;refine At.c 3 ?_ ?_
   ·apply rt;exact At.r 2
   ·refine At.y 2 yN λr5=>?_;refine At.c 3 ?_ ?_
    ·apply rt;exact At.r 2
    ·refine At.y 2 zC λr6=>?_;apply rt;exact At.r 1
def aOt : Nat->Bool:=imL [1]
def zE(N:Nat)(a0:aB):Option (Bool):=
 aa (aR (!(aB.eq a0 (aB.mk 0 0 0))) λx2=>
 cond x2 (
  aR (decide ((jB (jB a0.gX a0.gY) a0.gZ)<=16384)) λx3=>
  cond x3 (
   aR (decide ((dO (dO a0.gX a0.gY) a0.gZ)>=(-16384))) λx4=>
   some x4) (
   some false)) (
  some false)) λp1=>
 some p1
theorem aDy{N a0 r}(h:zE N a0=some r):FnM Tryz.prog 110 [] [(aB.enc a0)] (eB r) []:=by
 refine Af aOt Tryz.func110 h ?_;refine At.J 2 0 [] 0 (λp1=>([(2,(eB p1))],[],[])) (λp1=>?_) λp1=>?_
 ·refine At.o 2 (aA6 aC8 (a0:aB) (aB.mk 0 0 0:aB) (by kernel_rfl) (by kernel_rfl) (λ_=>rfl) (λ_=>rfl) (by kernel_rfl) (by kernel_rfl)) ?_;apply lx;intro x2;refine At.s 6 1 ?_ ?_
  ·refine At.g [6] 6 ?_;refine At.o 0 (aBh (k := .i64) (i:=a0.gX) (j:=a0.gY) (l:=a0.gZ) (by kernel_rfl) (by kernel_rfl)) ?_;apply lx;intro x3;refine At.g [6] 3 ?_;refine At.s 16 0 ?_ ?_
   ·refine At.g [16] 6 ?_;refine At.o 0 (aBK (k := .i64) (i:=a0.gX) (j:=a0.gY) (l:=a0.gZ) (by kernel_rfl) (by kernel_rfl)) ?_;apply lx;intro x4;refine At.g [16] 3 ?_;apply rt;exact At.jn 0
   ·refine At.g [16] 10 ?_;apply rt;exact At.jn 0
  ·refine At.g [6,16] 20 ?_;apply rt;exact At.jn 0
 ·apply rt;exact At.r 0
def oR(N:Nat)(a0 a1 a2:Int):Option (Bool):=
 aR (cond (decide (a0>=a1)) (decide (a0<=a2)) false) λx1=>
 some x1
theorem wD{N a0 a1 a2 r}(h:oR N a0 a1 a2=some r):FnM Tryz.prog 109 [] [(j64 a0),(j64 a1),(j64 a2)] (eB r) []:=by
 refine Af bO Tryz.func109 h ?_;apply lx;intro x1;apply rt;exact At.r 10
def aLn : Nat->Bool:=imL [3]
def yE(N:Nat)(a0:bN)(a1 a2:Int):Option (Int):=
 aa (aR (decide ((jB (jB a0.gA7.gX a0.gA7.gY) a0.gA7.gZ) > 32768)) λx2=>
 cond x2 (
  some true) (
  aR (decide ((dO (dO a0.gA7.gX a0.gA7.gY) a0.gA7.gZ) < (-32768))) λx3=>
  some x3)) λp1=>
 cond p1 (
  some 8) (
  aa (aa (zE N a0.gB6) λr5=>
  cond (!r5) (
   some true) (
   aa (zE N a0.gUp) λr6=>
   cond (!r6) (
    some true) (
    aa (zE N a0.gE2) λr7=>
    some (!r7)))) λp4=>
  cond p4 (
   some 2) (
   aa (aa (oR N a0.gC6 0 1024) λr9=>
   cond (!r9) (
    some true) (
    aa (oR N a0.gD1 1 32768) λr10=>
    cond (!r10) (
     some true) (
     aa (oR N a1 1 64) λr11=>
     cond (!r11) (
      some true) (
      aa (oR N a2 1 64) λr12=>
      some (!r12))))) λp8=>
   cond p8 (some 2) (some 0)))
theorem aE2{N a0 a1 a2 r}(h:yE N a0 a1 a2=some r):FnM Tryz.prog 75 [] [(bN.enc a0),(j64 a1),(j64 a2)] (j64 r) []:=by
 refine Af aLn Tryz.func75 h ?_;refine At.J 7 0 [1,2,3,8] 1 (λp1=>([(11,(eB p1))],[],[])) (λp1=>?_) λp1=>?_
 ·refine At.o 6 (aBh (k := .i64) (i:=a0.gA7.gX) (j:=a0.gA7.gY) (l:=a0.gA7.gZ) (by kernel_rfl) (by kernel_rfl)) ?_;apply lx;intro x2;refine At.s 20 2 ?_ ?_
  ·refine At.g [20] 10 ?_;apply rt;exact At.jn 0
  ·refine At.g [20] 6 ?_;refine At.o 0 (aBK (k := .i64) (i:=a0.gA7.gX) (j:=a0.gA7.gY) (l:=a0.gA7.gZ) (by kernel_rfl) (by kernel_rfl)) ?_;apply lx;intro x3;refine At.g [20] 3 ?_;apply rt;exact At.jn 0
 ·refine At.c 0 ?_ ?_
  ·apply rt;exact At.r 1
  ·refine At.J 0 0 [1,2,3,8] 1 (λp4=>([(30,(eB p4))],[],[])) (λp4=>?_) λp4=>?_
   ·refine At.y 2 aDy λr5=>?_;refine At.s 35 2 ?_ ?_
    ·refine At.g [35,41] 12 ?_;apply rt;exact At.jn 0
    ·refine At.g [35] 2 ?_;refine At.y 0 aDy λr6=>?_;refine At.g [35] 3 ?_;refine At.s 41 0 ?_ ?_
     ·refine At.g [41] 6 ?_;apply rt;exact At.jn 0
     ·refine At.g [41] 2 ?_;refine At.y 0 aDy λr7=>?_;refine At.g [41] 3 ?_;apply rt;exact At.jn 0
   ·refine At.c 0 ?_ ?_
    ·apply rt;exact At.r 1
    ·refine At.J 0 0 [] 1 (λp8=>([(47,(eB p8))],[],[])) (λp8=>?_) λp8=>?_
     ·refine At.y 3 wD λr9=>?_;refine At.s 53 2 ?_ ?_
      ·refine At.g [53,60,66] 19 ?_;apply rt;exact At.jn 0
      ·refine At.g [53] 3 ?_;refine At.y 0 wD λr10=>?_;refine At.g [53] 3 ?_;refine At.s 60 0 ?_ ?_
       ·refine At.g [60,66] 12 ?_;apply rt;exact At.jn 0
       ·refine At.g [60] 2 ?_;refine At.y 0 wD λr11=>?_;refine At.g [60] 3 ?_;refine At.s 66 0 ?_ ?_
        ·refine At.g [66] 6 ?_;apply rt;exact At.jn 0
        ·refine At.g [66] 2 ?_;refine At.y 0 wD λr12=>?_;refine At.g [66] 3 ?_;apply rt;exact At.jn 0
     ·refine At.c 0 ?_ ?_
      ·apply rt;exact At.r 1
      ·apply rt;exact At.r 1
def aN0 : Nat->Bool:=imL [1]
def wZ(N:Nat)(a0:aG):Option (Int):=
 aa (yE N a0.gD7 a0.gW a0.gH) λr1=>
 cond (r1 != 0) (
  some r1) (
  aR (decide (a0.gA8 < 1)) λx2=>
  aR (decide (a0.gA8 > 16)) λx3=>
  aR (cond (cond x2 true x3) true (decide (a0.gK < 0))) λx4=>
  aR (cond x4 true (decide (a0.gK > 8))) λx5=>
  aR (cond x5 true (decide (a0.gM < 0))) λx6=>
  aR (cond x6 true (decide (a0.gM > 2))) λx7=>
  cond x7 (some 2) (some 0))
theorem aMT{N a0 r}(h:wZ N a0=some r):FnM Tryz.prog 31 [] [(aG.enc a0)] (j64 r) []:=by
 refine Af aN0 Tryz.func31 h ?_;refine At.y 8 aE2 λr1=>?_;refine At.c 3 ?_ ?_
 ·apply rt;exact At.r 2
 ·apply lx;intro x2;apply lx;intro x3;apply lx;intro x4;apply lx;intro x5;apply lx;intro x6;apply lx;intro x7;refine At.c 28 ?_ ?_
  ·apply rt;exact At.r 1
  ·apply rt;exact At.r 1
def lH(N:Nat)(a0:Int):Option (Int×Int):=
 cond (a0==0) (
  some ((16,4))) (
  cond (a0==1) (
   some ((64,4))) (
   cond (a0==2) (some ((256,8))) (some ((0,0)))))
theorem uK{N a0 r}(h:lH N a0=some r):FnM Tryz.prog 35 [] [(j64 a0)] (.tup [(j64 r.1),(j64 r.2)]) []:=by
 refine Af bO Tryz.func35 h ?_;refine At.c 5 ?_ ?_
 ·apply rt;exact At.r 2
 ·refine At.c 2 ?_ ?_
  ·apply rt;exact At.r 2
  ·refine At.c 2 ?_ ?_
   ·apply rt;exact At.r 2
   ·apply rt;exact At.r 2
def aJO : Nat->Bool:=imL [2]
def rE(N:Nat)(a0:aE)(a1:Int):Option (Int):=
 aa (lH N a1) λr1=>
 aR ((a0.gL.length:Int)) λx2=>
 aR ((a0.gI.length:Int)) λx3=>
 aR (cond (decide (x2 > r1.1)) true (decide (x3 > r1.2))) λx4=>
 cond x4 (some 15) (some 0)
theorem aH3{N a0 a1 r}(h:rE N a0 a1=some r):FnM Tryz.prog 32 [] [(aE.enc a0),(j64 a1)] (j64 r) []:=by
 refine Af aJO Tryz.func32 h ?_;refine At.y 3 uK λr1=>?_;apply lx;intro x2;apply lx;intro x3;apply lx;intro x4;refine At.c 17 ?_ ?_
 ·apply rt;exact At.r 1
 ·apply rt;exact At.r 1
def xJ(N:Nat)(a0:Int):Option (Int×Bool):=
 cond (decide (a0 < 0)) (some ((U64 (0 - (U64 a0)),true))) (some ((U64 a0,false)))
theorem aDE{N a0 r}(h:xJ N a0=some r):FnM Tryz.prog 143 [] [(j64 a0)] (.tup [(k64 r.1),(eB r.2)]) []:=by
 refine Af bO Tryz.func143 h ?_;refine At.c 4 ?_ ?_
 ·apply rt;exact At.r 5
 ·apply rt;exact At.r 4
def mO(N:Nat)(a0 a1:Int):Option (Int×Int):=
 aR (kB .u64 a0 4294967295) λx1=>
 aR (kB .u64 a1 4294967295) λx2=>
 aR (U64 ((shr .u64 a0 32)*x2)) λx3=>
 aR (shr .u64 (U64 (x1*x2)) 32) λx4=>
 aR (kB .u64 (U64 (x3+x4)) 4294967295) λx5=>
 aR (shr .u64 (U64 (x3+x4)) 32) λx6=>
 aR (U64 (x1*(shr .u64 a1 32))) λx7=>
 aR (U64 ((shr .u64 a0 32)*(shr .u64 a1 32))) λx8=>
 aR (shr .u64 (U64 (x5+x7)) 32) λx9=>
 aR (U64 ((U64 (x8+x6))+x9)) λx10=>
 some ((x10,U64 (a0*a1)))
theorem aBn{N a0 a1 r}(h:mO N a0 a1=some r):FnM Tryz.prog 147 [] [(k64 a0),(k64 a1)] (.tup [(k64 r.1),(k64 r.2)]) []:=by
 refine Af bO Tryz.func147 h ?_;apply lx;intro x1;apply lx;intro x2;apply lx;intro x3;apply lx;intro x4;apply lx;intro x5;apply lx;intro x6;apply lx;intro x7;apply lx;intro x8;apply lx;intro x9;apply lx;intro x10;apply rt;exact At.r 50
theorem aQI{x y c:Int}{r:Int×Int}(h:aEl x y c=some r):aJa Tryz.prog 186 [.int .u64 x,.int .u64 y,.int .u64 c] (.tuple #[.int .u64 r.1,.int .u64 r.2]):=
 aRJ Tryz.func186 (by kernel_rfl) (by kernel_rfl) (by kernel_rfl) (by kernel_rfl) h
def sM(N:Nat)(a0 a1:Int):Option (Int×Int):=
 aa (aEl 0 a1 0) λr1=>
 aa (aEl 0 a0 r1.2) λr2=>
 some ((r2.1,r1.1))
theorem aD5{N a0 a1 r}(h:sM N a0 a1=some r):FnM Tryz.prog 142 [] [(k64 a0),(k64 a1)] (.tup [(k64 r.1),(k64 r.2)]) []:=by
 refine Af bO Tryz.func142 h ?_;refine At.b 3 (λ_ e=>aF4 (aQI e) (λ_=>aFq)) λr1=>?_;refine At.b 7 (λ_ e=>aF4 (aQI e) (λ_=>aFq)) λr2=>?_;apply rt;exact At.r 8
def mD(N:Nat)(a0 a1:Int)(a2:Bool):Option (aT×Bool):=
 aa (cond a2 (
  aa (sM N a0 a1) λr2=>
  some ((r2.1,r2.2))) (
  some ((a0,a1)))) λp1=>
 aR (decide ((I64 p1.1) < 0)) λx3=>
 aR ((bor .u64 p1.1 p1.2)==0) λx4=>
 aR (cond (x3==a2) true x4) λx5=>
 some ((aT.mk (I64 p1.1) p1.2,x5))
theorem aDw{N a0 a1 a2 r}(h:mD N a0 a1 a2=some r):FnM Tryz.prog 146 [] [(k64 a0),(k64 a1),(eB a2)] (.tup [(aT.enc r.1),(eB r.2)]) []:=by
 refine Af bO Tryz.func146 h ?_;refine At.J 2 1 [2,6] 1 (λp1=>([(0,(k64 p1.1)),(1,(k64 p1.2))],[],[])) (λp1=>?_) λp1=>?_
 ·refine At.c 1 ?_ ?_
  ·refine At.y 2 aD5 λr2=>?_;apply rt;exact At.jn 5
  ·apply rt;exact At.jn 0
 ·apply lx;intro x3;apply lx;intro x4;apply lx;intro x5;apply rt;exact At.r 20
def iX(N:Nat)(a0 a1:Int):Option (aT):=
 aa (xJ N a0) λr1=>
 aa (xJ N a1) λr2=>
 aa (mO N r1.1 r2.1) λr3=>
 aa (mD N r3.1 r3.2 (!(r1.2==r2.2))) λr4=>
 some r4.1
theorem lE{N a0 a1 r}(h:iX N a0 a1=some r):FnM Tryz.prog 96 [] [(j64 a0),(j64 a1)] (aT.enc r) []:=by
 refine Af bO Tryz.func96 h ?_;refine At.y 2 aDE λr1=>?_;refine At.y 6 aDE λr2=>?_;refine At.y 7 aBn λr3=>?_;refine At.y 10 aDw λr4=>?_;apply rt;exact At.r 8
def aOu : Nat->Bool:=imL [1]
def rT(N:Nat)(a0:aT):Option (Int×Bool):=
 aR (shr .i64 (I64 a0.gLo) 63) λx1=>
 cond (a0.gHi != x1) (some ((0,false))) (some ((I64 a0.gLo,true)))
theorem aAQ{N a0 r}(h:rT N a0=some r):FnM Tryz.prog 148 [] [(aT.enc a0)] (.tup [(j64 r.1),(eB r.2)]) []:=by
 refine Af aOu Tryz.func148 h ?_;apply lx;intro x1;refine At.c 12 ?_ ?_
 ·apply rt;exact At.r 2
 ·apply rt;exact At.r 3
def aOV : Nat->Bool:=imL [1]
def wL(N:Nat)(a0:aT):Option (Int):=
 aa (rT N a0) λr1=>
 cond r1.2 (
  some r1.1) (
  cond (decide (a0.gHi < 0)) (some (-9223372036854775808)) (some 9223372036854775807))
theorem aD3{N a0 r}(h:wL N a0=some r):FnM Tryz.prog 97 [] [(aT.enc a0)] (j64 r) []:=by
 refine Af aOV Tryz.func97 h ?_;refine At.y 3 aAQ λr1=>?_;refine At.c 6 ?_ ?_
 ·apply rt;exact At.r 2
 ·refine At.c 3 ?_ ?_
  ·apply rt;exact At.r 1
  ·apply rt;exact At.r 1
def iV(N:Nat)(a0:Int):Option (Int):=
 aa (iX N a0 4294967296) λr1=>
 aa (wL N r1) λr2=>
 some r2
theorem iT{N a0 r}(h:iV N a0=some r):FnM Tryz.prog 54 [] [(j64 a0)] (j64 r) []:=by
 refine Af bO Tryz.func54 h ?_;refine At.y 2 lE λr1=>?_;refine At.y 0 aD3 λr2=>?_;apply rt;exact At.r 1
def tK(N:Nat)(a0:Int):Option (Int):=
 aa (aR (decide (a0>=4294967296)) λx2=>
 cond x2 (some ((shr .u64 a0 32,32))) (some ((a0,0)))) λp1=>
 aa (cond (decide (p1.1>=65536)) (
  some ((shr .u64 p1.1 16,I64 (p1.2+16)))) (
  some ((p1.1,p1.2)))) λp3=>
 aa (cond (decide (p3.1>=256)) (some ((shr .u64 p3.1 8,I64 (p3.2+8)))) (some ((p3.1,p3.2)))) λp4=>
 aa (idx aQM.data.toList (U8 p4.1)) λc5=>
 aR (I64 ((UInt8.toNat c5:Int))) λx6=>
 some (I64 (p4.2+x6))
theorem aFe{N a0 r}(h:tK N a0=some r):FnM Tryz.prog 205 [] [(k64 a0)] (j64 r) []:=by
 refine Af bO Tryz.func205 h ?_;refine At.J 1 1 [] 0 (λp1=>([(0,(k64 p1.1)),(2,(j64 p1.2))],[],[])) (λp1=>?_) λp1=>?_
 ·apply lx;intro x2;refine At.c 2 ?_ ?_
  ·apply rt;exact At.jn 4
  ·apply rt;exact At.jn 0
 ·refine At.J 0 1 [] 0 (λp3=>([(0,(k64 p3.1)),(2,(j64 p3.2))],[],[])) (λp3=>?_) λp3=>?_
  ·refine At.c 2 ?_ ?_
   ·apply rt;exact At.jn 6
   ·apply rt;exact At.jn 0
  ·refine At.J 0 1 [] 0 (λp4=>([(0,(k64 p4.1)),(2,(j64 p4.2))],[],[])) (λp4=>?_) λp4=>?_
   ·refine At.c 2 ?_ ?_
    ·apply rt;exact At.jn 6
    ·apply rt;exact At.jn 0
   ·refine At.b 3 (λ_ e=>aUG hT e (by kernel_rfl) (by kernel_rfl)) λc5=>?_;apply lx;intro x6;apply rt;exact At.r 3
def oO(N:Nat)(a0:Int):Option (Int):=
 aa (tK N a0) λr1=>
 some (I64 (64 - r1))
theorem aAo{N a0 r}(h:oO N a0=some r):FnM Tryz.prog 187 [] [(k64 a0)] (j64 r) []:=by
 refine Af bO Tryz.func187 h ?_;refine At.y 2 aFe λr1=>?_;apply rt;exact At.r 2
def mG(N:Nat)(x5:Int):Nat->Int->Int->Int->Int->Int->Option (Int×Int×Int×Int)
 | 0,_,_,_,_,_=>none
 | k+1,s14,s15,s16,s17,s18=>
  aR (decide (s17>=4294967296)) λx19=>
  aR (U64 ((U64 (4294967296*s18))+s16)) λx20=>
  aR (decide ((U64 (s17*x5)) > x20)) λx21=>
  cond (cond x19 true x21) (
   aR (decide ((U64 (s18+s14))>=4294967296)) λx22=>
   cond x22 (
    some ((s14,s15,s16,U64 (s17 - 1)))) (
    mG N x5 k s14 s15 s16 (U64 (s17 - 1)) (U64 (s18+s14)))) (
   some ((s14,s15,s16,s17)))
def mE(N:Nat)(x9 x5:Int)(p13:Int×Int×Int×Int):Nat->Int->Int->Option (Int)
 | 0,_,_=>none
 | k+1,s28,s29=>
  aR (decide (s29>=4294967296)) λx30=>
  aR (U64 ((U64 (4294967296*s28))+x9)) λx31=>
  aR (decide ((U64 (s29*x5)) > x31)) λx32=>
  cond (cond x30 true x32) (
   aR (decide ((U64 (s28+p13.1))>=4294967296)) λx33=>
   cond x33 (
    some (U64 (s29 - 1))) (
    mE N x9 x5 p13 k (U64 (s28+p13.1)) (U64 (s29 - 1)))) (
   some s29)
def kS(N:Nat)(a0 a1 a2:Int):Option (Int×Int):=
 cond (a2==0) (
  none) (
  cond (decide (a2<=a0)) (
   none) (
   cond (a0==0) (
    aa (aDp .u64 a1 a2) λx1=>
    aa (aDq .u64 a1 a2) λx2=>
    some ((x1,x2))) (
    aa (oO N a2) λr3=>
    aa (aMC .u64 a2 (U64 r3)) λx4=>
    aR (kB .u64 x4 4294967295) λx5=>
    aa (aMC .u64 a0 (U64 r3)) λx6=>
    aa (aHy .u64 a1 (U64 (64 - (U64 r3)))) λx7=>
    aa (aMC .u64 a1 (U64 r3)) λx8=>
    aR (kB .u64 x8 4294967295) λx9=>
    aa (aDp .u64 (bor .u64 x6 x7) (shr .u64 x4 32)) λx10=>
    aR (U64 (x10*(shr .u64 x4 32))) λx11=>
    aR (U64 ((bor .u64 x6 x7) - x11)) λx12=>
    aa (mG N x5 N (shr .u64 x4 32) (bor .u64 x6 x7) (shr .u64 x8 32) x10 x12) λp13=>
    aR (U64 (p13.2.1*4294967296)) λx23=>
    aR (U64 ((U64 (x23+p13.2.2.1)) - (U64 (p13.2.2.2*x4)))) λx24=>
    aa (aDp .u64 x24 p13.1) λx25=>
    aR (U64 (x24 - (U64 (x25*p13.1)))) λx26=>
    aa (mE N x9 x5 p13 N x26 x25) λp27=>
    aR (U64 (p13.2.2.2*4294967296)) λx34=>
    aR (U64 ((U64 (x24*4294967296))+x9)) λx35=>
    aR (U64 (x35 - (U64 (p27*x4)))) λx36=>
    aa (aHy .u64 x36 (U64 r3)) λx37=>
    some ((U64 (x34+p27),x37)))))
theorem aBI{N a0 a1 a2 r}(h:kS N a0 a1 a2=some r):FnM Tryz.prog 144 [] [(k64 a0),(k64 a1),(k64 a2)] (.tup [(k64 r.1),(k64 r.2)]) []:=by
 refine Af bO Tryz.func144 h ?_;refine At.c 4 ?_ ?_
 ·exact nn
 ·refine At.c 3 ?_ ?_
  ·exact nn
  ·refine At.c 2 ?_ ?_
   ·refine At.D 0 [] ?_;refine DD.b 2 (λe _=>yR hT e (by kernel_rfl) (by kernel_rfl)) λx1=>?_;refine DD.b 2 (λe _=>aBA hT e (by kernel_rfl) (by kernel_rfl)) λx2=>?_;refine De 2 ?_;apply rt;exact At.r 0
   ·refine At.y 1 aAo λr3=>?_;refine At.b 4 (λ_ e=>aEh hT (k' := .u64) e (by kernel_rfl) (by kernel_rfl)) λx4=>?_;apply lx;intro x5;refine At.b 9 (λ_ e=>aEh hT (k' := .u64) e (by kernel_rfl) (by kernel_rfl)) λx6=>?_;refine At.b 3 (λ_ e=>aAn hT (k' := .u64) e (by kernel_rfl) (by kernel_rfl)) λx7=>?_;refine At.b 4 (λ_ e=>aEh hT (k' := .u64) e (by kernel_rfl) (by kernel_rfl)) λx8=>?_;apply lx;intro x9;refine At.b 9 (λ_ e=>yR hT e (by kernel_rfl) (by kernel_rfl)) λx10=>?_;apply lx;intro x11;apply lx;intro x12;refine At.M 7 [2,8,10,14] 0 (λp13=>([(9,(k64 p13.1)),(11,(k64 p13.2.1)),(13,(k64 p13.2.2.1)),(15,(k64 p13.2.2.2))],[],[])) [2,8,10,14] 0 (CU5 (mG N x5)) (cu5 λ(s14:Int) (s15:Int) (s16:Int) (s17:Int) (s18:Int)=>([(9,(k64 s14)),(11,(k64 s15)),(13,(k64 s16)),(15,(k64 s17)),(16,(k64 s18))],[],[])) (_,_,_,_,_) N (λp13 k=>un5 λs14 s15 s16 s17 s18=>?_) λp13=>?_
    ·apply lx;intro x19;apply lx;intro x20;apply lx;intro x21;refine At.c 12 ?_ ?_
     ·apply lx;intro x22;refine At.c 9 ?_ ?_
      ·apply rt;exact At.x 0
      ·exact λh=>At.v 0 (_,_,_,_,_) h
     ·apply rt;exact At.x 0
    ·apply lx;intro x23;apply lx;intro x24;refine At.b 11 (λ_ e=>yR hT e (by kernel_rfl) (by kernel_rfl)) λx25=>?_;apply lx;intro x26;refine At.M 7 [2,8,14,15,17] 0 (λp27=>([(18,(k64 p27))],[],[])) [2,8,9,10,14,15,17] 0 (CU2 (mE N x9 x5 p13)) (cu2 λ(s28:Int) (s29:Int)=>([(16,(k64 s28)),(18,(k64 s29))],[],[])) (_,_) N (λp27 k=>un2 λs28 s29=>?_) λp27=>?_
     ·apply lx;intro x30;apply lx;intro x31;apply lx;intro x32;refine At.c 12 ?_ ?_
      ·apply lx;intro x33;refine At.c 9 ?_ ?_
       ·apply rt;exact At.x 0
       ·exact λh=>At.v 0 (_,_) h
      ·apply rt;exact At.x 0
     ·apply lx;intro x34;apply lx;intro x35;apply lx;intro x36;refine At.b 13 (λ_ e=>aAn hT (k' := .u64) e (by kernel_rfl) (by kernel_rfl)) λx37=>?_;apply rt;exact At.r 2
theorem aMt{x y c:Int}{r:Int×Int}(h:aAz x y c=some r):aJa Tryz.prog 145 [.int .u64 x,.int .u64 y,.int .u64 c] (.tuple #[.int .u64 r.1,.int .u64 r.2]):=
 aQs Tryz.func145 (by kernel_rfl) (by kernel_rfl) (by kernel_rfl) (by kernel_rfl) h
def aPI : Nat->Bool:=imL [2]
def rO(N:Nat)(a0:aT)(a1:Int):Option (aT×Int×Bool):=
 cond (a1==0) (
  some ((aT.mk 0 0,0,false))) (
  aa (cond (decide (a0.gHi < 0)) (
   aa (sM N (U64 a0.gHi) a0.gLo) λr2=>
   some ((r2.1,r2.2))) (
   some ((U64 a0.gHi,a0.gLo)))) λp1=>
  aa (xJ N a1) λr3=>
  aa (kS N 0 p1.1 r3.1) λr4=>
  aa (kS N r4.2 p1.2 r3.1) λr5=>
  aa (aR (!((decide (a0.gHi < 0))==r3.2)) λx7=>
  aR (cond x7 (decide (r5.2 > 0)) false) λx8=>
  cond x8 (
   aa (aAz r5.1 1 0) λr9=>
   some ((U64 (r4.1+r9.2),r9.1,U64 (r3.1 - r5.2)))) (
   some ((r4.1,r5.1,r5.2)))) λp6=>
  aR (!((decide (a0.gHi < 0))==r3.2)) λx10=>
  aa (mD N p6.1 p6.2.1 x10) λr11=>
  cond (!r11.2) (
   some ((aT.mk 0 0,0,false))) (
   aa (cond r3.2 (some (U64 (0 - p6.2.2))) (some p6.2.2)) λp12=>
   some ((r11.1,I64 p12,true))))
theorem aB2{N a0 a1 r}(h:rO N a0 a1=some r):FnM Tryz.prog 95 [] [(aT.enc a0),(j64 a1)] (.tup [(aT.enc r.1),(j64 r.2.1),(eB r.2.2)]) []:=by
 refine Af aPI Tryz.func95 h ?_;refine At.c 6 ?_ ?_
 ·apply rt;exact At.r 4
 ·refine At.D 0 [] ?_;refine De 7 ?_;refine At.J 0 1 [1,2,4] 1 (λp1=>([(7,(k64 p1.1)),(8,(k64 p1.2))],[],[])) (λp1=>?_) λp1=>?_
  ·refine At.c 3 ?_ ?_
   ·refine At.y 2 aD5 λr2=>?_;apply rt;exact At.jn 5
   ·apply rt;exact At.jn 0
  ·refine At.y 1 aDE λr3=>?_;refine At.y 7 aBI λr4=>?_;refine At.y 8 aBI λr5=>?_;refine At.J 5 1 [2,4,10] 1 (λp6=>([(11,(k64 p6.1)),(13,(k64 p6.2.1)),(14,(k64 p6.2.2))],[],[])) (λp6=>?_) λp6=>?_
   ·apply lx;intro x7;apply lx;intro x8;refine At.c 9 ?_ ?_
    ·refine At.b 1 (λ_ e=>aF4 (aMt e) (λ_=>aFq)) λr9=>?_;apply rt;exact At.jn 15
    ·apply rt;exact At.jn 0
   ·apply lx;intro x10;refine At.y 7 aDw λr11=>?_;refine At.c 7 ?_ ?_
    ·apply rt;exact At.r 4
    ·refine At.J 0 1 [4] 1 (λp12=>([(14,(k64 p12))],[],[])) (λp12=>?_) λp12=>?_
     ·refine At.c 1 ?_ ?_
      ·apply rt;exact At.jn 3
      ·apply rt;exact At.jn 0
     ·apply rt;exact At.r 6
def jG(N:Nat)(a0 a1:Int):Option (Int):=
 cond (a1==0) (
  cond (decide (a0 > 0)) (
   some 9223372036854775807) (
   cond (decide (a0 < 0)) (some (-9223372036854775808)) (some 0))) (
  aa (iX N a0 4294967296) λr1=>
  aa (rO N r1 a1) λr2=>
  aa (wL N r2.1) λr3=>
  some r3)
theorem lP{N a0 a1 r}(h:jG N a0 a1=some r):FnM Tryz.prog 53 [] [(j64 a0),(j64 a1)] (j64 r) []:=by
 refine Af bO Tryz.func53 h ?_;refine At.c 3 ?_ ?_
 ·refine At.c 3 ?_ ?_
  ·apply rt;exact At.r 1
  ·refine At.c 3 ?_ ?_
   ·apply rt;exact At.r 1
   ·apply rt;exact At.r 1
 ·refine At.y 1 lE λr1=>?_;refine At.y 1 aB2 λr2=>?_;refine At.y 9 aD3 λr3=>?_;apply rt;exact At.r 1
def lU(N:Nat)(a0 a1:Int):Option (Int):=
 aa (iV N a0) λr1=>
 aa (iV N a1) λr2=>
 aa (jG N r1 r2) λr3=>
 some r3
theorem vF{N a0 a1 r}(h:lU N a0 a1=some r):FnM Tryz.prog 161 [] [(j64 a0),(.im (j64 a1))] (j64 r) []:=by
 refine Af bO Tryz.func161 h ?_;refine At.D 1 [] ?_;refine DD.y 1 iT λr1=>?_;refine DD.y 1 iT λr2=>?_;refine DD.y 0 lP λr3=>?_;refine De 1 ?_;apply rt;exact At.r 0
def aKT : Nat->Bool:=imL [2,3]
def vO(N:Nat)(a0:(Vector Int 3))(a1:Int):Option (aA):=
 aa (idx a0.toList 0) λe1=>
 aa (lU N e1 a1) λr2=>
 aa (idx a0.toList 1) λe3=>
 aa (lU N e3 a1) λr4=>
 aa (idx a0.toList 2) λe5=>
 aa (lU N e5 a1) λr6=>
 some (aA.mk r2 r4 r6)
theorem aD9{N a0 a1 r}(h:vO N a0 a1=some r):FnM Tryz.prog 111 [] [(eA 3 1 j64 a0),(j64 a1)] (aA.enc r) []:=by
 refine Af aKT Tryz.func111 h ?_;refine At.o 3 (pM (x:=(.fn (.func 161) [] [(.im (j64 a1))])) (by kernel_rfl) (by kernel_rfl)) ?_;refine At.D 1 [] ?_;refine DD.b 1 (λe _=>dI hT (N:=3) (k:=1) j64 a0 e) λe1=>?_;refine DD.y 1 vF λr2=>?_;refine DD.b 1 (λe _=>dI hT (N:=3) (k:=1) j64 a0 e) λe3=>?_;refine DD.y 1 vF λr4=>?_;refine DD.b 1 (λe _=>dI hT (N:=3) (k:=1) j64 a0 e) λe5=>?_;refine DD.y 1 vF λr6=>?_;refine De 2 ?_;apply rt;exact At.r 0
def aKc : Nat->Bool:=imL [1]
def sI(N:Nat)(a0:aQ):Option (aA):=
 aa (vO N a0.gA9 65536) λr1=>
 some r1
theorem aBb{N a0 r}(h:sI N a0=some r):FnM Tryz.prog 76 [] [(aQ.enc a0)] (aA.enc r) []:=by
 refine Af aKc Tryz.func76 h ?_;refine At.y 4 aD9 λr1=>?_;apply rt;exact At.r 1
def nZ(N:Nat)(a0:(List Int)):Nat->Int->Int->Option (Int)
 | 0,_,_=>none
 | k+1,s2,s3=>
  aR (decide (s3 < ((a0.length:Int)))) λx4=>
  cond x4 (
   aa (idx a0 s3) λe5=>
   aa (aR (cond (decide (s2 > 0)) (decide (e5 > 0)) false) λx7=>
   aR (decide ((I64 (s2+e5)) < 0)) λx8=>
   cond (cond x7 x8 false) (
    some 9223372036854775807) (
    aR (cond (decide (s2 < 0)) (decide (e5 < 0)) false) λx9=>
    aR (decide ((I64 (s2+e5))>=0)) λx10=>
    cond (cond x9 x10 false) (some (-9223372036854775808)) (some (I64 (s2+e5))))) λp6=>
   nZ N a0 k p6 (I64 (s3+1))) (
   some s2)
def lC(N:Nat)(a0:(List Int)):Option (Int):=
 aa (nZ N a0 N 0 0) λp1=>
 some p1
theorem qA{N a0 r}(h:lC N a0=some r):FnM Tryz.prog 52 [] [(eL 1 j64 a0)] (j64 r) []:=by
 refine Af bO Tryz.func52 h ?_;refine At.M 5 [] 0 (λp1=>([(3,(j64 p1))],[],[])) [7,8] 0 (CU2 (nZ N a0)) (cu2 λ(s2:Int) (s3:Int)=>([(3,(j64 s2)),(9,(j64 s3))],[],[])) (_,_) N (λp1 k=>un2 λs2 s3=>?_) λp1=>?_
 ·apply lx;intro x4;refine At.c 1 ?_ ?_
  ·refine At.i hT 0 j64 λe5=>?_;refine At.J 6 2 [7,8,9] 0 (λp6=>([(6,(j64 p6))],[],[])) (λp6=>?_) λp6=>?_
   ·apply lx;intro x7;apply lx;intro x8;refine At.c 11 ?_ ?_
    ·apply rt;exact At.jn 1
    ·apply lx;intro x9;apply lx;intro x10;refine At.c 11 ?_ ?_
     ·apply rt;exact At.jn 1
     ·apply rt;exact At.jn 0
   ·exact λh=>At.v 4 (_,_) h
  ·apply rt;exact At.x 0
 ·apply rt;exact At.r 2
def aAT(N:Nat)(a0 a1:Int):Option (Int):=
 aa (lC N ([a0,a1])) λr1=>
 some r1
theorem aDH{N a0 a1 r}(h:aAT N a0 a1=some r):FnM Tryz.prog 94 [] [(j64 a0),(j64 a1)] (j64 r) []:=by
 refine Af bO Tryz.func94 h ?_;refine At.o 3 (bG hT (x:=(.sl 1 2 [(j64 a0),(j64 a1)]))) ?_;refine At.y 0 qA λr1=>?_;apply rt;exact At.r 1
def aHE : Nat->Bool:=imL [3,4]
def uU(N:Nat)(a0 a1:aA):Option (aA):=
 aa (aAT N a0.gX a1.gX) λr1=>
 aa (aAT N a0.gY a1.gY) λr2=>
 aa (aAT N a0.gZ a1.gZ) λr3=>
 some (aA.mk r1 r2 r3)
theorem aGj{N a0 a1 r}(h:uU N a0 a1=some r):FnM Tryz.prog 93 [] [(aA.enc a0),(aA.enc a1),(.fn (.func 94) [] [])] (aA.enc r) []:=by
 refine Af aHE Tryz.func93 h ?_;refine At.D 3 [] ?_;refine DD.y 5 aDH λr1=>?_;refine DD.y 5 aDH λr2=>?_;refine DD.y 5 aDH λr3=>?_;refine De 2 ?_;apply rt;exact At.r 0
def pN(N:Nat)(a0:(List aA)):Nat->aA->Int->Option (aA)
 | 0,_,_=>none
 | k+1,s2,s3=>
  aR (decide (s3 < ((a0.length:Int)))) λx4=>
  cond x4 (
   aa (idx a0 s3) λe5=>
   aa (uU N s2 e5) λr6=>
   pN N a0 k r6 (I64 (s3+1))) (
   some s2)
def lW(N:Nat)(a0:(List aA)):Option (aA):=
 aa (pN N a0 N (aA.mk 0 0 0) 0) λp1=>
 some p1
theorem tZ{N a0 r}(h:lW N a0=some r):FnM Tryz.prog 51 [] [(eL 3 aA.enc a0)] (aA.enc r) []:=by
 refine Af bO Tryz.func51 h ?_;refine At.M 5 [2,3] 2 (λp1=>([],[(1,.var (aA.enc p1))],[])) [2,3,6,7] 2 (CU2 (pN N a0)) (cu2 λ(s2:aA) (s3:Int)=>([(8,(j64 s3))],[(1,.var (aA.enc s2))],[])) (_,_) N (λp1 k=>un2 λs2 s3=>?_) λp1=>?_
 ·apply lx;intro x4;refine At.c 1 ?_ ?_
  ·refine At.i hT 0 aA.enc λe5=>?_;refine At.y 5 aGj λr6=>?_;exact λh=>At.v 3 (_,_) h
  ·apply rt;exact At.x 0
 ·apply rt;exact At.r 2
def sO(N:Nat)(a0:(List aQ)):Nat->(List aA)->Int->Option ((List aA))
 | 0,_,_=>none
 | k+1,s2,s3=>
  aR (decide (s3 < ((a0.length:Int)))) λx4=>
  cond x4 (
   aa (aa (idx a0 s3) λe6=>
   cond (e6.gB1==2) (
    aa (sI N e6) λr7=>
    aa (nL 24 s2 (([r7]:List aA))) λz8=>
    some ((z8,e6))) (
    some ((s2,e6)))) λp5=>
   sO N a0 k p5.1 (I64 (s3+1))) (
   some s2)
def aBZ(N:Nat)(a0:(List aQ)):Option (aA):=
 aa (sO N a0 N [] 0) λp1=>
 aa (lW N p1) λr9=>
 some r9
theorem aNP{N a0 r}(h:aBZ N a0=some r):FnM Tryz.prog 33 [] [(eL 13 aQ.enc a0)] (aA.enc r) []:=by
 refine Af bO Tryz.func33 h ?_;refine At.ownn 5 3 3 ?_;refine At.M 0 [2] 2 (λp1=>([(3,(eO 1 3 aA.enc p1))],[(1,.tail (p1.length*3))],[])) [2,6,7] 2 (CU2 (sO N a0)) (cu2 λ(s2:(List aA)) (s3:Int)=>([(3,(eO 1 3 aA.enc s2)),(8,(j64 s3))],[(1,.tail (s2.length*3))],[])) (_,_) N (λp1 k=>un2 λs2 s3=>?_) λp1=>?_
 ·apply lx;intro x4;refine At.c 1 ?_ ?_
  ·refine At.J 0 2 [2,6,7,8] 2 (λp5=>([(3,(eO 1 3 aA.enc p5.1))],[(1,.tail (p5.1.length*3))],[.var (aQ.enc p5.2)])) (λp5=>?_) λp5=>?_
   ·refine At.i hT 0 aQ.enc λe6=>?_;refine At.c 6 ?_ ?_
    ·refine At.y 2 aBb λr7=>?_;refine At.o 0 (bG hT (x:=(.sl 3 1 [(aA.enc r7)]))) ?_;refine At.b 0 (λ_ e=>iI hT aA.enc (id:=1) (k:=3) e) λz8=>?_;apply rt;exact At.jn 1
    ·apply rt;exact At.jn 0
   ·exact λh=>At.v 2 (_,_) h
  ·apply rt;exact At.x 0
 ·refine At.y 1 tZ λr9=>?_;apply rt;exact At.r 1
def eY(N:Nat)(a0:(List (Vector Int 3))):Option ((List (Vector Int 3))):=
 aa (nL 24 (([]:List (Vector Int 3))) a0) λz1=>
 some z1
theorem tD{N a0 r}(h:eY N a0=some r):FnM Tryz.prog 43 [] [(eL 3 (eA 3 1 j64) a0)] (eL 3 (eA 3 1 j64) r) []:=by
 refine Af bO Tryz.func43 h ?_;refine At.q hT 2 (d:=4) (t:=49) (e:=97) (z:=3) (x:=(eL 3 (eA 3 1 j64) a0)) (es:=ah (eA 3 1 j64) a0) rfl ?_ (λhe=>?_)
 ·refine At.o 1 (rZ hT (eA 3 1 j64) (k:=3) ([]:List (Vector Int 3)) (by kernel_rfl) (by kernel_rfl)) ?_;refine At.b 1 (λ_ e=>iI hT (eA 3 1 j64) (id:=0) (k:=3) e) λz1=>?_;apply rt;exact At.r 1
 ·have h0:a0=[]:=cw.1 he;subst h0;change some []=_->_;apply rt;exact At.r 2
def zP(N:Nat)(a0:aC):Option (Unit):=
 some (())
theorem aFy{N a0 r}(h:zP N a0=some r):FnM Tryz.prog 77 [] [(aC.enc a0)] (.fn (.func 112) [] [(.ref 0 [] 0)]) [.var (aC.enc a0)]:=by
 refine Af bO Tryz.func77 h ?_;refine At.o 2 (pM (x:=(.fn (.func 112) [] [(.ref 0 [] 0)])) (by kernel_rfl) (by kernel_rfl)) ?_;apply rt;exact At.r 1
def aEv : Nat->Bool:=imL [1]
def nR(N:Nat)(b2:(List aC))(a1 a2:aC):Option ((List aC)):=
 aa (nL 32 b2 (([a2]:List aC))) λz1=>
 some z1
theorem aEP{N:Nat}{b2:(List aC)}{a1:aC}{a2:aC}{r:(List aC)}(h:nR N b2 a1 a2=some r):aRZ Tryz.prog (aED 25 Tryz.f34.body [1,1,1,0,1,0]) [en 5 (.ref 0 [] 0)] [.var (eO 2 2 aC.enc b2),.var (aC.enc a1),.tail (b2.length*2)] [(aC.enc a2)] [.var (eO 2 2 aC.enc r),.var (aC.enc a1),.tail (r.length*2)] none:=by
 unfold nR at h;refine aDP (lo:=4) (by kernel_rfl) (λbk rl=>At.of aEv hT hmo h ?_)
 refine At.to 0 ⟨[en 5 (.ref 0 [] 0),en 19 (aC.enc a2)],[.var (eO 2 2 aC.enc b2),.var (aC.enc a1),.tail (b2.length*2),.loop rl]⟩ ?_;refine At.mid 2 (λrl2=>?_)
 refine At.o 2 (bG hT (x:=(.sl 2 1 [(aC.enc a2)]))) ?_;refine At.b 0 (λ_ e=>iI hT aC.enc (id:=2) (k:=2) e) λz1=>?_;apply rt;exact At.rnd 1
def aMq : Nat->Bool:=imL [3]
def pS(N:Nat)(a0:aC)(a1 a2:Int):Option ((Vector Int 3)):=
 aR (kB .i64 a2 (I64 (a0.gG - 1))) λx1=>
 aR (kB .i64 a1 (I64 (a0.gG - 1))) λx2=>
 aR (I64 ((I64 (x1*a0.gG))+x2)) λx3=>
 aa (idx a0.gA6 x3) λe4=>
 some e4
theorem vV{N a0 a1 a2 r}(h:pS N a0 a1 a2=some r):FnM Tryz.prog 162 [] [(aC.enc a0),(j64 a1),(j64 a2)] (eA 3 1 j64 r) []:=by
 refine Af aMq Tryz.func162 h ?_;apply lx;intro x1;apply lx;intro x2;apply lx;intro x3;refine At.i hT 18 (eA 3 1 j64) λe4=>?_;apply rt;exact At.r 2
def aIt : Nat->Bool:=imL [1]
def kX(N:Nat)(r12 r14 r16 r19:(Vector Int 3)):Nat->(Vector Int 3)->Int->Option ((Vector Int 3))
 | 0,_,_=>none
 | k+1,s21,s22=>
  cond (decide (s22 < 3)) (
   aa (dS s22 3) λ_=>
   aa (r12.toList[s22.toNat]?) λe24=>
   aa (dS s22 3) λ_=>
   aa (r14.toList[s22.toNat]?) λe26=>
   aa (dS s22 3) λ_=>
   aa (r16.toList[s22.toNat]?) λe28=>
   aR (I64 ((I64 (e24+e26))+e28)) λx29=>
   aa (dS s22 3) λ_=>
   aa (r19.toList[s22.toNat]?) λe31=>
   aR (I64 ((I64 (x29+e31))+2)) λx32=>
   aa (dS s22 3) λ_=>
   aa (s21.toList[s22.toNat]?) λe34=>
   kX N r12 r14 r16 r19 k (s21.setIfInBounds s22.toNat (I64 (d7 x32 4))) (I64 (s22+1))) (
   some s21)
def mM(N:Nat)(x2 x3:Int)(a0:aC):Nat->(List (Vector Int 3))->Int->Option ((List (Vector Int 3)))
 | 0,_,_=>none
 | k+1,s5,s6=>
  aR (decide (s6 < (I64 (x2*x3)))) λx7=>
  cond x7 (
   aR ((I64 (d7 a0.gG 2))) λx8=>
   aa (aDq .i64 s6 x8) λx9=>
   aR ((I64 (d7 a0.gG 2))) λx10=>
   aa (aDp .i64 s6 x10) λx11=>
   aa (pS N a0 (I64 (2*x9)) (I64 (2*x11))) λr12=>
   aR (I64 ((I64 (2*x9))+1)) λx13=>
   aa (pS N a0 x13 (I64 (2*x11))) λr14=>
   aR (I64 ((I64 (2*x11))+1)) λx15=>
   aa (pS N a0 (I64 (2*x9)) x15) λr16=>
   aR (I64 ((I64 (2*x9))+1)) λx17=>
   aR (I64 ((I64 (2*x11))+1)) λx18=>
   aa (pS N a0 x17 x18) λr19=>
   aa (kX N r12 r14 r16 r19 N (#v[0,0,0]) 0) λp20=>
   aa (nL 24 s5 (([p20]:List (Vector Int 3)))) λz35=>
   mM N x2 x3 a0 k z35 (I64 (s6+1))) (
   some s5)
def yC(N:Nat)(a0:aC):Option (aC):=
 aR (I64 (d7 a0.gG 2)) λx1=>
 aR ((I64 (d7 a0.gG 2))) λx2=>
 aR ((I64 (d7 a0.gG 2))) λx3=>
 aa (mM N x2 x3 a0 N [] 0) λp4=>
 some (aC.mk ((I64 (d7 a0.gG 2))) p4)
theorem aIF{N a0 r}(h:yC N a0=some r):FnM Tryz.prog 113 [] [(aC.enc a0)] (aC.enc r) []:=by
 refine Af aIt Tryz.func113 h ?_;apply lx;intro x1;apply lx;intro x2;apply lx;intro x3;refine At.ownb 14 1 3 [1] ?_;refine At.M 0 [2,3] 3 (λp4=>([],[(1,.var (.st 2 [(j64 ((I64 (d7 a0.gG 2)))),(eO 2 3 (eA 3 1 j64) p4)])),(2,.tail (p4.length*3))],[])) [1,2,3,21] 3 (CU2 (mM N x2 x3 a0)) (cu2 λ(s5:(List (Vector Int 3))) (s6:Int)=>([(22,(j64 s6))],[(1,.var (.st 2 [(j64 ((I64 (d7 a0.gG 2)))),(eO 2 3 (eA 3 1 j64) s5)])),(2,.tail (s5.length*3))],[])) (_,_) N (λp4 k=>un2 λs5 s6=>?_) λp4=>?_
 ·apply lx;intro x7;refine At.c 1 ?_ ?_
  ·refine At.D 2 [] ?_;apply lx;intro x8;refine DD.b 3 (λe _=>aBA hT e (by kernel_rfl) (by kernel_rfl)) λx9=>?_;apply lx;intro x10;refine DD.b 4 (λe _=>yR hT e (by kernel_rfl) (by kernel_rfl)) λx11=>?_;refine De 3 ?_;refine At.D 0 [false,false,false,false] ?_;refine DD.y 3 vV λr12=>?_;apply lx;intro x13;refine DD.y 4 vV λr14=>?_;apply lx;intro x15;refine DD.y 4 vV λr16=>?_;apply lx;intro x17;apply lx;intro x18;refine DD.y 5 vV λr19=>?_;refine De 8 ?_;refine At.M 2 [1,2,3,11,21,22] 8 (λp20=>([],[(7,.var (eA 3 1 j64 p20))],[])) [1,2,3,7,8,9,10,11,21,22] 8 (CU2 (kX N r12 r14 r16 r19)) (cu2 λ(s21:(Vector Int 3)) (s22:Int)=>([(55,(j64 s22))],[(7,.var (eA 3 1 j64 s21))],[])) (_,_) N (λp20 k=>un2 λs21 s22=>?_) λp20=>?_
   ·refine At.c 1 ?_ ?_
    ·refine At.D 2 [] ?_;refine DD.b 2 (λe _=>bF hT (k:=1) 3 [] 0 e) λu23=>?_;refine DD.l hT 0 j64 j64 0 λe24=>?_;refine DD.b 1 (λe _=>bF hT (k:=1) 4 [] 0 e) λu25=>?_;refine DD.l hT 0 j64 j64 0 λe26=>?_;refine DD.b 2 (λe _=>bF hT (k:=1) 5 [] 0 e) λu27=>?_;refine DD.l hT 0 j64 j64 0 λe28=>?_;apply lx;intro x29;refine DD.b 2 (λe _=>bF hT (k:=1) 6 [] 0 e) λu30=>?_;refine DD.l hT 0 j64 j64 0 λe31=>?_;apply lx;intro x32;refine DD.b 3 (λe _=>bF hT (k:=1) 7 [] 0 e) λu33=>?_;refine bi λe34 he34=>?_;refine DD.w 0 (.v (.bool false)) ⟨[(7,.var (eA 3 1 j64 (s21.setIfInBounds s22.toNat (I64 (d7 x32 4)))))],[]⟩ (λ_ e=>oX hT j64 0 s21 he34 (I64 (d7 x32 4)) (pj1 e) (pj1 (pj2 e)) (pj2 (pj2 e))) ?_;refine De 0 ?_;exact λh=>At.v 2 (_,_) h
    ·apply rt;exact At.x 0
   ·refine At.o 3 (bG hT (x:=(.sl 3 1 [(eA 3 1 j64 p20)]))) ?_;refine At.b 0 (λ_ e=>iI hT (eA 3 1 j64) (id:=2) (k:=3) e) λz35=>?_;exact λh=>At.v 4 (_,_) h
  ·apply rt;exact At.x 0
 ·apply rt;exact At.r 2
def bR(N:Nat)  : Nat->(List aC)->aC->Option ((List aC)×aC)
 | 0,_,_=>none
 | k+1,s2,s3=>
  aa (nR N s2 s3 s3) λr4=>
  cond (decide (s3.gG > 1)) (
   aa (yC N s3) λr5=>
   bR N k r4 r5) (
   some ((r4,s3)))
def dJ(N:Nat)(b2:(List aC))(a1:aC):Option ((List aC)×aC):=
 aa (bR N N b2 a1) λp1=>
 some ((p1.1,p1.2))
theorem sA{N:Nat}{b2:(List aC)}{a1:aC}{r:(List aC)×aC}(h:dJ N b2 a1=some r):ItM Tryz.prog 112 (aED 25 Tryz.f34.body [1,1,1,0,1,0]) [en 5 (.ref 0 [] 0)] [.var (eO 2 2 aC.enc b2),.var (aC.enc a1),.tail (b2.length*2)] [(.yld 3),(.ref 1 [] 0)] (.tup []) [.var (eO 2 2 aC.enc r.1),.var (aC.enc r.2),.tail (r.1.length*2)] none:=by
 unfold dJ at h;refine aEp (m:=13) (lo:=4) (rs:=[]) hT Tryz.func112 rfl (by kernel_rfl) rfl (λfn tmps D hsz=>At.of bO hT hmo h ?_)
 refine At.M 0 [] 4 (λp1=>([],[(0,.var (eO 2 2 aC.enc p1.1)),(1,.var (aC.enc p1.2)),(2,.tail (p1.1.length*2))],[])) [0,1] 4 (CU2 (bR N)) (cu2 λ(s2:(List aC)) (s3:aC)=>([],[(0,.var (eO 2 2 aC.enc s2)),(1,.var (aC.enc s3)),(2,.tail (s2.length*2))],[])) (_,_) N (λp1 k=>un2 λs2 s3=>?_) λp1=>?_
 ·refine At.b 2 (λ_ e=>aIQ (aEP e) (fn:=fn) (D:=D) hsz rfl (c9.2 rfl) (by kernel_rfl) (by kernel_rfl)) λr4=>?_;refine At.g [6] 5 ?_;refine At.c 0 ?_ ?_
  ·refine At.y 1 aIF λr5=>?_;exact λh=>At.v 1 (_,_) h
  ·apply rt;exact At.x 0
 ·apply rt;exact At.z 0
theorem rH : sC Tryz.prog 112:=qT (show kC Tryz.prog 112=true by kernel_rfl)
def aGr : Nat->Bool:=imL [1]
def qQ(N:Nat)(a0:aC):Option ((List aC)×Int):=
 aa (lG N a0) λr1=>
 cond (r1 != 0) (
  some (([],r1))) (
  aa (eY N a0.gA6) λr2=>
  aa (zP N (aC.mk a0.gG r2)) λr3=>
  aa (dJ N [] ((aC.mk a0.gG r2))) λr4=>
  some ((r4.1,0)))
theorem aGF{N a0 r}(h:qQ N a0=some r):FnM Tryz.prog 34 [] [(aC.enc a0)] (.tup [(eL 2 aC.enc r.1),(j64 r.2)]) []:=by
 unfold qQ at h;refine At.fR aGr hT hmo Tryz.func34 rfl h ?_;refine At.y 4 uX λr1=>?_;refine At.c 3 ?_ ?_
 ·apply rt;exact At.r 3
 ·refine At.D 1 [] ?_;refine DD.y 4 tD λr2=>?_;refine DD.Z 1 [] 1 aFy λr3=>?_;refine De 0 ?_;refine At.ownb 0 0 2 [] ?_;refine bi λr4 hr4=>?_;refine At.rg 0 (sA hr4) rH (.tmp 18) [0,1,2] ⟨[en 5 (.ref 0 [] 0)],[.var (eO 2 2 aC.enc r4.1),.var (aC.enc r4.2),.tail (r4.1.length*2)]⟩ [(.ref 1 [] 0)] ?_;apply rt;exact At.r 3
def xM(N:Nat)(a0:(List aJ))(a1:Int):Option (Sum (Int) ((List aJ)×Int)):=
 aR (cond (decide (a1 < 0)) true (decide (a1 > 4096))) λx1=>
 cond x1 (
  some (Sum.inl 2)) (
  aR (decide (((a0.length:Int)) > a1)) λx2=>
  cond x2 (
   some (Sum.inl 15)) (
   aa (mkO 152 a1) λ_=>
   aa (cpD (ak a1.toNat (aJ.mk (#v[aB.mk 0 0 0,aB.mk 0 0 0,aB.mk 0 0 0]) (#v[#v[0,0],#v[0,0],#v[0,0]]) 0 0 0 0:aJ)) a0 a1.toNat) λv4=>
   aa (yS v4 a1.toNat) λ_=>
   some (Sum.inr ((v4,0)))))
theorem aF6{N a0 a1 r}(h:xM N a0 a1=some r):FnM Tryz.prog 36 [] [(eL 19 aJ.enc a0),(j64 a1)] (aEs r (λr=>(.tup [(.v (.pointer none)),(j64 r)])) (λr=>(.tup [(.ref 1 [] 0),(j64 r.2)]))) (aEs r (λr=>[]) (λr=>[.dead,.var (.st 3 [(.st 1 [(j64 0)]),(eB true),(eL 19 aJ.enc r.1)])])):=by
 refine Af bO Tryz.func36 h ?_;apply lx;intro x1;refine At.c 9 ?_ ?_
 ·apply rt;exact At.r 2
 ·apply lx;intro x2;refine At.c 5 ?_ ?_
  ·apply rt;exact At.r 2
  ·refine At.b 1 (λ_ e=>aTi hT aJ.enc ((aJ.mk (#v[aB.mk 0 0 0,aB.mk 0 0 0,aB.mk 0 0 0]) (#v[#v[0,0],#v[0,0],#v[0,0]]) 0 0 0 0:aJ)) (k:=19) (kd := .st [(0,119),(9,121),(15,3),(16,3),(17,3),(18,5)]) e (by kernel_rfl) (by kernel_rfl) rfl) λu3=>?_;refine At.b 8 (λv4 e=>aRz hT aJ.enc (id:=0) (k:=19) (N:=a1.toNat*19) (H':=[.var (.arr (a1.toNat*19) 19 (ah aJ.enc v4)),.var (.st 3 [(.st 1 [(j64 0)]),(eB true),(.bsl 0 [] 0 19 0 a1.toNat)])]) e (by kernel_rfl) (by kernel_rfl) (by kernel_rfl)) λv4=>?_;refine bi λu5 hu5=>?_;refine At.fz 3 0 19 a1.toNat _ (ah aJ.enc v4) (ai _) (aOc aJ.enc hu5) ?_;apply rt;exact At.r 0
theorem aJN{N a0 a1 r}(h:xM N a0 a1=some (Sum.inl r)):FnM Tryz.prog 36 [] [(eL 19 aJ.enc a0),(j64 a1)] (.tup [(.v (.pointer none)),(j64 r)]) []:=aF6 h
theorem aI0{N a0 a1 r}(h:xM N a0 a1=some (Sum.inr r)):FnM Tryz.prog 36 [] [(eL 19 aJ.enc a0),(j64 a1)] (.tup [(.ref 1 [] 0),(j64 r.2)]) [.dead,.var (.st 3 [(.st 1 [(j64 0)]),(eB true),(eL 19 aJ.enc r.1)])]:=aF6 h
def qY(N:Nat)(a0:aJ):Nat->aB->aB->Int->Option (aB×aB)
 | 0,_,_,_=>none
 | k+1,s2,s3,s4=>
  aR (decide (s4 < ((3:Int)))) λx5=>
  cond x5 (
   aa (dS s4 3) λ_=>
   aa (a0.gP.toList[s4.toNat]?) λe7=>
   aa (cond (s4==0) (some ((e7,e7))) (some ((s2,s3)))) λp8=>
   qY N a0 k (aB.mk (dO p8.1.gX e7.gX) (dO p8.1.gY e7.gY) (dO p8.1.gZ e7.gZ)) (aB.mk (jB p8.2.gX e7.gX) (jB p8.2.gY e7.gY) (jB p8.2.gZ e7.gZ)) (I64 (s4+1))) (
   some ((s2,s3)))
def aB3(N:Nat)(a0:aJ):Option (aB×aB):=
 aa (qY N a0 N (aB.mk 0 0 0) (aB.mk 0 0 0) 0) λp1=>
 some ((p1.1,p1.2))
theorem aLx{N a0 r}(h:aB3 N a0=some r):FnM Tryz.prog 114 [.var (aJ.enc a0)] [(.bsl 0 [0] 0 3 0 3)] (.tup [(aB.enc r.1),(aB.enc r.2)]) [.var (aJ.enc a0)]:=by
 refine Af bO Tryz.func114 h ?_;refine At.M 5 [2,3] 3 (λp1=>([],[(1,.var (aB.enc p1.1)),(2,.var (aB.enc p1.2))],[])) [2,3,6,7] 3 (CU3 (qY N a0)) (cu3 λ(s2:aB) (s3:aB) (s4:Int)=>([(8,(j64 s4))],[(1,.var (aB.enc s2)),(2,.var (aB.enc s3))],[])) (_,_,_) N (λp1 k=>un3 λs2 s3 s4=>?_) λp1=>?_
 ·apply lx;intro x5;refine At.c 1 ?_ ?_
  ·refine At.b 1 (λ_ e=>aII hT 0 [0] 0 0 3 (k:=3) e (by kernel_rfl) (by kernel_rfl)) λu6=>?_;refine At.b 0 (λ_ e=>pV hT aB.enc 1 e) λe7=>?_;refine At.J 3 1 [2,3,5,6,7,8] 4 (λp8=>([],[(1,.var (aB.enc p8.1)),(2,.var (aB.enc p8.2))],[])) (λp8=>?_) λp8=>?_
   ·refine At.c 2 ?_ ?_
    ·refine At.D 0 [] ?_;refine De 4 ?_;apply rt;exact At.jn 0
    ·apply rt;exact At.jn 0
   ·exact λh=>At.v 36 (_,_,_) h
  ·apply rt;exact At.x 0
 ·refine At.D 0 [] ?_;refine De 4 ?_;apply rt;exact At.r 0
def uJ(N:Nat)(a0:(List aB)):Nat->aB->aB->Int->Option (aB×aB)
 | 0,_,_,_=>none
 | k+1,s2,s3,s4=>
  aR (decide (s4 < ((a0.length:Int)))) λx5=>
  cond x5 (
   aa (idx a0 s4) λe6=>
   aa (cond (s4==0) (some ((e6,e6))) (some ((s2,s3)))) λp7=>
   uJ N a0 k (aB.mk (dO p7.1.gX e6.gX) (dO p7.1.gY e6.gY) (dO p7.1.gZ e6.gZ)) (aB.mk (jB p7.2.gX e6.gX) (jB p7.2.gY e6.gY) (jB p7.2.gZ e6.gZ)) (I64 (s4+1))) (
   some ((s2,s3)))
def pH(N:Nat)(a0:(List aB)):Option (aB×aB):=
 aa (uJ N a0 N (aB.mk 0 0 0) (aB.mk 0 0 0) 0) λp1=>
 some ((p1.1,p1.2))
theorem uE{N a0 r}(h:pH N a0=some r):FnM Tryz.prog 114 [] [(eL 3 aB.enc a0)] (.tup [(aB.enc r.1),(aB.enc r.2)]) []:=by
 refine Af bO Tryz.func114 h ?_;refine At.M 5 [2,3] 2 (λp1=>([],[(0,.var (aB.enc p1.1)),(1,.var (aB.enc p1.2))],[])) [2,3,6,7] 2 (CU3 (uJ N a0)) (cu3 λ(s2:aB) (s3:aB) (s4:Int)=>([(8,(j64 s4))],[(0,.var (aB.enc s2)),(1,.var (aB.enc s3))],[])) (_,_,_) N (λp1 k=>un3 λs2 s3 s4=>?_) λp1=>?_
 ·apply lx;intro x5;refine At.c 1 ?_ ?_
  ·refine At.i hT 1 aB.enc λe6=>?_;refine At.J 4 1 [2,3,5,6,7,8] 3 (λp7=>([],[(0,.var (aB.enc p7.1)),(1,.var (aB.enc p7.2))],[])) (λp7=>?_) λp7=>?_
   ·refine At.c 2 ?_ ?_
    ·refine At.D 0 [] ?_;refine De 4 ?_;apply rt;exact At.jn 0
    ·apply rt;exact At.jn 0
   ·exact λh=>At.v 36 (_,_,_) h
  ·apply rt;exact At.x 0
 ·refine At.D 0 [] ?_;refine De 4 ?_;apply rt;exact At.r 0
def pJ(N a3:Nat)(b0:(List Int))(a2:Nat)(a1:(List aJ)):Nat->aB->aB->Int->Option (aB×aB)
 | 0,_,_,_=>none
 | k+1,s2,s3,s4=>
  aR (decide (s4 < ((a3:Int)))) λx5=>
  cond x5 (
   aa (aa (aAa b0.length a2 a3 s4) λ_=>
   aa (b0[(aBC a2 s4.toNat)]?) λe8=>
   aa (idx a1 e8) λe9=>
   aa (xR e9.gP.toList 0 3) λs10=>
   aa (pH N s10) λr11=>
   cond (s4==0) (
    some ((r11.1,r11.2,r11.1,r11.2))) (
    aa (pH N ([s2,r11.1])) λr12=>
    aa (pH N ([s3,r11.2])) λr13=>
    some ((r12.1,r13.2,r11.1,r11.2)))) λp6=>
   pJ N a3 b0 a2 a1 k p6.1 p6.2.1 (I64 (s4+1))) (
   some ((s2,s3)))
def aA1(N:Nat)(b0:(List Int))(a1:(List aJ))(a2 a3:Nat):Option (aB×aB):=
 aa (pJ N a3 b0 a2 a1 N (aB.mk 0 0 0) (aB.mk 0 0 0) 0) λp1=>
 some ((p1.1,p1.2))
theorem aKL{N b0 a1 a2 a3 r}(h:aA1 N b0 a1 a2 a3=some r):FnM Tryz.prog 115 [.gro 1 (ah j64 b0)] [(eL 19 aJ.enc a1),(.gro 0 1 b0.length (.sub a2 a3))] (.tup [(aB.enc r.1),(aB.enc r.2)]) [.gro 1 (ah j64 b0)]:=by
 refine Af bO Tryz.func115 h ?_;refine At.M 5 [4,5] 3 (λp1=>([],[(1,.var (aB.enc p1.1)),(2,.var (aB.enc p1.2))],[])) [0,4,5,10,11] 3 (CU3 (pJ N a3 b0 a2 a1)) (cu3 λ(s2:aB) (s3:aB) (s4:Int)=>([(12,(j64 s4))],[(1,.var (aB.enc s2)),(2,.var (aB.enc s3))],[])) (_,_,_) N (λp1 k=>un3 λs2 s3 s4=>?_) λp1=>?_
 ·apply lx;intro x5;refine At.c 1 ?_ ?_
  ·refine At.J 0 2 [0,4,5,10,11,12] 3 (λp6=>([],[(1,.var (aB.enc p6.1)),(2,.var (aB.enc p6.2.1))],[.var (aB.enc p6.2.2.1),.var (aB.enc p6.2.2.2)])) (λp6=>?_) λp6=>?_
   ·refine At.b 1 (λ_ e=>kT hT (id:=0) (k:=1) e (by kernel_rfl) (by kernel_rfl)) λu7=>?_;refine At.b 0 (λ_ e=>rL hT j64 [] e rfl (by kernel_rfl) (by kernel_rfl)) λe8=>?_;refine At.i hT 4 aJ.enc λe9=>?_;refine At.b 1 (λ_ e=>aCG hT (N:=9) (k:=3) aB.enc e9.gP e) λs10=>?_;refine At.y 0 uE λr11=>?_;refine At.c 9 ?_ ?_
    ·refine At.D 0 [] ?_;refine De 4 ?_;apply rt;exact At.jn 0
    ·refine At.o 2 (bG hT (x:=(.sl 3 2 [(aB.enc s2),(aB.enc r11.1)]))) ?_;refine At.y 0 uE λr12=>?_;refine At.o 6 (bG hT (x:=(.sl 3 2 [(aB.enc s3),(aB.enc r11.2)]))) ?_;refine At.y 0 uE λr13=>?_;apply rt;exact At.jn 4
   ·exact λh=>At.v 2 (_,_,_) h
  ·apply rt;exact At.x 0
 ·refine At.D 0 [] ?_;refine De 4 ?_;apply rt;exact At.r 0
def aLg : Nat->Bool:=imL [1]
def kW(N:Nat)(a0:aJ):Option (aB):=
 aa (xR a0.gP.toList 0 3) λs1=>
 aa (pH N s1) λr2=>
 aR (I64 (r2.1.gX+r2.2.gX)) λx3=>
 aR (I64 (r2.1.gY+r2.2.gY)) λx4=>
 aR (I64 (r2.1.gZ+r2.2.gZ)) λx5=>
 some (aB.mk ((I64 (r2.1.gX+r2.2.gX))) ((I64 (r2.1.gY+r2.2.gY))) ((I64 (r2.1.gZ+r2.2.gZ))))
theorem vL{N a0 r}(h:kW N a0=some r):FnM Tryz.prog 163 [] [(aJ.enc a0)] (aB.enc r) []:=by
 refine Af aLg Tryz.func163 h ?_;refine At.b 3 (λ_ e=>aCG hT (N:=9) (k:=3) aB.enc a0.gP e) λs1=>?_;refine At.y 0 uE λr2=>?_;apply lx;intro x3;apply lx;intro x4;apply lx;intro x5;apply rt;exact At.r 24
def aOZ : Nat->Bool:=imL [2]
def nD(N:Nat)(a0:aB)(a1:Int):Option (Int):=
 aa (idx (#v[a0.gX,a0.gY,a0.gZ]).toList a1) λe1=>
 some e1
theorem oD{N a0 a1 r}(h:nD N a0 a1=some r):FnM Tryz.prog 164 [] [(aB.enc a0),(j64 a1)] (j64 r) []:=by
 refine Af aOZ Tryz.func164 h ?_;refine At.b 10 (λ_ e=>aA2 hT j64 (#v[a0.gX,a0.gY,a0.gZ]) e (by kernel_rfl) (by kernel_rfl)) λe1=>?_;apply rt;exact At.r 1
def tJ(N:Nat)(a0 a1:Int)(a2:(List aJ))(a3:Int):Option (Int):=
 aa (idx a2 a0) λe1=>
 aa (kW N e1) λr2=>
 aa (nD N r2 a3) λr3=>
 aa (idx a2 a1) λe4=>
 aa (kW N e4) λr5=>
 aa (nD N r5 a3) λr6=>
 some (I64 (r3 - r6))
theorem aFa{N a0 a1 a2 a3 r}(h:tJ N a0 a1 a2 a3=some r):FnM Tryz.prog 166 [.var (j64 a3)] [(j64 a0),(j64 a1),(.im (eL 19 aJ.enc a2)),(.ref 0 [] 0)] (j64 r) [.var (j64 a3)]:=by
 refine Af bO Tryz.func166 h ?_;refine At.D 1 [] ?_;refine DD.i hT 2 aJ.enc λe1=>?_;refine DD.y 1 vL λr2=>?_;refine DD.y 1 oD λr3=>?_;refine DD.i hT 2 aJ.enc λe4=>?_;refine DD.y 1 vL λr5=>?_;refine DD.y 1 oD λr6=>?_;refine De 2 ?_;apply rt;exact At.r 0
def bI(N:Nat)(a3:Int)(a1:Nat)(a5:(List aJ))(a6:Int):Nat->(List Int)->Nat->Int->Option ((List Int)×Nat)
 | 0,_,_,_=>none
 | k+1,s6,s7,s8=>
  aa (cond (decide (s8 > a3)) (
   aa (aAa s6.length a1 s7 s8) λ_=>
   aa (s6[(aBC a1 s8.toNat)]?) λe11=>
   aa (aAa s6.length a1 s7 (I64 (s8 - 1))) λ_=>
   aa (s6[(aBC a1 ((I64 (s8 - 1)).toNat))]?) λe13=>
   aa (tJ N e11 e13 a5 a6) λr14=>
   some (decide (r14 < 0))) (
   some false)) λp9=>
  cond p9 (
   aa (aAa s6.length a1 s7 (I64 (s8 - 1))) λ_=>
   aa (s6[(aBC a1 ((I64 (s8 - 1)).toNat))]?) λe16=>
   aa (aAa s6.length a1 s7 s8) λ_=>
   aa (s6[(aBC a1 s8.toNat)]?) λe18=>
   aa (aAa s6.length a1 s7 s8) λ_=>
   aa (aC3 s6 ((aBC a1 s8.toNat)) e16) λz20=>
   aa (aAa s6.length a1 s7 (I64 (s8 - 1))) λ_=>
   aa (aC3 z20 ((aBC a1 ((I64 (s8 - 1)).toNat))) e18) λz22=>
   bI N a3 a1 a5 a6 k z22 s7 (I64 (s8 - 1))) (
   some ((s6,s7)))
def bU(N:Nat)(a4 a3:Int)(a1:Nat)(a5:(List aJ))(a6:Int):Nat->(List Int)->Nat->Int->Option ((List Int))
 | 0,_,_,_=>none
 | k+1,s2,s3,s4=>
  cond (decide (s4 < a4)) (
   aa (bI N a3 a1 a5 a6 N s2 s3 s4) λp5=>
   bU N a4 a3 a1 a5 a6 k p5.1 p5.2 (I64 (s4+1))) (
   some s2)
def bL(N:Nat)(b0:(List Int))(a1 a2:Nat)(a3 a4:Int)(a5:(List aJ))(a6:Int):Option ((List Int)):=
 aa (bU N a4 a3 a1 a5 a6 N b0 a2 (I64 (a3+1))) λp1=>
 some p1
theorem jL{N b0 a1 a2 a3 a4 a5 a6 r}(h:bL N b0 a1 a2 a3 a4 a5 a6=some r):FnM Tryz.prog 206 [.gro 1 (ah j64 b0),.var (j64 a6)] [(.gro 0 1 b0.length (.sub a1 a2)),(j64 a3),(j64 a4),(.fn (.func 166) [] [(.im (eL 19 aJ.enc a5)),(.ref 1 [] 0)])] (.tup []) [.gro 1 (ah j64 r),.var (j64 a6)]:=by
 refine Af bO Tryz.func206 h ?_;refine At.M 3 [] 2 (λp1=>([],[(0,.gro 1 (ah j64 p1))],[])) [1,2,3] 2 (CU3 (bU N a4 a3 a1 a5 a6)) (cu3 λ(s2:(List Int)) (s3:Nat) (s4:Int)=>([(0,(.gro 0 1 s2.length (.sub a1 s3))),(8,(j64 s4))],[(0,.gro 1 (ah j64 s2))],[])) (_,_,_) N (λp1 k=>un3 λs2 s3 s4=>?_) λp1=>?_
 ·refine At.c 3 ?_ ?_
  ·refine At.M 2 [1,2,3,8] 2 (λp5=>([(0,(.gro 0 1 p5.1.length (.sub a1 p5.2)))],[(0,.gro 1 (ah j64 p5.1))],[])) [1,2,3,8] 2 (CU3 (bI N a3 a1 a5 a6)) (cu3 λ(s6:(List Int)) (s7:Nat) (s8:Int)=>([(0,(.gro 0 1 s6.length (.sub a1 s7))),(9,(j64 s8))],[(0,.gro 1 (ah j64 s6))],[])) (_,_,_) N (λp5 k=>un3 λs6 s7 s8=>?_) λp5=>?_
   ·refine At.J 0 0 [0,1,2,3,8,9] 2 (λp9=>([(34,(eB p9))],[],[])) (λp9=>?_) λp9=>?_
    ·refine At.D 0 [] ?_;refine DD.s hT 4 ?_ ?_
     ·refine DD.b 3 (λe _=>kT hT (id:=0) (k:=1) e (by kernel_rfl) (by kernel_rfl)) λu10=>?_;refine bi λe11 he11=>?_;refine DD.w 0 (j64 e11) ⟨[],[]⟩ (λ_ e=>zB (rL hT j64 [] he11 rfl (pj1 e) (pj1 (pj2 e))) (pj2 (pj2 e))) ?_;refine DD.b 3 (λe _=>kT hT (id:=0) (k:=1) e (by kernel_rfl) (by kernel_rfl)) λu12=>?_;refine bi λe13 he13=>?_;refine DD.w 0 (j64 e13) ⟨[],[]⟩ (λ_ e=>zB (rL hT j64 [] he13 rfl (pj1 e) (pj1 (pj2 e))) (pj2 (pj2 e))) ?_;refine DD.Y 0 [1] aFa λr14=>?_;refine De 2 ?_;apply rt;exact At.jn 0
     ·refine De 13 ?_;apply rt;exact At.jn 0
    ·refine At.c 0 ?_ ?_
     ·refine At.D 0 [] ?_;refine DD.b 8 (λe _=>kT hT (id:=0) (k:=1) e (by kernel_rfl) (by kernel_rfl)) λu15=>?_;refine bi λe16 he16=>?_;refine DD.w 0 (j64 e16) ⟨[],[]⟩ (λ_ e=>zB (rL hT j64 [] he16 rfl (pj1 e) (pj1 (pj2 e))) (pj2 (pj2 e))) ?_;refine DD.b 2 (λe _=>kT hT (id:=0) (k:=1) e (by kernel_rfl) (by kernel_rfl)) λu17=>?_;refine bi λe18 he18=>?_;refine DD.w 0 (j64 e18) ⟨[],[]⟩ (λ_ e=>zB (rL hT j64 [] he18 rfl (pj1 e) (pj1 (pj2 e))) (pj2 (pj2 e))) ?_;refine DD.b 0 (λe _=>kT hT (id:=0) (k:=1) e (by kernel_rfl) (by kernel_rfl)) λu19=>?_;refine bi λz20 hz20=>?_;refine DD.w 0 (.v (.bool false)) ⟨[(0,.gro 1 (ah j64 z20))],[]⟩ (λ_ e=>tQ hT j64 (k:=1) e16 hz20 rfl (pj1 e) (congrFun (pj1 (pj2 e))) (pj1 (pj2 (pj2 e))) (pj2 (pj2 (pj2 e)))) ?_;refine DD.b 0 (λe _=>kT hT (id:=0) (k:=1) e (by kernel_rfl) (by kernel_rfl)) λu21=>?_;refine bi λz22 hz22=>?_;refine DD.w 0 (.v (.bool false)) ⟨[(0,.gro 1 (ah j64 z22))],[]⟩ (λ_ e=>tQ hT j64 (k:=1) e18 hz22 ((xU hz20).2.2).symm (pj1 e) (congrFun (pj1 (pj2 e))) (pj1 (pj2 (pj2 e))) (pj2 (pj2 (pj2 e)))) ?_;refine De 0 ?_;refine At.gp [0] [] 0 s6.length z22.length (((xU hz22).2.2).trans ((xU hz20).2.2)) ?_;exact λh=>At.v 3 (_,_,_) h
     ·apply rt;exact At.x 0
   ·exact λh=>At.v 3 (_,_,_) h
  ·apply rt;exact At.x 0
 ·apply rt;exact At.z 0
def bW(N:Nat)(a3:Int)(a1:Nat)(a4:(List aJ))(a5:Int):Nat->(List Int)->Nat->Int->Int->Option ((List Int)×Nat×Int)
 | 0,_,_,_,_=>none
 | k+1,s2,s3,s4,s5=>
  cond (decide (s5<=a3)) (
   aa (bL N s2 a1 s3 s4 s5 a4 a5) λr6=>
   aa (yS r6 s2.length) λ_=>
   bW N a3 a1 a4 a5 k r6 s3 s5 (I64 (s5+20))) (
   some ((s2,s3,s4)))
def fS(N:Nat)(s11 a3:Int):Nat->Option (Unit)
 | 0=>none
 | k+1=>
  aR (decide ((I64 (2*s11))<=a3)) λx13=>
  cond x13 (none) (some (()))
def cI(N:Nat)(a3:Int):Nat->Int->Option (Unit)
 | 0,_=>none
 | k+1,s11=>
  cond (decide (s11 < a3)) (
   aa (fS N s11 a3 N ) λp12=>
   aa (aR (decide ((I64 (0+s11)) < a3)) λx15=>
   cond x15 (none) (some (()))) λp14=>
   cI N a3 k (I64 (s11*2))) (
   some (()))
def iL(N:Nat)(b0:(List Int))(a1 a2:Nat)(a3:Int)(a4:(List aJ))(a5:Int):Option ((List Int)):=
 aa (bW N a3 a1 a4 a5 N b0 a2 0 20) λp1=>
 aa (bL N p1.1 a1 p1.2.1 p1.2.2 a3 a4 a5) λr8=>
 aa (yS r8 p1.1.length) λ_=>
 aa (cI N a3 N 20) λp10=>
 some r8
theorem tL{N b0 a1 a2 a3 a4 a5 r}(h:iL N b0 a1 a2 a3 a4 a5=some r):FnM Tryz.prog 192 [.gro 1 (ah j64 b0),.var (j64 a5)] [(.gro 0 1 b0.length (.sub a1 a2)),(j64 a3),(.fn (.func 166) [] [(.im (eL 19 aJ.enc a4)),(.ref 1 [] 0)])] (.tup []) [.gro 1 (ah j64 r),.var (j64 a5)]:=by
 refine Af bO Tryz.func192 h ?_;refine At.M 4 [1,2,6] 2 (λp1=>([(0,(.gro 0 1 p1.1.length (.sub a1 p1.2.1))),(7,(j64 p1.2.2))],[(0,.gro 1 (ah j64 p1.1))],[])) [1,2,6] 2 (CU4 (bW N a3 a1 a4 a5)) (cu4 λ(s2:(List Int)) (s3:Nat) (s4:Int) (s5:Int)=>([(0,(.gro 0 1 s2.length (.sub a1 s3))),(7,(j64 s4)),(8,(j64 s5))],[(0,.gro 1 (ah j64 s2))],[])) (_,_,_,_) N (λp1 k=>un4 λs2 s3 s4 s5=>?_) λp1=>?_
 ·refine At.c 3 ?_ ?_
  ·refine bi λr6 hr6=>?_;refine bi λu7 hu7=>?_;refine At.o 4 (tY [0,1] (jL hr6)) ?_;refine At.gl 0 [0] [] 0 s2.length r6.length (aD2 hu7) ?_;exact λh=>At.v 6 (_,_,_,_) h
  ·apply rt;exact At.x 0
 ·refine bi λr8 hr8=>?_;refine bi λu9 hu9=>?_;refine At.o 4 (tY [0,1] (jL hr8)) ?_;refine At.gl 0 [0] [] 0 p1.1.length r8.length (aD2 hu9) ?_;refine At.M 0 [] 2 (λp10=>([],[],[])) [0,1,2] 2 (cI N a3) (λ(s11:Int)=>([(6,(j64 s11))],[],[])) _ N (λp10 k s11=>?_) λp10=>?_
  ·refine At.c 3 ?_ ?_
   ·refine At.M 4 [0,1,2,6,7] 2 (λp12=>([],[],[])) [0,1,2,6,7,8] 2 (CU0 (fS N s11 a3)) (λ(_:Unit)=>([],[],[])) () N (λp12 k _=>?_) λp12=>?_
    ·unfold fS;dsimp only;apply lx;intro x13;refine At.c 3 ?_ ?_
     ·exact nn
     ·apply rt;exact At.x 0
    ·refine At.J 0 1 [0,1,2,6] 2 (λp14=>([],[],[])) (λp14=>?_) λp14=>?_
     ·apply lx;intro x15;refine At.c 7 ?_ ?_
      ·exact nn
      ·apply rt;exact At.jn 0
     ·exact λh=>At.v 3 _ h
   ·apply rt;exact At.x 0
  ·apply rt;exact At.z 0
def cX(N:Nat)(b0:(List Int))(a1 a2:Nat)(a3:(List aJ))(a4:Int):Option ((List Int)):=
 aa (iL N b0 a1 a2 ((a2:Int)) a3 a4) λr1=>
 some r1
theorem qM{N b0 a1 a2 a3 a4 r}(h:cX N b0 a1 a2 a3 a4=some r):FnM Tryz.prog 165 [.gro 1 (ah j64 b0),.var (j64 a4)] [(.gro 0 1 b0.length (.sub a1 a2)),(.fn (.func 166) [] [(.im (eL 19 aJ.enc a3)),(.ref 1 [] 0)])] (.tup []) [.gro 1 (ah j64 r),.var (j64 a4)]:=by
 refine Af bO Tryz.func165 h ?_;refine At.Y 4 [0,1] tL λr1=>?_;apply rt;exact At.z 0
def zL(N:Nat)(a0 a1 a2:Int):Option (Int):=
 aR (I64 ((I64 (a0 - a1))*8)) λx1=>
 aa (aDp .i64 x1 (I64 (a2 - a1))) λx2=>
 some (dO x2 7)
theorem aI8{N a0 a1 a2 r}(h:zL N a0 a1 a2=some r):FnM Tryz.prog 169 [] [(j64 a0),(j64 a1),(j64 a2)] (j64 r) []:=by
 refine Af bO Tryz.func169 h ?_;apply lx;intro x1;refine At.b 8 (λ_ e=>yR hT e (by kernel_rfl) (by kernel_rfl)) λx2=>?_;apply rt;exact At.r 2
def aIy : Nat->Bool:=imL [4]
def qO(N:Nat)(a0:bB)(a1:Int)(a2 a3:aB):Option (bB):=
 cond (a1==0) (
  some a0) (
  aa (cond (decide (a0.gn > 0)) (
   aa (pH N ([a0.glo,a2])) λr2=>
   aa (pH N ([a0.ghi,a3])) λr3=>
   some ((r2.1,r3.2))) (
   some ((a2,a3)))) λp1=>
  some (bB.mk (I64 (a0.gn+a1)) p1.1 p1.2))
theorem aAZ{N a0 a1 a2 a3 r}(h:qO N a0 a1 a2 a3=some r):FnM Tryz.prog 193 [] [(bB.enc a0),(j64 a1),(aB.enc a2),(aB.enc a3)] (bB.enc r) []:=by
 refine Af aIy Tryz.func193 h ?_;refine At.c 6 ?_ ?_
 ·apply rt;exact At.r 2
 ·refine At.J 0 1 [1,4,6,7,8] 3 (λp1=>([],[(0,.var (aB.enc p1.1)),(1,.var (aB.enc p1.2))],[])) (λp1=>?_) λp1=>?_
  ·refine At.c 3 ?_ ?_
   ·refine At.o 3 (bG hT (x:=(.sl 3 2 [(aB.enc a0.glo),(aB.enc a2)]))) ?_;refine At.y 0 uE λr2=>?_;refine At.o 7 (bG hT (x:=(.sl 3 2 [(aB.enc a0.ghi),(aB.enc a3)]))) ?_;refine At.y 0 uE λr3=>?_;apply rt;exact At.jn 4
   ·apply rt;exact At.jn 0
  ·apply rt;exact At.r 8
def aOI : Nat->Bool:=imL [2,3]
def aFc(N:Nat)(a0 a1:aB):Option (Int):=
 aR (shr .i64 (I64 (a1.gX - a0.gX)) 10) λx1=>
 aR (shr .i64 (I64 (a1.gY - a0.gY)) 10) λx2=>
 aR (shr .i64 (I64 (a1.gZ - a0.gZ)) 10) λx3=>
 aR (I64 ((I64 (x1+1))*(I64 (x2+1)))) λx4=>
 aR (I64 ((I64 (x2+1))*(I64 (x3+1)))) λx5=>
 aR (I64 ((I64 (x3+1))*(I64 (x1+1)))) λx6=>
 aR (I64 ((I64 (x4+x5))+x6)) λx7=>
 some x7
theorem aNk{N a0 a1 r}(h:aFc N a0 a1=some r):FnM Tryz.prog 208 [] [(aB.enc a0),(aB.enc a1)] (j64 r) []:=by
 refine Af aOI Tryz.func208 h ?_;refine At.D 3 [] ?_;apply lx;intro x1;apply lx;intro x2;apply lx;intro x3;refine De 24 ?_;apply lx;intro x4;apply lx;intro x5;apply lx;intro x6;apply lx;intro x7;apply rt;exact At.r 12
def aH5 : Nat->Bool:=imL [1]
def sB(N:Nat)(a0:bB):Option (Int):=
 cond (a0.gn==0) (
  some 1152921504606846976) (
  aa (aFc N a0.glo a0.ghi) λr1=>
  some (I64 (a0.gn*r1)))
theorem aCi{N a0 r}(h:sB N a0=some r):FnM Tryz.prog 194 [] [(bB.enc a0)] (j64 r) []:=by
 refine Af aH5 Tryz.func194 h ?_;refine At.c 5 ?_ ?_
 ·apply rt;exact At.r 1
 ·refine At.D 0 [] ?_;refine DD.y 6 aNk λr1=>?_;refine De 2 ?_;apply rt;exact At.r 0
def lS(N a3:Nat)(b0:(List Int))(a2:Nat)(a1:(List aJ))(a4 a5 a6:Int):Nat->(Vector bB 8)->Int->Option ((Vector bB 8))
 | 0,_,_=>none
 | k+1,s2,s3=>
  aR (decide (s3 < ((a3:Int)))) λx4=>
  cond x4 (
   aa (aAa b0.length a2 a3 s3) λ_=>
   aa (b0[(aBC a2 s3.toNat)]?) λe6=>
   aa (idx a1 e6) λe7=>
   aa (xR e7.gP.toList 0 3) λs8=>
   aa (pH N s8) λr9=>
   aa (idx a1 e6) λe10=>
   aa (kW N e10) λr11=>
   aa (nD N r11 a4) λr12=>
   aa (zL N r12 a5 a6) λr13=>
   aa (dS r13 8) λ_=>
   aa (s2.toList[r13.toNat]?) λe15=>
   aa (qO N e15 1 r9.1 r9.2) λr16=>
   aa (dS r13 8) λ_=>
   aa (s2.toList[r13.toNat]?) λe18=>
   lS N a3 b0 a2 a1 a4 a5 a6 k (s2.setIfInBounds r13.toNat r16) (I64 (s3+1))) (
   some s2)
def lX(N:Nat)(p1:(Vector bB 8))(s22:Int):Nat->bB->bB->Int->Option (bB×bB)
 | 0,_,_,_=>none
 | k+1,s25,s26,s27=>
  cond (decide (s27 < 8)) (
   aa (aa (idx p1.toList s27) λe29=>
   cond (decide (s27 < s22)) (
    aa (qO N s25 e29.gn e29.glo e29.ghi) λr30=>
    some ((r30,s26,e29))) (
    aa (qO N s26 e29.gn e29.glo e29.ghi) λr31=>
    some ((s25,r31,e29)))) λp28=>
   lX N p1 s22 k p28.1 p28.2.1 (I64 (s27+1))) (
   some ((s25,s26)))
def oT(N:Nat)(p1:(Vector bB 8)):Nat->Int->Int->Int->Option (Int)
 | 0,_,_,_=>none
 | k+1,s20,s21,s22=>
  cond (decide (s22 < 8)) (
   aa (aa (lX N p1 s22 N (bB.mk 0 (aB.mk 0 0 0) (aB.mk 0 0 0)) (bB.mk 0 (aB.mk 0 0 0) (aB.mk 0 0 0)) 0) λp24=>
   aa (sB N p24.1) λr32=>
   aR (dO r32 576460752303423488) λx33=>
   aa (sB N p24.2) λr34=>
   aR (dO r34 576460752303423488) λx35=>
   aR (cond (decide (p24.1.gn > 0)) (decide (p24.2.gn > 0)) false) λx36=>
   aR (decide ((I64 (x33+x35)) < s20)) λx37=>
   cond (cond x36 x37 false) (
    some ((p24.1,p24.2,I64 (x33+x35),s22))) (
    some ((p24.1,p24.2,s20,s21)))) λp23=>
   oT N p1 k p23.2.2.1 p23.2.2.2 (I64 (s22+1))) (
   some s21)
def wG(N:Nat)(b0:(List Int))(a1:(List aJ))(a2 a3:Nat)(a4 a5 a6:Int):Option (Int):=
 aa (lS N a3 b0 a2 a1 a4 a5 a6 N (bu 8 (bB.mk 0 (aB.mk 0 0 0) (aB.mk 0 0 0))) 0) λp1=>
 aa (oT N p1 N 2305843009213693952 1 1) λp19=>
 some p19
theorem aGp{N b0 a1 a2 a3 a4 a5 a6 r}(h:wG N b0 a1 a2 a3 a4 a5 a6=some r):FnM Tryz.prog 167 [.gro 1 (ah j64 b0)] [(eL 19 aJ.enc a1),(.gro 0 1 b0.length (.sub a2 a3)),(j64 a4),(j64 a5),(j64 a6)] (j64 r) [.gro 1 (ah j64 b0)]:=by
 refine Af bO Tryz.func167 h ?_;refine At.M 5 [11] 2 (λp1=>([],[(1,.var (eA 56 7 bB.enc p1))],[])) [0,2,3,4,11,25,26] 2 (CU2 (lS N a3 b0 a2 a1 a4 a5 a6)) (cu2 λ(s2:(Vector bB 8)) (s3:Int)=>([(27,(j64 s3))],[(1,.var (eA 56 7 bB.enc s2))],[])) (_,_) N (λp1 k=>un2 λs2 s3=>?_) λp1=>?_
 ·apply lx;intro x4;refine At.c 1 ?_ ?_
  ·refine At.b 0 (λ_ e=>kT hT (id:=0) (k:=1) e (by kernel_rfl) (by kernel_rfl)) λu5=>?_;refine At.b 0 (λ_ e=>rL hT j64 [] e rfl (by kernel_rfl) (by kernel_rfl)) λe6=>?_;refine At.i hT 3 aJ.enc λe7=>?_;refine At.b 1 (λ_ e=>aCG hT (N:=9) (k:=3) aB.enc e7.gP e) λs8=>?_;refine At.y 0 uE λr9=>?_;refine At.i hT 9 aJ.enc λe10=>?_;refine At.y 1 vL λr11=>?_;refine At.y 1 oD λr12=>?_;refine At.y 2 aI8 λr13=>?_;refine At.D 1 [] ?_;refine DD.b 2 (λe _=>bF hT (k:=7) 1 [] 0 e) λu14=>?_;refine DD.l hT 0 bB.enc bB.enc 0 λe15=>?_;refine DD.y 2 aAZ λr16=>?_;refine DD.b 0 (λe _=>bF hT (k:=7) 1 [] 0 e) λu17=>?_;refine bi λe18 he18=>?_;refine DD.w 0 (.v (.bool false)) ⟨[(1,.var (eA 56 7 bB.enc (s2.setIfInBounds r13.toNat r16)))],[]⟩ (λ_ e=>oX hT bB.enc 0 s2 he18 r16 (pj1 e) (pj1 (pj2 e)) (pj2 (pj2 e))) ?_;refine De 0 ?_;exact λh=>At.v 2 (_,_) h
  ·apply rt;exact At.x 0
 ·refine At.M 3 [] 2 (λp19=>([(18,(j64 p19))],[],[])) [11] 2 (CU3 (oT N p1)) (cu3 λ(s20:Int) (s21:Int) (s22:Int)=>([(17,(j64 s20)),(18,(j64 s21)),(19,(j64 s22))],[],[])) (_,_,_) N (λp19 k=>un3 λs20 s21 s22=>?_) λp19=>?_
  ·refine At.c 2 ?_ ?_
   ·refine At.J 0 2 [11,19] 2 (λp23=>([(17,(j64 p23.2.2.1)),(18,(j64 p23.2.2.2))],[],[.var (bB.enc p23.1),.var (bB.enc p23.2.1)])) (λp23=>?_) λp23=>?_
    ·refine At.M 4 [11,17,18,19,20,21] 4 (λp24=>([],[(2,.var (bB.enc p24.1)),(3,.var (bB.enc p24.2))],[])) [11,17,18,19,20,21,63] 4 (CU3 (lX N p1 s22)) (cu3 λ(s25:bB) (s26:bB) (s27:Int)=>([(64,(j64 s27))],[(2,.var (bB.enc s25)),(3,.var (bB.enc s26))],[])) (_,_,_) N (λp24 k=>un3 λs25 s26 s27=>?_) λp24=>?_
     ·refine At.c 1 ?_ ?_
      ·refine At.J 0 2 [11,17,18,19,20,21,63,64] 4 (λp28=>([],[(2,.var (bB.enc p28.1)),(3,.var (bB.enc p28.2.1))],[.var (bB.enc p28.2.2)])) (λp28=>?_) λp28=>?_
       ·refine At.b 1 (λ_ e=>aA2 hT bB.enc p1 e (by kernel_rfl) (by kernel_rfl)) λe29=>?_;refine At.c 6 ?_ ?_
        ·refine At.y 7 aAZ λr30=>?_;apply rt;exact At.jn 1
        ·refine At.y 7 aAZ λr31=>?_;apply rt;exact At.jn 1
       ·exact λh=>At.v 2 (_,_,_) h
      ·apply rt;exact At.x 0
     ·refine At.D 0 [] ?_;refine DD.y 1 aCi λr32=>?_;apply lx;intro x33;refine DD.y 2 aCi λr34=>?_;apply lx;intro x35;refine De 3 ?_;apply lx;intro x36;apply lx;intro x37;refine At.c 13 ?_ ?_
      ·apply rt;exact At.jn 4
      ·apply rt;exact At.jn 0
    ·exact λh=>At.v 3 (_,_,_) h
   ·apply rt;exact At.x 0
  ·apply rt;exact At.r 2
def jA(N:Nat)(a0:Int)(a1:(List aJ))(a2 a3 a4 a5:Int):Option (Bool):=
 aa (idx a1 a0) λe1=>
 aa (kW N e1) λr2=>
 aa (nD N r2 a5) λr3=>
 aa (zL N r3 a2 a3) λr4=>
 some (decide (r4>=a4))
theorem pZ{N a0 a1 a2 a3 a4 a5 r}(h:jA N a0 a1 a2 a3 a4 a5=some r):FnM Tryz.prog 168 [.var (j64 a5)] [(j64 a0),(.im (eL 19 aJ.enc a1)),(.ref 0 [] 0),(.im (j64 a2)),(.im (j64 a3)),(.im (j64 a4))] (eB r) [.var (j64 a5)]:=by
 refine Af bO Tryz.func168 h ?_;refine At.D 1 [] ?_;refine DD.i hT 2 aJ.enc λe1=>?_;refine DD.y 1 vL λr2=>?_;refine DD.y 1 oD λr3=>?_;refine DD.y 2 aI8 λr4=>?_;refine De 3 ?_;apply rt;exact At.r 0
def uR(N:Nat)(a0 a1:Int)(a2:(List aJ))(a3 a4 a5 a6:Int):Option (Int):=
 aa (jA N a0 a2 a3 a4 a5 a6) λr1=>
 aa (jA N a1 a2 a3 a4 a5 a6) λr2=>
 cond (r1==r2) (
  some 0) (
  aa (jA N a1 a2 a3 a4 a5 a6) λr3=>
  cond r3 (some (-1)) (some 1))
theorem aGL{N a0 a1 a2 a3 a4 a5 a6 r}(h:uR N a0 a1 a2 a3 a4 a5 a6=some r):FnM Tryz.prog 170 [.var (.fn (.func 168) [] [(.im (eL 19 aJ.enc a2)),(.ref 1 [] 0),(.im (j64 a3)),(.im (j64 a4)),(.im (j64 a5))]),.var (j64 a6)] [(j64 a0),(j64 a1),(.ref 0 [] 0)] (j64 r) [.var (.fn (.func 168) [] [(.im (eL 19 aJ.enc a2)),(.ref 1 [] 0),(.im (j64 a3)),(.im (j64 a4)),(.im (j64 a5))]),.var (j64 a6)]:=by
 refine Af bO Tryz.func170 h ?_;refine At.D 1 [] ?_;refine DD.Y 2 [1] pZ λr1=>?_;refine DD.Y 2 [1] pZ λr2=>?_;refine De 2 ?_;refine At.c 0 ?_ ?_
 ·apply rt;exact At.r 1
 ·refine At.Y 2 [1] pZ λr3=>?_;refine At.c 1 ?_ ?_
  ·apply rt;exact At.r 1
  ·apply rt;exact At.r 1
def bJ(N:Nat)(a3:Int)(a1:Nat)(a5:(List aJ))(a6 a7 a8 a9:Int):Nat->(List Int)->Nat->Int->Option ((List Int)×Nat)
 | 0,_,_,_=>none
 | k+1,s6,s7,s8=>
  aa (cond (decide (s8 > a3)) (
   aa (aAa s6.length a1 s7 s8) λ_=>
   aa (s6[(aBC a1 s8.toNat)]?) λe11=>
   aa (aAa s6.length a1 s7 (I64 (s8 - 1))) λ_=>
   aa (s6[(aBC a1 ((I64 (s8 - 1)).toNat))]?) λe13=>
   aa (uR N e11 e13 a5 a6 a7 a8 a9) λr14=>
   some (decide (r14 < 0))) (
   some false)) λp9=>
  cond p9 (
   aa (aAa s6.length a1 s7 (I64 (s8 - 1))) λ_=>
   aa (s6[(aBC a1 ((I64 (s8 - 1)).toNat))]?) λe16=>
   aa (aAa s6.length a1 s7 s8) λ_=>
   aa (s6[(aBC a1 s8.toNat)]?) λe18=>
   aa (aAa s6.length a1 s7 s8) λ_=>
   aa (aC3 s6 ((aBC a1 s8.toNat)) e16) λz20=>
   aa (aAa s6.length a1 s7 (I64 (s8 - 1))) λ_=>
   aa (aC3 z20 ((aBC a1 ((I64 (s8 - 1)).toNat))) e18) λz22=>
   bJ N a3 a1 a5 a6 a7 a8 a9 k z22 s7 (I64 (s8 - 1))) (
   some ((s6,s7)))
def bX(N:Nat)(a4 a3:Int)(a1:Nat)(a5:(List aJ))(a6 a7 a8 a9:Int):Nat->(List Int)->Nat->Int->Option ((List Int))
 | 0,_,_,_=>none
 | k+1,s2,s3,s4=>
  cond (decide (s4 < a4)) (
   aa (bJ N a3 a1 a5 a6 a7 a8 a9 N s2 s3 s4) λp5=>
   bX N a4 a3 a1 a5 a6 a7 a8 a9 k p5.1 p5.2 (I64 (s4+1))) (
   some s2)
def bP(N:Nat)(b0:(List Int))(a1 a2:Nat)(a3 a4:Int)(a5:(List aJ))(a6 a7 a8 a9:Int):Option ((List Int)):=
 aa (bX N a4 a3 a1 a5 a6 a7 a8 a9 N b0 a2 (I64 (a3+1))) λp1=>
 some p1
theorem jS{N b0 a1 a2 a3 a4 a5 a6 a7 a8 a9 r}(h:bP N b0 a1 a2 a3 a4 a5 a6 a7 a8 a9=some r):FnM Tryz.prog 206 [.gro 1 (ah j64 b0),.var (.fn (.func 168) [] [(.im (eL 19 aJ.enc a5)),(.ref 2 [] 0),(.im (j64 a6)),(.im (j64 a7)),(.im (j64 a8))]),.var (j64 a9)] [(.gro 0 1 b0.length (.sub a1 a2)),(j64 a3),(j64 a4),(.fn (.func 170) [] [(.ref 1 [] 0)])] (.tup []) [.gro 1 (ah j64 r),.var (.fn (.func 168) [] [(.im (eL 19 aJ.enc a5)),(.ref 2 [] 0),(.im (j64 a6)),(.im (j64 a7)),(.im (j64 a8))]),.var (j64 a9)]:=by
 refine Af bO Tryz.func206 h ?_;refine At.M 3 [] 3 (λp1=>([],[(0,.gro 1 (ah j64 p1))],[])) [1,2,3] 3 (CU3 (bX N a4 a3 a1 a5 a6 a7 a8 a9)) (cu3 λ(s2:(List Int)) (s3:Nat) (s4:Int)=>([(0,(.gro 0 1 s2.length (.sub a1 s3))),(8,(j64 s4))],[(0,.gro 1 (ah j64 s2))],[])) (_,_,_) N (λp1 k=>un3 λs2 s3 s4=>?_) λp1=>?_
 ·refine At.c 3 ?_ ?_
  ·refine At.M 2 [1,2,3,8] 3 (λp5=>([(0,(.gro 0 1 p5.1.length (.sub a1 p5.2)))],[(0,.gro 1 (ah j64 p5.1))],[])) [1,2,3,8] 3 (CU3 (bJ N a3 a1 a5 a6 a7 a8 a9)) (cu3 λ(s6:(List Int)) (s7:Nat) (s8:Int)=>([(0,(.gro 0 1 s6.length (.sub a1 s7))),(9,(j64 s8))],[(0,.gro 1 (ah j64 s6))],[])) (_,_,_) N (λp5 k=>un3 λs6 s7 s8=>?_) λp5=>?_
   ·refine At.J 0 0 [0,1,2,3,8,9] 3 (λp9=>([(34,(eB p9))],[],[])) (λp9=>?_) λp9=>?_
    ·refine At.D 0 [] ?_;refine DD.s hT 4 ?_ ?_
     ·refine DD.b 3 (λe _=>kT hT (id:=0) (k:=1) e (by kernel_rfl) (by kernel_rfl)) λu10=>?_;refine bi λe11 he11=>?_;refine DD.w 0 (j64 e11) ⟨[],[]⟩ (λ_ e=>zB (rL hT j64 [] he11 rfl (pj1 e) (pj1 (pj2 e))) (pj2 (pj2 e))) ?_;refine DD.b 3 (λe _=>kT hT (id:=0) (k:=1) e (by kernel_rfl) (by kernel_rfl)) λu12=>?_;refine bi λe13 he13=>?_;refine DD.w 0 (j64 e13) ⟨[],[]⟩ (λ_ e=>zB (rL hT j64 [] he13 rfl (pj1 e) (pj1 (pj2 e))) (pj2 (pj2 e))) ?_;refine DD.Y 0 [1,2] aGL λr14=>?_;refine De 2 ?_;apply rt;exact At.jn 0
     ·refine De 13 ?_;apply rt;exact At.jn 0
    ·refine At.c 0 ?_ ?_
     ·refine At.D 0 [] ?_;refine DD.b 8 (λe _=>kT hT (id:=0) (k:=1) e (by kernel_rfl) (by kernel_rfl)) λu15=>?_;refine bi λe16 he16=>?_;refine DD.w 0 (j64 e16) ⟨[],[]⟩ (λ_ e=>zB (rL hT j64 [] he16 rfl (pj1 e) (pj1 (pj2 e))) (pj2 (pj2 e))) ?_;refine DD.b 2 (λe _=>kT hT (id:=0) (k:=1) e (by kernel_rfl) (by kernel_rfl)) λu17=>?_;refine bi λe18 he18=>?_;refine DD.w 0 (j64 e18) ⟨[],[]⟩ (λ_ e=>zB (rL hT j64 [] he18 rfl (pj1 e) (pj1 (pj2 e))) (pj2 (pj2 e))) ?_;refine DD.b 0 (λe _=>kT hT (id:=0) (k:=1) e (by kernel_rfl) (by kernel_rfl)) λu19=>?_;refine bi λz20 hz20=>?_;refine DD.w 0 (.v (.bool false)) ⟨[(0,.gro 1 (ah j64 z20))],[]⟩ (λ_ e=>tQ hT j64 (k:=1) e16 hz20 rfl (pj1 e) (congrFun (pj1 (pj2 e))) (pj1 (pj2 (pj2 e))) (pj2 (pj2 (pj2 e)))) ?_;refine DD.b 0 (λe _=>kT hT (id:=0) (k:=1) e (by kernel_rfl) (by kernel_rfl)) λu21=>?_;refine bi λz22 hz22=>?_;refine DD.w 0 (.v (.bool false)) ⟨[(0,.gro 1 (ah j64 z22))],[]⟩ (λ_ e=>tQ hT j64 (k:=1) e18 hz22 ((xU hz20).2.2).symm (pj1 e) (congrFun (pj1 (pj2 e))) (pj1 (pj2 (pj2 e))) (pj2 (pj2 (pj2 e)))) ?_;refine De 0 ?_;refine At.gp [0] [] 0 s6.length z22.length (((xU hz22).2.2).trans ((xU hz20).2.2)) ?_;exact λh=>At.v 3 (_,_,_) h
     ·apply rt;exact At.x 0
   ·exact λh=>At.v 3 (_,_,_) h
  ·apply rt;exact At.x 0
 ·apply rt;exact At.z 0
def cA(N:Nat)(a3:Int)(a1:Nat)(a4:(List aJ))(a5 a6 a7 a8:Int):Nat->(List Int)->Nat->Int->Int->Option ((List Int)×Nat×Int)
 | 0,_,_,_,_=>none
 | k+1,s2,s3,s4,s5=>
  cond (decide (s5<=a3)) (
   aa (bP N s2 a1 s3 s4 s5 a4 a5 a6 a7 a8) λr6=>
   aa (yS r6 s2.length) λ_=>
   cA N a3 a1 a4 a5 a6 a7 a8 k r6 s3 s5 (I64 (s5+20))) (
   some ((s2,s3,s4)))
def hO(N:Nat)(s11 a3:Int):Nat->Option (Unit)
 | 0=>none
 | k+1=>
  aR (decide ((I64 (2*s11))<=a3)) λx13=>
  cond x13 (none) (some (()))
def cM(N:Nat)(a3:Int):Nat->Int->Option (Unit)
 | 0,_=>none
 | k+1,s11=>
  cond (decide (s11 < a3)) (
   aa (hO N s11 a3 N ) λp12=>
   aa (aR (decide ((I64 (0+s11)) < a3)) λx15=>
   cond x15 (none) (some (()))) λp14=>
   cM N a3 k (I64 (s11*2))) (
   some (()))
def iU(N:Nat)(b0:(List Int))(a1 a2:Nat)(a3:Int)(a4:(List aJ))(a5 a6 a7 a8:Int):Option ((List Int)):=
 aa (cA N a3 a1 a4 a5 a6 a7 a8 N b0 a2 0 20) λp1=>
 aa (bP N p1.1 a1 p1.2.1 p1.2.2 a3 a4 a5 a6 a7 a8) λr8=>
 aa (yS r8 p1.1.length) λ_=>
 aa (cM N a3 N 20) λp10=>
 some r8
theorem tN{N b0 a1 a2 a3 a4 a5 a6 a7 a8 r}(h:iU N b0 a1 a2 a3 a4 a5 a6 a7 a8=some r):FnM Tryz.prog 192 [.gro 1 (ah j64 b0),.var (.fn (.func 168) [] [(.im (eL 19 aJ.enc a4)),(.ref 2 [] 0),(.im (j64 a5)),(.im (j64 a6)),(.im (j64 a7))]),.var (j64 a8)] [(.gro 0 1 b0.length (.sub a1 a2)),(j64 a3),(.fn (.func 170) [] [(.ref 1 [] 0)])] (.tup []) [.gro 1 (ah j64 r),.var (.fn (.func 168) [] [(.im (eL 19 aJ.enc a4)),(.ref 2 [] 0),(.im (j64 a5)),(.im (j64 a6)),(.im (j64 a7))]),.var (j64 a8)]:=by
 refine Af bO Tryz.func192 h ?_;refine At.M 4 [1,2,6] 3 (λp1=>([(0,(.gro 0 1 p1.1.length (.sub a1 p1.2.1))),(7,(j64 p1.2.2))],[(0,.gro 1 (ah j64 p1.1))],[])) [1,2,6] 3 (CU4 (cA N a3 a1 a4 a5 a6 a7 a8)) (cu4 λ(s2:(List Int)) (s3:Nat) (s4:Int) (s5:Int)=>([(0,(.gro 0 1 s2.length (.sub a1 s3))),(7,(j64 s4)),(8,(j64 s5))],[(0,.gro 1 (ah j64 s2))],[])) (_,_,_,_) N (λp1 k=>un4 λs2 s3 s4 s5=>?_) λp1=>?_
 ·refine At.c 3 ?_ ?_
  ·refine bi λr6 hr6=>?_;refine bi λu7 hu7=>?_;refine At.o 4 (tY [0,1,2] (jS hr6)) ?_;refine At.gl 0 [0] [] 0 s2.length r6.length (aD2 hu7) ?_;exact λh=>At.v 6 (_,_,_,_) h
  ·apply rt;exact At.x 0
 ·refine bi λr8 hr8=>?_;refine bi λu9 hu9=>?_;refine At.o 4 (tY [0,1,2] (jS hr8)) ?_;refine At.gl 0 [0] [] 0 p1.1.length r8.length (aD2 hu9) ?_;refine At.M 0 [] 3 (λp10=>([],[],[])) [0,1,2] 3 (cM N a3) (λ(s11:Int)=>([(6,(j64 s11))],[],[])) _ N (λp10 k s11=>?_) λp10=>?_
  ·refine At.c 3 ?_ ?_
   ·refine At.M 4 [0,1,2,6,7] 3 (λp12=>([],[],[])) [0,1,2,6,7,8] 3 (CU0 (hO N s11 a3)) (λ(_:Unit)=>([],[],[])) () N (λp12 k _=>?_) λp12=>?_
    ·unfold hO;dsimp only;apply lx;intro x13;refine At.c 3 ?_ ?_
     ·exact nn
     ·apply rt;exact At.x 0
    ·refine At.J 0 1 [0,1,2,6] 3 (λp14=>([],[],[])) (λp14=>?_) λp14=>?_
     ·apply lx;intro x15;refine At.c 7 ?_ ?_
      ·exact nn
      ·apply rt;exact At.jn 0
     ·exact λh=>At.v 3 _ h
   ·apply rt;exact At.x 0
  ·apply rt;exact At.z 0
def dA(N:Nat)(b0:(List Int))(a1 a2:Nat)(a3:(List aJ))(a4 a5 a6 a7:Int):Option ((List Int)):=
 aa (iU N b0 a1 a2 ((a2:Int)) a3 a4 a5 a6 a7) λr1=>
 some r1
theorem rI{N b0 a1 a2 a3 a4 a5 a6 a7 r}(h:dA N b0 a1 a2 a3 a4 a5 a6 a7=some r):FnM Tryz.prog 165 [.gro 1 (ah j64 b0),.var (.fn (.func 168) [] [(.im (eL 19 aJ.enc a3)),(.ref 2 [] 0),(.im (j64 a4)),(.im (j64 a5)),(.im (j64 a6))]),.var (j64 a7)] [(.gro 0 1 b0.length (.sub a1 a2)),(.fn (.func 170) [] [(.ref 1 [] 0)])] (.tup []) [.gro 1 (ah j64 r),.var (.fn (.func 168) [] [(.im (eL 19 aJ.enc a3)),(.ref 2 [] 0),(.im (j64 a4)),(.im (j64 a5)),(.im (j64 a6))]),.var (j64 a7)]:=by
 refine Af bO Tryz.func165 h ?_;refine At.Y 4 [0,1,2] tN λr1=>?_;apply rt;exact At.z 0
def bH(N a2:Nat)(b0:(List Int))(a1:Nat)(a3:(List aJ))(a4 a5 a6 a7:Int):Nat->Int->Option (Sum (Unit) (Int))
 | 0,_=>none
 | k+1,s2=>
  aR (decide (s2 < ((a2:Int)))) λx3=>
  cond x3 (
   aa (aAa b0.length a1 a2 s2) λ_=>
   aa (b0[(aBC a1 s2.toNat)]?) λe5=>
   aa (jA N e5 a3 a4 a5 a6 a7) λr6=>
   cond r6 (
    some (Sum.inr s2)) (
    bH N a2 b0 a1 a3 a4 a5 a6 a7 k (I64 (s2+1)))) (
   some (Sum.inl (())))
def dF(N:Nat)(b0:(List Int))(a1 a2:Nat)(a3:(List aJ))(a4 a5 a6 a7:Int):Option (Int):=
 aa (bH N a2 b0 a1 a3 a4 a5 a6 a7 N 0) λo=>kG o (λp1=>
  some (-1)) (λr=>some r)
theorem rP{N b0 a1 a2 a3 a4 a5 a6 a7 r}(h:dF N b0 a1 a2 a3 a4 a5 a6 a7=some r):FnM Tryz.prog 171 [.gro 1 (ah j64 b0),.var (j64 a7)] [(.gro 0 1 b0.length (.sub a1 a2)),(.fn (.func 168) [] [(.im (eL 19 aJ.enc a3)),(.ref 1 [] 0),(.im (j64 a4)),(.im (j64 a5)),(.im (j64 a6))])] (j64 r) [.gro 1 (ah j64 b0),.var (j64 a7)]:=by
 refine Af bO Tryz.func171 h ?_;refine At.MS 4 [] 2 (λp1=>([],[],[])) [0,1,7] 2 (bH N a2 b0 a1 a3 a4 a5 a6 a7) (λ(s2:Int)=>([(8,(j64 s2))],[],[])) _ N (λop1 g1 k s2=>?_) λp1=>?_
 ·apply lx;intro x3;refine At.c 1 ?_ ?_
  ·refine At.b 5 (λ_ e=>kT hT (id:=0) (k:=1) e (by kernel_rfl) (by kernel_rfl)) λu4=>?_;refine At.b 0 (λ_ e=>rL hT j64 [] e rfl (by kernel_rfl) (by kernel_rfl)) λe5=>?_;refine At.Y 0 [1] pZ λr6=>?_;refine At.c 0 ?_ ?_
   ·intro e;apply aBp g1 e;exact At.r 2
   ·exact λh=>At.v 2 _ h
  ·apply rt;exact At.xs 0
 ·apply rt;exact At.r 1
def aI7 : Nat->Bool:=imL [3]
def mT(N a3:Nat)(b0:(List Int))(a2:Nat)(a1:(List aJ)):Nat->(List aB)->Int->Option ((List aB))
 | 0,_,_=>none
 | k+1,s3,s4=>
  aR (decide (s4 < ((a3:Int)))) λx5=>
  cond x5 (
   aa (aAa b0.length a2 a3 s4) λ_=>
   aa (b0[(aBC a2 s4.toNat)]?) λe7=>
   aa (idx a1 e7) λe8=>
   aa (kW N e8) λr9=>
   aa (nL 24 s3 (([r9]:List aB))) λz10=>
   mT N a3 b0 a2 a1 k z10 (I64 (s4+1))) (
   some s3)
def pT(N:Nat)(r11:aB×aB):Nat->Int->Int->Option (Int)
 | 0,_,_=>none
 | k+1,s13,s14=>
  cond (decide (s14 < 3)) (
   aa (aa (nD N r11.2 s14) λr16=>
   aa (nD N r11.1 s14) λr17=>
   aa (nD N r11.2 s13) λr18=>
   aa (nD N r11.1 s13) λr19=>
   aR (decide ((I64 (r16 - r17)) > (I64 (r18 - r19)))) λx20=>
   cond x20 (some s14) (some s13)) λp15=>
   pT N r11 k p15 (I64 (s14+1))) (
   some s13)
def yG(N:Nat)(b0:(List Int))(a1:(List aJ))(a2 a3:Nat)(a4:Int):Option ((List Int)×Int):=
 aR (decide (((a3:Int))<=4)) λx1=>
 cond x1 (
  some ((b0,0))) (
  aa (mT N a3 b0 a2 a1 N [] 0) λp2=>
  aa (pH N p2) λr11=>
  aa (pT N r11 N 0 1) λp12=>
  aa (nD N r11.1 p12) λr21=>
  aa (nD N r11.2 p12) λr22=>
  cond (r21==r22) (
   some ((b0,0))) (
   cond (decide (a4 > 31)) (
    aa (cX N b0 a2 a3 a1 p12) λr23=>
    aa (yS r23 b0.length) λ_=>
    aR (I64 (d7 ((a3:Int)) 2)) λx25=>
    some ((r23,x25))) (
    aa (wG N b0 a1 a2 a3 p12 r21 r22) λr26=>
    aa (dA N b0 a2 a3 a1 r21 r22 r26 p12) λr27=>
    aa (yS r27 b0.length) λ_=>
    aa (dF N r27 a2 a3 a1 r21 r22 r26 p12) λr29=>
    some ((r27,r29)))))
theorem aIE{N b0 a1 a2 a3 a4 r}(h:yG N b0 a1 a2 a3 a4=some r):FnM Tryz.prog 116 [.gro 1 (ah j64 b0)] [(eL 19 aJ.enc a1),(.gro 0 1 b0.length (.sub a2 a3)),(j64 a4)] (j64 r.2) [.gro 1 (ah j64 r.1)]:=by
 refine Af aI7 Tryz.func116 h ?_;apply lx;intro x1;refine At.c 5 ?_ ?_
 ·apply rt;exact At.r 1
 ·refine At.ownn 4 7 3 ?_;refine At.M 0 [1,2,3] 2 (λp2=>([(7,(eO 1 3 aB.enc p2))],[(1,.tail (p2.length*3))],[])) [1,2,3,21,22] 2 (CU2 (mT N a3 b0 a2 a1)) (cu2 λ(s3:(List aB)) (s4:Int)=>([(7,(eO 1 3 aB.enc s3)),(23,(j64 s4))],[(1,.tail (s3.length*3))],[])) (_,_) N (λp2 k=>un2 λs3 s4=>?_) λp2=>?_
  ·apply lx;intro x5;refine At.c 1 ?_ ?_
   ·refine At.b 0 (λ_ e=>kT hT (id:=0) (k:=1) e (by kernel_rfl) (by kernel_rfl)) λu6=>?_;refine At.b 0 (λ_ e=>rL hT j64 [] e rfl (by kernel_rfl) (by kernel_rfl)) λe7=>?_;refine At.i hT 4 aJ.enc λe8=>?_;refine At.y 1 vL λr9=>?_;refine At.o 0 (bG hT (x:=(.sl 3 1 [(aB.enc r9)]))) ?_;refine At.b 0 (λ_ e=>iI hT aB.enc (id:=1) (k:=3) e) λz10=>?_;exact λh=>At.v 3 (_,_) h
   ·apply rt;exact At.x 0
  ·refine At.y 1 uE λr11=>?_;refine At.M 10 [1,2,3,10,11,12] 5 (λp12=>([],[(4,.var (j64 p12))],[])) [1,2,3,10,11,12] 5 (CU2 (pT N r11)) (cu2 λ(s13:Int) (s14:Int)=>([(13,(j64 s14))],[(4,.var (j64 s13))],[])) (_,_) N (λp12 k=>un2 λs13 s14=>?_) λp12=>?_
   ·refine At.c 2 ?_ ?_
    ·refine At.J 0 2 [1,2,3,10,11,12,13] 5 (λp15=>([],[(4,.var (j64 p15))],[])) (λp15=>?_) λp15=>?_
     ·refine At.D 0 [] ?_;refine DD.y 2 oD λr16=>?_;refine DD.y 2 oD λr17=>?_;refine DD.y 3 oD λr18=>?_;refine DD.y 2 oD λr19=>?_;apply lx;intro x20;refine De 2 ?_;refine At.c 0 ?_ ?_
      ·apply rt;exact At.jn 2
      ·apply rt;exact At.jn 0
     ·exact λh=>At.v 3 (_,_) h
    ·apply rt;exact At.x 0
   ·refine At.D 0 [false,false] ?_;refine DD.y 2 oD λr21=>?_;refine DD.y 2 oD λr22=>?_;refine De 4 ?_;refine At.c 3 ?_ ?_
    ·apply rt;exact At.r 1
    ·refine At.c 2 ?_ ?_
     ·refine At.o 1 (pM (x:=(.fn (.func 166) [] [(.im (eL 19 aJ.enc a1)),(.ref 4 [] 0)])) (by kernel_rfl) (by kernel_rfl)) ?_;refine bi λr23 hr23=>?_;refine bi λu24 hu24=>?_;refine At.o 0 (tY [0,4] (qM hr23)) ?_;refine At.gl 0 [1] [] 0 b0.length r23.length (aD2 hu24) ?_;apply lx;intro x25;apply rt;exact At.r 4
     ·refine At.Y 5 [0] aGp λr26=>?_;refine At.gz 2 5 ((j64 r21)) ?_;refine At.gz 0 6 ((j64 r22)) ?_;refine At.gz 0 7 ((j64 r26)) ?_;refine At.o 0 (pM (x:=(.fn (.func 168) [] [(.im (eL 19 aJ.enc a1)),(.ref 4 [] 0),(.im (j64 r21)),(.im (j64 r22)),(.im (j64 r26))])) (by kernel_rfl) (by kernel_rfl)) ?_;refine At.o 3 (pM (x:=(.fn (.func 170) [] [(.ref 8 [] 0)])) (by kernel_rfl) (by kernel_rfl)) ?_;refine bi λr27 hr27=>?_;refine bi λu28 hu28=>?_;refine At.o 0 (tY [0,8,4] (rI hr27)) ?_;refine At.gl 0 [1] [] 0 b0.length r27.length (aD2 hu28) ?_;refine At.Y 2 [0,4] rP λr29=>?_;apply rt;exact At.r 1
def qZ(N:Nat)(a0:(List aJ)):Nat->Int->Option (Sum (Unit) (bC×Int))
 | 0,_=>none
 | k+1,s3=>
  aR (decide (s3 < ((a0.length:Int)))) λx4=>
  cond x4 (
   aa (idx a0 s3) λe5=>
   aa (aSD 3 0 3) λ_=>
   aa (aB3 N e5) λr7=>
   aa (aR (decide ((dO (dO r7.1.gX r7.1.gY) r7.1.gZ) < (-1048576))) λx9=>
   cond x9 (
    some true) (
    aR (decide ((jB (jB r7.2.gX r7.2.gY) r7.2.gZ) > 1048576)) λx10=>
    some x10)) λp8=>
   cond p8 (
    some (Sum.inr ((bC.mk [] [],8)))) (
    qZ N a0 k (I64 (s3+1)))) (
   some (Sum.inl (())))
def qP(N:Nat)(a0:(List aJ)):Nat->(List Int)->Int->Option ((List Int))
 | 0,_,_=>none
 | k+1,s13,s14=>
  aR (decide (s14 < ((a0.length:Int)))) λx15=>
  cond x15 (
   aa (nL 8 s13 (([s14]:List Int))) λz16=>
   qP N a0 k z16 (I64 (s14+1))) (
   some s13)
def rA(N:Nat)(a0:(List aJ)):Nat->(List Int)->(List aX)->(List aW)->Nat->Option ((List Int)×(List aX)×(List aW))
 | 0,_,_,_,_=>none
 | k+1,s18,s19,s20,s21=>
  aR (decide (((s21:Int)) > 0)) λx22=>
  cond x22 (
   aR (I64 (((s21:Int)) - 1)) λx23=>
   aa (aAa s20.length 0 s21 x23) λ_=>
   aa (s20[x23.toNat]?) λe25=>
   aR (I64 (((s21:Int)) - 1)) λx26=>
   aa (aMh s20.length 0 s21 0 x26) λ_=>
   aR (I64 (e25.gC+e25.gA0)) λx28=>
   aa (aMh s18.length 0 s18.length e25.gC x28) λ_=>
   aa (aA1 N s18 a0 e25.gC.toNat (x28.toNat - e25.gC.toNat)) λr30=>
   aa (aa (yG N s18 a0 e25.gC.toNat (x28.toNat - e25.gC.toNat) e25.gD9) λr32=>
   aa (yS r32.1 s18.length) λ_=>
   cond (decide (r32.2 > 0)) (
    aR (I64 (((s19.length:Int))+1)) λx34=>
    aa (nL 80 s19 (([aX.mk (aB.mk 0 0 0) (aB.mk 0 0 0) 0 0 0 0,aX.mk (aB.mk 0 0 0) (aB.mk 0 0 0) 0 0 0 0]:List aX))) λz35=>
    aR (I64 (((s19.length:Int))+1)) λx36=>
    aR (I64 (e25.gC+r32.2)) λx37=>
    aR (I64 (e25.gA0 - r32.2)) λx38=>
    aa (aOC 32 s20 x26.toNat (([aW.mk x36 x37 x38 (I64 (e25.gD9+1)),aW.mk ((s19.length:Int)) e25.gC r32.2 (I64 (e25.gD9+1))]:List aW))) λz39=>
    some ((r32.1,z35,z39,aX.mk r30.1 r30.2 ((s19.length:Int)) ((I64 (((s19.length:Int))+1))) 0 0,x26.toNat+2))) (
    some ((r32.1,s19,s20,aX.mk r30.1 r30.2 (-1) (-1) e25.gC e25.gA0,x26.toNat)))) λp31=>
   aa (dS e25.gA2 p31.2.1.length) λ_=>
   aa (aC3 p31.2.1 e25.gA2.toNat p31.2.2.2.1) λz41=>
   rA N a0 k p31.1 z41 p31.2.2.1 p31.2.2.2.2) (
   some ((s18,s19,s20)))
def aCH(N:Nat)(a0:(List aJ)):Option (bC×Int):=
 aR (decide (((a0.length:Int)) > 4096)) λx1=>
 cond x1 (
  some ((bC.mk [] [],3))) (
  aa (qZ N a0 N 0) λo=>kG o (λp2=>
   aR (((a0.length:Int))==0) λx11=>
   cond x11 (
    some ((bC.mk [] [],0))) (
    aa (qP N a0 N [] 0) λp12=>
    aa (rA N a0 N p12 (([aX.mk (aB.mk 0 0 0) (aB.mk 0 0 0) 0 0 0 0]:List aX)) (([aW.mk 0 0 ((a0.length:Int)) 1]:List aW)) ((([aW.mk 0 0 ((a0.length:Int)) 1]:List aW)).length)) λp17=>
    some ((bC.mk p17.2.1 p17.1,0)))) (λr=>some r))
theorem aLp{N a0 r}(h:aCH N a0=some r):FnM Tryz.prog 78 [] [(eL 19 aJ.enc a0)] (.tup [(bC.enc r.1),(j64 r.2)]) []:=by
 refine Af bO Tryz.func78 h ?_;apply lx;intro x1;refine At.c 5 ?_ ?_
 ·apply rt;exact At.r 3
 ·refine At.MS 3 [0,2] 1 (λp2=>([],[],[])) [0,2,22,23] 1 (qZ N a0) (λ(s3:Int)=>([(24,(j64 s3))],[],[])) _ N (λop2 g2 k s3=>?_) λp2=>?_
  ·apply lx;intro x4;refine At.c 1 ?_ ?_
   ·refine At.i hT 0 aJ.enc λe5=>?_;refine At.b 4 (λ_ e=>aPe hT (k:=3) 1 [0] 0 e (by kernel_rfl) (by kernel_rfl) (by decide)) λs6=>?_;refine At.Y 0 [1] aLx λr7=>?_;refine At.J 7 0 [0,2,22,23,24] 4 (λp8=>([(51,(eB p8))],[],[])) (λp8=>?_) λp8=>?_
    ·refine At.o 6 (aBK (k := .i64) (i:=r7.1.gX) (j:=r7.1.gY) (l:=r7.1.gZ) (by kernel_rfl) (by kernel_rfl)) ?_;apply lx;intro x9;refine At.s 42 2 ?_ ?_
     ·refine At.g [42] 9 ?_;apply rt;exact At.jn 0
     ·refine At.g [42] 6 ?_;refine At.o 0 (aBh (k := .i64) (i:=r7.2.gX) (j:=r7.2.gY) (l:=r7.2.gZ) (by kernel_rfl) (by kernel_rfl)) ?_;apply lx;intro x10;refine At.g [42] 2 ?_;apply rt;exact At.jn 0
    ·refine At.c 0 ?_ ?_
     ·intro e;apply aBp g2 e;exact At.r 3
     ·exact λh=>At.v 2 _ h
   ·apply rt;exact At.xs 0
  ·apply lx;intro x11;refine At.c 4 ?_ ?_
   ·apply rt;exact At.r 3
   ·refine At.grob 3 1 1 [1] ?_;refine At.M 0 [0,2,8] 3 (λp12=>([],[(1,.var (.st 2 [(.v (.slice none 0 0)),(.gro 2 1 p12.length .all)])),(2,.gro 1 (ah j64 p12))],[])) [0,2,8,59] 3 (CU2 (qP N a0)) (cu2 λ(s13:(List Int)) (s14:Int)=>([(60,(j64 s14))],[(1,.var (.st 2 [(.v (.slice none 0 0)),(.gro 2 1 s13.length .all)])),(2,.gro 1 (ah j64 s13))],[])) (_,_) N (λp12 k=>un2 λs13 s14=>?_) λp12=>?_
    ·apply lx;intro x15;refine At.c 1 ?_ ?_
     ·refine At.o 5 (bG hT (x:=(.sl 1 1 [(j64 s14)]))) ?_;refine At.b 0 (λz16 e=>kY hT j64 (id:=2) (k:=1) e (by kernel_rfl) (by kernel_rfl) (H':=[.var (.st 2 [(.v (.slice none 0 0)),(.v (.slice none 0 0))]),.var (.st 2 [(.v (.slice none 0 0)),(.gro 2 1 s13.length .all)]),.gro 1 (ah j64 z16)]) (by kernel_rfl)) λz16=>?_;exact λh=>At.v 4 (_,_) h
     ·apply rt;exact At.x 0
    ·refine At.o 1 (aCv hT aX.enc (k:=10) ([aX.mk (aB.mk 0 0 0) (aB.mk 0 0 0) 0 0 0 0]:List aX) (by kernel_rfl) (by kernel_rfl)) ?_;refine At.o 5 (aCv hT aW.enc (k:=4) ([aW.mk 0 0 ((a0.length:Int)) 1]:List aW) (by kernel_rfl) (by kernel_rfl)) ?_;refine At.gsub 1 10 ?_;refine At.M 0 [2,8] 5 (λp17=>([],[(1,.var (.st 2 [(.gro 3 10 p17.2.1.length .all),(.gro 2 1 p17.1.length .all)])),(2,.gro 1 (ah j64 p17.1)),(3,.gro 10 (ah aX.enc p17.2.1)),(4,.gro 4 (ah aW.enc p17.2.2))],[])) [0,2,8] 5 (CU4 (rA N a0)) (cu4 λ(s18:(List Int)) (s19:(List aX)) (s20:(List aW)) (s21:Nat)=>([(10,(.gro 4 4 s20.length (.sub 0 s21)))],[(1,.var (.st 2 [(.gro 3 10 s19.length .all),(.gro 2 1 s18.length .all)])),(2,.gro 1 (ah j64 s18)),(3,.gro 10 (ah aX.enc s19)),(4,.gro 4 (ah aW.enc s20))],[])) (_,_,_,_) N (λp17 k=>un4 λs18 s19 s20 s21=>?_) λp17=>?_
     ·apply lx;intro x22;refine At.c 3 ?_ ?_
      ·apply lx;intro x23;refine At.b 4 (λ_ e=>kT hT (id:=4) (k:=4) e (by kernel_rfl) (by kernel_rfl)) λu24=>?_;refine At.b 0 (λ_ e=>rL hT aW.enc [] e rfl (by kernel_rfl) (by kernel_rfl)) λe25=>?_;apply lx;intro x26;refine At.b 6 (λ_ e=>aIN hT (id:=4) (k:=4) (L:=s20.length) (lo0:=0) (m:=s21) e (by kernel_rfl) (by kernel_rfl)) λs27=>?_;apply lx;intro x28;refine At.b 10 (λ_ e=>aIN hT (id:=2) (k:=1) (L:=s18.length) (lo0:=0) (m:=s18.length) e (by kernel_rfl) (by kernel_rfl)) λs29=>?_;refine At.Y 3 [2] aKL λr30=>?_;refine At.J 16 1 [0,2,8,11,15] 9 (λp31=>([(10,(.gro 4 4 p31.2.2.1.length (.sub 0 p31.2.2.2.2)))],[(1,.var (.st 2 [(.gro 3 10 p31.2.1.length .all),(.gro 2 1 p31.1.length .all)])),(2,.gro 1 (ah j64 p31.1)),(3,.gro 10 (ah aX.enc p31.2.1)),(4,.gro 4 (ah aW.enc p31.2.2.1)),(8,.var (aX.enc p31.2.2.2.1))],[])) (λp31=>?_) λp31=>?_
       ·refine bi λr32 hr32=>?_;refine bi λu33 hu33=>?_;refine At.o 4 (tY [2] (aIE hr32)) ?_;refine At.gl 0 [] [1] 2 s18.length r32.1.length (aD2 hu33) ?_;refine At.c 3 ?_ ?_
        ·apply lx;intro x34;refine At.o 15 (bG hT (x:=(.sl 10 2 [(.st 10 [(.st 3 [(j64 0),(j64 0),(j64 0)]),(.st 3 [(j64 0),(j64 0),(j64 0)]),(j64 0),(j64 0),(j64 0),(j64 0)]),(.st 10 [(.st 3 [(j64 0),(j64 0),(j64 0)]),(.st 3 [(j64 0),(j64 0),(j64 0)]),(j64 0),(j64 0),(j64 0),(j64 0)])]))) ?_;refine At.b 0 (λz35 e=>kY hT aX.enc (id:=3) (k:=10) e (by kernel_rfl) (by kernel_rfl) (H':=[.var (.st 2 [(.v (.slice none 0 0)),(.v (.slice none 0 0))]),.var (.st 2 [(.gro 3 10 s19.length .all),(.gro 2 1 r32.1.length .all)]),.gro 1 (ah j64 r32.1),.gro 10 (ah aX.enc z35),.gro 4 (ah aW.enc s20),.var (aW.enc e25),.var (aB.enc r30.1),.var (aB.enc r30.2),.var (.st 10 [(aB.enc r30.1),(aB.enc r30.2),(j64 ((s19.length:Int))),(j64 ((I64 (((s19.length:Int))+1)))),(j64 0),(j64 0)])]) (by kernel_rfl)) λz35=>?_;apply lx;intro x36;apply lx;intro x37;apply lx;intro x38;refine At.o 25 (bG hT (x:=(.sl 4 2 [(.st 4 [(j64 x36),(j64 x37),(j64 x38),(j64 (I64 (e25.gD9+1)))]),(.st 4 [(j64 ((s19.length:Int))),(j64 e25.gC),(j64 r32.2),(j64 (I64 (e25.gD9+1)))])]))) ?_;refine At.b 0 (λz39 e=>aHA hT aW.enc (id:=4) (k:=4) e (by kernel_rfl) (by kernel_rfl) (H':=[.var (.st 2 [(.v (.slice none 0 0)),(.v (.slice none 0 0))]),.var (.st 2 [(.gro 3 10 z35.length .all),(.gro 2 1 r32.1.length .all)]),.gro 1 (ah j64 r32.1),.gro 10 (ah aX.enc z35),.gro 4 (ah aW.enc z39),.var (aW.enc e25),.var (aB.enc r30.1),.var (aB.enc r30.2),.var (.st 10 [(aB.enc r30.1),(aB.enc r30.2),(j64 ((s19.length:Int))),(j64 ((I64 (((s19.length:Int))+1)))),(j64 0),(j64 0)])]) (by kernel_rfl)) λz39=>?_;apply rt;exact At.jn 1
        ·apply rt;exact At.jn 0
       ·refine At.b 5 (λ_ e=>aDD hT (id:=3) (k:=10) e (by kernel_rfl) (by kernel_rfl)) λu40=>?_;refine bi λz41 hz41=>?_;refine At.o 0 (tQ hT aX.enc (k:=10) p31.2.2.2.1 hz41 rfl (by kernel_rfl) (λ_=>by kernel_rfl) (by kernel_rfl) (H':=[.var (.st 2 [(.v (.slice none 0 0)),(.v (.slice none 0 0))]),.var (.st 2 [(.gro 3 10 p31.2.1.length .all),(.gro 2 1 p31.1.length .all)]),.gro 1 (ah j64 p31.1),.gro 10 (ah aX.enc z41),.gro 4 (ah aW.enc p31.2.2.1),.var (aW.enc e25),.var (aB.enc r30.1),.var (aB.enc r30.2),.var (aX.enc p31.2.2.2.1)]) (by kernel_rfl)) ?_;refine At.gl 0 [167] [1] 3 p31.2.1.length z41.length ((xU hz41).2.2) ?_;exact λh=>At.v 0 (_,_,_,_) h
      ·apply rt;exact At.x 0
     ·refine At.fz 3 2 1 p17.1.length _ (ah j64 p17.1) (ai _) (ai _) ?_;refine At.fz 0 3 10 p17.2.1.length _ (ah aX.enc p17.2.1) (ai _) (ai _) ?_;apply rt;exact At.r 0
def eU(N:Nat)(a0:(List aJ)):Option ((List aJ)):=
 aa (nL 152 (([]:List aJ)) a0) λz1=>
 some z1
theorem qD{N a0 r}(h:eU N a0=some r):FnM Tryz.prog 38 [] [(eL 19 aJ.enc a0)] (eL 19 aJ.enc r) []:=by
 refine Af bO Tryz.func38 h ?_;refine At.q hT 2 (d:=4) (t:=22) (e:=123) (z:=19) (x:=(eL 19 aJ.enc a0)) (es:=ah aJ.enc a0) rfl ?_ (λhe=>?_)
 ·refine At.o 1 (rZ hT aJ.enc (k:=19) ([]:List aJ) (by kernel_rfl) (by kernel_rfl)) ?_;refine At.b 1 (λ_ e=>iI hT aJ.enc (id:=0) (k:=19) e) λz1=>?_;apply rt;exact At.r 1
 ·have h0:a0=[]:=cw.1 he;subst h0;change some []=_->_;apply rt;exact At.r 2
def zV(N:Nat)(a0:(List aJ)):Option (Sum (Int) (aL×Int)):=
 aa (aCH N a0) λr1=>
 cond (r1.2 != 0) (
  some (Sum.inl r1.2)) (
  aa (eU N a0) λr2=>
  some (Sum.inr ((aL.mk r1.1 true r2 0,0))))
theorem aHV{N a0 r}(h:zV N a0=some r):FnM Tryz.prog 37 [] [(eL 19 aJ.enc a0)] (aEs r (λr=>(.tup [(.v (.pointer none)),(j64 r)])) (λr=>(.tup [(.ref 1 [] 0),(j64 r.2)]))) (aEs r (λr=>[]) (λr=>[.dead,.var (aL.enc r.1)])):=by
 refine Af bO Tryz.func37 h ?_;refine At.y 3 aLp λr1=>?_;refine At.c 8 ?_ ?_
 ·apply rt;exact At.r 3
 ·refine At.D 0 [] ?_;refine DD.y 2 qD λr2=>?_;refine De 4 ?_;apply rt;exact At.r 0
theorem aKH{N a0 r}(h:zV N a0=some (Sum.inl r)):FnM Tryz.prog 37 [] [(eL 19 aJ.enc a0)] (.tup [(.v (.pointer none)),(j64 r)]) []:=aHV h
theorem aKQ{N a0 r}(h:zV N a0=some (Sum.inr r)):FnM Tryz.prog 37 [] [(eL 19 aJ.enc a0)] (.tup [(.ref 1 [] 0),(j64 r.2)]) [.dead,.var (aL.enc r.1)]:=aHV h
def aNC : Nat->Bool:=imL [2,3]
def mF(N:Nat)(x8:Int)(a0:aE):Nat->(List (List aC))->Int->Option ((List (List aC)))
 | 0,_,_=>none
 | k+1,s10,s11=>
  cond (decide (s11 < x8)) (
   aa (idx a0.gQ s11) λe12=>
   aa (qQ N e12) λr13=>
   aa (nL 24 s10 (([r13.1]:List (List aC)))) λz14=>
   mF N x8 a0 k z14 (I64 (s11+1))) (
   some s10)
def jX(N:Nat)(a0:aE)(a1:aG):Option (Sum (Int) (Sum ((List aJ)×(List aN)×(List aQ)×(List (List aC))×aA×Int) (Sum ((List aJ)×(List aN)×(List aQ)×(List (List aC))×aA×(List aJ)×Int) (Sum ((List aJ)×(List aN)×(List aQ)×(List (List aC))×aA×Int) ((List aJ)×(List aN)×(List aQ)×(List (List aC))×aA×aL×Int))))):=
 aa (kI N a0) λr1=>
 cond (r1 != 0) (
  some (Sum.inl r1)) (
  aa (wZ N a1) λr2=>
  cond (r2 != 0) (
   some (Sum.inl r2)) (
   aa (rE N a0 a1.gM) λr3=>
   cond (r3 != 0) (
    some (Sum.inl r3)) (
    aa (aBZ N a0.gI) λr4=>
    aa (nL 152 (([]:List aJ)) a0.gL) λz5=>
    aa (nL 40 (([]:List aN)) a0.gA4) λz6=>
    aa (nL 104 (([]:List aQ)) a0.gI) λz7=>
    aR ((a0.gQ.length:Int)) λx8=>
    aa (mF N x8 a0 N [] 0) λp9=>
    cond a1.gA5 (
     aa (lH N a1.gM) λr15=>
     aa (xM N a0.gL r15.1) λq=>
     kG q (λr17=>
      some (Sum.inr (Sum.inl ((z5,z6,z7,p9,r4,r17))))) (λr18=>
      some (Sum.inr (Sum.inr (Sum.inl ((z5,z6,z7,p9,r4,r18.1,r18.2))))))) (
     aa (zV N a0.gL) λq=>
     kG q (λr20=>
      some (Sum.inr (Sum.inr (Sum.inr (Sum.inl ((z5,z6,z7,p9,r4,r20))))))) (λr21=>
      some (Sum.inr (Sum.inr (Sum.inr (Sum.inr ((z5,z6,z7,p9,r4,r21.1,r21.2)))))))))))
theorem aC7{N a0 a1 r}(h:jX N a0 a1=some r):FnM Tryz.prog 16 [] [(aE.enc a0),(aG.enc a1)] (aEs r (λr=>(.tup [(.v (.pointer none)),(j64 r)])) (λr=>aEs r (λr=>(.tup [(.ref 0 [] 0),(j64 r.2.2.2.2.2)])) (λr=>aEs r (λr=>(.tup [(.ref 0 [] 0),(j64 r.2.2.2.2.2.2)])) (λr=>aEs r (λr=>(.tup [(.ref 0 [] 0),(j64 r.2.2.2.2.2)])) (λr=>(.tup [(.ref 0 [] 0),(j64 r.2.2.2.2.2.2)])))))) (aEs r (λr=>[]) (λr=>aEs r (λr=>[.var (.st 38 [(.st 9 [(eL 19 aJ.enc r.1),(eL 5 aN.enc r.2.1),(eL 2 aC.enc a0.gQ),(eL 13 aQ.enc r.2.2.1),(eL 1 k64 a0.gJ),(eL 1 k32 a0.gS),(k32 a0.gR),(k32 a0.gB2),(k32 a0.gTo)]),(aG.enc a1),(.ifc 112 (.v (.pointer none))),(eL 1 (eL 2 aC.enc) r.2.2.2.1),(aA.enc r.2.2.2.2.1),(.st 3 [(j64 0),(j64 0),(j64 0)])])]) (λr=>aEs r (λr=>[.var (.st 38 [(.st 9 [(eO 1 19 aJ.enc r.1),(eO 2 5 aN.enc r.2.1),(eL 2 aC.enc a0.gQ),(eO 3 13 aQ.enc r.2.2.1),(eL 1 k64 a0.gJ),(eL 1 k32 a0.gS),(k32 a0.gR),(k32 a0.gB2),(k32 a0.gTo)]),(aG.enc a1),(.ifc 112 (.ref 6 [] 0)),(eO 4 1 (eL 2 aC.enc) r.2.2.2.1),(aA.enc r.2.2.2.2.1),(.st 3 [(j64 0),(j64 0),(j64 0)])]),.tail (r.1.length*19),.tail (r.2.1.length*5),.tail (r.2.2.1.length*13),.tail (r.2.2.2.1.length*1),.dead,.var (.st 3 [(.st 1 [(j64 0)]),(eB true),(eL 19 aJ.enc r.2.2.2.2.2.1)])]) (λr=>aEs r (λr=>[.var (.st 38 [(.st 9 [(eL 19 aJ.enc r.1),(eL 5 aN.enc r.2.1),(eL 2 aC.enc a0.gQ),(eL 13 aQ.enc r.2.2.1),(eL 1 k64 a0.gJ),(eL 1 k32 a0.gS),(k32 a0.gR),(k32 a0.gB2),(k32 a0.gTo)]),(aG.enc a1),(.ifc 115 (.v (.pointer none))),(eL 1 (eL 2 aC.enc) r.2.2.2.1),(aA.enc r.2.2.2.2.1),(.st 3 [(j64 0),(j64 0),(j64 0)])])]) (λr=>[.var (.st 38 [(.st 9 [(eO 1 19 aJ.enc r.1),(eO 2 5 aN.enc r.2.1),(eL 2 aC.enc a0.gQ),(eO 3 13 aQ.enc r.2.2.1),(eL 1 k64 a0.gJ),(eL 1 k32 a0.gS),(k32 a0.gR),(k32 a0.gB2),(k32 a0.gTo)]),(aG.enc a1),(.ifc 115 (.ref 6 [] 0)),(eO 4 1 (eL 2 aC.enc) r.2.2.2.1),(aA.enc r.2.2.2.2.1),(.st 3 [(j64 0),(j64 0),(j64 0)])]),.tail (r.1.length*19),.tail (r.2.1.length*5),.tail (r.2.2.1.length*13),.tail (r.2.2.2.1.length*1),.dead,.var (aL.enc r.2.2.2.2.2.1)]))))):=by
 refine Af aNC Tryz.func16 h ?_;refine At.y 5 aIr λr1=>?_;refine At.c 3 ?_ ?_
 ·apply rt;exact At.r 3
 ·refine At.y 1 aMT λr2=>?_;refine At.c 3 ?_ ?_
  ·apply rt;exact At.r 3
  ·refine At.y 3 aH3 λr3=>?_;refine At.c 3 ?_ ?_
   ·apply rt;exact At.r 3
   ·refine At.D 0 [] ?_;refine DD.y 4 aNP λr4=>?_;refine De 3 ?_;refine At.o 1 (rZ hT aJ.enc (k:=19) ([]:List aJ) (by kernel_rfl) (by kernel_rfl)) ?_;refine At.b 2 (λ_ e=>iI hT aJ.enc (id:=1) (k:=19) e) λz5=>?_;refine At.o 5 (rZ hT aN.enc (k:=5) ([]:List aN) (by kernel_rfl) (by kernel_rfl)) ?_;refine At.b 2 (λ_ e=>iI hT aN.enc (id:=2) (k:=5) e) λz6=>?_;refine At.o 5 (rZ hT aQ.enc (k:=13) ([]:List aQ) (by kernel_rfl) (by kernel_rfl)) ?_;refine At.b 2 (λ_ e=>iI hT aQ.enc (id:=3) (k:=13) e) λz7=>?_;apply lx;intro x8;refine At.ownb 8 0 1 [3] ?_;refine At.M 0 [2,3,9] 5 (λp9=>([],[(0,.var (.st 38 [(.st 9 [(eO 1 19 aJ.enc z5),(eO 2 5 aN.enc z6),(eL 2 aC.enc a0.gQ),(eO 3 13 aQ.enc z7),(eL 1 k64 a0.gJ),(eL 1 k32 a0.gS),(k32 a0.gR),(k32 a0.gB2),(k32 a0.gTo)]),(aG.enc a1),(.v .nilIface),(eO 4 1 (eL 2 aC.enc) p9),(aA.enc r4),(.st 3 [(j64 0),(j64 0),(j64 0)])])),(4,.tail (p9.length*1))],[])) [2,3,9,69,70] 5 (CU2 (mF N x8 a0)) (cu2 λ(s10:(List (List aC))) (s11:Int)=>([(71,(j64 s11))],[(0,.var (.st 38 [(.st 9 [(eO 1 19 aJ.enc z5),(eO 2 5 aN.enc z6),(eL 2 aC.enc a0.gQ),(eO 3 13 aQ.enc z7),(eL 1 k64 a0.gJ),(eL 1 k32 a0.gS),(k32 a0.gR),(k32 a0.gB2),(k32 a0.gTo)]),(aG.enc a1),(.v .nilIface),(eO 4 1 (eL 2 aC.enc) s10),(aA.enc r4),(.st 3 [(j64 0),(j64 0),(j64 0)])])),(4,.tail (s10.length*1))],[])) (_,_) N (λp9 k=>un2 λs10 s11=>?_) λp9=>?_
    ·refine At.c 1 ?_ ?_
     ·refine At.i hT 0 aC.enc λe12=>?_;refine At.y 4 aGF λr13=>?_;refine At.o 11 (bG hT (x:=(.sl 1 1 [(eL 2 aC.enc r13.1)]))) ?_;refine At.b 0 (λ_ e=>iI hT (eL 2 aC.enc) (id:=4) (k:=1) e) λz14=>?_;exact λh=>At.v 5 (_,_) h
     ·apply rt;exact At.x 0
    ·refine At.c 2 ?_ ?_
     ·refine At.y 2 uK λr15=>?_;refine aR6 (λr17 hr17=>?_) (λr18 hr18=>?_)
      ·refine At.o 8 (tY [] (aJN hr17)) ?_;refine At.o 7 (aEd hT (t:=112) (x:=(.v (.pointer none))) (by kernel_rfl) (by kernel_rfl)) ?_;apply rt;exact At.r 7
      ·refine At.o 8 (tY [] (aI0 hr18)) ?_;refine At.o 7 (aEd hT (t:=112) (x:=(.ref 6 [] 0)) (by kernel_rfl) (by kernel_rfl)) ?_;apply rt;exact At.r 7
     ·refine aR6 (λr20 hr20=>?_) (λr21 hr21=>?_)
      ·refine At.o 2 (tY [] (aKH hr20)) ?_;refine At.o 7 (aEd hT (t:=115) (x:=(.v (.pointer none))) (by kernel_rfl) (by kernel_rfl)) ?_;apply rt;exact At.r 7
      ·refine At.o 2 (tY [] (aKQ hr21)) ?_;refine At.o 7 (aEd hT (t:=115) (x:=(.ref 6 [] 0)) (by kernel_rfl) (by kernel_rfl)) ?_;apply rt;exact At.r 7
theorem aEW{N a0 a1 r}(h:jX N a0 a1=some (Sum.inl r)):FnM Tryz.prog 16 [] [(aE.enc a0),(aG.enc a1)] (.tup [(.v (.pointer none)),(j64 r)]) []:=aC7 h
theorem aEH{N a0 a1 r}(h:jX N a0 a1=some (Sum.inr (Sum.inr (Sum.inl r)))):FnM Tryz.prog 16 [] [(aE.enc a0),(aG.enc a1)] (.tup [(.ref 0 [] 0),(j64 r.2.2.2.2.2.2)]) [.var (.st 38 [(.st 9 [(eO 1 19 aJ.enc r.1),(eO 2 5 aN.enc r.2.1),(eL 2 aC.enc a0.gQ),(eO 3 13 aQ.enc r.2.2.1),(eL 1 k64 a0.gJ),(eL 1 k32 a0.gS),(k32 a0.gR),(k32 a0.gB2),(k32 a0.gTo)]),(aG.enc a1),(.ifc 112 (.ref 6 [] 0)),(eO 4 1 (eL 2 aC.enc) r.2.2.2.1),(aA.enc r.2.2.2.2.1),(.st 3 [(j64 0),(j64 0),(j64 0)])]),.tail (r.1.length*19),.tail (r.2.1.length*5),.tail (r.2.2.1.length*13),.tail (r.2.2.2.1.length*1),.dead,.var (.st 3 [(.st 1 [(j64 0)]),(eB true),(eL 19 aJ.enc r.2.2.2.2.2.1)])]:=aC7 h
theorem aD1{N a0 a1 r}(h:jX N a0 a1=some (Sum.inr (Sum.inr (Sum.inr (Sum.inr r))))):FnM Tryz.prog 16 [] [(aE.enc a0),(aG.enc a1)] (.tup [(.ref 0 [] 0),(j64 r.2.2.2.2.2.2)]) [.var (.st 38 [(.st 9 [(eO 1 19 aJ.enc r.1),(eO 2 5 aN.enc r.2.1),(eL 2 aC.enc a0.gQ),(eO 3 13 aQ.enc r.2.2.1),(eL 1 k64 a0.gJ),(eL 1 k32 a0.gS),(k32 a0.gR),(k32 a0.gB2),(k32 a0.gTo)]),(aG.enc a1),(.ifc 115 (.ref 6 [] 0)),(eO 4 1 (eL 2 aC.enc) r.2.2.2.1),(aA.enc r.2.2.2.2.1),(.st 3 [(j64 0),(j64 0),(j64 0)])]),.tail (r.1.length*19),.tail (r.2.1.length*5),.tail (r.2.2.1.length*13),.tail (r.2.2.2.1.length*1),.dead,.var (aL.enc r.2.2.2.2.2.1)]:=aC7 h
def fQ(N:Nat)(a0:Int):Option (Bool):=
 aR (cond (decide (a0>=1)) (decide (a0<=64)) false) λx1=>
 some x1
theorem oK{N a0 r}(h:fQ N a0=some r):FnM Tryz.prog 17 [] [(j64 a0)] (eB r) []:=by
 refine Af bO Tryz.func17 h ?_;apply lx;intro x1;apply rt;exact At.r 8
def hJ(N:Nat)(a0:(List aN)):Option ((List aN)):=
 aa (nL 40 (([]:List aN)) a0) λz1=>
 some z1
theorem rV{N a0 r}(h:hJ N a0=some r):FnM Tryz.prog 39 [] [(eL 5 aN.enc a0)] (eL 5 aN.enc r) []:=by
 refine Af bO Tryz.func39 h ?_;refine At.q hT 2 (d:=4) (t:=23) (e:=126) (z:=5) (x:=(eL 5 aN.enc a0)) (es:=ah aN.enc a0) rfl ?_ (λhe=>?_)
 ·refine At.o 1 (rZ hT aN.enc (k:=5) ([]:List aN) (by kernel_rfl) (by kernel_rfl)) ?_;refine At.b 1 (λ_ e=>iI hT aN.enc (id:=0) (k:=5) e) λz1=>?_;apply rt;exact At.r 1
 ·have h0:a0=[]:=cw.1 he;subst h0;change some []=_->_;apply rt;exact At.r 2
def jV(N:Nat)(a0:(List aQ)):Option ((List aQ)):=
 aa (nL 104 (([]:List aQ)) a0) λz1=>
 some z1
theorem vM{N a0 r}(h:jV N a0=some r):FnM Tryz.prog 40 [] [(eL 13 aQ.enc a0)] (eL 13 aQ.enc r) []:=by
 refine Af bO Tryz.func40 h ?_;refine At.q hT 2 (d:=4) (t:=25) (e:=129) (z:=13) (x:=(eL 13 aQ.enc a0)) (es:=ah aQ.enc a0) rfl ?_ (λhe=>?_)
 ·refine At.o 1 (rZ hT aQ.enc (k:=13) ([]:List aQ) (by kernel_rfl) (by kernel_rfl)) ?_;refine At.b 1 (λ_ e=>iI hT aQ.enc (id:=0) (k:=13) e) λz1=>?_;apply rt;exact At.r 1
 ·have h0:a0=[]:=cw.1 he;subst h0;change some []=_->_;apply rt;exact At.r 2
def nA(N:Nat)(a0:(List Int)):Option ((List Int)):=
 aa (nL 8 (([]:List Int)) a0) λz1=>
 some z1
theorem aAI{N a0 r}(h:nA N a0=some r):FnM Tryz.prog 41 [] [(eL 1 k64 a0)] (eL 1 k64 r) []:=by
 refine Af bO Tryz.func41 h ?_;refine At.q hT 2 (d:=4) (t:=26) (e:=31) (z:=1) (x:=(eL 1 k64 a0)) (es:=ah k64 a0) rfl ?_ (λhe=>?_)
 ·refine At.o 1 (rZ hT k64 (k:=1) ([]:List Int) (by kernel_rfl) (by kernel_rfl)) ?_;refine At.b 1 (λ_ e=>iI hT k64 (id:=0) (k:=1) e) λz1=>?_;apply rt;exact At.r 1
 ·have h0:a0=[]:=cw.1 he;subst h0;change some []=_->_;apply rt;exact At.r 2
def nN(N:Nat)(a0:(List Int)):Option ((List Int)):=
 aa (nL 4 (([]:List Int)) a0) λz1=>
 some z1
theorem aAN{N a0 r}(h:nN N a0=some r):FnM Tryz.prog 42 [] [(eL 1 k32 a0)] (eL 1 k32 r) []:=by
 refine Af bO Tryz.func42 h ?_;refine At.q hT 2 (d:=4) (t:=27) (e:=28) (z:=1) (x:=(eL 1 k32 a0)) (es:=ah k32 a0) rfl ?_ (λhe=>?_)
 ·refine At.o 1 (rZ hT k32 (k:=1) ([]:List Int) (by kernel_rfl) (by kernel_rfl)) ?_;refine At.b 1 (λ_ e=>iI hT k32 (id:=0) (k:=1) e) λz1=>?_;apply rt;exact At.r 1
 ·have h0:a0=[]:=cw.1 he;subst h0;change some []=_->_;apply rt;exact At.r 2
def aJq : Nat->Bool:=imL [1]
def kO(N:Nat)(x6:Int)(a0:aE):Nat->(List aC)->Int->Option ((List aC))
 | 0,_,_=>none
 | k+1,s8,s9=>
  cond (decide (s9 < x6)) (
   aa (idx a0.gQ s9) λe10=>
   aa (eY N e10.gA6) λr11=>
   aa (nL 32 s8 (([aC.mk e10.gG r11]:List aC))) λz12=>
   kO N x6 a0 k z12 (I64 (s9+1))) (
   some s8)
def tU(N:Nat)(a0:aE):Option (aE):=
 aa (eU N a0.gL) λr1=>
 aa (hJ N a0.gA4) λr2=>
 aa (jV N a0.gI) λr3=>
 aa (nA N a0.gJ) λr4=>
 aa (nN N a0.gS) λr5=>
 aR ((a0.gQ.length:Int)) λx6=>
 aa (kO N x6 a0 N [] 0) λp7=>
 some (aE.mk r1 r2 p7 r3 r4 r5 a0.gR a0.gB2 a0.gTo)
theorem aDj{N a0 r}(h:tU N a0=some r):FnM Tryz.prog 18 [] [(aE.enc a0)] (aE.enc r) []:=by
 refine Af aJq Tryz.func18 h ?_;refine At.D 5 [] ?_;refine DD.y 2 qD λr1=>?_;refine DD.y 2 rV λr2=>?_;refine DD.y 2 vM λr3=>?_;refine De 6 ?_;refine At.D 0 [] ?_;refine DD.y 2 aAI λr4=>?_;refine DD.y 2 aAN λr5=>?_;refine De 6 ?_;apply lx;intro x6;refine At.ownb 4 1 2 [2] ?_;refine At.M 0 [2,3] 3 (λp7=>([],[(1,.var (.st 9 [(eL 19 aJ.enc r1),(eL 5 aN.enc r2),(eO 2 2 aC.enc p7),(eL 13 aQ.enc r3),(eL 1 k64 r4),(eL 1 k32 r5),(k32 a0.gR),(k32 a0.gB2),(k32 a0.gTo)])),(2,.tail (p7.length*2))],[])) [2,3,29,30] 3 (CU2 (kO N x6 a0)) (cu2 λ(s8:(List aC)) (s9:Int)=>([(31,(j64 s9))],[(1,.var (.st 9 [(eL 19 aJ.enc r1),(eL 5 aN.enc r2),(eO 2 2 aC.enc s8),(eL 13 aQ.enc r3),(eL 1 k64 r4),(eL 1 k32 r5),(k32 a0.gR),(k32 a0.gB2),(k32 a0.gTo)])),(2,.tail (s8.length*2))],[])) (_,_) N (λp7 k=>un2 λs8 s9=>?_) λp7=>?_
 ·refine At.c 1 ?_ ?_
  ·refine At.i hT 0 aC.enc λe10=>?_;refine At.D 3 [] ?_;refine DD.y 6 tD λr11=>?_;refine DD.o 1 (λ_=>bG hT (x:=(.sl 2 1 [(.st 2 [(j64 e10.gG),(eL 3 (eA 3 1 j64) r11)])]))) ?_;refine bi λz12 hz12=>?_;refine DD.w 0 (eO 2 2 aC.enc z12) ⟨[(2,.tail (z12.length*2))],[]⟩ (λ_ e=>iI hT aC.enc (id:=2) (k:=2) hz12 (pj1 e) (pj2 e)) ?_;refine De 2 ?_;exact λh=>At.v 2 (_,_) h
  ·apply rt;exact At.x 0
 ·apply rt;exact At.r 2
def aKd : Nat->Bool:=imL [3,4,5]
def sD(N:Nat)(a0 a1 a2:Int):Option (Unit):=
 some (())
theorem aBq{N a0 a1 a2 r}(h:sD N a0 a1 a2=some r):FnM Tryz.prog 19 [] [(j64 a0),(j64 a1),(j64 a2)] (.fn (.func 44) [] [(.im (j64 a1)),(.im (j64 a2)),(.im (j64 a0))]) []:=by
 refine Af aKd Tryz.func19 h ?_;refine At.o 4 (pM (x:=(.fn (.func 44) [] [(.im (j64 a1)),(.im (j64 a2)),(.im (j64 a0))])) (by kernel_rfl) (by kernel_rfl)) ?_;apply rt;exact At.r 1
def aI1 : Nat->Bool:=imL [3,4]
def xV(N:Nat)(a13:cF):Nat->(List aM)->Int->Option ((List aM))
 | 0,_,_=>none
 | k+1,s2,s3=>
  aR (decide (s3 < (I64 (a13.gw*a13.gh)))) λx4=>
  cond x4 (
   aa (aDq .i64 s3 a13.gw) λx5=>
   aa (aDp .i64 s3 a13.gw) λx6=>
   aa (nL 48 s2 (([aM.mk (I64 (a13.gx+x5)) (I64 (a13.gy+x6)) a13]:List aM))) λz7=>
   xV N a13 k z7 (I64 (s3+1))) (
   some s2)
def aBv(N:Nat)(b3:(List aM))(b4:(List aH))(b6:(List (List aC)))(a3:aE)(a4:aG)(a5 a6:Int)(a7:aI)(a8:aE)(a9:aG)(a10:aA)(a11:aF)(a12:aK)(a13:cF):Option ((List aM)):=
 aa (xV N a13 N b3 0) λp1=>
 some p1
theorem aH1{N:Nat}{b3:(List aM)}{b4:(List aH)}{b6:(List (List aC))}{a3:aE}{a4:aG}{a5:Int}{a6:Int}{a7:aI}{a8:aE}{a9:aG}{a10:aA}{a11:aF}{a12:aK}{a13:cF}{r:(List aM)}(h:aBv N b3 b4 b6 a3 a4 a5 a6 a7 a8 a9 a10 a11 a12 a13=some r):aRZ Tryz.prog (aED 85 Tryz.f7.body [1,1,1,1,1,0,1,0]) [en 10 (.ref 0 [] 0)] [.var (.ref 1 [] 0),.var (.st 43 [(.ref 2 [] 0),(aE.enc a3),(aG.enc a4),(j64 a5),(eO 3 6 aM.enc b3),(j64 a6),(eO 4 9 aH.enc b4),(aI.enc a7)]),.var (.st 38 [(aE.enc a8),(aG.enc a9),(.ifc 112 (.ref 5 [] 0)),(eO 6 1 (eL 2 aC.enc) b6),(aA.enc a10),(aF.enc a11)]),.tail (b3.length*6),.tail (b4.length*9),.var (aK.enc a12),.tail (b6.length*1)] [(cF.enc a13)] [.var (.ref 1 [] 0),.var (.st 43 [(.ref 2 [] 0),(aE.enc a3),(aG.enc a4),(j64 a5),(eO 3 6 aM.enc r),(j64 a6),(eO 4 9 aH.enc b4),(aI.enc a7)]),.var (.st 38 [(aE.enc a8),(aG.enc a9),(.ifc 112 (.ref 5 [] 0)),(eO 6 1 (eL 2 aC.enc) b6),(aA.enc a10),(aF.enc a11)]),.tail (r.length*6),.tail (b4.length*9),.var (aK.enc a12),.tail (b6.length*1)] none:=by
 unfold aBv at h;refine aDP (lo:=8) (by kernel_rfl) (λbk rl=>At.of aI1 hT hmo h ?_)
 refine At.to 0 ⟨[en 10 (.ref 0 [] 0),en 38 (cF.enc a13)],[.var (.ref 1 [] 0),.var (.st 43 [(.ref 2 [] 0),(aE.enc a3),(aG.enc a4),(j64 a5),(eO 3 6 aM.enc b3),(j64 a6),(eO 4 9 aH.enc b4),(aI.enc a7)]),.var (.st 38 [(aE.enc a8),(aG.enc a9),(.ifc 112 (.ref 5 [] 0)),(eO 6 1 (eL 2 aC.enc) b6),(aA.enc a10),(aF.enc a11)]),.tail (b3.length*6),.tail (b4.length*9),.var (aK.enc a12),.tail (b6.length*1),.loop rl]⟩ ?_;refine At.mid 2 (λrl2=>?_)
 refine At.M 6 [] 9 (λp1=>([],[(1,.var (.st 43 [(.ref 2 [] 0),(aE.enc a3),(aG.enc a4),(j64 a5),(eO 3 6 aM.enc p1),(j64 a6),(eO 4 9 aH.enc b4),(aI.enc a7)])),(3,.tail (p1.length*6))],[])) [10,11,43] 9 (CU2 (xV N a13)) (cu2 λ(s2:(List aM)) (s3:Int)=>([(44,(j64 s3))],[(1,.var (.st 43 [(.ref 2 [] 0),(aE.enc a3),(aG.enc a4),(j64 a5),(eO 3 6 aM.enc s2),(j64 a6),(eO 4 9 aH.enc b4),(aI.enc a7)])),(3,.tail (s2.length*6))],[])) (_,_) N (λp1 k=>un2 λs2 s3=>?_) λp1=>?_
 ·apply lx;intro x4;refine At.c 1 ?_ ?_
  ·refine At.D 2 [] ?_;refine DD.b 10 (λe _=>aBA hT e (by kernel_rfl) (by kernel_rfl)) λx5=>?_;refine DD.b 6 (λe _=>yR hT e (by kernel_rfl) (by kernel_rfl)) λx6=>?_;refine DD.o 3 (λ_=>bG hT (x:=(.sl 6 1 [(.st 6 [(j64 (I64 (a13.gx+x5))),(j64 (I64 (a13.gy+x6))),(cF.enc a13)])]))) ?_;refine bi λz7 hz7=>?_;refine DD.w 0 (eO 3 6 aM.enc z7) ⟨[(3,.tail (z7.length*6))],[]⟩ (λ_ e=>iI hT aM.enc (id:=3) (k:=6) hz7 (pj1 e) (pj2 e)) ?_;refine De 3 ?_;exact λh=>At.v 2 (_,_) h
  ·apply rt;exact At.x 0
 ·apply rt;exact At.rnd 0
def jN(N:Nat)(a5 a4 a3 s3:Int)(b4:(List aH))(b6:(List (List aC)))(a6:aE)(a7:aG)(a8 a9:Int)(a10:aI)(a11:aE)(a12:aG)(a13:aA)(a14:aF)(a15:aK):Nat->(List aM)->Int->Option ((List aM))
 | 0,_,_=>none
 | k+1,s5,s6=>
  cond (decide (s6 < a5)) (
   aR (dO a4 (I64 (a5 - s6))) λx7=>
   aR (dO a4 (I64 (a3 - s3))) λx8=>
   aa (aBv N s5 b4 b6 a6 a7 a8 a9 a10 a11 a12 a13 a14 a15 (cF.mk s6 s3 x7 x8)) λr9=>
   jN N a5 a4 a3 s3 b4 b6 a6 a7 a8 a9 a10 a11 a12 a13 a14 a15 k r9 (I64 (s6+a4))) (
   some s5)
def jJ(N:Nat)(a3 a5 a4:Int)(b4:(List aH))(b6:(List (List aC)))(a6:aE)(a7:aG)(a8 a9:Int)(a10:aI)(a11:aE)(a12:aG)(a13:aA)(a14:aF)(a15:aK):Nat->(List aM)->Int->Option ((List aM))
 | 0,_,_=>none
 | k+1,s2,s3=>
  cond (decide (s3 < a3)) (
   aa (jN N a5 a4 a3 s3 b4 b6 a6 a7 a8 a9 a10 a11 a12 a13 a14 a15 N s2 0) λp4=>
   jJ N a3 a5 a4 b4 b6 a6 a7 a8 a9 a10 a11 a12 a13 a14 a15 k p4 (I64 (s3+a4))) (
   some s2)
def eD(N:Nat)(b3:(List aM))(b4:(List aH))(b6:(List (List aC)))(a3 a4 a5:Int)(a6:aE)(a7:aG)(a8 a9:Int)(a10:aI)(a11:aE)(a12:aG)(a13:aA)(a14:aF)(a15:aK):Option ((List aM)):=
 aa (jJ N a3 a5 a4 b4 b6 a6 a7 a8 a9 a10 a11 a12 a13 a14 a15 N b3 0) λp1=>
 some p1
theorem xQ{N:Nat}{b3:(List aM)}{b4:(List aH)}{b6:(List (List aC))}{a3:Int}{a4:Int}{a5:Int}{a6:aE}{a7:aG}{a8:Int}{a9:Int}{a10:aI}{a11:aE}{a12:aG}{a13:aA}{a14:aF}{a15:aK}{r:(List aM)}(h:eD N b3 b4 b6 a3 a4 a5 a6 a7 a8 a9 a10 a11 a12 a13 a14 a15=some r):ItM Tryz.prog 44 (aED 85 Tryz.f7.body [1,1,1,1,1,0,1,0]) [en 10 (.ref 0 [] 0)] [.var (.ref 1 [] 0),.var (.st 43 [(.ref 2 [] 0),(aE.enc a6),(aG.enc a7),(j64 a8),(eO 3 6 aM.enc b3),(j64 a9),(eO 4 9 aH.enc b4),(aI.enc a10)]),.var (.st 38 [(aE.enc a11),(aG.enc a12),(.ifc 112 (.ref 5 [] 0)),(eO 6 1 (eL 2 aC.enc) b6),(aA.enc a13),(aF.enc a14)]),.tail (b3.length*6),.tail (b4.length*9),.var (aK.enc a15),.tail (b6.length*1)] [(.yld 7),(.im (j64 a3)),(.im (j64 a4)),(.im (j64 a5))] (.tup []) [.var (.ref 1 [] 0),.var (.st 43 [(.ref 2 [] 0),(aE.enc a6),(aG.enc a7),(j64 a8),(eO 3 6 aM.enc r),(j64 a9),(eO 4 9 aH.enc b4),(aI.enc a10)]),.var (.st 38 [(aE.enc a11),(aG.enc a12),(.ifc 112 (.ref 5 [] 0)),(eO 6 1 (eL 2 aC.enc) b6),(aA.enc a13),(aF.enc a14)]),.tail (r.length*6),.tail (b4.length*9),.var (aK.enc a15),.tail (b6.length*1)] none:=by
 unfold eD at h;refine aEp (m:=35) (lo:=8) (rs:=[]) hT Tryz.func44 rfl (by kernel_rfl) rfl (λfn tmps D hsz=>At.of bO hT hmo h ?_)
 refine At.M 1 [] 8 (λp1=>([],[(1,.var (.st 43 [(.ref 2 [] 0),(aE.enc a6),(aG.enc a7),(j64 a8),(eO 3 6 aM.enc p1),(j64 a9),(eO 4 9 aH.enc b4),(aI.enc a10)])),(3,.tail (p1.length*6))],[])) [0,1,2,3] 8 (CU2 (jJ N a3 a5 a4 b4 b6 a6 a7 a8 a9 a10 a11 a12 a13 a14 a15)) (cu2 λ(s2:(List aM)) (s3:Int)=>([(5,(j64 s3))],[(1,.var (.st 43 [(.ref 2 [] 0),(aE.enc a6),(aG.enc a7),(j64 a8),(eO 3 6 aM.enc s2),(j64 a9),(eO 4 9 aH.enc b4),(aI.enc a10)])),(3,.tail (s2.length*6))],[])) (_,_) N (λp1 k=>un2 λs2 s3=>?_) λp1=>?_
 ·refine At.c 3 ?_ ?_
  ·refine At.M 1 [0,1,2,3,5] 8 (λp4=>([],[(1,.var (.st 43 [(.ref 2 [] 0),(aE.enc a6),(aG.enc a7),(j64 a8),(eO 3 6 aM.enc p4),(j64 a9),(eO 4 9 aH.enc b4),(aI.enc a10)])),(3,.tail (p4.length*6))],[])) [0,1,2,3,5] 8 (CU2 (jN N a5 a4 a3 s3 b4 b6 a6 a7 a8 a9 a10 a11 a12 a13 a14 a15)) (cu2 λ(s5:(List aM)) (s6:Int)=>([(6,(j64 s6))],[(1,.var (.st 43 [(.ref 2 [] 0),(aE.enc a6),(aG.enc a7),(j64 a8),(eO 3 6 aM.enc s5),(j64 a9),(eO 4 9 aH.enc b4),(aI.enc a10)])),(3,.tail (s5.length*6))],[])) (_,_) N (λp4 k=>un2 λs5 s6=>?_) λp4=>?_
   ·refine At.c 3 ?_ ?_
    ·apply lx;intro x7;apply lx;intro x8;refine At.b 14 (λ_ e=>aIQ (aH1 e) (fn:=fn) (D:=D) hsz rfl (c9.2 rfl) (by kernel_rfl) (by kernel_rfl)) λr9=>?_;exact λh=>At.v 6 (_,_) h
    ·apply rt;exact At.x 0
   ·exact λh=>At.v 4 (_,_) h
  ·apply rt;exact At.x 0
 ·apply rt;exact At.z 0
theorem vP : sC Tryz.prog 44:=qT (show kC Tryz.prog 44=true by kernel_rfl)
def mU(N:Nat)(a0 a1:Int):Option ((List Int)):=
 aa (mkO 8 (I64 (a0*a1))) λ_=>
 aa (yS (ak ((I64 (a0*a1)).toNat) (0:Int)) ((I64 (a0*a1)).toNat)) λ_=>
 some (ak ((I64 (a0*a1)).toNat) (0:Int))
theorem rR{N a0 a1 r}(h:mU N a0 a1=some r):FnM Tryz.prog 79 [] [(.im (j64 a0)),(.im (j64 a1))] (eL 1 j64 r) []:=by
 refine Af bO Tryz.func79 h ?_;refine At.b 4 (λ_ e=>aTi hT j64 ((0:Int)) (k:=1) (kd := .int .i64) e (by kernel_rfl) (by kernel_rfl) rfl) λu1=>?_;refine bi λu2 hu2=>?_;refine At.fz 1 0 1 ((I64 (a0*a1)).toNat) _ (ah j64 (ak ((I64 (a0*a1)).toNat) (0:Int))) (ai _) (aOc j64 hu2) ?_;apply rt;exact At.r 0
def aLK : Nat->Bool:=imL [2,3]
def aDY(N:Nat)(a0 a1:Int):Option (aI):=
 aa (mkO 24 (I64 (a0*a1))) λ_=>
 aa (mU N a0 a1) λr2=>
 aa (mU N a0 a1) λr3=>
 aa (mkO 24 (I64 (a0*a1))) λ_=>
 aa (mU N a0 a1) λr5=>
 aa (mU N a0 a1) λr6=>
 aa (yS (ak ((I64 (a0*a1)).toNat) (#v[0,0,0]:(Vector Int 3))) ((I64 (a0*a1)).toNat)) λ_=>
 aa (yS (ak ((I64 (a0*a1)).toNat) (#v[0,0,0]:(Vector Int 3))) ((I64 (a0*a1)).toNat)) λ_=>
 some (aI.mk a0 a1 (ak ((I64 (a0*a1)).toNat) (#v[0,0,0]:(Vector Int 3))) r2 r3 (ak ((I64 (a0*a1)).toNat) (#v[0,0,0]:(Vector Int 3))) r5 r6)
theorem aKO{N a0 a1 r}(h:aDY N a0 a1=some r):FnM Tryz.prog 45 [] [(j64 a0),(j64 a1)] (aI.enc r) []:=by
 refine Af aLK Tryz.func45 h ?_;refine At.o 3 (pM (x:=(.fn (.func 79) [] [(.im (j64 a0)),(.im (j64 a1))])) (by kernel_rfl) (by kernel_rfl)) ?_;refine At.D 1 [false,false] ?_;refine bi λu1 hu1=>?_;refine DD.w 5 (.bsl 1 [] 0 3 0 ((I64 (a0*a1)).toNat)) ⟨[(1,.var (.arr (((I64 (a0*a1)).toNat)*3) 3 (ah (eA 3 1 j64) (ak ((I64 (a0*a1)).toNat) (#v[0,0,0]:(Vector Int 3))))))],[]⟩ (λ_ e=>dsM hT (eA 3 1 j64) ((#v[0,0,0]:(Vector Int 3))) (k:=3) (kd := .arr 3 3) hu1 rfl e) ?_;refine DD.y 1 rR λr2=>?_;refine DD.y 1 rR λr3=>?_;refine bi λu4 hu4=>?_;refine DD.w 3 (.bsl 2 [] 0 3 0 ((I64 (a0*a1)).toNat)) ⟨[(2,.var (.arr (((I64 (a0*a1)).toNat)*3) 3 (ah (eA 3 1 j64) (ak ((I64 (a0*a1)).toNat) (#v[0,0,0]:(Vector Int 3))))))],[]⟩ (λ_ e=>dsM hT (eA 3 1 j64) ((#v[0,0,0]:(Vector Int 3))) (k:=3) (kd := .arr 3 3) hu4 rfl e) ?_;refine DD.y 1 rR λr5=>?_;refine DD.y 1 rR λr6=>?_;refine De 2 ?_;refine bi λu7 hu7=>?_;refine At.fz 0 1 3 ((I64 (a0*a1)).toNat) _ (ah (eA 3 1 j64) (ak ((I64 (a0*a1)).toNat) (#v[0,0,0]:(Vector Int 3)))) (ai _) (aOc (eA 3 1 j64) hu7) ?_;refine bi λu8 hu8=>?_;refine At.fz 0 2 3 ((I64 (a0*a1)).toNat) _ (ah (eA 3 1 j64) (ak ((I64 (a0*a1)).toNat) (#v[0,0,0]:(Vector Int 3)))) (ai _) (aOc (eA 3 1 j64) hu8) ?_;apply rt;exact At.r 0
def yM(N:Nat)(a0 a1:Int):Option (aI×Int):=
 aR (decide ((dO a0 a1) < 1)) λx1=>
 aR (decide ((jB a0 a1) > 64)) λx2=>
 cond (cond x1 true x2) (
  some ((aI.mk 0 0 [] [] [] [] [] [],2))) (
  aa (aDY N a0 a1) λr3=>
  some ((r3,0)))
theorem aFA{N a0 a1 r}(h:yM N a0 a1=some r):FnM Tryz.prog 20 [] [(j64 a0),(j64 a1)] (.tup [(aI.enc r.1),(j64 r.2)]) []:=by
 refine Af bO Tryz.func20 h ?_;apply lx;intro x1;apply lx;intro x2;refine At.c 12 ?_ ?_
 ·apply rt;exact At.r 3
 ·refine At.y 2 aKO λr3=>?_;apply rt;exact At.r 2
def aJm : Nat->Bool:=imL [3,4]
def yF(N:Nat)(a13:cF):Nat->(List aM)->Int->Option ((List aM))
 | 0,_,_=>none
 | k+1,s2,s3=>
  aR (decide (s3 < (I64 (a13.gw*a13.gh)))) λx4=>
  cond x4 (
   aa (aDq .i64 s3 a13.gw) λx5=>
   aa (aDp .i64 s3 a13.gw) λx6=>
   aa (nL 48 s2 (([aM.mk (I64 (a13.gx+x5)) (I64 (a13.gy+x6)) a13]:List aM))) λz7=>
   yF N a13 k z7 (I64 (s3+1))) (
   some s2)
def aBJ(N:Nat)(b3:(List aM))(b4:(List aH))(b6:(List (List aC)))(a3:aE)(a4:aG)(a5 a6:Int)(a7:aI)(a8:aE)(a9:aG)(a10:aA)(a11:aF)(a12:aL)(a13:cF):Option ((List aM)):=
 aa (yF N a13 N b3 0) λp1=>
 some p1
theorem aHu{N:Nat}{b3:(List aM)}{b4:(List aH)}{b6:(List (List aC))}{a3:aE}{a4:aG}{a5:Int}{a6:Int}{a7:aI}{a8:aE}{a9:aG}{a10:aA}{a11:aF}{a12:aL}{a13:cF}{r:(List aM)}(h:aBJ N b3 b4 b6 a3 a4 a5 a6 a7 a8 a9 a10 a11 a12 a13=some r):aRZ Tryz.prog (aED 85 Tryz.f7.body [1,1,1,1,1,0,1,0]) [en 10 (.ref 0 [] 0)] [.var (.ref 1 [] 0),.var (.st 43 [(.ref 2 [] 0),(aE.enc a3),(aG.enc a4),(j64 a5),(eO 3 6 aM.enc b3),(j64 a6),(eO 4 9 aH.enc b4),(aI.enc a7)]),.var (.st 38 [(aE.enc a8),(aG.enc a9),(.ifc 115 (.ref 5 [] 0)),(eO 6 1 (eL 2 aC.enc) b6),(aA.enc a10),(aF.enc a11)]),.tail (b3.length*6),.tail (b4.length*9),.var (aL.enc a12),.tail (b6.length*1)] [(cF.enc a13)] [.var (.ref 1 [] 0),.var (.st 43 [(.ref 2 [] 0),(aE.enc a3),(aG.enc a4),(j64 a5),(eO 3 6 aM.enc r),(j64 a6),(eO 4 9 aH.enc b4),(aI.enc a7)]),.var (.st 38 [(aE.enc a8),(aG.enc a9),(.ifc 115 (.ref 5 [] 0)),(eO 6 1 (eL 2 aC.enc) b6),(aA.enc a10),(aF.enc a11)]),.tail (r.length*6),.tail (b4.length*9),.var (aL.enc a12),.tail (b6.length*1)] none:=by
 unfold aBJ at h;refine aDP (lo:=8) (by kernel_rfl) (λbk rl=>At.of aJm hT hmo h ?_)
 refine At.to 0 ⟨[en 10 (.ref 0 [] 0),en 38 (cF.enc a13)],[.var (.ref 1 [] 0),.var (.st 43 [(.ref 2 [] 0),(aE.enc a3),(aG.enc a4),(j64 a5),(eO 3 6 aM.enc b3),(j64 a6),(eO 4 9 aH.enc b4),(aI.enc a7)]),.var (.st 38 [(aE.enc a8),(aG.enc a9),(.ifc 115 (.ref 5 [] 0)),(eO 6 1 (eL 2 aC.enc) b6),(aA.enc a10),(aF.enc a11)]),.tail (b3.length*6),.tail (b4.length*9),.var (aL.enc a12),.tail (b6.length*1),.loop rl]⟩ ?_;refine At.mid 2 (λrl2=>?_)
 refine At.M 6 [] 9 (λp1=>([],[(1,.var (.st 43 [(.ref 2 [] 0),(aE.enc a3),(aG.enc a4),(j64 a5),(eO 3 6 aM.enc p1),(j64 a6),(eO 4 9 aH.enc b4),(aI.enc a7)])),(3,.tail (p1.length*6))],[])) [10,11,43] 9 (CU2 (yF N a13)) (cu2 λ(s2:(List aM)) (s3:Int)=>([(44,(j64 s3))],[(1,.var (.st 43 [(.ref 2 [] 0),(aE.enc a3),(aG.enc a4),(j64 a5),(eO 3 6 aM.enc s2),(j64 a6),(eO 4 9 aH.enc b4),(aI.enc a7)])),(3,.tail (s2.length*6))],[])) (_,_) N (λp1 k=>un2 λs2 s3=>?_) λp1=>?_
 ·apply lx;intro x4;refine At.c 1 ?_ ?_
  ·refine At.D 2 [] ?_;refine DD.b 10 (λe _=>aBA hT e (by kernel_rfl) (by kernel_rfl)) λx5=>?_;refine DD.b 6 (λe _=>yR hT e (by kernel_rfl) (by kernel_rfl)) λx6=>?_;refine DD.o 3 (λ_=>bG hT (x:=(.sl 6 1 [(.st 6 [(j64 (I64 (a13.gx+x5))),(j64 (I64 (a13.gy+x6))),(cF.enc a13)])]))) ?_;refine bi λz7 hz7=>?_;refine DD.w 0 (eO 3 6 aM.enc z7) ⟨[(3,.tail (z7.length*6))],[]⟩ (λ_ e=>iI hT aM.enc (id:=3) (k:=6) hz7 (pj1 e) (pj2 e)) ?_;refine De 3 ?_;exact λh=>At.v 2 (_,_) h
  ·apply rt;exact At.x 0
 ·apply rt;exact At.rnd 0
def jO(N:Nat)(a5 a4 a3 s3:Int)(b4:(List aH))(b6:(List (List aC)))(a6:aE)(a7:aG)(a8 a9:Int)(a10:aI)(a11:aE)(a12:aG)(a13:aA)(a14:aF)(a15:aL):Nat->(List aM)->Int->Option ((List aM))
 | 0,_,_=>none
 | k+1,s5,s6=>
  cond (decide (s6 < a5)) (
   aR (dO a4 (I64 (a5 - s6))) λx7=>
   aR (dO a4 (I64 (a3 - s3))) λx8=>
   aa (aBJ N s5 b4 b6 a6 a7 a8 a9 a10 a11 a12 a13 a14 a15 (cF.mk s6 s3 x7 x8)) λr9=>
   jO N a5 a4 a3 s3 b4 b6 a6 a7 a8 a9 a10 a11 a12 a13 a14 a15 k r9 (I64 (s6+a4))) (
   some s5)
def jI(N:Nat)(a3 a5 a4:Int)(b4:(List aH))(b6:(List (List aC)))(a6:aE)(a7:aG)(a8 a9:Int)(a10:aI)(a11:aE)(a12:aG)(a13:aA)(a14:aF)(a15:aL):Nat->(List aM)->Int->Option ((List aM))
 | 0,_,_=>none
 | k+1,s2,s3=>
  cond (decide (s3 < a3)) (
   aa (jO N a5 a4 a3 s3 b4 b6 a6 a7 a8 a9 a10 a11 a12 a13 a14 a15 N s2 0) λp4=>
   jI N a3 a5 a4 b4 b6 a6 a7 a8 a9 a10 a11 a12 a13 a14 a15 k p4 (I64 (s3+a4))) (
   some s2)
def dX(N:Nat)(b3:(List aM))(b4:(List aH))(b6:(List (List aC)))(a3 a4 a5:Int)(a6:aE)(a7:aG)(a8 a9:Int)(a10:aI)(a11:aE)(a12:aG)(a13:aA)(a14:aF)(a15:aL):Option ((List aM)):=
 aa (jI N a3 a5 a4 b4 b6 a6 a7 a8 a9 a10 a11 a12 a13 a14 a15 N b3 0) λp1=>
 some p1
theorem xS{N:Nat}{b3:(List aM)}{b4:(List aH)}{b6:(List (List aC))}{a3:Int}{a4:Int}{a5:Int}{a6:aE}{a7:aG}{a8:Int}{a9:Int}{a10:aI}{a11:aE}{a12:aG}{a13:aA}{a14:aF}{a15:aL}{r:(List aM)}(h:dX N b3 b4 b6 a3 a4 a5 a6 a7 a8 a9 a10 a11 a12 a13 a14 a15=some r):ItM Tryz.prog 44 (aED 85 Tryz.f7.body [1,1,1,1,1,0,1,0]) [en 10 (.ref 0 [] 0)] [.var (.ref 1 [] 0),.var (.st 43 [(.ref 2 [] 0),(aE.enc a6),(aG.enc a7),(j64 a8),(eO 3 6 aM.enc b3),(j64 a9),(eO 4 9 aH.enc b4),(aI.enc a10)]),.var (.st 38 [(aE.enc a11),(aG.enc a12),(.ifc 115 (.ref 5 [] 0)),(eO 6 1 (eL 2 aC.enc) b6),(aA.enc a13),(aF.enc a14)]),.tail (b3.length*6),.tail (b4.length*9),.var (aL.enc a15),.tail (b6.length*1)] [(.yld 7),(.im (j64 a3)),(.im (j64 a4)),(.im (j64 a5))] (.tup []) [.var (.ref 1 [] 0),.var (.st 43 [(.ref 2 [] 0),(aE.enc a6),(aG.enc a7),(j64 a8),(eO 3 6 aM.enc r),(j64 a9),(eO 4 9 aH.enc b4),(aI.enc a10)]),.var (.st 38 [(aE.enc a11),(aG.enc a12),(.ifc 115 (.ref 5 [] 0)),(eO 6 1 (eL 2 aC.enc) b6),(aA.enc a13),(aF.enc a14)]),.tail (r.length*6),.tail (b4.length*9),.var (aL.enc a15),.tail (b6.length*1)] none:=by
 unfold dX at h;refine aEp (m:=35) (lo:=8) (rs:=[]) hT Tryz.func44 rfl (by kernel_rfl) rfl (λfn tmps D hsz=>At.of bO hT hmo h ?_)
 refine At.M 1 [] 8 (λp1=>([],[(1,.var (.st 43 [(.ref 2 [] 0),(aE.enc a6),(aG.enc a7),(j64 a8),(eO 3 6 aM.enc p1),(j64 a9),(eO 4 9 aH.enc b4),(aI.enc a10)])),(3,.tail (p1.length*6))],[])) [0,1,2,3] 8 (CU2 (jI N a3 a5 a4 b4 b6 a6 a7 a8 a9 a10 a11 a12 a13 a14 a15)) (cu2 λ(s2:(List aM)) (s3:Int)=>([(5,(j64 s3))],[(1,.var (.st 43 [(.ref 2 [] 0),(aE.enc a6),(aG.enc a7),(j64 a8),(eO 3 6 aM.enc s2),(j64 a9),(eO 4 9 aH.enc b4),(aI.enc a10)])),(3,.tail (s2.length*6))],[])) (_,_) N (λp1 k=>un2 λs2 s3=>?_) λp1=>?_
 ·refine At.c 3 ?_ ?_
  ·refine At.M 1 [0,1,2,3,5] 8 (λp4=>([],[(1,.var (.st 43 [(.ref 2 [] 0),(aE.enc a6),(aG.enc a7),(j64 a8),(eO 3 6 aM.enc p4),(j64 a9),(eO 4 9 aH.enc b4),(aI.enc a10)])),(3,.tail (p4.length*6))],[])) [0,1,2,3,5] 8 (CU2 (jO N a5 a4 a3 s3 b4 b6 a6 a7 a8 a9 a10 a11 a12 a13 a14 a15)) (cu2 λ(s5:(List aM)) (s6:Int)=>([(6,(j64 s6))],[(1,.var (.st 43 [(.ref 2 [] 0),(aE.enc a6),(aG.enc a7),(j64 a8),(eO 3 6 aM.enc s5),(j64 a9),(eO 4 9 aH.enc b4),(aI.enc a10)])),(3,.tail (s5.length*6))],[])) (_,_) N (λp4 k=>un2 λs5 s6=>?_) λp4=>?_
   ·refine At.c 3 ?_ ?_
    ·apply lx;intro x7;apply lx;intro x8;refine At.b 14 (λ_ e=>aIQ (aHu e) (fn:=fn) (D:=D) hsz rfl (c9.2 rfl) (by kernel_rfl) (by kernel_rfl)) λr9=>?_;exact λh=>At.v 6 (_,_) h
    ·apply rt;exact At.x 0
   ·exact λh=>At.v 4 (_,_) h
  ·apply rt;exact At.x 0
 ·apply rt;exact At.z 0
theorem vX : sC Tryz.prog 44:=qT (show kC Tryz.prog 44=true by kernel_rfl)
def aNj : Nat->Bool:=imL [3,4]
def jD(N:Nat)(a0:aE)(a1:aG)(a2:Int):Option (Sum (Int) (Sum ((List (List aC))×aE×aA×aK×aE×(List aM)×aI×Int) ((List (List aC))×aE×aA×aL×aE×(List aM)×aI×Int))):=
 aa (jX N a0 a1) λq=>
 kG q (λr2=>
  cond (r2 != 0) (
   some (Sum.inl r2)) (
   aa (fQ N a2) λr7=>
   cond (!r7) (some (Sum.inl 2)) (none))) (λq=>
 kG q (λr3=>
  none) (λq=>
 kG q (λr4=>
  cond (r4.2.2.2.2.2.2 != 0) (
   some (Sum.inl r4.2.2.2.2.2.2)) (
   aa (fQ N a2) λr8=>
   cond (!r8) (
    some (Sum.inl 2)) (
    aa (tU N a0) λr9=>
    aa (sD N a1.gW a1.gH a2) λr10=>
    aa (eD N [] [] r4.2.2.2.1 a1.gH a2 a1.gW r9 a1 a2 0 (aI.mk 0 0 (([]:(List (Vector Int 3)))) (([]:(List Int))) (([]:(List Int))) (([]:(List (Vector Int 3)))) (([]:(List Int))) (([]:(List Int)))) (aE.mk r4.1 r4.2.1 a0.gQ r4.2.2.1 a0.gJ a0.gS a0.gR a0.gB2 a0.gTo) a1 r4.2.2.2.2.1 (aF.mk 0 0 0) (aK.mk (fD.mk 0) true r4.2.2.2.2.2.1)) λr11=>
    aa (yM N a1.gW a1.gH) λr12=>
    some (Sum.inr (Sum.inl ((r4.2.2.2.1,(aE.mk r4.1 r4.2.1 a0.gQ r4.2.2.1 a0.gJ a0.gS a0.gR a0.gB2 a0.gTo),r4.2.2.2.2.1,(aK.mk (fD.mk 0) true r4.2.2.2.2.2.1),r9,r11,r12.1,0))))))) (λq=>
 kG q (λr5=>
  none) (λr6=>
  cond (r6.2.2.2.2.2.2 != 0) (
   some (Sum.inl r6.2.2.2.2.2.2)) (
   aa (fQ N a2) λr13=>
   cond (!r13) (
    some (Sum.inl 2)) (
    aa (tU N a0) λr14=>
    aa (sD N a1.gW a1.gH a2) λr15=>
    aa (dX N [] [] r6.2.2.2.1 a1.gH a2 a1.gW r14 a1 a2 0 (aI.mk 0 0 (([]:(List (Vector Int 3)))) (([]:(List Int))) (([]:(List Int))) (([]:(List (Vector Int 3)))) (([]:(List Int))) (([]:(List Int)))) (aE.mk r6.1 r6.2.1 a0.gQ r6.2.2.1 a0.gJ a0.gS a0.gR a0.gB2 a0.gTo) a1 r6.2.2.2.2.1 (aF.mk 0 0 0) r6.2.2.2.2.2.1) λr16=>
    aa (yM N a1.gW a1.gH) λr17=>
    some (Sum.inr (Sum.inr ((r6.2.2.2.1,(aE.mk r6.1 r6.2.1 a0.gQ r6.2.2.1 a0.gJ a0.gS a0.gR a0.gB2 a0.gTo),r6.2.2.2.2.1,r6.2.2.2.2.2.1,r14,r16,r17.1,0))))))))))
theorem aCx{N a0 a1 a2 r}(h:jD N a0 a1 a2=some r):FnM Tryz.prog 7 [] [(aE.enc a0),(aG.enc a1),(j64 a2)] (aEs r (λr=>(.tup [(.v (.pointer none)),(j64 r)])) (λr=>aEs r (λr=>(.tup [(.ref 7 [] 0),(j64 r.2.2.2.2.2.2.2)])) (λr=>(.tup [(.ref 7 [] 0),(j64 r.2.2.2.2.2.2.2)])))) (aEs r (λr=>[]) (λr=>aEs r (λr=>[.var (.st 38 [(aE.enc r.2.1),(aG.enc a1),(.ifc 112 (.ref 6 [] 0)),(eO 4 1 (eL 2 aC.enc) r.1),(aA.enc r.2.2.1),(aF.enc ((aF.mk 0 0 0)))]),.dead,.dead,.dead,.tail (r.1.length*1),.dead,.var (aK.enc r.2.2.2.1),.var (.st 43 [(.ref 0 [] 0),(aE.enc r.2.2.2.2.1),(aG.enc a1),(j64 a2),(eL 6 aM.enc r.2.2.2.2.2.1),(j64 0),(eO 9 9 aH.enc []),(aI.enc r.2.2.2.2.2.2.1)]),.dead,.tail 0]) (λr=>[.var (.st 38 [(aE.enc r.2.1),(aG.enc a1),(.ifc 115 (.ref 6 [] 0)),(eO 4 1 (eL 2 aC.enc) r.1),(aA.enc r.2.2.1),(aF.enc ((aF.mk 0 0 0)))]),.dead,.dead,.dead,.tail (r.1.length*1),.dead,.var (aL.enc r.2.2.2.1),.var (.st 43 [(.ref 0 [] 0),(aE.enc r.2.2.2.2.1),(aG.enc a1),(j64 a2),(eL 6 aM.enc r.2.2.2.2.2.1),(j64 0),(eO 9 9 aH.enc []),(aI.enc r.2.2.2.2.2.2.1)]),.dead,.tail 0]))):=by
 unfold jD at h;refine At.fR aNj hT hmo Tryz.func7 rfl h ?_;refine aR6 (λr2 hr2=>?_) (λq hq=>?_)
 ·refine At.o 6 (tY [] (aEW hr2)) ?_;refine At.c 7 ?_ ?_
  ·apply rt;exact At.r 3
  ·refine At.y 1 oK λr7=>?_;refine At.c 1 ?_ ?_
   ·apply rt;exact At.r 2
   ·refine At.D 0 [] ?_;exact nn
 ·refine aOE (λr3 e=>?_) (λq e=>?_)
  ·subst e;have hr3:=hq;exact nn
  ·subst e;have hq:=hq;refine aOE (λr4 e=>?_) (λq e=>?_)
   ·subst e;have hr4:=hq;refine At.o 6 (tY [] (aEH hr4)) ?_;refine At.c 7 ?_ ?_
    ·apply rt;exact At.r 3
    ·refine At.y 1 oK λr8=>?_;refine At.c 1 ?_ ?_
     ·apply rt;exact At.r 2
     ·refine At.D 0 [false,false] ?_;refine DD.y 2 aDj λr9=>?_;refine De 6 ?_;refine At.y 5 aBq λr10=>?_;refine At.ownb 0 7 9 [6] ?_;refine At.ownb 0 7 6 [4] ?_;refine At.to 0 ⟨[en 4 (.im (aG.enc a1)),en 10 (.ref 8 [] 0),en 37 (.fn (.func 44) [] [(.im (j64 a1.gH)),(.im (j64 a2)),(.im (j64 a1.gW))])],[.var (.st 38 [(.st 9 [(eL 19 aJ.enc r4.1),(eL 5 aN.enc r4.2.1),(eL 2 aC.enc a0.gQ),(eL 13 aQ.enc r4.2.2.1),(eL 1 k64 a0.gJ),(eL 1 k32 a0.gS),(k32 a0.gR),(k32 a0.gB2),(k32 a0.gTo)]),(aG.enc a1),(.ifc 112 (.ref 6 [] 0)),(eO 4 1 (eL 2 aC.enc) r4.2.2.2.1),(aA.enc r4.2.2.2.2.1),(.st 3 [(j64 0),(j64 0),(j64 0)])]),.tail (r4.1.length*19),.tail (r4.2.1.length*5),.tail (r4.2.2.1.length*13),.tail (r4.2.2.2.1.length*1),.dead,.var (.st 3 [(.st 1 [(j64 0)]),(eB true),(eL 19 aJ.enc r4.2.2.2.2.2.1)]),.var (.st 43 [(.ref 0 [] 0),(aE.enc r9),(aG.enc a1),(j64 a2),(eO 10 6 aM.enc []),(j64 0),(eO 9 9 aH.enc []),(.st 8 [(j64 0),(j64 0),(eL 3 (eA 3 1 j64) (([]:(List (Vector Int 3))))),(eL 1 j64 (([]:(List Int)))),(eL 1 j64 (([]:(List Int)))),(eL 3 (eA 3 1 j64) (([]:(List (Vector Int 3))))),(eL 1 j64 (([]:(List Int)))),(eL 1 j64 (([]:(List Int))))])]),.var (.ref 7 [] 0),.tail 0,.tail 0]⟩ ?_;refine bi λr11 hr11=>?_;refine At.rg 0 (xQ hr11) vP (.tmp 37) [8,7,0,10,9,6,4] ⟨[en 4 (.im (aG.enc a1)),en 10 (.ref 8 [] 0)],[.var (.st 38 [(aE.enc ((aE.mk r4.1 r4.2.1 a0.gQ r4.2.2.1 a0.gJ a0.gS a0.gR a0.gB2 a0.gTo))),(aG.enc a1),(.ifc 112 (.ref 6 [] 0)),(eO 4 1 (eL 2 aC.enc) r4.2.2.2.1),(aA.enc r4.2.2.2.2.1),(aF.enc ((aF.mk 0 0 0)))]),.tail (r4.1.length*19),.tail (r4.2.1.length*5),.tail (r4.2.2.1.length*13),.tail (r4.2.2.2.1.length*1),.dead,.var (aK.enc ((aK.mk (fD.mk 0) true r4.2.2.2.2.2.1))),.var (.st 43 [(.ref 0 [] 0),(aE.enc r9),(aG.enc a1),(j64 a2),(eO 10 6 aM.enc r11),(j64 0),(eO 9 9 aH.enc []),(aI.enc ((aI.mk 0 0 (([]:(List (Vector Int 3)))) (([]:(List Int))) (([]:(List Int))) (([]:(List (Vector Int 3)))) (([]:(List Int))) (([]:(List Int))))))]),.var (.ref 7 [] 0),.tail 0,.tail (r11.length*6)]⟩ [(.im (j64 a1.gH)),(.im (j64 a2)),(.im (j64 a1.gW))] ?_;refine At.D 0 [] ?_;refine DD.y 5 aFA λr12=>?_;refine De 6 ?_;apply rt;exact At.r 3
   ·subst e;have hq:=hq;refine aOE (λr5 e=>?_) (λr6 e=>?_)
    ·subst e;have hr5:=hq;exact nn
    ·subst e;have hr6:=hq;refine At.o 6 (tY [] (aD1 hr6)) ?_;refine At.c 7 ?_ ?_
     ·apply rt;exact At.r 3
     ·refine At.y 1 oK λr13=>?_;refine At.c 1 ?_ ?_
      ·apply rt;exact At.r 2
      ·refine At.D 0 [false,false] ?_;refine DD.y 2 aDj λr14=>?_;refine De 6 ?_;refine At.y 5 aBq λr15=>?_;refine At.ownb 0 7 9 [6] ?_;refine At.ownb 0 7 6 [4] ?_;refine At.to 0 ⟨[en 4 (.im (aG.enc a1)),en 10 (.ref 8 [] 0),en 37 (.fn (.func 44) [] [(.im (j64 a1.gH)),(.im (j64 a2)),(.im (j64 a1.gW))])],[.var (.st 38 [(.st 9 [(eL 19 aJ.enc r6.1),(eL 5 aN.enc r6.2.1),(eL 2 aC.enc a0.gQ),(eL 13 aQ.enc r6.2.2.1),(eL 1 k64 a0.gJ),(eL 1 k32 a0.gS),(k32 a0.gR),(k32 a0.gB2),(k32 a0.gTo)]),(aG.enc a1),(.ifc 115 (.ref 6 [] 0)),(eO 4 1 (eL 2 aC.enc) r6.2.2.2.1),(aA.enc r6.2.2.2.2.1),(.st 3 [(j64 0),(j64 0),(j64 0)])]),.tail (r6.1.length*19),.tail (r6.2.1.length*5),.tail (r6.2.2.1.length*13),.tail (r6.2.2.2.1.length*1),.dead,.var (aL.enc r6.2.2.2.2.2.1),.var (.st 43 [(.ref 0 [] 0),(aE.enc r14),(aG.enc a1),(j64 a2),(eO 10 6 aM.enc []),(j64 0),(eO 9 9 aH.enc []),(.st 8 [(j64 0),(j64 0),(eL 3 (eA 3 1 j64) (([]:(List (Vector Int 3))))),(eL 1 j64 (([]:(List Int)))),(eL 1 j64 (([]:(List Int)))),(eL 3 (eA 3 1 j64) (([]:(List (Vector Int 3))))),(eL 1 j64 (([]:(List Int)))),(eL 1 j64 (([]:(List Int))))])]),.var (.ref 7 [] 0),.tail 0,.tail 0]⟩ ?_;refine bi λr16 hr16=>?_;refine At.rg 0 (xS hr16) vX (.tmp 37) [8,7,0,10,9,6,4] ⟨[en 4 (.im (aG.enc a1)),en 10 (.ref 8 [] 0)],[.var (.st 38 [(aE.enc ((aE.mk r6.1 r6.2.1 a0.gQ r6.2.2.1 a0.gJ a0.gS a0.gR a0.gB2 a0.gTo))),(aG.enc a1),(.ifc 115 (.ref 6 [] 0)),(eO 4 1 (eL 2 aC.enc) r6.2.2.2.1),(aA.enc r6.2.2.2.2.1),(aF.enc ((aF.mk 0 0 0)))]),.tail (r6.1.length*19),.tail (r6.2.1.length*5),.tail (r6.2.2.1.length*13),.tail (r6.2.2.2.1.length*1),.dead,.var (aL.enc r6.2.2.2.2.2.1),.var (.st 43 [(.ref 0 [] 0),(aE.enc r14),(aG.enc a1),(j64 a2),(eO 10 6 aM.enc r16),(j64 0),(eO 9 9 aH.enc []),(aI.enc ((aI.mk 0 0 (([]:(List (Vector Int 3)))) (([]:(List Int))) (([]:(List Int))) (([]:(List (Vector Int 3)))) (([]:(List Int))) (([]:(List Int))))))]),.var (.ref 7 [] 0),.tail 0,.tail (r16.length*6)]⟩ [(.im (j64 a1.gH)),(.im (j64 a2)),(.im (j64 a1.gW))] ?_;refine At.D 0 [] ?_;refine DD.y 5 aFA λr17=>?_;refine De 6 ?_;apply rt;exact At.r 3
theorem aJe{N a0 a1 a2 r}(h:jD N a0 a1 a2=some (Sum.inl r)):FnM Tryz.prog 7 [] [(aE.enc a0),(aG.enc a1),(j64 a2)] (.tup [(.v (.pointer none)),(j64 r)]) []:=aCx h
theorem aJo{N a0 a1 a2 r}(h:jD N a0 a1 a2=some (Sum.inr (Sum.inl r))):FnM Tryz.prog 7 [] [(aE.enc a0),(aG.enc a1),(j64 a2)] (.tup [(.ref 7 [] 0),(j64 r.2.2.2.2.2.2.2)]) [.var (.st 38 [(aE.enc r.2.1),(aG.enc a1),(.ifc 112 (.ref 6 [] 0)),(eO 4 1 (eL 2 aC.enc) r.1),(aA.enc r.2.2.1),(aF.enc ((aF.mk 0 0 0)))]),.dead,.dead,.dead,.tail (r.1.length*1),.dead,.var (aK.enc r.2.2.2.1),.var (.st 43 [(.ref 0 [] 0),(aE.enc r.2.2.2.2.1),(aG.enc a1),(j64 a2),(eL 6 aM.enc r.2.2.2.2.2.1),(j64 0),(eO 9 9 aH.enc []),(aI.enc r.2.2.2.2.2.2.1)]),.dead,.tail 0]:=aCx h
theorem aJt{N a0 a1 a2 r}(h:jD N a0 a1 a2=some (Sum.inr (Sum.inr r))):FnM Tryz.prog 7 [] [(aE.enc a0),(aG.enc a1),(j64 a2)] (.tup [(.ref 7 [] 0),(j64 r.2.2.2.2.2.2.2)]) [.var (.st 38 [(aE.enc r.2.1),(aG.enc a1),(.ifc 115 (.ref 6 [] 0)),(eO 4 1 (eL 2 aC.enc) r.1),(aA.enc r.2.2.1),(aF.enc ((aF.mk 0 0 0)))]),.dead,.dead,.dead,.tail (r.1.length*1),.dead,.var (aL.enc r.2.2.2.1),.var (.st 43 [(.ref 0 [] 0),(aE.enc r.2.2.2.2.1),(aG.enc a1),(j64 a2),(eL 6 aM.enc r.2.2.2.2.2.1),(j64 0),(eO 9 9 aH.enc []),(aI.enc r.2.2.2.2.2.2.1)]),.dead,.tail 0]:=aCx h
def yP(N:Nat)(a0 a1 a2:Int):Option (Unit):=
 some (())
theorem aFG{N a0 a1 a2 r}(h:yP N a0 a1 a2=some r):FnM Tryz.prog 46 [] [(k64 a0),(j64 a1),(j64 a2)] (.ref 0 [] 0) [.var (.st 72 [(.st 68 [(.st 3 [(k32 0),(k32 0),(k32 0)]),(eB false),(eA 64 1 k8 (bu 64 0))]),(eB true),(k64 a0),(j64 a1),(j64 a2)])]:=by
 refine Af bO Tryz.func46 h ?_;apply rt;exact At.r 7
def aBe(N:Nat)(a0 a1 a2 a3:Int):Option (bV):=
 aR (U32 (kB .i64 a2 65535)) λx1=>
 aR (U32 (d7 (U32 (kB .i64 a3 63)) 16)) λx2=>
 aR (U32 ((U32 (x1*4))+x2)) λx3=>
 some (bV.mk (U32 a0) (U32 a1) ((U32 ((U32 ((U32 (kB .i64 a2 65535))*4))+(U32 (d7 (U32 (kB .i64 a3 63)) 16))))))
theorem aH7{N a0 a1 a2 a3 r}(h:aBe N a0 a1 a2 a3=some r):FnM Tryz.prog 117 [] [(j64 a0),(j64 a1),(j64 a2),(j64 a3)] (bV.enc r) []:=by
 refine Af bO Tryz.func117 h ?_;apply lx;intro x1;apply lx;intro x2;apply lx;intro x3;apply rt;exact At.r 16
def pF(N:Nat)(a0:Int):Nat->(Vector Int 32)->Int->Option ((Vector Int 32))
 | 0,_,_=>none
 | k+1,s4,s5=>
  cond (decide (s5 < 8)) (
   aa (aHy .u64 a0 (I64 (8*s5))) λx6=>
   aa (dS (I64 (24+s5)) 32) λ_=>
   aa (s4.toList[(I64 (24+s5)).toNat]?) λe8=>
   pF N a0 k (s4.setIfInBounds ((I64 (24+s5)).toNat) (U8 x6)) (I64 (s5+1))) (
   some s4)
def aAu(N:Nat)(a0:Int):Option ((Vector Int 32)):=
 aa (aSD 32 0 32) λ_=>
 aa (cpV (bu 32 0) (aC4 str_1) 0 32) λv2=>
 aa (pF N a0 N v2 0) λp3=>
 some p3
theorem aKf{N a0 r}(h:aAu N a0=some r):FnM Tryz.prog 173 [] [(k64 a0)] (eA 32 1 k8 r) []:=by
 refine Af bO Tryz.func173 h ?_;refine At.b 2 (λ_ e=>aPe hT (k:=1) 1 [] 0 e (by kernel_rfl) (by kernel_rfl) (by decide)) λs1=>?_;refine At.b 0 (λv2 e=>aTY hT k8 (id:=1) (path:=[]) (off:=0) (H':=[.var (eA 32 1 k8 (bu 32 0)),.var (eA 32 1 k8 v2)]) e (by kernel_rfl) (by kernel_rfl) (by kernel_rfl)) λv2=>?_;refine At.M 1 [2,3] 2 (λp3=>([],[(1,.var (eA 32 1 k8 p3))],[])) [0,2,3] 2 (CU2 (pF N a0)) (cu2 λ(s4:(Vector Int 32)) (s5:Int)=>([(7,(j64 s5))],[(1,.var (eA 32 1 k8 s4))],[])) (_,_) N (λp3 k=>un2 λs4 s5=>?_) λp3=>?_
 ·refine At.c 1 ?_ ?_
  ·refine At.b 7 (λ_ e=>aAn hT (k' := .i64) e (by kernel_rfl) (by kernel_rfl)) λx6=>?_;refine At.b 1 (λ_ e=>bF hT (k:=1) 1 [] 0 e) λu7=>?_;refine At.b 0 (λ_ e=>oX hT k8 0 s4 e (U8 x6) (by kernel_rfl) (by kernel_rfl) (H':=[.var (eA 32 1 k8 (bu 32 0)),.var (eA 32 1 k8 (s4.setIfInBounds ((I64 (24+s5)).toNat) (U8 x6)))])) λe8=>?_;exact λh=>At.v 2 (_,_) h
  ·apply rt;exact At.x 0
 ·apply rt;exact At.r 2
def rX(N:Nat)(a0:(List Int)):Option (Int):=
 aa (idx a0 0) λe1=>
 aa (idx a0 1) λe2=>
 aR (bor .u32 (U32 e1) (shl .u32 (U32 e2) 8)) λx3=>
 aa (idx a0 2) λe4=>
 aR (bor .u32 x3 (shl .u32 (U32 e4) 16)) λx5=>
 aa (idx a0 3) λe6=>
 aR (bor .u32 x5 (shl .u32 (U32 e6) 24)) λx7=>
 some x7
theorem aCh{N a0 r}(h:rX N a0=some r):FnM Tryz.prog 209 [] [(eL 1 k8 a0)] (k32 r) []:=by
 refine Af bO Tryz.func209 h ?_;refine At.D 1 [] ?_;refine DD.i hT 1 k8 λe1=>?_;refine DD.i hT 3 k8 λe2=>?_;apply lx;intro x3;refine DD.i hT 5 k8 λe4=>?_;apply lx;intro x5;refine DD.i hT 5 k8 λe6=>?_;apply lx;intro x7;refine De 5 ?_;apply rt;exact At.r 0
def aJd : Nat->Bool:=imL [3,5]
def mS(N:Nat)(a0:(Vector Int 32)):Nat->(Vector Int 16)->Int->Option ((Vector Int 16))
 | 0,_,_=>none
 | k+1,s2,s3=>
  cond (decide (s3 < 8)) (
   aa (xR a0.toList (I64 (4*s3)) 32) λs4=>
   aa (rX N s4) λr5=>
   aa (dS (I64 (4+s3)) 16) λ_=>
   aa (s2.toList[(I64 (4+s3)).toNat]?) λe7=>
   mS N a0 k (s2.setIfInBounds ((I64 (4+s3)).toNat) r5) (I64 (s3+1))) (
   some s2)
def mP(N:Nat)(a2:(Vector Int 12)):Nat->(Vector Int 16)->Int->Option ((Vector Int 16))
 | 0,_,_=>none
 | k+1,s9,s10=>
  cond (decide (s10 < 3)) (
   aa (xR a2.toList (I64 (4*s10)) 12) λs11=>
   aa (rX N s11) λr12=>
   aa (dS (I64 (13+s10)) 16) λ_=>
   aa (s9.toList[(I64 (13+s10)).toNat]?) λe14=>
   mP N a2 k (s9.setIfInBounds ((I64 (13+s10)).toNat) r12) (I64 (s10+1))) (
   some s9)
def yA(N:Nat)(a0:(Vector Int 32))(a1:Int)(a2:(Vector Int 12)):Option ((Vector Int 16)):=
 aa (mS N a0 N (#v[1634760805,857760878,2036477234,1797285236,0,0,0,0,0,0,0,0,a1,0,0,0]) 0) λp1=>
 aa (mP N a2 N p1 0) λp8=>
 some p8
theorem aIC{N a0 a1 a2 r}(h:yA N a0 a1 a2=some r):FnM Tryz.prog 195 [] [(eA 32 1 k8 a0),(k32 a1),(eA 12 1 k8 a2)] (eA 16 1 k32 r) []:=by
 refine Af aJd Tryz.func195 h ?_;refine At.M 8 [5,6,7] 2 (λp1=>([],[(1,.var (eA 16 1 k32 p1))],[])) [3,5,6,7] 2 (CU2 (mS N a0)) (cu2 λ(s2:(Vector Int 16)) (s3:Int)=>([(12,(j64 s3))],[(1,.var (eA 16 1 k32 s2))],[])) (_,_) N (λp1 k=>un2 λs2 s3=>?_) λp1=>?_
 ·refine At.c 1 ?_ ?_
  ·refine At.b 6 (λ_ e=>aCG hT (N:=32) (k:=1) k8 a0 e) λs4=>?_;refine At.y 0 aCh λr5=>?_;refine At.b 0 (λ_ e=>bF hT (k:=1) 1 [] 0 e) λu6=>?_;refine At.b 0 (λ_ e=>oX hT k32 0 s2 e r5 (by kernel_rfl) (by kernel_rfl) (H':=[.var (eA 16 1 k32 (bu 16 0)),.var (eA 16 1 k32 (s2.setIfInBounds ((I64 (4+s3)).toNat) r5))])) λe7=>?_;exact λh=>At.v 2 (_,_) h
  ·apply rt;exact At.x 0
 ·refine At.M 1 [6,7] 2 (λp8=>([],[(1,.var (eA 16 1 k32 p8))],[])) [5,6,7] 2 (CU2 (mP N a2)) (cu2 λ(s9:(Vector Int 16)) (s10:Int)=>([(23,(j64 s10))],[(1,.var (eA 16 1 k32 s9))],[])) (_,_) N (λp8 k=>un2 λs9 s10=>?_) λp8=>?_
  ·refine At.c 1 ?_ ?_
   ·refine At.b 6 (λ_ e=>aCG hT (N:=12) (k:=1) k8 a2 e) λs11=>?_;refine At.y 0 aCh λr12=>?_;refine At.b 0 (λ_ e=>bF hT (k:=1) 1 [] 0 e) λu13=>?_;refine At.b 0 (λ_ e=>oX hT k32 0 s9 e r12 (by kernel_rfl) (by kernel_rfl) (H':=[.var (eA 16 1 k32 (bu 16 0)),.var (eA 16 1 k32 (s9.setIfInBounds ((I64 (13+s10)).toNat) r12))])) λe14=>?_;exact λh=>At.v 2 (_,_) h
   ·apply rt;exact At.x 0
  ·apply rt;exact At.r 2
def eG(N:Nat)(a0 a1:Int):Option (Int):=
 aa (aMC .u32 a0 (kB .u64 (U64 a1) 31)) λx1=>
 aR (U64 (32 - (kB .u64 (U64 a1) 31))) λx2=>
 aa (aHy .u32 a0 x2) λx3=>
 some (bor .u32 x1 x3)
theorem lI{N a0 a1 r}(h:eG N a0 a1=some r):FnM Tryz.prog 210 [] [(k32 a0),(j64 a1)] (k32 r) []:=by
 refine Af bO Tryz.func210 h ?_;refine At.b 7 (λ_ e=>aEh hT (k' := .u64) e (by kernel_rfl) (by kernel_rfl)) λx1=>?_;apply lx;intro x2;refine At.b 3 (λ_ e=>aAn hT (k' := .u64) e (by kernel_rfl) (by kernel_rfl)) λx3=>?_;apply rt;exact At.r 2
def aGz : Nat->Bool:=imL [1]
def uG(N:Nat)(a0:(Vector Int 4)):Option ((Vector Int 4)):=
 aa (idx a0.toList 0) λe1=>
 aa (idx a0.toList 1) λe2=>
 aa (idx a0.toList 2) λe3=>
 aa (idx a0.toList 3) λe4=>
 aR (bxor .u32 e4 (U32 (e1+e2))) λx5=>
 aa (eG N x5 16) λr6=>
 aR (bxor .u32 e2 (U32 (e3+r6))) λx7=>
 aa (eG N x7 12) λr8=>
 aR (U32 ((U32 (e1+e2))+r8)) λx9=>
 aa (eG N (bxor .u32 r6 x9) 8) λr10=>
 aR (U32 ((U32 (e3+r6))+r10)) λx11=>
 aa (eG N (bxor .u32 r8 x11) 7) λr12=>
 some (#v[x9,r12,x11,r10])
theorem aGK{N a0 r}(h:uG N a0=some r):FnM Tryz.prog 196 [] [(eA 4 1 k32 a0)] (eA 4 1 k32 r) []:=by
 refine Af aGz Tryz.func196 h ?_;refine At.D 2 [] ?_;refine DD.b 0 (λe _=>dI hT (N:=4) (k:=1) k32 a0 e) λe1=>?_;refine DD.b 1 (λe _=>dI hT (N:=4) (k:=1) k32 a0 e) λe2=>?_;refine DD.b 1 (λe _=>dI hT (N:=4) (k:=1) k32 a0 e) λe3=>?_;refine DD.b 1 (λe _=>dI hT (N:=4) (k:=1) k32 a0 e) λe4=>?_;refine De 5 ?_;apply lx;intro x5;refine At.y 7 lI λr6=>?_;apply lx;intro x7;refine At.y 8 lI λr8=>?_;apply lx;intro x9;refine At.y 8 lI λr10=>?_;apply lx;intro x11;refine At.y 8 lI λr12=>?_;apply rt;exact At.r 7
def aIs : Nat->Bool:=imL [3,5]
def kK(N:Nat)  : Nat->(Vector Int 16)->Int->Option ((Vector Int 16))
 | 0,_,_=>none
 | k+1,s6,s7=>
  cond (decide (s7 < 8)) (
   aa (idx (#v[#v[0,4,8,12],#v[1,5,9,13],#v[2,6,10,14],#v[3,7,11,15],#v[0,5,10,15],#v[1,6,11,12],#v[2,7,8,13],#v[3,4,9,14]]).toList s7) λe8=>
   aa (dS 0 4) λ_=>
   aa (e8.toList[(bj 0)]?) λe10=>
   aa (dS e10 16) λ_=>
   aa (s6.toList[e10.toNat]?) λe12=>
   aa (dS 1 4) λ_=>
   aa (e8.toList[(bj 1)]?) λe14=>
   aa (dS e14 16) λ_=>
   aa (s6.toList[e14.toNat]?) λe16=>
   aa (dS 2 4) λ_=>
   aa (e8.toList[(bj 2)]?) λe18=>
   aa (dS e18 16) λ_=>
   aa (s6.toList[e18.toNat]?) λe20=>
   aa (dS 3 4) λ_=>
   aa (e8.toList[(bj 3)]?) λe22=>
   aa (dS e22 16) λ_=>
   aa (s6.toList[e22.toNat]?) λe24=>
   aa (uG N (#v[e12,e16,e20,e24])) λr25=>
   aa (dS 0 4) λ_=>
   aa (e8.toList[(bj 0)]?) λe27=>
   aa (dS 1 4) λ_=>
   aa (e8.toList[(bj 1)]?) λe29=>
   aa (dS 2 4) λ_=>
   aa (e8.toList[(bj 2)]?) λe31=>
   aa (dS 3 4) λ_=>
   aa (e8.toList[(bj 3)]?) λe33=>
   aa (dS 0 4) λ_=>
   aa (r25.toList[(bj 0)]?) λe35=>
   aa (dS 1 4) λ_=>
   aa (r25.toList[(bj 1)]?) λe37=>
   aa (dS 2 4) λ_=>
   aa (r25.toList[(bj 2)]?) λe39=>
   aa (dS 3 4) λ_=>
   aa (r25.toList[(bj 3)]?) λe41=>
   aa (dS e27 16) λ_=>
   aa (s6.toList[e27.toNat]?) λe43=>
   aa (dS e29 16) λ_=>
   aa ((s6.setIfInBounds e27.toNat e35).toList[e29.toNat]?) λe45=>
   aa (dS e31 16) λ_=>
   aa (((s6.setIfInBounds e27.toNat e35).setIfInBounds e29.toNat e37).toList[e31.toNat]?) λe47=>
   aa (dS e33 16) λ_=>
   aa ((((s6.setIfInBounds e27.toNat e35).setIfInBounds e29.toNat e37).setIfInBounds e31.toNat e39).toList[e33.toNat]?) λe49=>
   kK N k ((((s6.setIfInBounds e27.toNat e35).setIfInBounds e29.toNat e37).setIfInBounds e31.toNat e39).setIfInBounds e33.toNat e41) (I64 (s7+1))) (
   some s6)
def mW(N:Nat)  : Nat->(Vector Int 16)->Int->Option ((Vector Int 16))
 | 0,_,_=>none
 | k+1,s3,s4=>
  cond (decide (s4 < 10)) (
   aa (kK N N s3 0) λp5=>
   mW N k p5 (I64 (s4+1))) (
   some s3)
def mJ(N:Nat)(p2 r1:(Vector Int 16)):Nat->(Vector Int 64)->Int->Option ((Vector Int 64))
 | 0,_,_=>none
 | k+1,s51,s52=>
  cond (decide (s52 < 16)) (
   aa (idx p2.toList s52) λe53=>
   aa (dS s52 16) λ_=>
   aa (r1.toList[s52.toNat]?) λe55=>
   aR (I64 ((I64 (4*s52))+1)) λx56=>
   aR (I64 ((I64 (4*s52))+2)) λx57=>
   aR (I64 ((I64 (4*s52))+3)) λx58=>
   aR (shr .u32 (U32 (e53+e55)) 8) λx59=>
   aR (shr .u32 (U32 (e53+e55)) 16) λx60=>
   aR (shr .u32 (U32 (e53+e55)) 24) λx61=>
   aa (dS (I64 (4*s52)) 64) λ_=>
   aa (s51.toList[(I64 (4*s52)).toNat]?) λe63=>
   aa (dS x56 64) λ_=>
   aa ((s51.setIfInBounds ((I64 (4*s52)).toNat) (U8 (U32 (e53+e55)))).toList[x56.toNat]?) λe65=>
   aa (dS x57 64) λ_=>
   aa (((s51.setIfInBounds ((I64 (4*s52)).toNat) (U8 (U32 (e53+e55)))).setIfInBounds x56.toNat (U8 x59)).toList[x57.toNat]?) λe67=>
   aa (dS x58 64) λ_=>
   aa ((((s51.setIfInBounds ((I64 (4*s52)).toNat) (U8 (U32 (e53+e55)))).setIfInBounds x56.toNat (U8 x59)).setIfInBounds x57.toNat (U8 x60)).toList[x58.toNat]?) λe69=>
   mJ N p2 r1 k ((((s51.setIfInBounds ((I64 (4*s52)).toNat) (U8 (U32 (e53+e55)))).setIfInBounds x56.toNat (U8 x59)).setIfInBounds x57.toNat (U8 x60)).setIfInBounds x58.toNat (U8 x61)) (I64 (s52+1))) (
   some s51)
def yK(N:Nat)(a0:(Vector Int 32))(a1:Int)(a2:(Vector Int 12)):Option ((Vector Int 64)):=
 aa (yA N a0 a1 a2) λr1=>
 aa (mW N N r1 0) λp2=>
 aa (mJ N p2 r1 N (bu 64 0) 0) λp50=>
 some p50
theorem aIB{N a0 a1 a2 r}(h:yK N a0 a1 a2=some r):FnM Tryz.prog 172 [] [(eA 32 1 k8 a0),(k32 a1),(eA 12 1 k8 a2)] (eA 64 1 k8 r) []:=by
 refine Af aIs Tryz.func172 h ?_;refine At.y 6 aIC λr1=>?_;refine At.M 17 [6,7,8] 4 (λp2=>([],[(2,.var (eA 16 1 k32 p2))],[])) [6,7,8,9] 4 (CU2 (mW N)) (cu2 λ(s3:(Vector Int 16)) (s4:Int)=>([(30,(j64 s4))],[(2,.var (eA 16 1 k32 s3))],[])) (_,_) N (λp2 k=>un2 λs3 s4=>?_) λp2=>?_
 ·refine At.c 1 ?_ ?_
  ·refine At.M 2 [6,7,8,9,30] 4 (λp5=>([],[(2,.var (eA 16 1 k32 p5))],[])) [6,7,8,9,30,32] 4 (CU2 (kK N)) (cu2 λ(s6:(Vector Int 16)) (s7:Int)=>([(33,(j64 s7))],[(2,.var (eA 16 1 k32 s6))],[])) (_,_) N (λp5 k=>un2 λs6 s7=>?_) λp5=>?_
   ·refine At.c 1 ?_ ?_
    ·refine At.b 0 (λ_ e=>aA2 hT (eA 4 1 j64) (#v[#v[0,4,8,12],#v[1,5,9,13],#v[2,6,10,14],#v[3,7,11,15],#v[0,5,10,15],#v[1,6,11,12],#v[2,7,8,13],#v[3,4,9,14]]) e (by kernel_rfl) (by kernel_rfl)) λe8=>?_;refine At.D 2 [] ?_;refine DD.b 0 (λe _=>bF hT (k:=1) 4 [] 0 e) λu9=>?_;refine DD.l hT 0 j64 j64 0 λe10=>?_;refine DD.b 0 (λe _=>bF hT (k:=1) 2 [] 0 e) λu11=>?_;refine DD.l hT 0 k32 k32 0 λe12=>?_;refine DD.b 0 (λe _=>bF hT (k:=1) 4 [] 0 e) λu13=>?_;refine DD.l hT 0 j64 j64 0 λe14=>?_;refine DD.b 0 (λe _=>bF hT (k:=1) 2 [] 0 e) λu15=>?_;refine DD.l hT 0 k32 k32 0 λe16=>?_;refine DD.b 0 (λe _=>bF hT (k:=1) 4 [] 0 e) λu17=>?_;refine DD.l hT 0 j64 j64 0 λe18=>?_;refine DD.b 0 (λe _=>bF hT (k:=1) 2 [] 0 e) λu19=>?_;refine DD.l hT 0 k32 k32 0 λe20=>?_;refine DD.b 0 (λe _=>bF hT (k:=1) 4 [] 0 e) λu21=>?_;refine DD.l hT 0 j64 j64 0 λe22=>?_;refine DD.b 0 (λe _=>bF hT (k:=1) 2 [] 0 e) λu23=>?_;refine DD.l hT 0 k32 k32 0 λe24=>?_;refine DD.y 1 aGK λr25=>?_;refine De 2 ?_;refine At.D 0 [] ?_;refine DD.b 0 (λe _=>bF hT (k:=1) 4 [] 0 e) λu26=>?_;refine DD.l hT 0 j64 j64 0 λe27=>?_;refine DD.b 0 (λe _=>bF hT (k:=1) 4 [] 0 e) λu28=>?_;refine DD.l hT 0 j64 j64 0 λe29=>?_;refine DD.b 0 (λe _=>bF hT (k:=1) 4 [] 0 e) λu30=>?_;refine DD.l hT 0 j64 j64 0 λe31=>?_;refine DD.b 0 (λe _=>bF hT (k:=1) 4 [] 0 e) λu32=>?_;refine DD.l hT 0 j64 j64 0 λe33=>?_;refine DD.b 0 (λe _=>bF hT (k:=1) 5 [] 0 e) λu34=>?_;refine DD.l hT 0 k32 k32 0 λe35=>?_;refine DD.b 0 (λe _=>bF hT (k:=1) 5 [] 0 e) λu36=>?_;refine DD.l hT 0 k32 k32 0 λe37=>?_;refine DD.b 0 (λe _=>bF hT (k:=1) 5 [] 0 e) λu38=>?_;refine DD.l hT 0 k32 k32 0 λe39=>?_;refine DD.b 0 (λe _=>bF hT (k:=1) 5 [] 0 e) λu40=>?_;refine DD.l hT 0 k32 k32 0 λe41=>?_;refine DD.b 0 (λe _=>bF hT (k:=1) 2 [] 0 e) λu42=>?_;refine bi λe43 he43=>?_;refine DD.w 0 (.v (.bool false)) ⟨[(2,.var (eA 16 1 k32 (s6.setIfInBounds e27.toNat e35)))],[]⟩ (λ_ e=>oX hT k32 0 s6 he43 e35 (pj1 e) (pj1 (pj2 e)) (pj2 (pj2 e))) ?_;refine DD.b 0 (λe _=>bF hT (k:=1) 2 [] 0 e) λu44=>?_;refine bi λe45 he45=>?_;refine DD.w 0 (.v (.bool false)) ⟨[(2,.var (eA 16 1 k32 ((s6.setIfInBounds e27.toNat e35).setIfInBounds e29.toNat e37)))],[]⟩ (λ_ e=>oX hT k32 0 (s6.setIfInBounds e27.toNat e35) he45 e37 (pj1 e) (pj1 (pj2 e)) (pj2 (pj2 e))) ?_;refine DD.b 0 (λe _=>bF hT (k:=1) 2 [] 0 e) λu46=>?_;refine bi λe47 he47=>?_;refine DD.w 0 (.v (.bool false)) ⟨[(2,.var (eA 16 1 k32 (((s6.setIfInBounds e27.toNat e35).setIfInBounds e29.toNat e37).setIfInBounds e31.toNat e39)))],[]⟩ (λ_ e=>oX hT k32 0 ((s6.setIfInBounds e27.toNat e35).setIfInBounds e29.toNat e37) he47 e39 (pj1 e) (pj1 (pj2 e)) (pj2 (pj2 e))) ?_;refine DD.b 0 (λe _=>bF hT (k:=1) 2 [] 0 e) λu48=>?_;refine bi λe49 he49=>?_;refine DD.w 0 (.v (.bool false)) ⟨[(2,.var (eA 16 1 k32 ((((s6.setIfInBounds e27.toNat e35).setIfInBounds e29.toNat e37).setIfInBounds e31.toNat e39).setIfInBounds e33.toNat e41)))],[]⟩ (λ_ e=>oX hT k32 0 (((s6.setIfInBounds e27.toNat e35).setIfInBounds e29.toNat e37).setIfInBounds e31.toNat e39) he49 e41 (pj1 e) (pj1 (pj2 e)) (pj2 (pj2 e))) ?_;refine De 0 ?_;exact λh=>At.v 2 (_,_) h
    ·apply rt;exact At.x 0
   ·exact λh=>At.v 2 (_,_) h
  ·apply rt;exact At.x 0
 ·refine At.M 3 [6,13] 5 (λp50=>([],[(4,.var (eA 64 1 k8 p50))],[])) [6,7,13,76] 5 (CU2 (mJ N p2 r1)) (cu2 λ(s51:(Vector Int 64)) (s52:Int)=>([(77,(j64 s52))],[(4,.var (eA 64 1 k8 s51))],[])) (_,_) N (λp50 k=>un2 λs51 s52=>?_) λp50=>?_
  ·refine At.c 1 ?_ ?_
   ·refine At.b 1 (λ_ e=>aA2 hT k32 p2 e (by kernel_rfl) (by kernel_rfl)) λe53=>?_;refine At.b 4 (λ_ e=>bF hT (k:=1) 1 [] 0 e) λu54=>?_;refine At.b 0 (λ_ e=>pV hT k32 0 e) λe55=>?_;apply lx;intro x56;apply lx;intro x57;apply lx;intro x58;apply lx;intro x59;apply lx;intro x60;apply lx;intro x61;refine At.b 24 (λ_ e=>bF hT (k:=1) 4 [] 0 e) λu62=>?_;refine At.b 0 (λ_ e=>oX hT k8 0 s51 e (U8 (U32 (e53+e55))) (by kernel_rfl) (by kernel_rfl) (H':=[.var (eA 64 1 k8 (bu 64 0)),.var (eA 16 1 k32 r1),.var (eA 16 1 k32 p2),.var cv_1,.var (eA 64 1 k8 (s51.setIfInBounds ((I64 (4*s52)).toNat) (U8 (U32 (e53+e55)))))])) λe63=>?_;refine At.b 0 (λ_ e=>bF hT (k:=1) 4 [] 0 e) λu64=>?_;refine At.b 0 (λ_ e=>oX hT k8 0 (s51.setIfInBounds ((I64 (4*s52)).toNat) (U8 (U32 (e53+e55)))) e (U8 x59) (by kernel_rfl) (by kernel_rfl) (H':=[.var (eA 64 1 k8 (bu 64 0)),.var (eA 16 1 k32 r1),.var (eA 16 1 k32 p2),.var cv_1,.var (eA 64 1 k8 ((s51.setIfInBounds ((I64 (4*s52)).toNat) (U8 (U32 (e53+e55)))).setIfInBounds x56.toNat (U8 x59)))])) λe65=>?_;refine At.b 0 (λ_ e=>bF hT (k:=1) 4 [] 0 e) λu66=>?_;refine At.b 0 (λ_ e=>oX hT k8 0 ((s51.setIfInBounds ((I64 (4*s52)).toNat) (U8 (U32 (e53+e55)))).setIfInBounds x56.toNat (U8 x59)) e (U8 x60) (by kernel_rfl) (by kernel_rfl) (H':=[.var (eA 64 1 k8 (bu 64 0)),.var (eA 16 1 k32 r1),.var (eA 16 1 k32 p2),.var cv_1,.var (eA 64 1 k8 (((s51.setIfInBounds ((I64 (4*s52)).toNat) (U8 (U32 (e53+e55)))).setIfInBounds x56.toNat (U8 x59)).setIfInBounds x57.toNat (U8 x60)))])) λe67=>?_;refine At.b 0 (λ_ e=>bF hT (k:=1) 4 [] 0 e) λu68=>?_;refine At.b 0 (λ_ e=>oX hT k8 0 (((s51.setIfInBounds ((I64 (4*s52)).toNat) (U8 (U32 (e53+e55)))).setIfInBounds x56.toNat (U8 x59)).setIfInBounds x57.toNat (U8 x60)) e (U8 x61) (by kernel_rfl) (by kernel_rfl) (H':=[.var (eA 64 1 k8 (bu 64 0)),.var (eA 16 1 k32 r1),.var (eA 16 1 k32 p2),.var cv_1,.var (eA 64 1 k8 ((((s51.setIfInBounds ((I64 (4*s52)).toNat) (U8 (U32 (e53+e55)))).setIfInBounds x56.toNat (U8 x59)).setIfInBounds x57.toNat (U8 x60)).setIfInBounds x58.toNat (U8 x61)))])) λe69=>?_;exact λh=>At.v 2 (_,_) h
   ·apply rt;exact At.x 0
  ·apply rt;exact At.r 2
def aEJ : Nat->Bool:=imL [2]
def iE(N:Nat)(a0:bV):Nat->(Vector Int 12)->Int->Option ((Vector Int 12))
 | 0,_,_=>none
 | k+1,s2,s3=>
  cond (decide (s3 < 4)) (
   aa (aHy .u32 a0.gE3 (I64 (8*s3))) λx4=>
   aa (aHy .u32 a0.gE4 (I64 (8*s3))) λx5=>
   aa (dS s3 12) λ_=>
   aa (s2.toList[s3.toNat]?) λe7=>
   aa (dS (I64 (4+s3)) 12) λ_=>
   aa ((s2.setIfInBounds s3.toNat (U8 x4)).toList[(I64 (4+s3)).toNat]?) λe9=>
   iE N a0 k ((s2.setIfInBounds s3.toNat (U8 x4)).setIfInBounds ((I64 (4+s3)).toNat) (U8 x5)) (I64 (s3+1))) (
   some s2)
def pQ(N:Nat)(a0:bV)(a1:Int):Option ((Vector Int 64)):=
 aa (iE N a0 N (bu 12 0) 0) λp1=>
 aa (aAu N a1) λr10=>
 aa (yK N r10 a0.gE5 p1) λr11=>
 some r11
theorem aDn{N a0 a1 r}(h:pQ N a0 a1=some r):FnM Tryz.prog 118 [] [(bV.enc a0),(k64 a1)] (eA 64 1 k8 r) []:=by
 refine Af aEJ Tryz.func118 h ?_;refine At.M 4 [1,2,4,5] 2 (λp1=>([],[(1,.var (eA 12 1 k8 p1))],[])) [1,2,4,5] 2 (CU2 (iE N a0)) (cu2 λ(s2:(Vector Int 12)) (s3:Int)=>([(7,(j64 s3))],[(1,.var (eA 12 1 k8 s2))],[])) (_,_) N (λp1 k=>un2 λs2 s3=>?_) λp1=>?_
 ·refine At.c 1 ?_ ?_
  ·refine At.D 2 [] ?_;refine DD.b 7 (λe _=>aAn hT (k' := .i64) e (by kernel_rfl) (by kernel_rfl)) λx4=>?_;refine DD.b 5 (λe _=>aAn hT (k' := .i64) e (by kernel_rfl) (by kernel_rfl)) λx5=>?_;refine DD.b 1 (λe _=>bF hT (k:=1) 1 [] 0 e) λu6=>?_;refine bi λe7 he7=>?_;refine DD.w 0 (.v (.bool false)) ⟨[(1,.var (eA 12 1 k8 (s2.setIfInBounds s3.toNat (U8 x4))))],[]⟩ (λ_ e=>oX hT k8 0 s2 he7 (U8 x4) (pj1 e) (pj1 (pj2 e)) (pj2 (pj2 e))) ?_;refine DD.b 0 (λe _=>bF hT (k:=1) 1 [] 0 e) λu8=>?_;refine bi λe9 he9=>?_;refine DD.w 0 (.v (.bool false)) ⟨[(1,.var (eA 12 1 k8 ((s2.setIfInBounds s3.toNat (U8 x4)).setIfInBounds ((I64 (4+s3)).toNat) (U8 x5))))],[]⟩ (λ_ e=>oX hT k8 0 (s2.setIfInBounds s3.toNat (U8 x4)) he9 (U8 x5) (pj1 e) (pj1 (pj2 e)) (pj2 (pj2 e))) ?_;refine De 0 ?_;exact λh=>At.v 2 (_,_) h
  ·apply rt;exact At.x 0
 ·refine At.D 0 [] ?_;refine DD.y 1 aKf λr10=>?_;refine DD.y 3 aIB λr11=>?_;refine De 1 ?_;apply rt;exact At.r 0
def aH4 : Nat->Bool:=imL [2]
def wE(N:Nat)(a0:(Vector Int 64))(a1:Int):Option (Int):=
 aR (I64 (4*(kB .i64 a1 15))) λx1=>
 aa (idx a0.toList x1) λe2=>
 aa (idx a0.toList (I64 (x1+1))) λe3=>
 aR (bor .u32 (U32 e2) (shl .u32 (U32 e3) 8)) λx4=>
 aa (idx a0.toList (I64 (x1+2))) λe5=>
 aR (bor .u32 x4 (shl .u32 (U32 e5) 16)) λx6=>
 aa (idx a0.toList (I64 (x1+3))) λe7=>
 aR (bor .u32 x6 (shl .u32 (U32 e7) 24)) λx8=>
 some x8
theorem aHH{N a0 a1 r}(h:wE N a0 a1=some r):FnM Tryz.prog 119 [] [(eA 64 1 k8 a0),(j64 a1)] (k32 r) []:=by
 refine Af aH4 Tryz.func119 h ?_;apply lx;intro x1;refine At.D 6 [] ?_;refine DD.b 1 (λe _=>dI hT (N:=64) (k:=1) k8 a0 e) λe2=>?_;refine DD.b 4 (λe _=>dI hT (N:=64) (k:=1) k8 a0 e) λe3=>?_;apply lx;intro x4;refine DD.b 6 (λe _=>dI hT (N:=64) (k:=1) k8 a0 e) λe5=>?_;apply lx;intro x6;refine DD.b 6 (λe _=>dI hT (N:=64) (k:=1) k8 a0 e) λe7=>?_;apply lx;intro x8;refine De 5 ?_;apply rt;exact At.r 0
def jP(N:Nat)(a0 a1:Int)(a2:aD):Option (dN×Int):=
 cond (!a2.gA) (
  some ((a2.gE6,0))) (
  aa (aa (aBe N a2.gC a2.gE a0 a1) λr2=>
  aa (cond (!a2.gE6.gis) (
   some true) (
   some (!(bV.eq r2 a2.gE6.gF2)))) λp3=>
  cond p3 (
   aa (pQ N r2 a2.gD) λr4=>
   some ((dN.mk r2 true r4,r2))) (
   some ((a2.gE6,r2)))) λp1=>
  aa (wE N p1.1.gF3 a1) λr5=>
  some ((p1.1,r5)))
theorem vC{N a0 a1 a2 r}(h:jP N a0 a1 a2=some r):FnM Tryz.prog 80 [.var (aD.enc a2)] [(.ref 0 [] 0),(j64 a0),(j64 a1)] (k32 r.2) [.var (.st 72 [(dN.enc r.1),(eB a2.gA),(k64 a2.gD),(j64 a2.gC),(j64 a2.gE)])]:=by
 refine Af bO Tryz.func80 h ?_;refine At.o 2 (sZ hT (t:=136) (x:=(.ref 0 [] 0)) (b:=true) (by kernel_rfl) rfl rfl (by kernel_rfl)) ?_;refine At.g [10] 7 ?_;refine At.c 0 ?_ ?_
 ·apply rt;exact At.r 1
 ·refine At.J 0 1 [0,2] 1 (λp1=>([],[(0,.var (.st 72 [(dN.enc p1.1),(eB a2.gA),(k64 a2.gD),(j64 a2.gC),(j64 a2.gE)]))],[.var (bV.enc p1.2)])) (λp1=>?_) λp1=>?_
  ·refine At.D 0 [] ?_;refine DD.y 10 aH7 λr2=>?_;refine De 2 ?_;refine At.J 0 0 [0,2,7] 2 (λp3=>([(42,(eB p3))],[],[])) (λp3=>?_) λp3=>?_
   ·refine At.D 0 [] ?_;refine DD.s hT 7 ?_ ?_
    ·refine De 8 ?_;apply rt;exact At.jn 0
    ·refine DD.o 6 (λ_=>aA6 aUB (r2:bV) (a2.gE6.gF2:bV) (by kernel_rfl) (by kernel_rfl) (λ_=>rfl) (λ_=>rfl) (by kernel_rfl) (by kernel_rfl)) ?_;refine De 1 ?_;apply rt;exact At.jn 0
   ·refine At.c 0 ?_ ?_
    ·refine At.D 0 [] ?_;refine DD.y 7 aDn λr4=>?_;refine De 4 ?_;apply rt;exact At.jn 0
    ·apply rt;exact At.jn 0
  ·refine At.y 6 aHH λr5=>?_;apply rt;exact At.r 1
def cZ(N:Nat)(b4:(List (List aC)))(a1:Int)(a2:aP)(a3 a4:aA)(a5:Int)(a6:Bool)(a7:aH)(a8:aE)(a9:aG)(a10:aA)(a11:aF)(a12:aD)(a13:aK):Option (dN×Int):=
 aa (jP N a5 a1 a12) λr1=>
 some ((r1.1,r1.2))
theorem iF{N b4 a1 a2 a3 a4 a5 a6 a7 a8 a9 a10 a11 a12 a13 r}(h:cZ N b4 a1 a2 a3 a4 a5 a6 a7 a8 a9 a10 a11 a12 a13=some r):FnM Tryz.prog 47 [.var (.st 26 [(aP.enc a2),(.ref 1 [] 0),(.ref 2 [] 0),(aA.enc a3),(aA.enc a4),(j64 a5),(eB a6),(aH.enc a7)]),.var (.st 38 [(aE.enc a8),(aG.enc a9),(.ifc 112 (.ref 3 [] 0)),(eO 4 1 (eL 2 aC.enc) b4),(aA.enc a10),(aF.enc a11)]),.var (aD.enc a12),.var (aK.enc a13),.tail (b4.length*1)] [(.ref 0 [] 0),(j64 a1)] (k32 r.2) [.var (.st 26 [(aP.enc a2),(.ref 1 [] 0),(.ref 2 [] 0),(aA.enc a3),(aA.enc a4),(j64 a5),(eB a6),(aH.enc a7)]),.var (.st 38 [(aE.enc a8),(aG.enc a9),(.ifc 112 (.ref 3 [] 0)),(eO 4 1 (eL 2 aC.enc) b4),(aA.enc a10),(aF.enc a11)]),.var (.st 72 [(dN.enc r.1),(eB a12.gA),(k64 a12.gD),(j64 a12.gC),(j64 a12.gE)]),.var (aK.enc a13),.tail (b4.length*1)]:=by
 refine Af bO Tryz.func47 h ?_;refine At.D 1 [] ?_;refine DD.Y 9 [2] vC λr1=>?_;refine De 1 ?_;apply rt;exact At.r 0
def sN(N:Nat)(a0:Int):Option (Int):=
 some (I64 a0)
theorem aBt{N a0 r}(h:sN N a0=some r):FnM Tryz.prog 120 [] [(k32 a0)] (j64 r) []:=by
 refine Af bO Tryz.func120 h ?_;apply rt;exact At.r 4
def xO(N:Nat)(a0 a1:Int):Option (Int):=
 aR (cond (decide (a0>=0)) (decide (a1 < 0)) false) λx1=>
 aR (decide ((I64 (a0 - a1)) < 0)) λx2=>
 cond (cond x1 x2 false) (
  some 9223372036854775807) (
  aR (cond (decide (a0 < 0)) (decide (a1 > 0)) false) λx3=>
  aR (decide ((I64 (a0 - a1))>=0)) λx4=>
  cond (cond x3 x4 false) (some (-9223372036854775808)) (some (I64 (a0 - a1))))
theorem aBr{N a0 a1 r}(h:xO N a0 a1=some r):FnM Tryz.prog 121 [] [(j64 a0),(j64 a1)] (j64 r) []:=by
 refine Af bO Tryz.func121 h ?_;apply lx;intro x1;apply lx;intro x2;refine At.c 16 ?_ ?_
 ·apply rt;exact At.r 1
 ·apply lx;intro x3;apply lx;intro x4;refine At.c 11 ?_ ?_
  ·apply rt;exact At.r 1
  ·apply rt;exact At.r 2
def aSJ : Nat->Bool:=imL [1]
def qU(N:Nat)(a0:aB):Option (aA):=
 aa (iV N a0.gX) λr1=>
 aa (iV N a0.gY) λr2=>
 aa (iV N a0.gZ) λr3=>
 some (aA.mk r1 r2 r3)
theorem sJ{N a0 r}(h:qU N a0=some r):FnM Tryz.prog 84 [] [(aB.enc a0)] (aA.enc r) []:=by
 refine Af aSJ Tryz.func84 h ?_;refine At.D 2 [] ?_;refine DD.y 2 iT λr1=>?_;refine DD.y 2 iT λr2=>?_;refine DD.y 2 iT λr3=>?_;refine De 2 ?_;apply rt;exact At.r 0
def xP(N:Nat)(a0:Int):Option (aT):=
 some (aT.mk (shr .i64 a0 63) (U64 a0))
theorem aBa{N a0 r}(h:xP N a0=some r):FnM Tryz.prog 188 [] [(j64 a0)] (aT.enc r) []:=by
 refine Af bO Tryz.func188 h ?_;apply rt;exact At.r 7
def aOb : Nat->Bool:=imL [2]
def aDR(N:Nat)(a0:aT)(a1:Int):Option (aT):=
 aR (decide ((jB a1 0)>=64)) λx1=>
 cond x1 (
  aR (dO (I64 ((jB a1 0) - 64)) 63) λx2=>
  aa (aHy .i64 a0.gHi x2) λx3=>
  aa (xP N x3) λr4=>
  some r4) (
  cond ((jB a1 0)==0) (
   some a0) (
   aa (aHy .i64 a0.gHi (jB a1 0)) λx5=>
   aa (aHy .u64 a0.gLo (jB a1 0)) λx6=>
   aa (aMC .u64 (U64 a0.gHi) (I64 (64 - (jB a1 0)))) λx7=>
   some (aT.mk x5 (bor .u64 x6 x7))))
theorem aNY{N a0 a1 r}(h:aDR N a0 a1=some r):FnM Tryz.prog 149 [] [(aT.enc a0),(j64 a1)] (aT.enc r) []:=by
 refine Af aOb Tryz.func149 h ?_;apply lx;intro x1;refine At.c 7 ?_ ?_
 ·apply lx;intro x2;refine At.b 5 (λ_ e=>aAn hT (k' := .i64) e (by kernel_rfl) (by kernel_rfl)) λx3=>?_;refine At.y 0 aBa λr4=>?_;apply rt;exact At.r 1
 ·refine At.c 2 ?_ ?_
  ·apply rt;exact At.r 2
  ·refine At.D 0 [] ?_;refine DD.b 3 (λe _=>aAn hT (k' := .i64) e (by kernel_rfl) (by kernel_rfl)) λx5=>?_;refine DD.b 3 (λe _=>aAn hT (k' := .i64) e (by kernel_rfl) (by kernel_rfl)) λx6=>?_;refine DD.b 5 (λe _=>aEh hT (k' := .i64) e (by kernel_rfl) (by kernel_rfl)) λx7=>?_;refine De 3 ?_;apply rt;exact At.r 0
def uV(N:Nat)(a0:(List Int)):Nat->Int->Int->Option (Int)
 | 0,_,_=>none
 | k+1,s2,s3=>
  aR (decide (s3 < ((a0.length:Int)))) λx4=>
  cond x4 (
   aa (aa (idx a0 s3) λe6=>
   cond (s3==0) (
    some e6) (
    aa (iX N s2 e6) λr7=>
    aa (aDR N r7 32) λr8=>
    aa (wL N r8) λr9=>
    some r9)) λp5=>
   uV N a0 k p5 (I64 (s3+1))) (
   some s2)
def aBF(N:Nat)(a0:(List Int)):Option (Int):=
 aa (uV N a0 N 4294967296 0) λp1=>
 some p1
theorem aFb{N a0 r}(h:aBF N a0=some r):FnM Tryz.prog 99 [] [(eL 1 j64 a0)] (j64 r) []:=by
 refine Af bO Tryz.func99 h ?_;refine At.M 5 [] 0 (λp1=>([(3,(j64 p1))],[],[])) [6,7] 0 (CU2 (uV N a0)) (cu2 λ(s2:Int) (s3:Int)=>([(3,(j64 s2)),(8,(j64 s3))],[],[])) (_,_) N (λp1 k=>un2 λs2 s3=>?_) λp1=>?_
 ·apply lx;intro x4;refine At.c 1 ?_ ?_
  ·refine At.J 0 2 [6,7,8] 0 (λp5=>([(3,(j64 p5))],[],[])) (λp5=>?_) λp5=>?_
   ·refine At.i hT 1 j64 λe6=>?_;refine At.c 5 ?_ ?_
    ·apply rt;exact At.jn 2
    ·refine At.y 2 lE λr7=>?_;refine At.y 0 aNY λr8=>?_;refine At.y 0 aD3 λr9=>?_;apply rt;exact At.jn 1
   ·exact λh=>At.v 2 (_,_) h
  ·apply rt;exact At.x 0
 ·apply rt;exact At.r 2
def vU(N:Nat)(a0 a1:Int):Option (Int):=
 aa (aBF N ([a0,a1])) λr1=>
 some r1
theorem aBR{N a0 a1 r}(h:vU N a0 a1=some r):FnM Tryz.prog 140 [] [(j64 a0),(j64 a1)] (j64 r) []:=by
 refine Af bO Tryz.func140 h ?_;refine At.o 3 (bG hT (x:=(.sl 1 2 [(j64 a0),(j64 a1)]))) ?_;refine At.y 0 aFb λr1=>?_;apply rt;exact At.r 1
def aFP : Nat->Bool:=imL [3,4]
def rS(N:Nat)(a0 a1:aA):Option (aA):=
 aa (vU N a0.gX a1.gX) λr1=>
 aa (vU N a0.gY a1.gY) λr2=>
 aa (vU N a0.gZ a1.gZ) λr3=>
 some (aA.mk r1 r2 r3)
theorem aEt{N a0 a1 r}(h:rS N a0 a1=some r):FnM Tryz.prog 93 [] [(aA.enc a0),(aA.enc a1),(.fn (.func 140) [] [])] (aA.enc r) []:=by
 refine Af aFP Tryz.func93 h ?_;refine At.D 3 [] ?_;refine DD.y 5 aBR λr1=>?_;refine DD.y 5 aBR λr2=>?_;refine DD.y 5 aBR λr3=>?_;refine De 2 ?_;apply rt;exact At.r 0
def kU(N:Nat)(a0:(List aA)):Nat->aA->Int->Option (aA)
 | 0,_,_=>none
 | k+1,s2,s3=>
  aR (decide (s3 < ((a0.length:Int)))) λx4=>
  cond x4 (
   aa (idx a0 s3) λe5=>
   aa (rS N s2 e5) λr6=>
   kU N a0 k r6 (I64 (s3+1))) (
   some s2)
def jY(N:Nat)(a0:(List aA)):Option (aA):=
 aa (kU N a0 N (aA.mk 4294967296 4294967296 4294967296) 0) λp1=>
 some p1
theorem rU{N a0 r}(h:jY N a0=some r):FnM Tryz.prog 91 [] [(eL 3 aA.enc a0)] (aA.enc r) []:=by
 refine Af bO Tryz.func91 h ?_;refine At.M 7 [2,3] 2 (λp1=>([],[(1,.var (aA.enc p1))],[])) [2,3,7,8] 2 (CU2 (kU N a0)) (cu2 λ(s2:aA) (s3:Int)=>([(9,(j64 s3))],[(1,.var (aA.enc s2))],[])) (_,_) N (λp1 k=>un2 λs2 s3=>?_) λp1=>?_
 ·apply lx;intro x4;refine At.c 1 ?_ ?_
  ·refine At.i hT 0 aA.enc λe5=>?_;refine At.y 5 aEt λr6=>?_;exact λh=>At.v 3 (_,_) h
  ·apply rt;exact At.x 0
 ·apply rt;exact At.r 2
def aN6 : Nat->Bool:=imL [2]
def fX(N:Nat)(a0:aA)(a1:Int):Option (aA):=
 aa (jY N ([a0,aA.mk a1 a1 a1])) λr1=>
 some r1
theorem jR{N a0 a1 r}(h:fX N a0 a1=some r):FnM Tryz.prog 56 [] [(aA.enc a0),(j64 a1)] (aA.enc r) []:=by
 refine Af aN6 Tryz.func56 h ?_;refine At.o 7 (bG hT (x:=(.sl 3 2 [(aA.enc a0),(.st 3 [(j64 a1),(j64 a1),(j64 a1)])]))) ?_;refine At.y 0 rU λr1=>?_;apply rt;exact At.r 1
def aKN : Nat->Bool:=imL [6,11]
def zY(N:Nat)(a0:bN)(a1 a2 a3 a4:Int)(a5:(Vector Int 2)):Option (aA×Int):=
 aa (yE N a0 a1 a2) λr1=>
 cond (r1 != 0) (
  some ((aA.mk 0 0 0,r1))) (
  aR (cond (decide (a3 < 0)) true (decide (a3>=a1))) λx2=>
  aR (cond x2 true (decide (a4 < 0))) λx3=>
  aR (cond x3 true (decide (a4>=a2))) λx4=>
  cond x4 (
   some ((aA.mk 0 0 0,2))) (
   aR (I64 ((I64 (2*a3)) - a1)) λx5=>
   aa (iV N x5) λr6=>
   aa (idx a5.toList 0) λe7=>
   aa (sN N e7) λr8=>
   aa (lC N ([r6,I64 (2*r8)])) λr9=>
   aa (iV N a1) λr10=>
   aa (jG N r9 r10) λr11=>
   aR (I64 (a2 - (I64 (2*a4)))) λx12=>
   aa (iV N x12) λr13=>
   aa (idx a5.toList 1) λe14=>
   aa (sN N e14) λr15=>
   aa (xO N r13 (I64 (2*r15))) λr16=>
   aa (iV N a2) λr17=>
   aa (jG N r16 r17) λr18=>
   aa (qU N a0.gE2) λr19=>
   aa (qU N a0.gB6) λr20=>
   aa (fX N r20 r11) λr21=>
   aa (qU N a0.gUp) λr22=>
   aa (fX N r22 r18) λr23=>
   aa (lW N ([r19,r21,r23])) λr24=>
   some ((r24,0))))
theorem aJx{N a0 a1 a2 a3 a4 a5 r}(h:zY N a0 a1 a2 a3 a4 a5=some r):FnM Tryz.prog 81 [] [(bN.enc a0),(j64 a1),(j64 a2),(j64 a3),(j64 a4),(eA 2 1 k32 a5)] (.tup [(aA.enc r.1),(j64 r.2)]) []:=by
 refine Af aKN Tryz.func81 h ?_;refine At.y 7 aE2 λr1=>?_;refine At.c 3 ?_ ?_
 ·apply rt;exact At.r 4
 ·apply lx;intro x2;apply lx;intro x3;apply lx;intro x4;refine At.c 16 ?_ ?_
  ·apply rt;exact At.r 3
  ·refine At.D 0 [] ?_;apply lx;intro x5;refine DD.y 4 iT λr6=>?_;refine DD.b 0 (λe _=>dI hT (N:=2) (k:=1) k32 a5 e) λe7=>?_;refine DD.y 1 aBt λr8=>?_;refine DD.o 1 (λ_=>bG hT (x:=(.sl 1 2 [(j64 r6),(j64 (I64 (2*r8)))]))) ?_;refine DD.y 0 qA λr9=>?_;refine DD.y 1 iT λr10=>?_;refine DD.y 0 lP λr11=>?_;refine De 1 ?_;refine At.D 0 [] ?_;apply lx;intro x12;refine DD.y 4 iT λr13=>?_;refine DD.b 0 (λe _=>dI hT (N:=2) (k:=1) k32 a5 e) λe14=>?_;refine DD.y 1 aBt λr15=>?_;refine DD.y 1 aBr λr16=>?_;refine DD.y 1 iT λr17=>?_;refine DD.y 0 lP λr18=>?_;refine De 1 ?_;refine At.D 0 [] ?_;refine DD.y 2 sJ λr19=>?_;refine DD.y 2 sJ λr20=>?_;refine DD.y 1 jR λr21=>?_;refine DD.y 2 sJ λr22=>?_;refine DD.y 1 jR λr23=>?_;refine DD.o 0 (λ_=>bG hT (x:=(.sl 3 3 [(aA.enc r19),(aA.enc r21),(aA.enc r23)]))) ?_;refine DD.y 0 tZ λr24=>?_;refine De 2 ?_;apply rt;exact At.r 0
def uA(N:Nat)(a0 a1:Int):Option (Int):=
 aR (dO (jB a1 0) 2147483648) λx1=>
 aR (U64 ((U64 a0)*(U64 x1))) λx2=>
 some (I64 (shr .u64 x2 32))
theorem aDa{N a0 a1 r}(h:uA N a0 a1=some r):FnM Tryz.prog 123 [] [(k32 a0),(j64 a1)] (j64 r) []:=by
 refine Af bO Tryz.func123 h ?_;apply lx;intro x1;apply lx;intro x2;apply rt;exact At.r 13
def pW(N:Nat)(a0:Int)(a1:bN):Option (Int):=
 aR (I64 ((I64 (2*a1.gC6))+1)) λx1=>
 aa (uA N a0 x1) λr2=>
 aa (iV N (I64 (r2 - a1.gC6))) λr3=>
 aa (iV N 16384) λr4=>
 aa (jG N r3 r4) λr5=>
 some r5
theorem aBM{N a0 a1 r}(h:pW N a0 a1=some r):FnM Tryz.prog 122 [] [(k32 a0),(.im (bN.enc a1))] (j64 r) []:=by
 refine Af bO Tryz.func122 h ?_;refine At.D 1 [] ?_;apply lx;intro x1;refine DD.y 5 aDa λr2=>?_;refine DD.y 3 iT λr3=>?_;refine DD.y 0 iT λr4=>?_;refine DD.y 0 lP λr5=>?_;refine De 1 ?_;apply rt;exact At.r 0
def xC(N:Nat)(a0:Int):Option (Int):=
 aR (kB .i64 (shr .i64 a0 31) 1) λx1=>
 aR (I64 ((shr .i64 a0 32)+x1)) λx2=>
 some x2
theorem aDT{N a0 r}(h:xC N a0=some r):FnM Tryz.prog 124 [] [(j64 a0)] (j64 r) []:=by
 refine Af bO Tryz.func124 h ?_;apply lx;intro x1;apply lx;intro x2;apply rt;exact At.r 8
def aLl : Nat->Bool:=imL [2,3]
def aAt(N:Nat)(a0:bN)(a1:(Vector Int 4)):Option (aB):=
 aa (qU N a0.gB6) λr1=>
 aa (idx a1.toList 2) λe2=>
 aa (pW N e2 a0) λr3=>
 aa (fX N r1 r3) λr4=>
 aa (qU N a0.gUp) λr5=>
 aa (idx a1.toList 3) λe6=>
 aa (pW N e6 a0) λr7=>
 aa (fX N r5 r7) λr8=>
 aa (lW N ([r4,r8])) λr9=>
 aa (xC N r9.gX) λr10=>
 aa (xC N r9.gY) λr11=>
 aa (xC N r9.gZ) λr12=>
 some (aB.mk r10 r11 r12)
theorem aKV{N a0 a1 r}(h:aAt N a0 a1=some r):FnM Tryz.prog 82 [] [(bN.enc a0),(eA 4 1 k32 a1)] (aB.enc r) []:=by
 refine Af aLl Tryz.func82 h ?_;refine At.o 3 (pM (x:=(.fn (.func 122) [] [(.im (bN.enc a0))])) (by kernel_rfl) (by kernel_rfl)) ?_;refine At.D 1 [] ?_;refine DD.y 2 sJ λr1=>?_;refine DD.b 1 (λe _=>dI hT (N:=4) (k:=1) k32 a1 e) λe2=>?_;refine DD.y 1 aBM λr3=>?_;refine DD.y 0 jR λr4=>?_;refine DD.y 2 sJ λr5=>?_;refine DD.b 1 (λe _=>dI hT (N:=4) (k:=1) k32 a1 e) λe6=>?_;refine DD.y 1 aBM λr7=>?_;refine DD.y 0 jR λr8=>?_;refine DD.o 0 (λ_=>bG hT (x:=(.sl 3 2 [(aA.enc r4),(aA.enc r8)]))) ?_;refine DD.y 0 tZ λr9=>?_;refine De 2 ?_;refine At.D 0 [] ?_;refine DD.y 2 aDT λr10=>?_;refine DD.y 2 aDT λr11=>?_;refine DD.y 2 aDT λr12=>?_;refine De 2 ?_;apply rt;exact At.r 0
def aJR : Nat->Bool:=imL [3,4]
def aBi(N:Nat)(a0 a1:aA):Option (aA):=
 aa (xO N a0.gX a1.gX) λr1=>
 aa (xO N a0.gY a1.gY) λr2=>
 aa (xO N a0.gZ a1.gZ) λr3=>
 some (aA.mk r1 r2 r3)
theorem aH8{N a0 a1 r}(h:aBi N a0 a1=some r):FnM Tryz.prog 93 [] [(aA.enc a0),(aA.enc a1),(.fn (.func 121) [] [])] (aA.enc r) []:=by
 refine Af aJR Tryz.func93 h ?_;refine At.D 3 [] ?_;refine DD.y 5 aBr λr1=>?_;refine DD.y 5 aBr λr2=>?_;refine DD.y 5 aBr λr3=>?_;refine De 2 ?_;apply rt;exact At.r 0
def aQ5 : Nat->Bool:=imL [2,3]
def zJ(N:Nat)(a0 a1:aA):Option (aA):=
 aa (aBi N a0 a1) λr1=>
 some r1
theorem aDG{N a0 a1 r}(h:zJ N a0 a1=some r):FnM Tryz.prog 83 [] [(aA.enc a0),(aA.enc a1)] (aA.enc r) []:=by
 refine Af aQ5 Tryz.func83 h ?_;refine At.y 5 aH8 λr1=>?_;apply rt;exact At.r 1
def xF(N:Nat)(a0:Int):Option (Int):=
 aa (xO N 0 a0) λr1=>
 some r1
theorem aDW{N a0 r}(h:xF N a0=some r):FnM Tryz.prog 183 [] [(j64 a0)] (j64 r) []:=by
 refine Af bO Tryz.func183 h ?_;refine At.y 2 aBr λr1=>?_;apply rt;exact At.r 1
def aBG(N:Nat)(a0:Int):Option (Int):=
 aa (xF N a0) λr1=>
 some (jB a0 r1)
theorem aFf{N a0 r}(h:aBG N a0=some r):FnM Tryz.prog 174 [] [(j64 a0)] (j64 r) []:=by
 refine Af bO Tryz.func174 h ?_;refine At.y 3 aDW λr1=>?_;apply rt;exact At.r 2
def aPL : Nat->Bool:=imL [1]
def aBs(N:Nat)(a0:aA):Option (Int):=
 aa (aBG N a0.gX) λr1=>
 aa (aBG N a0.gY) λr2=>
 aa (aBG N a0.gZ) λr3=>
 some (jB (jB r1 r2) r3)
theorem aHf{N a0 r}(h:aBs N a0=some r):FnM Tryz.prog 125 [] [(aA.enc a0)] (j64 r) []:=by
 refine Af aPL Tryz.func125 h ?_;refine At.D 2 [] ?_;refine DD.y 2 aFf λr1=>?_;refine DD.y 2 aFf λr2=>?_;refine DD.y 2 aFf λr3=>?_;refine DD.o 0 (λ_=>aBh (k := .i64) (i:=r1) (j:=r2) (l:=r3) (by kernel_rfl) (by kernel_rfl)) ?_;refine De 1 ?_;apply rt;exact At.r 0
def kJ(N:Nat)(a0 a1 a2:Int):Option (Int):=
 cond (a2==0) (
  some 0) (
  aa (iX N a0 a1) λr1=>
  aa (rO N r1 a2) λr2=>
  aa (rT N r2.1) λr3=>
  cond r3.2 (
   some r3.1) (
   cond (decide (r2.1.gHi < 0)) (some (-9223372036854775808)) (some 9223372036854775807)))
theorem tO{N a0 a1 a2 r}(h:kJ N a0 a1 a2=some r):FnM Tryz.prog 127 [] [(j64 a0),(j64 a1),(j64 a2)] (j64 r) []:=by
 refine Af bO Tryz.func127 h ?_;refine At.c 3 ?_ ?_
 ·apply rt;exact At.r 1
 ·refine At.y 2 lE λr1=>?_;refine At.y 4 aB2 λr2=>?_;refine At.y 9 aAQ λr3=>?_;refine At.c 6 ?_ ?_
  ·apply rt;exact At.r 2
  ·refine At.c 3 ?_ ?_
   ·apply rt;exact At.r 1
   ·apply rt;exact At.r 1
def mY(N:Nat)(a0 a1:Int):Option (Int):=
 aa (kJ N a0 16384 a1) λr1=>
 some (jB r1 (-16384))
theorem wO{N a0 a1 r}(h:mY N a0 a1=some r):FnM Tryz.prog 126 [] [(j64 a0),(.im (j64 a1))] (j64 r) []:=by
 refine Af bO Tryz.func126 h ?_;refine At.y 3 tO λr1=>?_;apply rt;exact At.r 2
def aLL : Nat->Bool:=imL [1]
def yD(N:Nat)(a0:aA):Option (aB×Int):=
 aa (aBs N a0) λr1=>
 cond (r1==0) (
  some ((aB.mk 0 0 0,2))) (
  aa (mY N a0.gX r1) λr2=>
  aa (mY N a0.gY r1) λr3=>
  aa (mY N a0.gZ r1) λr4=>
  some ((aB.mk r2 r3 r4,0)))
theorem aFD{N a0 r}(h:yD N a0=some r):FnM Tryz.prog 85 [] [(aA.enc a0)] (.tup [(aB.enc r.1),(j64 r.2)]) []:=by
 refine Af aLL Tryz.func85 h ?_;refine At.y 4 aHf λr1=>?_;refine At.c 4 ?_ ?_
 ·apply rt;exact At.r 3
 ·refine At.gz 0 1 ((j64 r1)) ?_;refine At.o 0 (pM (x:=(.fn (.func 126) [] [(.im (j64 r1))])) (by kernel_rfl) (by kernel_rfl)) ?_;refine At.D 1 [] ?_;refine DD.y 3 wO λr2=>?_;refine DD.y 3 wO λr3=>?_;refine DD.y 3 wO λr4=>?_;refine De 3 ?_;apply rt;exact At.r 0
def aOi : Nat->Bool:=imL [6,11]
def yZ(N:Nat)(a0:bN)(a1 a2 a3 a4:Int)(a5:(Vector Int 4)):Option (aB×aB×Int):=
 aa (idx a5.toList 0) λe1=>
 aa (idx a5.toList 1) λe2=>
 aa (zY N a0 a1 a2 a3 a4 (#v[e1,e2])) λr3=>
 cond (r3.2 != 0) (
  some ((aB.mk 0 0 0,aB.mk 0 0 0,r3.2))) (
  aa (cond (decide (a0.gC6 > 0)) (
   aa (aAt N a0 a5) λr5=>
   aR (I64 (a0.gA7.gX+r5.gX)) λx6=>
   aR (I64 (a0.gA7.gY+r5.gY)) λx7=>
   aR (I64 (a0.gA7.gZ+r5.gZ)) λx8=>
   aa (iV N a0.gD1) λr9=>
   aa (iV N 16384) λr10=>
   aa (jG N r9 r10) λr11=>
   aa (fX N r3.1 r11) λr12=>
   aa (qU N r5) λr13=>
   aa (zJ N r12 r13) λr14=>
   some ((aB.mk ((I64 (a0.gA7.gX+r5.gX))) ((I64 (a0.gA7.gY+r5.gY))) ((I64 (a0.gA7.gZ+r5.gZ))),r14))) (
   some ((a0.gA7,r3.1)))) λp4=>
  aa (yD N p4.2) λr15=>
  cond (r15.2 != 0) (
   some ((aB.mk 0 0 0,aB.mk 0 0 0,r15.2))) (
   some ((p4.1,r15.1,0))))
theorem aHh{N a0 a1 a2 a3 a4 a5 r}(h:yZ N a0 a1 a2 a3 a4 a5=some r):FnM Tryz.prog 48 [] [(bN.enc a0),(j64 a1),(j64 a2),(j64 a3),(j64 a4),(eA 4 1 k32 a5)] (.tup [(aB.enc r.1),(aB.enc r.2.1),(j64 r.2.2)]) []:=by
 refine Af aOi Tryz.func48 h ?_;refine At.b 10 (λ_ e=>dI hT (N:=4) (k:=1) k32 a5 e) λe1=>?_;refine At.b 1 (λ_ e=>dI hT (N:=4) (k:=1) k32 a5 e) λe2=>?_;refine At.y 2 aJx λr3=>?_;refine At.c 8 ?_ ?_
 ·refine At.D 0 [] ?_;refine De 6 ?_;apply rt;exact At.r 0
 ·refine At.J 3 1 [12,13,15] 3 (λp4=>([],[(0,.var (aB.enc p4.1)),(2,.var (aA.enc p4.2))],[])) (λp4=>?_) λp4=>?_
  ·refine At.c 3 ?_ ?_
   ·refine At.y 2 aKV λr5=>?_;apply lx;intro x6;apply lx;intro x7;apply lx;intro x8;refine At.D 19 [] ?_;refine DD.y 3 iT λr9=>?_;refine DD.y 0 iT λr10=>?_;refine DD.y 0 lP λr11=>?_;refine DD.y 0 jR λr12=>?_;refine DD.y 1 sJ λr13=>?_;refine DD.y 0 aDG λr14=>?_;refine De 1 ?_;apply rt;exact At.jn 0
   ·apply rt;exact At.jn 0
  ·refine At.y 1 aFD λr15=>?_;refine At.c 7 ?_ ?_
   ·apply rt;exact At.r 6
   ·refine At.D 0 [] ?_;refine De 5 ?_;apply rt;exact At.r 0
def jW(N:Nat)(a0:aK):Option (Bool):=
 some (!a0.gA)
theorem sS{N a0 r}(h:jW N a0=some r):FnM Tryz.prog 234 [.var (aK.enc a0)] [(.ref 0 [] 0)] (eB r) [.var (aK.enc a0)]:=by
 refine Af bO Tryz.func234 h ?_;refine At.o 2 (sZ hT (t:=112) (x:=(.ref 0 [] 0)) (b:=true) (by kernel_rfl) rfl rfl (by kernel_rfl)) ?_;refine At.g [5] 8 ?_;apply rt;exact At.r 0
def uC(N:Nat)(a0:aK):Option (Unit):=
 some (())
theorem aDs{N a0 r}(h:uC N a0=some r):FnM Tryz.prog 233 [.var (aK.enc a0)] [(.ref 0 [0] 0)] (.tup []) [.var (.st 3 [(.st 1 [(j64 (I64 (a0.gD8.gn+1)))]),(eB a0.gA),(eL 19 aJ.enc a0.gl)])]:=by
 refine Af bO Tryz.func233 h ?_;apply rt;exact At.z 8
def aNu : Nat->Bool:=imL [1]
def aAL(N:Nat)(a0:aB):Option (Bool):=
 aa (uF N a0 65536) λr1=>
 some (!r1)
theorem aLh{N a0 r}(h:aAL N a0=some r):FnM Tryz.prog 238 [] [(aB.enc a0)] (eB r) []:=by
 refine Af aNu Tryz.func238 h ?_;refine At.y 3 aCP λr1=>?_;apply rt;exact At.r 2
def cO(N:Nat)(a0:(List aB)):Nat->Int->Option (Sum (Unit) (Int))
 | 0,_=>none
 | k+1,s2=>
  aR (decide (s2 < ((a0.length:Int)))) λx3=>
  cond x3 (
   aa (idx a0 s2) λe4=>
   aa (aAL N e4) λr5=>
   cond r5 (
    some (Sum.inr s2)) (
    cO N a0 k (I64 (s2+1)))) (
   some (Sum.inl (())))
def fC(N:Nat)(a0:(List aB)):Option (Int):=
 aa (cO N a0 N 0) λo=>kG o (λp1=>
  some (-1)) (λr=>some r)
theorem qE{N a0 r}(h:fC N a0=some r):FnM Tryz.prog 241 [] [(eL 3 aB.enc a0),(.fn (.func 238) [] [])] (j64 r) []:=by
 refine Af bO Tryz.func241 h ?_;refine At.MS 4 [] 0 (λp1=>([],[],[])) [0,1,7] 0 (cO N a0) (λ(s2:Int)=>([(8,(j64 s2))],[],[])) _ N (λop1 g1 k s2=>?_) λp1=>?_
 ·apply lx;intro x3;refine At.c 1 ?_ ?_
  ·refine At.i hT 5 aB.enc λe4=>?_;refine At.y 1 aLh λr5=>?_;refine At.c 0 ?_ ?_
   ·intro e;apply aBp g1 e;exact At.r 2
   ·exact λh=>At.v 2 _ h
  ·apply rt;exact At.xs 0
 ·apply rt;exact At.r 1
def cN(N:Nat)(a0:(List aB)):Option (Bool):=
 aa (fC N a0) λr1=>
 some (decide (r1>=0))
theorem pD{N a0 r}(h:cN N a0=some r):FnM Tryz.prog 239 [] [(eL 3 aB.enc a0),(.fn (.func 238) [] [])] (eB r) []:=by
 refine Af bO Tryz.func239 h ?_;refine At.y 3 qE λr1=>?_;apply rt;exact At.r 2
def aQ1 : Nat->Bool:=imL [2,3]
def sK(N:Nat)(a0 a1:aB):Option (aB):=
 some (aB.mk (I64 (a0.gX - a1.gX)) (I64 (a0.gY - a1.gY)) (I64 (a0.gZ - a1.gZ)))
theorem tT{N a0 a1 r}(h:sK N a0 a1=some r):FnM Tryz.prog 130 [] [(aB.enc a0),(aB.enc a1)] (aB.enc r) []:=by
 refine Af aQ1 Tryz.func130 h ?_;apply rt;exact At.r 20
def aNf : Nat->Bool:=imL [2,3]
def wW(N:Nat)(a0 a1:aB):Option (aB):=
 aR (I64 ((I64 (a0.gY*a1.gZ)) - (I64 (a0.gZ*a1.gY)))) λx1=>
 aR (I64 ((I64 (a0.gZ*a1.gX)) - (I64 (a0.gX*a1.gZ)))) λx2=>
 aR (I64 ((I64 (a0.gX*a1.gY)) - (I64 (a0.gY*a1.gX)))) λx3=>
 some (aB.mk ((I64 ((I64 (a0.gY*a1.gZ)) - (I64 (a0.gZ*a1.gY))))) ((I64 ((I64 (a0.gZ*a1.gX)) - (I64 (a0.gX*a1.gZ))))) ((I64 ((I64 (a0.gX*a1.gY)) - (I64 (a0.gY*a1.gX))))))
theorem aA4{N a0 a1 r}(h:wW N a0 a1=some r):FnM Tryz.prog 129 [] [(aB.enc a0),(aB.enc a1)] (aB.enc r) []:=by
 refine Af aNf Tryz.func129 h ?_;apply lx;intro x1;apply lx;intro x2;apply lx;intro x3;apply rt;exact At.r 38
def aRR : Nat->Bool:=imL [2,3]
def zN(N:Nat)(a0 a1:aB):Option (Int):=
 aR (I64 ((I64 (a0.gX*a1.gX))+(I64 (a0.gY*a1.gY)))) λx1=>
 aR (I64 (x1+(I64 (a0.gZ*a1.gZ)))) λx2=>
 some x2
theorem aBc{N a0 a1 r}(h:zN N a0 a1=some r):FnM Tryz.prog 240 [] [(aB.enc a0),(aB.enc a1)] (j64 r) []:=by
 refine Af aRR Tryz.func240 h ?_;apply lx;intro x1;apply lx;intro x2;apply rt;exact At.r 21
def aRB : Nat->Bool:=imL [3,4,5]
def aCg(N:Nat)(a0 a1:aB)(a2:(Vector aB 3)):Option (aS×Bool):=
 aa (aa (xE N a0 a1) λr2=>
 cond (!r2) (
  some true) (
  aa (xR a2.toList 0 3) λs3=>
  aa (cN N s3) λr4=>
  some r4)) λp1=>
 cond p1 (
  some ((aS.mk 0 0 0 0,false))) (
  aa (idx a2.toList 1) λe5=>
  aa (idx a2.toList 0) λe6=>
  aa (sK N e5 e6) λr7=>
  aa (idx a2.toList 2) λe8=>
  aa (idx a2.toList 0) λe9=>
  aa (sK N e8 e9) λr10=>
  aa (wW N a1 r10) λr11=>
  aa (idx a2.toList 0) λe12=>
  aa (sK N a0 e12) λr13=>
  aa (wW N r13 r7) λr14=>
  aa (zN N r10 r14) λr15=>
  aa (zN N r7 r11) λr16=>
  aa (zN N r13 r11) λr17=>
  aa (zN N a1 r14) λr18=>
  aa (cond (decide (r16 < 0)) (
   some (aS.mk (I64 (0 - r15)) (I64 (0 - r16)) (I64 (0 - r17)) (I64 (0 - r18)))) (
   some (aS.mk r15 r16 r17 r18))) λp19=>
  aR (cond (p19.gC0==0) true (decide (p19.gU < 0))) λx20=>
  aR (cond x20 true (decide (p19.gV < 0))) λx21=>
  aR (decide ((I64 (p19.gU+p19.gV)) > p19.gC0)) λx22=>
  aR (cond (cond x21 true x22) true (decide (p19.gC3<=0))) λx23=>
  cond x23 (some ((aS.mk 0 0 0 0,false))) (some ((p19,true))))
theorem aKA{N a0 a1 a2 r}(h:aCg N a0 a1 a2=some r):FnM Tryz.prog 237 [] [(aB.enc a0),(aB.enc a1),(eA 9 3 aB.enc a2)] (.tup [(aS.enc r.1),(eB r.2)]) []:=by
 refine Af aRB Tryz.func237 h ?_;refine At.J 6 0 [3,4,5,6] 1 (λp1=>([(22,(eB p1))],[],[])) (λp1=>?_) λp1=>?_
 ·refine At.y 2 aBQ λr2=>?_;refine At.s 18 2 ?_ ?_
  ·refine At.g [18] 4 ?_;apply rt;exact At.jn 0
  ·refine At.b 0 (λ_ e=>aCG hT (N:=9) (k:=3) aB.enc a2 e) λs3=>?_;refine At.g [18] 1 ?_;refine At.y 0 pD λr4=>?_;refine At.g [18] 1 ?_;apply rt;exact At.jn 0
 ·refine At.c 0 ?_ ?_
  ·apply rt;exact At.r 3
  ·refine At.D 0 [false,false] ?_;refine DD.b 0 (λe _=>dI hT (N:=9) (k:=3) aB.enc a2 e) λe5=>?_;refine DD.b 1 (λe _=>dI hT (N:=9) (k:=3) aB.enc a2 e) λe6=>?_;refine DD.y 1 tT λr7=>?_;refine DD.b 0 (λe _=>dI hT (N:=9) (k:=3) aB.enc a2 e) λe8=>?_;refine DD.b 1 (λe _=>dI hT (N:=9) (k:=3) aB.enc a2 e) λe9=>?_;refine DD.y 1 tT λr10=>?_;refine De 4 ?_;refine At.y 2 aA4 λr11=>?_;refine At.b 3 (λ_ e=>dI hT (N:=9) (k:=3) aB.enc a2 e) λe12=>?_;refine At.y 1 tT λr13=>?_;refine At.y 4 aA4 λr14=>?_;refine At.D 2 [] ?_;refine DD.y 2 aBc λr15=>?_;refine DD.y 2 aBc λr16=>?_;refine DD.y 2 aBc λr17=>?_;refine DD.y 2 aBc λr18=>?_;refine De 2 ?_;refine At.J 0 1 [6] 6 (λp19=>([],[(0,.var (aS.enc p19))],[])) (λp19=>?_) λp19=>?_
   ·refine At.c 3 ?_ ?_
    ·apply rt;exact At.jn 14
    ·apply rt;exact At.jn 0
   ·apply lx;intro x20;apply lx;intro x21;apply lx;intro x22;apply lx;intro x23;refine At.c 28 ?_ ?_
    ·apply rt;exact At.r 3
    ·apply rt;exact At.r 3
def aBP : Nat->Bool:=imL [7,8]
def eW(N:Nat)(a0 a1:aB)(a2 a3 a4:Int)(a5:aK):Option (aS×Bool):=
 aa (uC N a5) λr1=>
 aa (idx a5.gl a4) λe2=>
 aa (aCg N a0 a1 e2.gP) λr3=>
 aa (cond r3.2 (
  aa (idx a5.gl a4) λe5=>
  aR ((kB .u8 e5.gD4 a2) != 0) λx6=>
  cond x6 (
   some (a4 != a3)) (
   some false)) (
  some false)) λp4=>
 some ((r3.1,p4))
theorem sW{N a0 a1 a2 a3 a4 a5 r}(h:eW N a0 a1 a2 a3 a4 a5=some r):FnM Tryz.prog 235 [.var (aK.enc a5)] [(.ref 0 [] 0),(aB.enc a0),(aB.enc a1),(k8 a2),(j64 a3),(j64 a4)] (.tup [(aS.enc r.1),(eB r.2)]) [.var (.st 3 [(.st 1 [(j64 (I64 (a5.gD8.gn+1)))]),(eB a5.gA),(eL 19 aJ.enc a5.gl)])]:=by
 refine Af aBP Tryz.func235 h ?_;refine At.Y 7 [0] aDs λr1=>?_;refine At.D 0 [] ?_;refine DD.i hT 7 aJ.enc λe2=>?_;refine DD.y 2 aKA λr3=>?_;refine De 6 ?_;refine At.J 0 0 [12] 3 (λp4=>([(13,(eB p4))],[(1,.var (aS.enc r3.1))],[])) (λp4=>?_) λp4=>?_
 ·refine At.D 0 [] ?_;refine DD.s hT 3 ?_ ?_
  ·refine DD.i hT 5 aJ.enc λe5=>?_;apply lx;intro x6;refine DD.s hT 7 ?_ ?_
   ·refine De 6 ?_;apply rt;exact At.jn 0
   ·refine De 6 ?_;apply rt;exact At.jn 0
  ·refine De 19 ?_;apply rt;exact At.jn 0
 ·apply rt;exact At.r 0
def aOO : Nat->Bool:=imL [2,3]
def wK(N:Nat)(a0 a1:aT):Option (Int):=
 cond (aT.eq a0 a1) (
  some 0) (
  aa (aR (decide (a0.gHi < a1.gHi)) λx2=>
  cond x2 (
   some x2) (
   aR (decide (a0.gLo < a1.gLo)) λx3=>
   aR (cond (a0.gHi==a1.gHi) x3 false) λx4=>
   some x4)) λp1=>
  cond p1 (some (-1)) (some 1))
theorem aB1{N a0 a1 r}(h:wK N a0 a1=some r):FnM Tryz.prog 197 [] [(aT.enc a0),(aT.enc a1)] (j64 r) []:=by
 refine Af aOO Tryz.func197 h ?_;refine At.o 5 (aDN aUQ (a0:aT) (a1:aT) (by kernel_rfl) (by kernel_rfl) (λ_=>rfl) (λ_=>rfl) (by kernel_rfl) (by kernel_rfl)) ?_;refine At.c 1 ?_ ?_
 ·apply rt;exact At.r 1
 ·refine At.J 0 1 [] 0 (λp1=>([(9,(eB p1))],[],[])) (λp1=>?_) λp1=>?_
  ·apply lx;intro x2;refine At.c 6 ?_ ?_
   ·apply rt;exact At.jn 0
   ·apply lx;intro x3;apply lx;intro x4;apply rt;exact At.jn 13
  ·refine At.c 0 ?_ ?_
   ·apply rt;exact At.r 1
   ·apply rt;exact At.r 1
def aPH : Nat->Bool:=imL [2,3]
def zI(N:Nat)(a0 a1:aS):Option (Bool):=
 aR (cond (decide (a0.gC0 < 1)) true (decide (a1.gC0 < 1))) λx1=>
 cond x1 (
  some false) (
  aa (iX N a0.gC3 a1.gC0) λr2=>
  aa (iX N a1.gC3 a0.gC0) λr3=>
  aa (wK N r2 r3) λr4=>
  some (decide (r4 < 0)))
theorem aEV{N a0 a1 r}(h:zI N a0 a1=some r):FnM Tryz.prog 236 [] [(aS.enc a0),(aS.enc a1)] (eB r) []:=by
 refine Af aPH Tryz.func236 h ?_;apply lx;intro x1;refine At.c 11 ?_ ?_
 ·apply rt;exact At.r 1
 ·refine At.D 0 [] ?_;refine DD.y 4 lE λr2=>?_;refine DD.y 4 lE λr3=>?_;refine DD.y 0 aB1 λr4=>?_;refine De 2 ?_;apply rt;exact At.r 0
def aA9 : Nat->Bool:=imL [6,7]
def dE(N:Nat)(a4:aK)(a0 a1:aB)(a2 a3:Int):Nat->aK->aS->Int->Int->Option (aK×aS×Int)
 | 0,_,_,_,_=>none
 | k+1,s3,s4,s5,s6=>
  aR (decide (s6 < ((a4.gl.length:Int)))) λx7=>
  cond x7 (
   aa (aa (eW N a0 a1 a2 a3 s6 s3) λr9=>
   aa (cond (decide (s5 < 0)) (
    some true) (
    aa (zI N r9.1 s4) λr11=>
    some r11)) λp10=>
   cond (cond r9.2 p10 false) (some ((r9.1,r9.1,s6))) (some ((s4,r9.1,s5)))) λp8=>
   dE N a4 a0 a1 a2 a3 k (aK.mk (fD.mk (I64 (s3.gD8.gn+1))) s3.gA s3.gl) p8.1 p8.2.2 (I64 (s6+1))) (
   some ((s3,s4,s5)))
def kH(N:Nat)(a0 a1:aB)(a2 a3:Int)(a4:aK):Option (aK×Int×aS):=
 aa (jW N a4) λr1=>
 cond r1 (
  some ((a4,-1,aS.mk 0 0 0 0))) (
  aa (dE N a4 a0 a1 a2 a3 N a4 (aS.mk 0 0 0 0) (-1) 0) λp2=>
  some ((p2.1,p2.2.2,p2.2.1)))
theorem aAU{N a0 a1 a2 a3 a4 r}(h:kH N a0 a1 a2 a3 a4=some r):FnM Tryz.prog 231 [.var (aK.enc a4)] [(.ref 0 [] 0),(aB.enc a0),(aB.enc a1),(k8 a2),(j64 a3)] (.tup [(j64 r.2.1),(aS.enc r.2.2)]) [.var (aK.enc r.1)]:=by
 refine Af aA9 Tryz.func231 h ?_;refine At.Y 6 [0] sS λr1=>?_;refine At.c 0 ?_ ?_
 ·refine At.D 0 [] ?_;refine De 4 ?_;apply rt;exact At.r 0
 ·refine At.M 6 [11] 2 (λp2=>([(10,(j64 p2.2.2))],[(0,.var (aK.enc p2.1)),(1,.var (aS.enc p2.2.1))],[])) [0,3,4,6,7,11,24] 2 (CU4 (dE N a4 a0 a1 a2 a3)) (cu4 λ(s3:aK) (s4:aS) (s5:Int) (s6:Int)=>([(10,(j64 s5)),(25,(j64 s6))],[(0,.var (aK.enc s3)),(1,.var (aS.enc s4))],[])) (_,_,_,_) N (λp2 k=>un4 λs3 s4 s5 s6=>?_) λp2=>?_
  ·apply lx;intro x7;refine At.c 1 ?_ ?_
   ·refine At.J 0 2 [0,3,4,6,7,11,24,25] 2 (λp8=>([(10,(j64 p8.2.2))],[(0,.var (.st 3 [(.st 1 [(j64 (I64 (s3.gD8.gn+1)))]),(eB s3.gA),(eL 19 aJ.enc s3.gl)])),(1,.var (aS.enc p8.1))],[.var (aS.enc p8.2.1)])) (λp8=>?_) λp8=>?_
    ·refine At.Y 8 [0] sW λr9=>?_;refine At.J 6 0 [0,3,4,6,7,10,11,12,13,14,24,25] 3 (λp10=>([(15,(eB p10))],[],[])) (λp10=>?_) λp10=>?_
     ·refine At.s 40 3 ?_ ?_
      ·refine At.g [40] 5 ?_;apply rt;exact At.jn 0
      ·refine At.g [40] 2 ?_;refine At.y 0 aEV λr11=>?_;refine At.g [40] 2 ?_;apply rt;exact At.jn 0
     ·refine At.c 4 ?_ ?_
      ·refine At.D 0 [] ?_;refine De 4 ?_;apply rt;exact At.jn 0
      ·apply rt;exact At.jn 0
    ·exact λh=>At.v 2 (_,_,_,_) h
   ·apply rt;exact At.x 0
  ·refine At.D 0 [] ?_;refine De 4 ?_;apply rt;exact At.r 0
def rB(N:Nat)(a0:Int):Option (Int):=
 aR (dO (jB a0 (-1073741824)) 1073741824) λx1=>
 some x1
theorem aAc{N a0 r}(h:rB N a0=some r):FnM Tryz.prog 175 [] [(j64 a0)] (j64 r) []:=by
 refine Af bO Tryz.func175 h ?_;apply lx;intro x1;apply rt;exact At.r 5
def aM6 : Nat->Bool:=imL [1]
def qX(N:Nat)(a0:aT):Nat->Int->Int->Option (Int)
 | 0,_,_=>none
 | k+1,s2,s3=>
  cond (decide (s3 < 64)) (
   aa (aa (aMC .u64 1 (I64 (63 - s3))) λx5=>
   aa (mO N (bor .u64 s2 x5) (bor .u64 s2 x5)) λr6=>
   aa (aR (decide (r6.1 < (U64 a0.gHi))) λx8=>
   cond x8 (
    some ((bor .u64 s2 x5,true))) (
    aR (cond (r6.1==(U64 a0.gHi)) (decide (r6.2<=a0.gLo)) false) λx9=>
    some ((bor .u64 s2 x5,x9)))) λp7=>
   cond p7.2 (some p7.1) (some s2)) λp4=>
   qX N a0 k p4 (I64 (s3+1))) (
   some s2)
def wQ(N:Nat)(a0:aT):Option (Int):=
 cond (decide (a0.gHi < 0)) (
  some 0) (
  aa (qX N a0 N 0 0) λp1=>
  some p1)
theorem aF3{N a0 r}(h:wQ N a0=some r):FnM Tryz.prog 152 [] [(aT.enc a0)] (k64 r) []:=by
 refine Af aM6 Tryz.func152 h ?_;refine At.c 5 ?_ ?_
 ·apply rt;exact At.r 1
 ·refine At.M 2 [] 0 (λp1=>([(3,(k64 p1))],[],[])) [1] 0 (CU2 (qX N a0)) (cu2 λ(s2:Int) (s3:Int)=>([(3,(k64 s2)),(11,(j64 s3))],[],[])) (_,_) N (λp1 k=>un2 λs2 s3=>?_) λp1=>?_
  ·refine At.c 1 ?_ ?_
   ·refine At.J 0 2 [1,11] 0 (λp4=>([(3,(k64 p4))],[],[])) (λp4=>?_) λp4=>?_
    ·refine At.b 5 (λ_ e=>aEh hT (k' := .i64) e (by kernel_rfl) (by kernel_rfl)) λx5=>?_;refine At.y 4 aBn λr6=>?_;refine At.J 5 0 [1,3,11] 0 (λp7=>([(5,(k64 p7.1)),(42,(eB p7.2))],[],[])) (λp7=>?_) λp7=>?_
     ·apply lx;intro x8;refine At.s 30 6 ?_ ?_
      ·refine At.g [30,36] 12 ?_;apply rt;exact At.jn 0
      ·apply lx;intro x9;refine At.g [30] 12 ?_;apply rt;exact At.jn 0
     ·refine At.c 0 ?_ ?_
      ·apply rt;exact At.jn 2
      ·apply rt;exact At.jn 0
    ·exact λh=>At.v 2 (_,_) h
   ·apply rt;exact At.x 0
  ·apply rt;exact At.r 2
def mQ(N:Nat)(a0 a1:Int):Option (Int):=
 aa (rO N (aT.mk a0 0) a1) λr1=>
 aa (rT N r1.1) λr2=>
 some r2.1
theorem wJ{N a0 a1 r}(h:mQ N a0 a1=some r):FnM Tryz.prog 176 [] [(j64 a0),(.im (j64 a1))] (j64 r) []:=by
 refine Af bO Tryz.func176 h ?_;refine At.y 4 aB2 λr1=>?_;refine At.y 9 aAQ λr2=>?_;apply rt;exact At.r 7
end Go.UK
