/- A part of the proof: what the functions of the program compute. -/
import Derived.Test.YtmmabhkichiikaaGreatAJ1
open Int renaming tdiv→d7,tmod→ga,toNat→bj
open List renaming length_map→ai,map→ah,map_eq_nil_iff→cw
open Option renaming bind→aa
namespace Go.UK
open Go Go.Proofs
set_option maxRecDepth 20000
set_option maxHeartbeats 40000000
set_option linter.all false
attribute [local irreducible] adv aHj aHF yU brPt aPY aJs nX aA0 aPx cJ uZ fF aDm aNl aL0 lPt cP opD vZ aCr aLJ stD dCl dEn dH DD aR owp awl aw FnM aJa opS Stab TOK Big
def aLV : Nat->Bool:=imL [1]
def iQ(N:Nat)(a0:aB):Option (aA):=
 aa (rB N a0.gX) λr1=>
 aa (rB N a0.gY) λr2=>
 aa (rB N a0.gZ) λr3=>
 aR (I64 ((I64 (r1*r1))+(I64 (r2*r2)))) λx4=>
 aR (I64 (x4+(I64 (r3*r3)))) λx5=>
 aa (wQ N (aT.mk x5 0)) λr6=>
 cond ((I64 r6)==0) (
  some (aA.mk 0 0 0)) (
  aa (mQ N r1 (I64 r6)) λr7=>
  aa (mQ N r2 (I64 r6)) λr8=>
  aa (mQ N r3 (I64 r6)) λr9=>
  some (aA.mk r7 r8 r9))
theorem mB{N a0 r}(h:iQ N a0=some r):FnM Tryz.prog 128 [] [(aB.enc a0)] (aA.enc r) []:=by
 refine Af aLV Tryz.func128 h ?_;refine At.D 3 [] ?_;refine DD.y 3 aAc λr1=>?_;refine DD.y 3 aAc λr2=>?_;refine DD.y 3 aAc λr3=>?_;refine De 3 ?_;apply lx;intro x4;apply lx;intro x5;refine At.y 12 aF3 λr6=>?_;refine At.c 5 ?_ ?_
 ·apply rt;exact At.r 2
 ·refine At.gz 0 1 ((j64 (I64 r6))) ?_;refine At.o 0 (pM (x:=(.fn (.func 176) [] [(.im (j64 (I64 r6)))])) (by kernel_rfl) (by kernel_rfl)) ?_;refine At.y 3 wJ λr7=>?_;refine At.y 2 wJ λr8=>?_;refine At.y 2 wJ λr9=>?_;apply rt;exact At.r 2
def sG(N:Nat)(a0:(List aT)):Nat->aT->Int->Option (Sum (aT) (aT×Bool))
 | 0,_,_=>none
 | k+1,s2,s3=>
  aR (decide (s3 < ((a0.length:Int)))) λx4=>
  cond x4 (
   aa (idx a0 s3) λe5=>
   aa (aAz s2.gLo e5.gLo 0) λr6=>
   aa (aAz (U64 s2.gHi) (U64 e5.gHi) r6.2) λr7=>
   aR ((decide (s2.gHi < 0))==(decide (e5.gHi < 0))) λx8=>
   aR (decide ((I64 r7.1) < 0)) λx9=>
   aR (!(x9==(decide (e5.gHi < 0)))) λx10=>
   cond (cond x8 x10 false) (
    some (Sum.inr ((aT.mk 0 0,false)))) (
    sG N a0 k (aT.mk (I64 r7.1) r6.1) (I64 (s3+1)))) (
   some (Sum.inl s2))
def yY(N:Nat)(a0:(List aT)):Option (aT×Bool):=
 aa (sG N a0 N (aT.mk 0 0) 0) λo=>kG o (λp1=>
  some ((p1,true))) (λr=>some r)
theorem aEO{N a0 r}(h:yY N a0=some r):FnM Tryz.prog 151 [] [(eL 2 aT.enc a0)] (.tup [(aT.enc r.1),(eB r.2)]) []:=by
 refine Af bO Tryz.func151 h ?_;refine At.MS 5 [2] 1 (λp1=>([],[(0,.var (aT.enc p1))],[])) [2,11,12] 1 (CU2 (sG N a0)) (cu2 λ(s2:aT) (s3:Int)=>([(13,(j64 s3))],[(0,.var (aT.enc s2))],[])) (_,_) N (λop1 g1 k=>un2 λs2 s3=>?_) λp1=>?_
 ·apply lx;intro x4;refine At.c 1 ?_ ?_
  ·refine At.i hT 0 aT.enc λe5=>?_;refine At.b 7 (λ_ e=>aF4 (aMt e) (λ_=>aFq)) λr6=>?_;refine At.b 12 (λ_ e=>aF4 (aMt e) (λ_=>aFq)) λr7=>?_;apply lx;intro x8;apply lx;intro x9;apply lx;intro x10;refine At.c 23 ?_ ?_
   ·intro e;apply aBp g1 e;exact At.r 3
   ·exact λh=>At.v 6 (_,_) h
  ·apply rt;exact At.xs 0
 ·apply rt;exact At.r 3
def aBN(N:Nat)(a0 a1:Int):Option (Int):=
 aa (xP N a0) λr1=>
 aa (xP N a1) λr2=>
 aa (yY N ([r1,r2])) λr3=>
 aa (xP N (-65536)) λr4=>
 aa (xP N 65536) λr5=>
 aa (wK N r3.1 r4) λr6=>
 cond (decide (r6 < 0)) (
  some (-65536)) (
  aa (wK N r3.1 r5) λr7=>
  cond (decide (r7 > 0)) (
   some 65536) (
   aa (rT N r3.1) λr8=>
   some r8.1))
theorem aHe{N a0 a1 r}(h:aBN N a0 a1=some r):FnM Tryz.prog 178 [] [(j64 a0),(j64 a1)] (j64 r) []:=by
 refine Af bO Tryz.func178 h ?_;refine At.y 2 aBa λr1=>?_;refine At.y 1 aBa λr2=>?_;refine At.o 0 (bG hT (x:=(.sl 2 2 [(aT.enc r1),(aT.enc r2)]))) ?_;refine At.y 0 aEO λr3=>?_;refine At.y 6 aBa λr4=>?_;refine At.y 0 aBa λr5=>?_;refine At.y 6 aB1 λr6=>?_;refine At.c 2 ?_ ?_
 ·apply rt;exact At.r 1
 ·refine At.y 2 aB1 λr7=>?_;refine At.c 2 ?_ ?_
  ·apply rt;exact At.r 1
  ·refine At.y 1 aAQ λr8=>?_;apply rt;exact At.r 7
def mR(N:Nat)(a0 a1:Int)(a2:aS):Option (Int):=
 cond (decide (a2.gC0 < 1)) (
  aa (aBN N a0 0) λr1=>
  some r1) (
  aa (kJ N a1 a2.gC3 a2.gC0) λr2=>
  aa (aBN N a0 r2) λr3=>
  some r3)
theorem wM{N a0 a1 a2 r}(h:mR N a0 a1 a2=some r):FnM Tryz.prog 177 [] [(j64 a0),(j64 a1),(.im (aS.enc a2))] (j64 r) []:=by
 refine Af bO Tryz.func177 h ?_;refine At.c 4 ?_ ?_
 ·refine At.y 1 aHe λr1=>?_;apply rt;exact At.r 1
 ·refine At.y 6 tO λr2=>?_;refine At.y 0 aHe λr3=>?_;apply rt;exact At.r 1
def aNR : Nat->Bool:=imL [3,4,5]
def xN(N:Nat)(a0 a1:aB)(a2:aS):Option (aB):=
 aa (mR N a0.gX a1.gX a2) λr1=>
 aa (mR N a0.gY a1.gY a2) λr2=>
 aa (mR N a0.gZ a1.gZ a2) λr3=>
 some (aB.mk r1 r2 r3)
theorem aGQ{N a0 a1 a2 r}(h:xN N a0 a1 a2=some r):FnM Tryz.prog 131 [] [(aB.enc a0),(aB.enc a1),(aS.enc a2)] (aB.enc r) []:=by
 refine Af aNR Tryz.func131 h ?_;refine At.o 4 (pM (x:=(.fn (.func 177) [] [(.im (aS.enc a2))])) (by kernel_rfl) (by kernel_rfl)) ?_;refine At.D 1 [] ?_;refine DD.y 5 wM λr1=>?_;refine DD.y 5 wM λr2=>?_;refine DD.y 5 wM λr3=>?_;refine De 2 ?_;apply rt;exact At.r 0
def aQe : Nat->Bool:=imL [2,3]
def uH(N:Nat)(a0 a1:aA):Option (Int):=
 aa (jY N ([a0,a1])) λr1=>
 aa (lC N ([r1.gX,r1.gY,r1.gZ])) λr2=>
 some r2
theorem zD{N a0 a1 r}(h:uH N a0 a1=some r):FnM Tryz.prog 138 [] [(aA.enc a0),(aA.enc a1)] (j64 r) []:=by
 refine Af aQe Tryz.func138 h ?_;refine At.o 5 (bG hT (x:=(.sl 3 2 [(aA.enc a0),(aA.enc a1)]))) ?_;refine At.y 0 rU λr1=>?_;refine At.o 8 (bG hT (x:=(.sl 1 3 [(j64 r1.gX),(j64 r1.gY),(j64 r1.gZ)]))) ?_;refine At.y 0 qA λr2=>?_;apply rt;exact At.r 1
def aGs : Nat->Bool:=imL [2,3]
def oJ(N:Nat)(a0:aA)(a1:aB):Option (aA):=
 aa (iQ N a1) λr1=>
 aa (uH N a0 r1) λr2=>
 cond (decide (r2<=0)) (
  some a0) (
  aa (fX N a0 (-4294967296)) λr3=>
  some r3)
theorem aB8{N a0 a1 r}(h:oJ N a0 a1=some r):FnM Tryz.prog 132 [] [(aA.enc a0),(aB.enc a1)] (aA.enc r) []:=by
 refine Af aGs Tryz.func132 h ?_;refine At.D 3 [] ?_;refine DD.y 2 mB λr1=>?_;refine DD.y 0 zD λr2=>?_;refine De 1 ?_;refine At.c 0 ?_ ?_
 ·apply rt;exact At.r 2
 ·refine At.y 1 jR λr3=>?_;apply rt;exact At.r 1
def aAv(N:Nat)(a0:(List aC))(a1:Int):Option (aC×Bool):=
 aR (((a0.length:Int))==0) λx1=>
 cond x1 (
  some ((aC.mk 0 [],false))) (
  aR (I64 (((a0.length:Int)) - 1)) λx2=>
  aa (idx a0 (dO (jB a1 0) x2)) λe3=>
  some ((e3,true)))
theorem aKF{N a0 a1 r}(h:aAv N a0 a1=some r):FnM Tryz.prog 179 [] [(eL 2 aC.enc a0),(j64 a1)] (.tup [(aC.enc r.1),(eB r.2)]) []:=by
 refine Af bO Tryz.func179 h ?_;apply lx;intro x1;refine At.c 5 ?_ ?_
 ·apply rt;exact At.r 3
 ·apply lx;intro x2;refine At.i hT 7 aC.enc λe3=>?_;apply rt;exact At.r 3
def oV(N:Nat)(a0:Int)(a1:aS)(a2:(Vector (Vector Int 2) 3)):Option (Int):=
 aR (I64 ((I64 (a1.gC0 - a1.gU)) - a1.gV)) λx1=>
 aa (idx a2.toList 0) λe2=>
 aa (idx e2.toList a0) λe3=>
 aa (iX N x1 e3) λr4=>
 aa (idx a2.toList 1) λe5=>
 aa (idx e5.toList a0) λe6=>
 aa (iX N a1.gU e6) λr7=>
 aa (idx a2.toList 2) λe8=>
 aa (idx e8.toList a0) λe9=>
 aa (iX N a1.gV e9) λr10=>
 aa (yY N ([r4,r7,r10])) λr11=>
 cond (!r11.2) (
  some 0) (
  aa (rO N r11.1 a1.gC0) λr12=>
  aa (rT N r12.1) λr13=>
  aR (cond (!r13.2) (decide (r12.1.gHi < 0)) false) λx14=>
  cond x14 (
   some (-2147483648)) (
   cond (!r13.2) (
    some 2147483647) (
    aR (jB r13.1 (-2147483648)) λx15=>
    some (dO x15 2147483647))))
theorem aAd{N a0 a1 a2 r}(h:oV N a0 a1 a2=some r):FnM Tryz.prog 198 [] [(j64 a0),(.im (aS.enc a1)),(.im (eA 6 2 (eA 2 1 j64) a2))] (j64 r) []:=by
 refine Af bO Tryz.func198 h ?_;apply lx;intro x1;refine At.D 10 [] ?_;refine DD.b 2 (λe _=>dI hT (N:=6) (k:=2) (eA 2 1 j64) a2 e) λe2=>?_;refine DD.b 0 (λe _=>dI hT (N:=2) (k:=1) j64 e2 e) λe3=>?_;refine DD.y 1 lE λr4=>?_;refine DD.b 3 (λe _=>dI hT (N:=6) (k:=2) (eA 2 1 j64) a2 e) λe5=>?_;refine DD.b 0 (λe _=>dI hT (N:=2) (k:=1) j64 e5 e) λe6=>?_;refine DD.y 1 lE λr7=>?_;refine DD.b 3 (λe _=>dI hT (N:=6) (k:=2) (eA 2 1 j64) a2 e) λe8=>?_;refine DD.b 0 (λe _=>dI hT (N:=2) (k:=1) j64 e8 e) λe9=>?_;refine DD.y 1 lE λr10=>?_;refine DD.o 0 (λ_=>bG hT (x:=(.sl 2 3 [(aT.enc r4),(aT.enc r7),(aT.enc r10)]))) ?_;refine DD.y 0 aEO λr11=>?_;refine De 6 ?_;refine At.c 2 ?_ ?_
 ·apply rt;exact At.r 1
 ·refine At.y 3 aB2 λr12=>?_;refine At.y 9 aAQ λr13=>?_;apply lx;intro x14;refine At.c 13 ?_ ?_
  ·apply rt;exact At.r 1
  ·refine At.c 3 ?_ ?_
   ·apply rt;exact At.r 1
   ·apply lx;intro x15;apply rt;exact At.r 4
def aLm : Nat->Bool:=imL [2,3]
def aAs(N:Nat)(a0:aS)(a1:(Vector (Vector Int 2) 3)):Option (Int×Int):=
 aa (cond (decide (a0.gC0 < 1)) (
  some true) (
  aR (decide ((jB (jB (jB a0.gC3 a0.gC0) a0.gU) a0.gV) > 1152921504606846976)) λx2=>
  cond x2 (
   some true) (
   aR (decide ((dO (dO a0.gC3 a0.gU) a0.gV) < (-1152921504606846976))) λx3=>
   some x3))) λp1=>
 cond p1 (
  some ((0,0))) (
  aa (oV N 0 a0 a1) λr4=>
  aa (oV N 1 a0 a1) λr5=>
  some ((r4,r5)))
theorem aKX{N a0 a1 r}(h:aAs N a0 a1=some r):FnM Tryz.prog 180 [] [(aS.enc a0),(eA 6 2 (eA 2 1 j64) a1)] (.tup [(j64 r.1),(j64 r.2)]) []:=by
 refine Af aLm Tryz.func180 h ?_;refine At.J 4 0 [2,3] 0 (λp1=>([(31,(eB p1))],[],[])) (λp1=>?_) λp1=>?_
 ·refine At.s 10 4 ?_ ?_
  ·refine At.g [10,22] 21 ?_;apply rt;exact At.jn 0
  ·refine At.g [10] 8 ?_;refine At.o 0 (aTZ (k := .i64) (i:=a0.gC3) (j:=a0.gC0) (l:=a0.gU) (m:=a0.gV) (by kernel_rfl) (by kernel_rfl)) ?_;apply lx;intro x2;refine At.g [10] 3 ?_;refine At.s 22 0 ?_ ?_
   ·refine At.g [22] 9 ?_;apply rt;exact At.jn 0
   ·refine At.g [22] 6 ?_;refine At.o 0 (aBK (k := .i64) (i:=a0.gC3) (j:=a0.gU) (l:=a0.gV) (by kernel_rfl) (by kernel_rfl)) ?_;apply lx;intro x3;refine At.g [22] 2 ?_;apply rt;exact At.jn 0
 ·refine At.c 0 ?_ ?_
  ·apply rt;exact At.r 2
  ·refine At.o 0 (pM (x:=(.fn (.func 198) [] [(.im (aS.enc a0)),(.im (eA 6 2 (eA 2 1 j64) a1))])) (by kernel_rfl) (by kernel_rfl)) ?_;refine At.y 2 aAd λr4=>?_;refine At.y 1 aAd λr5=>?_;apply rt;exact At.r 2
def aMS : Nat->Bool:=imL [3]
def aAr(N:Nat)(a0:aC)(a1 a2:Int):Option ((Vector Int 3)×Int):=
 aa (lG N a0) λr1=>
 cond (r1 != 0) (
  some ((#v[0,0,0],r1))) (
  aa (pS N a0 a1 a2) λr2=>
  some ((r2,0)))
theorem aKb{N a0 a1 a2 r}(h:aAr N a0 a1 a2=some r):FnM Tryz.prog 200 [] [(aC.enc a0),(j64 a1),(j64 a2)] (.tup [(eA 3 1 j64 r.1),(j64 r.2)]) []:=by
 refine Af aMS Tryz.func200 h ?_;refine At.y 4 uX λr1=>?_;refine At.c 3 ?_ ?_
 ·apply rt;exact At.r 4
 ·refine At.y 3 vV λr2=>?_;apply rt;exact At.r 2
def fN(N:Nat)(a0 a1:Int)(a2:aC)(a3 a4:Int):Option ((Vector Int 3)):=
 aR (I64 ((shr .i64 a3 16)+a0)) λx1=>
 aR (I64 ((shr .i64 a4 16)+a1)) λx2=>
 aa (aAr N a2 x1 x2) λr3=>
 some r3.1
theorem mL{N a0 a1 a2 a3 a4 r}(h:fN N a0 a1 a2 a3 a4=some r):FnM Tryz.prog 199 [] [(j64 a0),(j64 a1),(.im (aC.enc a2)),(.im (j64 a3)),(.im (j64 a4))] (eA 3 1 j64 r) []:=by
 refine Af bO Tryz.func199 h ?_;apply lx;intro x1;apply lx;intro x2;refine At.y 10 aKb λr3=>?_;apply rt;exact At.r 8
def aJ0 : Nat->Bool:=imL [3]
def mK(N:Nat)(e20:(Vector Int 3))(s19 x4 x5:Int):Nat->(Vector Int 3)->Int->Option ((Vector Int 3))
 | 0,_,_=>none
 | k+1,s22,s23=>
  cond (decide (s23 < 3)) (
   aa (dS s23 3) λ_=>
   aa (s22.toList[s23.toNat]?) λe25=>
   aa (dS s23 3) λ_=>
   aa (e20.toList[s23.toNat]?) λe27=>
   aa (dS s19 4) λ_=>
   aa ((#v[I64 ((I64 (65536 - (kB .i64 x4 65535)))*(I64 (65536 - (kB .i64 x5 65535)))),(I64 ((kB .i64 x4 65535)*(I64 (65536 - (kB .i64 x5 65535))))),(I64 ((I64 (65536 - (kB .i64 x4 65535)))*(kB .i64 x5 65535))),(I64 ((kB .i64 x4 65535)*(kB .i64 x5 65535)))]).toList[s19.toNat]?) λe29=>
   aR (I64 (e25+(I64 (e27*e29)))) λx30=>
   aa (dS s23 3) λ_=>
   aa (s22.toList[s23.toNat]?) λe32=>
   mK N e20 s19 x4 x5 k (s22.setIfInBounds s23.toNat x30) (I64 (s23+1))) (
   some s22)
def mZ(N:Nat)(r13 r14 r15 r16:(Vector Int 3))(x4 x5:Int):Nat->(Vector Int 3)->Int->Option ((Vector Int 3))
 | 0,_,_=>none
 | k+1,s18,s19=>
  cond (decide (s19 < 4)) (
   aa (idx (#v[r13,r14,r15,r16]).toList s19) λe20=>
   aa (mK N e20 s19 x4 x5 N s18 0) λp21=>
   mZ N r13 r14 r15 r16 x4 x5 k p21 (I64 (s19+1))) (
   some s18)
def xT(N:Nat)(a0:aC)(a1 a2:Int):Option (aA×Int):=
 aa (lG N a0) λr1=>
 cond (r1 != 0) (
  some ((aA.mk 0 0 0,r1))) (
  aR (decide ((dO a1 a2) < 0)) λx2=>
  aR (decide ((jB a1 a2) > 65535)) λx3=>
  cond (cond x2 true x3) (
   some ((aA.mk 0 0 0,2))) (
   aR (I64 ((I64 (a1*a0.gG)) - 32768)) λx4=>
   aR (I64 ((I64 (a2*a0.gG)) - 32768)) λx5=>
   aR (I64 (65536 - (kB .i64 x4 65535))) λx6=>
   aR (I64 (65536 - (kB .i64 x5 65535))) λx7=>
   aR (I64 (65536 - (kB .i64 x5 65535))) λx8=>
   aR (I64 ((kB .i64 x4 65535)*x8)) λx9=>
   aR (I64 (65536 - (kB .i64 x4 65535))) λx10=>
   aR (I64 (x10*(kB .i64 x5 65535))) λx11=>
   aR (I64 ((kB .i64 x4 65535)*(kB .i64 x5 65535))) λx12=>
   aa (fN N 0 0 a0 x4 x5) λr13=>
   aa (fN N 1 0 a0 x4 x5) λr14=>
   aa (fN N 0 1 a0 x4 x5) λr15=>
   aa (fN N 1 1 a0 x4 x5) λr16=>
   aa (mZ N r13 r14 r15 r16 x4 x5 N (#v[0,0,0]) 0) λp17=>
   aa (dS 0 3) λ_=>
   aa (p17.toList[(bj 0)]?) λe34=>
   aa (dS 1 3) λ_=>
   aa (p17.toList[(bj 1)]?) λe36=>
   aa (dS 2 3) λ_=>
   aa (p17.toList[(bj 2)]?) λe38=>
   some ((aA.mk (I64 (d7 e34 255)) (I64 (d7 e36 255)) (I64 (d7 e38 255)),0))))
theorem aHv{N a0 a1 a2 r}(h:xT N a0 a1 a2=some r):FnM Tryz.prog 181 [] [(aC.enc a0),(j64 a1),(j64 a2)] (.tup [(aA.enc r.1),(j64 r.2)]) []:=by
 refine Af aJ0 Tryz.func181 h ?_;refine At.y 4 uX λr1=>?_;refine At.c 3 ?_ ?_
 ·apply rt;exact At.r 4
 ·apply lx;intro x2;apply lx;intro x3;refine At.c 10 ?_ ?_
  ·apply rt;exact At.r 3
  ·refine At.D 0 [false,false] ?_;apply lx;intro x4;apply lx;intro x5;refine De 14 ?_;refine At.D 0 [] ?_;refine De 6 ?_;refine At.gz 0 1 ((j64 x4)) ?_;refine At.gz 0 2 ((j64 x5)) ?_;refine At.o 0 (pM (x:=(.fn (.func 199) [] [(.im (aC.enc a0)),(.im (j64 x4)),(.im (j64 x5))])) (by kernel_rfl) (by kernel_rfl)) ?_;apply lx;intro x6;apply lx;intro x7;apply lx;intro x8;apply lx;intro x9;apply lx;intro x10;apply lx;intro x11;apply lx;intro x12;refine At.y 21 mL λr13=>?_;refine At.y 1 mL λr14=>?_;refine At.y 1 mL λr15=>?_;refine At.y 1 mL λr16=>?_;refine At.M 6 [6,16] 6 (λp17=>([],[(5,.var (eA 3 1 j64 p17))],[])) [6,14,16,78] 6 (CU2 (mZ N r13 r14 r15 r16 x4 x5)) (cu2 λ(s18:(Vector Int 3)) (s19:Int)=>([(79,(j64 s19))],[(5,.var (eA 3 1 j64 s18))],[])) (_,_) N (λp17 k=>un2 λs18 s19=>?_) λp17=>?_
   ·refine At.c 1 ?_ ?_
    ·refine At.b 1 (λ_ e=>aA2 hT (eA 3 1 j64) (#v[r13,r14,r15,r16]) e (by kernel_rfl) (by kernel_rfl)) λe20=>?_;refine At.M 4 [6,14,16,78,79] 7 (λp21=>([],[(5,.var (eA 3 1 j64 p21))],[])) [6,14,16,17,18,78,79] 7 (CU2 (mK N e20 s19 x4 x5)) (cu2 λ(s22:(Vector Int 3)) (s23:Int)=>([(83,(j64 s23))],[(5,.var (eA 3 1 j64 s22))],[])) (_,_) N (λp21 k=>un2 λs22 s23=>?_) λp21=>?_
     ·refine At.c 1 ?_ ?_
      ·refine At.D 2 [] ?_;refine DD.b 1 (λe _=>bF hT (k:=1) 5 [] 0 e) λu24=>?_;refine DD.l hT 0 j64 j64 0 λe25=>?_;refine DD.b 1 (λe _=>bF hT (k:=1) 6 [] 0 e) λu26=>?_;refine DD.l hT 0 j64 j64 0 λe27=>?_;refine DD.b 1 (λe _=>bF hT (k:=1) 3 [] 0 e) λu28=>?_;refine DD.l hT 0 j64 j64 0 λe29=>?_;apply lx;intro x30;refine DD.b 2 (λe _=>bF hT (k:=1) 5 [] 0 e) λu31=>?_;refine bi λe32 he32=>?_;refine DD.w 0 (.v (.bool false)) ⟨[(5,.var (eA 3 1 j64 (s22.setIfInBounds s23.toNat x30)))],[]⟩ (λ_ e=>oX hT j64 0 s22 he32 x30 (pj1 e) (pj1 (pj2 e)) (pj2 (pj2 e))) ?_;refine De 0 ?_;exact λh=>At.v 2 (_,_) h
      ·apply rt;exact At.x 0
     ·exact λh=>At.v 2 (_,_) h
    ·apply rt;exact At.x 0
   ·refine At.b 0 (λ_ e=>bF hT (k:=1) 5 [] 0 e) λu33=>?_;refine At.b 0 (λ_ e=>pV hT j64 0 e) λe34=>?_;refine At.b 1 (λ_ e=>bF hT (k:=1) 5 [] 0 e) λu35=>?_;refine At.b 0 (λ_ e=>pV hT j64 0 e) λe36=>?_;refine At.b 1 (λ_ e=>bF hT (k:=1) 5 [] 0 e) λu37=>?_;refine At.b 0 (λ_ e=>pV hT j64 0 e) λe38=>?_;apply rt;exact At.r 4
def aH9 : Nat->Bool:=imL [5,7,8]
def pL(N:Nat)(a0:(Vector Int 3))(a1:(List aC))(a2:(Vector (Vector Int 2) 3))(a3:aS)(a4:Int):Option (aA):=
 aa (vO N a0 65535) λr1=>
 aa (aAv N a1 a4) λr2=>
 cond (!r2.2) (
  some r1) (
  aa (aAs N a3 a2) λr3=>
  aR (dO (jB r3.1 0) 65535) λx4=>
  aR (dO (jB r3.2 0) 65535) λx5=>
  aa (xT N r2.1 x4 x5) λr6=>
  cond (r6.2 != 0) (
   some r1) (
   aa (jY N ([r1,r6.1])) λr7=>
   some r7))
theorem aCu{N a0 a1 a2 a3 a4 r}(h:pL N a0 a1 a2 a3 a4=some r):FnM Tryz.prog 133 [] [(eA 3 1 j64 a0),(eL 2 aC.enc a1),(eA 6 2 (eA 2 1 j64) a2),(aS.enc a3),(j64 a4)] (aA.enc r) []:=by
 refine Af aH9 Tryz.func133 h ?_;refine At.y 5 aD9 λr1=>?_;refine At.y 4 aKF λr2=>?_;refine At.c 8 ?_ ?_
 ·apply rt;exact At.r 2
 ·refine At.y 2 aKX λr3=>?_;apply lx;intro x4;apply lx;intro x5;refine At.y 12 aHv λr6=>?_;refine At.c 8 ?_ ?_
  ·apply rt;exact At.r 2
  ·refine At.o 2 (bG hT (x:=(.sl 3 2 [(aA.enc r1),(aA.enc r6.1)]))) ?_;refine At.y 0 rU λr7=>?_;apply rt;exact At.r 1
def qK(N:Nat)(a0:Int):Option (aT):=
 aa (iX N a0 a0) λr1=>
 some r1
theorem aAW{N a0 r}(h:qK N a0=some r):FnM Tryz.prog 150 [] [(j64 a0)] (aT.enc r) []:=by
 refine Af bO Tryz.func150 h ?_;refine At.y 3 lE λr1=>?_;apply rt;exact At.r 1
def aL6 : Nat->Bool:=imL [1]
def rN(N:Nat)(a0:aA):Option (Int):=
 aa (qK N a0.gX) λr1=>
 aa (qK N a0.gY) λr2=>
 aa (qK N a0.gZ) λr3=>
 aa (yY N ([r1,r2,r3])) λr4=>
 cond (!r4.2) (
  some 9223372036854775807) (
  aa (wQ N r4.1) λr5=>
  aR (dO r5 9223372036854775807) λx6=>
  some (I64 x6))
theorem aCY{N a0 r}(h:rN N a0=some r):FnM Tryz.prog 100 [] [(aA.enc a0)] (j64 r) []:=by
 refine Af aL6 Tryz.func100 h ?_;refine At.D 3 [] ?_;refine DD.y 3 aAW λr1=>?_;refine DD.y 3 aAW λr2=>?_;refine DD.y 3 aAW λr3=>?_;refine DD.o 0 (λ_=>bG hT (x:=(.sl 2 3 [(aT.enc r1),(aT.enc r2),(aT.enc r3)]))) ?_;refine DD.y 0 aEO λr4=>?_;refine De 6 ?_;refine At.c 2 ?_ ?_
 ·apply rt;exact At.r 1
 ·refine At.y 1 aF3 λr5=>?_;apply lx;intro x6;apply rt;exact At.r 3
def pA(N:Nat)(b4:(List (List aC)))(a1:aP)(a2 a3:aA)(a4:Int)(a5:Bool)(a6:aH)(a7:aE)(a8:aG)(a9:aA)(a10:aF)(a11:aD)(a12:aK):Option (aH×Int×aK×bE×Bool):=
 aa (cond (a4==0) (some 9) (some 4)) λp1=>
 aa (kH N a1.go a1.gd p1 a1.gE8 a12) λr2=>
 aa (cond a8.gA5 (some (I64 (a10.gO+4))) (some a10.gO)) λp3=>
 cond (decide (r2.2.1 < 0)) (
  some ((a6,p3,r2.1,bE.mk 0 (aB.mk 0 0 0) (aA.mk 0 0 0) (aA.mk 0 0 0) (aN.mk 0 (#v[0,0,0]) 0) false,false))) (
  aa (idx a7.gL r2.2.1) λe4=>
  aa (dS 1 3) λ_=>
  aa (e4.gP.toList[(bj 1)]?) λe6=>
  aa (dS 0 3) λ_=>
  aa (e4.gP.toList[(bj 0)]?) λe8=>
  aa (sK N e6 e8) λr9=>
  aa (dS 2 3) λ_=>
  aa (e4.gP.toList[(bj 2)]?) λe11=>
  aa (dS 0 3) λ_=>
  aa (e4.gP.toList[(bj 0)]?) λe13=>
  aa (sK N e11 e13) λr14=>
  aa (wW N r9 r14) λr15=>
  aa (iQ N r15) λr16=>
  aa (aa (xN N a1.go a1.gd r2.2.2) λr18=>
  aa (oJ N r16 a1.gd) λr19=>
  aa (idx a7.gA4 e4.gC5) λe20=>
  cond (a4==0) (
   aR ((kB .u8 e4.gD4 8) != 0) λx21=>
   some (bE.mk r2.2.1 r18 r19 (aA.mk 0 0 0) e20 x21)) (
   some (bE.mk r2.2.1 r18 r19 (aA.mk 0 0 0) e20 false))) λp17=>
  aa (cond (decide (e4.gB7>=0)) (
   aa (idx b4 e4.gB7) λe23=>
   cond (!a8.gA5) (some ((I64 (p3+4),e23))) (some ((p3,e23)))) (
   some ((p3,[])))) λp22=>
  aa (pL N p17.gB4.gA9 p22.2 e4.gUv r2.2.2 a4) λr24=>
  aa (aR (cond (a4==0) (!a5) false) λx26=>
  cond x26 (
   aa (qU N p17.gat) λr27=>
   aa (qU N a1.go) λr28=>
   aa (zJ N r27 r28) λr29=>
   aa (rN N r29) λr30=>
   cond p17.gC1 (
    some (aH.mk (aA.mk 0 0 0) 0 r30 p17.gn e4.gA3)) (
    some (aH.mk (aA.mk 0 0 0) 1 r30 p17.gn e4.gA3))) (
   some a6)) λp25=>
  some ((p25,p22.1,r2.1,bE.mk p17.gi p17.gat p17.gn r24 p17.gB4 p17.gC1,true)))
theorem aDF{N b4 a1 a2 a3 a4 a5 a6 a7 a8 a9 a10 a11 a12 r}(h:pA N b4 a1 a2 a3 a4 a5 a6 a7 a8 a9 a10 a11 a12=some r):FnM Tryz.prog 86 [.var (.st 26 [(aP.enc a1),(.ref 1 [] 0),(.ref 2 [] 0),(aA.enc a2),(aA.enc a3),(j64 a4),(eB a5),(aH.enc a6)]),.var (.st 38 [(aE.enc a7),(aG.enc a8),(.ifc 112 (.ref 3 [] 0)),(eO 4 1 (eL 2 aC.enc) b4),(aA.enc a9),(aF.enc a10)]),.var (aD.enc a11),.var (aK.enc a12),.tail (b4.length*1)] [(.ref 0 [] 0)] (.tup [(bE.enc r.2.2.2.1),(eB r.2.2.2.2)]) [.var (.st 26 [(aP.enc a1),(.ref 1 [] 0),(.ref 2 [] 0),(aA.enc a2),(aA.enc a3),(j64 a4),(eB a5),(aH.enc r.1)]),.var (.st 38 [(aE.enc a7),(aG.enc a8),(.ifc 112 (.ref 3 [] 0)),(eO 4 1 (eL 2 aC.enc) b4),(aA.enc a9),(.st 3 [(j64 a10.gN),(j64 r.2.1),(j64 (I64 (a10.gF+1)))])]),.var (aD.enc a11),.var (aK.enc r.2.2.1),.tail (b4.length*1)]:=by
 refine Af bO Tryz.func86 h ?_;refine At.J 3 1 [0,2] 6 (λp1=>([(4,(k8 p1))],[],[])) (λp1=>?_) λp1=>?_
 ·refine At.c 5 ?_ ?_
  ·apply rt;exact At.jn 1
  ·apply rt;exact At.jn 0
 ·refine At.D 0 [] ?_;refine DD.Y 25 [3] aAU λr2=>?_;refine De 6 ?_;refine At.J 13 1 [0,2,5,6] 7 (λp3=>([],[(1,.var (.st 38 [(aE.enc a7),(aG.enc a8),(.ifc 112 (.ref 3 [] 0)),(eO 4 1 (eL 2 aC.enc) b4),(aA.enc a9),(.st 3 [(j64 a10.gN),(j64 p3),(j64 (I64 (a10.gF+1)))])]))],[])) (λp3=>?_) λp3=>?_
  ·refine At.c 8 ?_ ?_
   ·apply rt;exact At.jn 13
   ·apply rt;exact At.jn 0
  ·refine At.c 2 ?_ ?_
   ·apply rt;exact At.r 3
   ·refine At.i hT 9 aJ.enc λe4=>?_;refine At.D 3 [] ?_;refine DD.b 1 (λe _=>bF hT (k:=3) 7 [0] 0 e) λu5=>?_;refine DD.l hT 0 aB.enc aB.enc 1 λe6=>?_;refine DD.b 1 (λe _=>bF hT (k:=3) 7 [0] 0 e) λu7=>?_;refine DD.l hT 0 aB.enc aB.enc 1 λe8=>?_;refine DD.y 0 tT λr9=>?_;refine DD.b 1 (λe _=>bF hT (k:=3) 7 [0] 0 e) λu10=>?_;refine DD.l hT 0 aB.enc aB.enc 1 λe11=>?_;refine DD.b 1 (λe _=>bF hT (k:=3) 7 [0] 0 e) λu12=>?_;refine DD.l hT 0 aB.enc aB.enc 1 λe13=>?_;refine DD.y 0 tT λr14=>?_;refine DD.y 0 aA4 λr15=>?_;refine DD.y 0 mB λr16=>?_;refine De 2 ?_;refine At.J 0 0 [0,2,6,7] 9 (λp17=>([],[(5,.var (bE.enc p17))],[])) (λp17=>?_) λp17=>?_
    ·refine At.D 0 [] ?_;refine DD.y 12 aGQ λr18=>?_;refine DD.y 6 aB8 λr19=>?_;refine DD.i hT 10 aN.enc λe20=>?_;refine DD.s hT 7 ?_ ?_
     ·apply lx;intro x21;refine De 7 ?_;apply rt;exact At.jn 0
     ·refine De 7 ?_;apply rt;exact At.jn 0
    ·refine At.J 1 1 [0,2,6,7] 9 (λp22=>([(9,(eL 2 aC.enc p22.2))],[(1,.var (.st 38 [(aE.enc a7),(aG.enc a8),(.ifc 112 (.ref 3 [] 0)),(eO 4 1 (eL 2 aC.enc) b4),(aA.enc a9),(.st 3 [(j64 a10.gN),(j64 p22.1),(j64 (I64 (a10.gF+1)))])]))],[])) (λp22=>?_) λp22=>?_
     ·refine At.c 3 ?_ ?_
      ·refine At.D 0 [] ?_;refine DD.i hT 9 (eL 2 aC.enc) λe23=>?_;refine De 2 ?_;refine At.c 9 ?_ ?_
       ·apply rt;exact At.jn 13
       ·apply rt;exact At.jn 0
      ·apply rt;exact At.jn 0
     ·refine At.D 0 [] ?_;refine DD.y 11 aCu λr24=>?_;refine De 2 ?_;refine At.J 0 1 [2] 9 (λp25=>([],[(0,.var (.st 26 [(aP.enc a1),(.ref 1 [] 0),(.ref 2 [] 0),(aA.enc a2),(aA.enc a3),(j64 a4),(eB a5),(aH.enc p25)]))],[])) (λp25=>?_) λp25=>?_
      ·apply lx;intro x26;refine At.c 12 ?_ ?_
       ·refine At.D 0 [] ?_;refine DD.y 3 sJ λr27=>?_;refine DD.y 5 sJ λr28=>?_;refine DD.y 0 aDG λr29=>?_;refine DD.y 0 aCY λr30=>?_;refine De 8 ?_;refine At.c 2 ?_ ?_
        ·apply rt;exact At.jn 5
        ·apply rt;exact At.jn 0
       ·apply rt;exact At.jn 0
      ·apply rt;exact At.r 3
def jH(N:Nat)(b4:(List (List aC)))(a1:(List aA))(a2:aP)(a3 a4:aA)(a5:Int)(a6:Bool)(a7:aH)(a8:aE)(a9:aG)(a10:aA)(a11:aF)(a12:aD)(a13:aK):Option (aA):=
 cond (!a6) (
  aa (nL 24 (([a3]:List aA)) a1) λz1=>
  aa (jY N z1) λr2=>
  aa (lW N ([a4,r2])) λr3=>
  some r3) (
  some a4)
theorem rM{N b4 a1 a2 a3 a4 a5 a6 a7 a8 a9 a10 a11 a12 a13 r}(h:jH N b4 a1 a2 a3 a4 a5 a6 a7 a8 a9 a10 a11 a12 a13=some r):FnM Tryz.prog 87 [.var (.st 26 [(aP.enc a2),(.ref 1 [] 0),(.ref 2 [] 0),(aA.enc a3),(aA.enc a4),(j64 a5),(eB a6),(aH.enc a7)]),.var (.st 38 [(aE.enc a8),(aG.enc a9),(.ifc 112 (.ref 3 [] 0)),(eO 4 1 (eL 2 aC.enc) b4),(aA.enc a10),(aF.enc a11)]),.var (aD.enc a12),.var (aK.enc a13),.tail (b4.length*1)] [(.ref 0 [] 0),(eL 3 aA.enc a1)] (.tup []) [.var (.st 26 [(aP.enc a2),(.ref 1 [] 0),(.ref 2 [] 0),(aA.enc a3),(aA.enc r),(j64 a5),(eB a6),(aH.enc a7)]),.var (.st 38 [(aE.enc a8),(aG.enc a9),(.ifc 112 (.ref 3 [] 0)),(eO 4 1 (eL 2 aC.enc) b4),(aA.enc a10),(aF.enc a11)]),.var (aD.enc a12),.var (aK.enc a13),.tail (b4.length*1)]:=by
 refine Af bO Tryz.func87 h ?_;refine At.c 5 ?_ ?_
 ·refine At.D 0 [] ?_;refine DD.N 9 5 (λι=>(eO ι 3 aA.enc (([a3]:List aA)))) _ (λ_=>rZ hT aA.enc (k:=3) ([a3]:List aA) (by kernel_rfl) (by kernel_rfl)) ?_;refine bi λz1 hz1=>?_;refine DD.w 1 (eO 5 3 aA.enc z1) ⟨[(5,.tail (z1.length*3))],[]⟩ (λ_ e=>iI hT aA.enc (id:=5) (k:=3) hz1 (pj1 e) (pj2 e)) ?_;refine DD.y 0 rU λr2=>?_;refine DD.o 0 (λ_=>bG hT (x:=(.sl 3 2 [(aA.enc a4),(aA.enc r2)]))) ?_;refine DD.y 0 tZ λr3=>?_;refine De 3 ?_;apply rt;exact At.z 0
 ·apply rt;exact At.z 0
def eM(N:Nat)(b4:(List (List aC)))(a1:Bool)(a2:aP)(a3 a4:aA)(a5:Int)(a6:Bool)(a7:aH)(a8:aE)(a9:aG)(a10:aA)(a11:aF)(a12:aD)(a13:aK):Option (Unit):=
 some (())
theorem iS{N b4 a1 a2 a3 a4 a5 a6 a7 a8 a9 a10 a11 a12 a13 r}(h:eM N b4 a1 a2 a3 a4 a5 a6 a7 a8 a9 a10 a11 a12 a13=some r):FnM Tryz.prog 88 [.var (.st 26 [(aP.enc a2),(.ref 1 [] 0),(.ref 2 [] 0),(aA.enc a3),(aA.enc a4),(j64 a5),(eB a6),(aH.enc a7)]),.var (.st 38 [(aE.enc a8),(aG.enc a9),(.ifc 112 (.ref 3 [] 0)),(eO 4 1 (eL 2 aC.enc) b4),(aA.enc a10),(aF.enc a11)]),.var (aD.enc a12),.var (aK.enc a13),.tail (b4.length*1)] [(.ref 0 [] 0),(eB a1)] (.tup []) [.var (.st 26 [(aP.enc a2),(.ref 1 [] 0),(.ref 2 [] 0),(aA.enc a3),(aA.enc a4),(j64 a5),(eB (cond a6 true a1)),(aH.enc a7)]),.var (.st 38 [(aE.enc a8),(aG.enc a9),(.ifc 112 (.ref 3 [] 0)),(eO 4 1 (eL 2 aC.enc) b4),(aA.enc a10),(aF.enc a11)]),.var (aD.enc a12),.var (aK.enc a13),.tail (b4.length*1)]:=by
 refine Af bO Tryz.func88 h ?_;apply rt;exact At.z 11
def kZ(N:Nat)(a0 a1 a2:Int)(a3:(Vector Int 2)):Option (Int):=
 aa (idx a3.toList 0) λe1=>
 aa (kJ N a1 (I64 e1) 4294967296) λr2=>
 aa (idx a3.toList 1) λe3=>
 aa (kJ N a2 (I64 e3) 4294967296) λr4=>
 aR (I64 ((I64 (a0+r2))+r4)) λx5=>
 some x5
theorem tV{N a0 a1 a2 a3 r}(h:kZ N a0 a1 a2 a3=some r):FnM Tryz.prog 201 [] [(j64 a0),(j64 a1),(j64 a2),(.im (eA 2 1 k32 a3))] (j64 r) []:=by
 refine Af bO Tryz.func201 h ?_;refine At.D 1 [] ?_;refine DD.b 2 (λe _=>dI hT (N:=2) (k:=1) k32 a3 e) λe1=>?_;refine DD.y 2 tO λr2=>?_;refine DD.b 2 (λe _=>dI hT (N:=2) (k:=1) k32 a3 e) λe3=>?_;refine DD.y 2 tO λr4=>?_;apply lx;intro x5;refine De 2 ?_;apply rt;exact At.r 0
def aLy : Nat->Bool:=imL [2,3]
def aAq(N:Nat)(a0:aQ)(a1:(Vector Int 2)):Option (aB):=
 cond (a0.gB1 != 1) (
  some a0.gAt) (
  aa (kZ N a0.gAt.gX a0.gU.gX a0.gV.gX a1) λr1=>
  aa (kZ N a0.gAt.gY a0.gU.gY a0.gV.gY a1) λr2=>
  aa (kZ N a0.gAt.gZ a0.gU.gZ a0.gV.gZ a1) λr3=>
  some (aB.mk r1 r2 r3))
theorem aKI{N a0 a1 r}(h:aAq N a0 a1=some r):FnM Tryz.prog 182 [] [(aQ.enc a0),(eA 2 1 k32 a1)] (aB.enc r) []:=by
 refine Af aLy Tryz.func182 h ?_;refine At.c 6 ?_ ?_
 ·apply rt;exact At.r 3
 ·refine At.o 0 (pM (x:=(.fn (.func 201) [] [(.im (eA 2 1 k32 a1))])) (by kernel_rfl) (by kernel_rfl)) ?_;refine At.D 1 [] ?_;refine DD.y 10 tV λr1=>?_;refine DD.y 10 tV λr2=>?_;refine DD.y 10 tV λr3=>?_;refine De 2 ?_;apply rt;exact At.r 0
def aAB(N:Nat)(a0:Int):Option (Int):=
 aR (shr .u32 (U32 (a0*32769)) 16) λx1=>
 some x1
theorem aEE{N a0 r}(h:aAB N a0=some r):FnM Tryz.prog 184 [] [(k32 a0)] (k32 r) []:=by
 refine Af bO Tryz.func184 h ?_;apply lx;intro x1;apply rt;exact At.r 5
def rW(N:Nat)(a0:Int):Option (Int):=
 aR (I64 ((dO (I64 a0) 32768) - 16384)) λx1=>
 some x1
theorem aCt{N a0 r}(h:rW N a0=some r):FnM Tryz.prog 202 [] [(k32 a0)] (j64 r) []:=by
 refine Af bO Tryz.func202 h ?_;apply lx;intro x1;apply rt;exact At.r 6
def oQ(N:Nat)(a0:Int):Option (Int):=
 cond (decide (a0 < 0)) (some (I64 (0 - a0))) (some a0)
theorem wA{N a0 r}(h:oQ N a0=some r):FnM Tryz.prog 203 [] [(j64 a0)] (j64 r) []:=by
 refine Af bO Tryz.func203 h ?_;refine At.c 3 ?_ ?_
 ·apply rt;exact At.r 3
 ·apply rt;exact At.r 2
def vY(N:Nat)(a0 a1:Int):Option (Int):=
 cond (decide (a1 < 0)) (some (I64 (0 - a0))) (some a0)
theorem aEX{N a0 a1 r}(h:vY N a0 a1=some r):FnM Tryz.prog 211 [] [(j64 a0),(j64 a1)] (j64 r) []:=by
 refine Af bO Tryz.func211 h ?_;refine At.c 3 ?_ ?_
 ·apply rt;exact At.r 3
 ·apply rt;exact At.r 2
def aCL(N:Nat)(a0 a1:Int):Option (Int×Int):=
 aa (oQ N a1) λr1=>
 aa (vY N (I64 (16384 - r1)) a0) λr2=>
 aa (oQ N a0) λr3=>
 aa (vY N (I64 (16384 - r3)) a1) λr4=>
 some ((r2,r4))
theorem aMW{N a0 a1 r}(h:aCL N a0 a1=some r):FnM Tryz.prog 204 [] [(j64 a0),(j64 a1)] (.tup [(j64 r.1),(j64 r.2)]) []:=by
 refine Af bO Tryz.func204 h ?_;refine At.y 5 wA λr1=>?_;refine At.y 2 aEX λr2=>?_;refine At.y 2 wA λr3=>?_;refine At.y 2 aEX λr4=>?_;apply rt;exact At.r 2
def aAD(N:Nat)(a0:Int):Option (aB):=
 aa (rW N (shr .u32 a0 16)) λr1=>
 aa (rW N (kB .u32 a0 65535)) λr2=>
 aa (oQ N r1) λr3=>
 aa (oQ N r2) λr4=>
 aR (I64 ((I64 (16384 - r3)) - r4)) λx5=>
 aa (cond (decide (x5 < 0)) (
  aa (aCL N r1 r2) λr7=>
  some ((r7.1,r7.2))) (
  some ((r1,r2)))) λp6=>
 some (aB.mk p6.1 p6.2 x5)
theorem aJM{N a0 r}(h:aAD N a0=some r):FnM Tryz.prog 185 [] [(k32 a0)] (aB.enc r) []:=by
 refine Af bO Tryz.func185 h ?_;refine At.y 5 aCt λr1=>?_;refine At.y 3 aCt λr2=>?_;refine At.y 3 wA λr3=>?_;refine At.y 2 wA λr4=>?_;apply lx;intro x5;refine At.J 2 1 [2,6] 1 (λp6=>([(4,(j64 p6.1)),(5,(j64 p6.2))],[],[])) (λp6=>?_) λp6=>?_
 ·refine At.c 2 ?_ ?_
  ·refine At.y 2 aMW λr7=>?_;apply rt;exact At.jn 5
  ·apply rt;exact At.jn 0
 ·apply rt;exact At.r 5
def wV(N:Nat)(a0:Int):Option (aB):=
 aa (aAB N (shr .u32 a0 16)) λr1=>
 aa (aAB N (kB .u32 a0 65535)) λr2=>
 aR (bor .u32 (shl .u32 r1 16) r2) λx3=>
 aa (aAD N x3) λr4=>
 some r4
theorem aDX{N a0 r}(h:wV N a0=some r):FnM Tryz.prog 137 [] [(k32 a0)] (aB.enc r) []:=by
 refine Af bO Tryz.func137 h ?_;refine At.y 5 aEE λr1=>?_;refine At.y 4 aEE λr2=>?_;apply lx;intro x3;refine At.y 1 aJM λr4=>?_;apply rt;exact At.r 1
def aG6 : Nat->Bool:=imL [3,4,5]
def uW(N:Nat)(a0:wN)(a1:aB)(a2:aA):Option (aB×Int):=
 aa (iQ N a0.gE0) λr1=>
 aa (uH N a2 r1) λr2=>
 cond (decide (r2 < 0)) (
  aa (xF N r2) λr3=>
  aa (xF N r2) λr4=>
  aa (lC N ([r3,r4])) λr5=>
  some ((aB.mk (I64 (0 - a0.gE0.gX)) (I64 (0 - a0.gE0.gY)) (I64 (0 - a0.gE0.gZ)),r5))) (
  aa (lC N ([r2,r2])) λr6=>
  some ((a0.gE0,r6)))
theorem aFw{N a0 a1 a2 r}(h:uW N a0 a1 a2=some r):FnM Tryz.prog 250 [] [(wN.enc a0),(aB.enc a1),(aA.enc a2)] (.tup [(aB.enc r.1),(j64 r.2)]) []:=by
 refine Af aG6 Tryz.func250 h ?_;refine At.D 5 [] ?_;refine DD.y 3 mB λr1=>?_;refine DD.y 0 zD λr2=>?_;refine De 1 ?_;refine At.c 2 ?_ ?_
 ·refine At.D 0 [] ?_;refine DD.y 14 aDW λr3=>?_;refine DD.y 1 aDW λr4=>?_;refine DD.o 0 (λ_=>bG hT (x:=(.sl 1 2 [(j64 r3),(j64 r4)]))) ?_;refine DD.y 0 qA λr5=>?_;refine De 2 ?_;apply rt;exact At.r 0
 ·refine At.D 0 [] ?_;refine DD.o 4 (λ_=>bG hT (x:=(.sl 1 2 [(j64 r2),(j64 r2)]))) ?_;refine DD.y 0 qA λr6=>?_;refine De 2 ?_;apply rt;exact At.r 0
def aFn : Nat->Bool:=imL [3,4,5]
def sY(N:Nat)(a0:wU)(a1:aB)(a2:aA):Option (aB×Int):=
 aa (sK N a0.gF4 a1) λr1=>
 aa (iQ N r1) λr2=>
 aa (uH N a2 r2) λr3=>
 aR (aB.eq r1 (aB.mk 0 0 0)) λx4=>
 aR (cond x4 true (decide (r3<=0))) λx5=>
 cond x5 (
  some ((aB.mk 0 0 0,0))) (
  aa (zN N r1 r1) λr6=>
  aa (kJ N r3 1048576 r6) λr7=>
  some ((r1,r7)))
theorem aFi{N a0 a1 a2 r}(h:sY N a0 a1 a2=some r):FnM Tryz.prog 249 [] [(wU.enc a0),(aB.enc a1),(aA.enc a2)] (.tup [(aB.enc r.1),(j64 r.2)]) []:=by
 refine Af aFn Tryz.func249 h ?_;refine At.y 8 tT λr1=>?_;refine At.D 1 [] ?_;refine DD.y 2 mB λr2=>?_;refine DD.y 0 zD λr3=>?_;refine De 1 ?_;refine At.o 2 (aDN aC8 (r1:aB) (aB.mk 0 0 0:aB) (by kernel_rfl) (by kernel_rfl) (λ_=>rfl) (λ_=>rfl) (by kernel_rfl) (by kernel_rfl)) ?_;apply lx;intro x4;apply lx;intro x5;refine At.c 4 ?_ ?_
 ·apply rt;exact At.r 3
 ·refine At.D 0 [] ?_;refine DD.y 4 aBc λr6=>?_;refine DD.y 0 tO λr7=>?_;refine De 2 ?_;apply rt;exact At.r 0
def aKM : Nat->Bool:=imL [4,5,6,7]
def sF(N:Nat)(a0:aQ)(a1:aB)(a2:aA)(a3:(Vector Int 2)):Option (lV):=
 aa (aa (sH N a0) λr2=>
 cond (r2 != 0) (
  some true) (
  aa (xE N a1 (aB.mk 1 0 0)) λr3=>
  some (!r3))) λp1=>
 cond p1 (
  some (lV.mk (aB.mk 0 0 0) false true (aA.mk 0 0 0))) (
  aa (aAq N a0 a3) λr4=>
  cond (a0.gB1==2) (
   aa (idx a3.toList 0) λe5=>
   aa (wV N e5) λr6=>
   aa (uW N (wN.mk r6) a1 a2) λr7=>
   cond (r7.2==0) (
    some (lV.mk (aB.mk 0 0 0) false true (aA.mk 0 0 0))) (
    aa (sI N a0) λr8=>
    aa (fX N r8 r7.2) λr9=>
    some (lV.mk r7.1 true false r9))) (
   aa (sY N (wU.mk r4) a1 a2) λr10=>
   cond (aB.eq r10.1 (aB.mk 0 0 0)) (
    some (lV.mk (aB.mk 0 0 0) false true (aA.mk 0 0 0))) (
    aa (sI N a0) λr11=>
    aa (fX N r11 r10.2) λr12=>
    some (lV.mk r10.1 false false r12))))
theorem aEY{N a0 a1 a2 a3 r}(h:sF N a0 a1 a2 a3=some r):FnM Tryz.prog 134 [] [(aQ.enc a0),(aB.enc a1),(aA.enc a2),(eA 2 1 k32 a3)] (lV.enc r) []:=by
 refine Af aKM Tryz.func134 h ?_;refine At.J 8 0 [4,5,6,7,8,9] 2 (λp1=>([(24,(eB p1))],[],[])) (λp1=>?_) λp1=>?_
 ·refine At.y 1 aEA λr2=>?_;refine At.s 19 2 ?_ ?_
  ·refine At.g [19] 5 ?_;apply rt;exact At.jn 0
  ·refine At.g [19] 2 ?_;refine At.y 0 aBQ λr3=>?_;refine At.g [19] 2 ?_;apply rt;exact At.jn 0
 ·refine At.c 0 ?_ ?_
  ·apply rt;exact At.r 2
  ·refine At.y 2 aKI λr4=>?_;refine At.o 1 (aEd hT (t:=317) (x:=(.st 3 [(aB.enc r4)])) (by kernel_rfl) (by kernel_rfl)) ?_;refine At.c 4 ?_ ?_
   ·refine At.b 0 (λ_ e=>dI hT (N:=2) (k:=1) k32 a3 e) λe5=>?_;refine At.y 1 aDX λr6=>?_;refine At.o 1 (aEd hT (t:=321) (x:=(.st 3 [(aB.enc r6)])) (by kernel_rfl) (by kernel_rfl)) ?_;refine At.y 4 aFw λr7=>?_;refine At.o 7 (aPh hT (t:=321) (u:=321) (x:=(.st 3 [(aB.enc r6)])) (y:=(.tup [(.st 3 [(aB.enc r6)]),(eB true)])) (by kernel_rfl) (by kernel_rfl)) ?_;refine At.c 10 ?_ ?_
    ·apply rt;exact At.r 2
    ·refine At.D 0 [] ?_;refine DD.y 2 aBb λr8=>?_;refine DD.y 1 jR λr9=>?_;refine De 2 ?_;apply rt;exact At.r 0
   ·refine At.y 3 aFi λr10=>?_;refine At.o 7 (aPh hT (t:=317) (u:=321) (x:=(.st 3 [(aB.enc r4)])) (y:=(.tup [(.st 3 [(.st 3 [(j64 0),(j64 0),(j64 0)])]),(eB false)])) (by kernel_rfl) (by kernel_rfl)) ?_;refine At.o 10 (aDN aC8 (r10.1:aB) (aB.mk 0 0 0:aB) (by kernel_rfl) (by kernel_rfl) (λ_=>rfl) (λ_=>rfl) (by kernel_rfl) (by kernel_rfl)) ?_;refine At.c 0 ?_ ?_
    ·apply rt;exact At.r 2
    ·refine At.D 0 [] ?_;refine DD.y 2 aBb λr11=>?_;refine DD.y 1 jR λr12=>?_;refine De 2 ?_;apply rt;exact At.r 0
def aCV : Nat->Bool:=imL [7,8]
def cY(N:Nat)(a5:aK)(a0 a1:aB)(a2 a3:Int)(a4:Bool):Nat->aK->Bool->Int->Option (aK×Bool)
 | 0,_,_,_=>none
 | k+1,s3,s4,s5=>
  aR (decide (s5 < ((a5.gl.length:Int)))) λx6=>
  cond x6 (
   aa (eW N a0 a1 a2 a3 s5 s3) λr7=>
   cond r7.2 (
    aR (decide (r7.1.gC3 < r7.1.gC0)) λx8=>
    aR (cond (cond (!a4) true x8) true s4) λx9=>
    cY N a5 a0 a1 a2 a3 a4 k (aK.mk (fD.mk (I64 (s3.gD8.gn+1))) s3.gA s3.gl) x9 (I64 (s5+1))) (
    cY N a5 a0 a1 a2 a3 a4 k (aK.mk (fD.mk (I64 (s3.gD8.gn+1))) s3.gA s3.gl) s4 (I64 (s5+1)))) (
   some ((s3,s4)))
def jK(N:Nat)(a0 a1:aB)(a2 a3:Int)(a4:Bool)(a5:aK):Option (aK×Bool):=
 aa (jW N a5) λr1=>
 cond r1 (
  some ((a5,false))) (
  aa (cY N a5 a0 a1 a2 a3 a4 N a5 false 0) λp2=>
  some ((p2.1,p2.2)))
theorem vB{N a0 a1 a2 a3 a4 a5 r}(h:jK N a0 a1 a2 a3 a4 a5=some r):FnM Tryz.prog 230 [.var (aK.enc a5)] [(.ref 0 [] 0),(aB.enc a0),(aB.enc a1),(k8 a2),(j64 a3),(eB a4)] (eB r.2) [.var (aK.enc r.1)]:=by
 refine Af aCV Tryz.func230 h ?_;refine At.Y 4 [0] sS λr1=>?_;refine At.c 0 ?_ ?_
 ·apply rt;exact At.r 1
 ·refine At.M 7 [] 1 (λp2=>([(13,(eB p2.2))],[(0,.var (aK.enc p2.1))],[])) [0,3,4,5,7,8,23] 1 (CU3 (cY N a5 a0 a1 a2 a3 a4)) (cu3 λ(s3:aK) (s4:Bool) (s5:Int)=>([(13,(eB s4)),(24,(j64 s5))],[(0,.var (aK.enc s3))],[])) (_,_,_) N (λp2 k=>un3 λs3 s4 s5=>?_) λp2=>?_
  ·apply lx;intro x6;refine At.c 1 ?_ ?_
   ·refine At.Y 8 [0] sW λr7=>?_;refine At.s 38 8 ?_ ?_
    ·apply lx;intro x8;apply lx;intro x9;refine At.g [38] 16 ?_;exact λh=>At.v 0 (_,_,_) h
    ·refine At.g [38,41,49] 16 ?_;exact λh=>At.v 0 (_,_,_) h
   ·apply rt;exact At.x 0
  ·apply rt;exact At.r 2
def aDl : Nat->Bool:=imL [3]
def eR(N:Nat)(x1:Int)(a8:aE)(b4:(List (List aC)))(a2:aP)(a3:aA)(a5:Int)(a6:Bool)(a7:aH)(a9:aG)(a10:aA)(a11:aF)(a1:bE):Nat->aA->aD->aK->Int->Option (aA×aD×aK)
 | 0,_,_,_,_=>none
 | k+1,s3,s4,s5,s6=>
  cond (decide (s6 < x1)) (
   aa (aa (idx a8.gI s6) λe8=>
   aR (I64 (8+(I64 (2*s6)))) λx9=>
   aa (cZ N b4 x9 a2 a3 s3 a5 a6 a7 a8 a9 a10 a11 s4 s5) λr10=>
   aR (I64 (9+(I64 (2*s6)))) λx11=>
   aa (cZ N b4 x11 a2 a3 s3 a5 a6 a7 a8 a9 a10 a11 (aD.mk r10.1 s4.gA s4.gD s4.gC s4.gE) s5) λr12=>
   aa (sF N e8 a1.gat a1.gn (#v[r10.2,r12.2])) λr13=>
   aR (cond r13.gE7 (!a9.gA5) false) λx14=>
   cond x14 (
    some ((s3,aD.mk r12.1 ((aD.mk r10.1 s4.gA s4.gD s4.gC s4.gE).gA) ((aD.mk r10.1 s4.gA s4.gD s4.gC s4.gE).gD) ((aD.mk r10.1 s4.gA s4.gD s4.gC s4.gE).gC) ((aD.mk r10.1 s4.gA s4.gD s4.gC s4.gE).gE),s5,e8,r13))) (
    aa (aa (jK N a1.gat r13.gE9 2 a1.gi (!r13.gF0) s5) λr16=>
    cond (!r16.2) (
     cond (!r13.gE7) (
      some ((r16.1,a1.gB4.gB1==0))) (
      some ((r16.1,false)))) (
     some ((r16.1,false)))) λp15=>
    cond p15.2 (
     aa (jH N b4 ([a1.gc,r13.gC4]) a2 a3 s3 a5 a6 a7 a8 a9 a10 a11 (aD.mk r12.1 ((aD.mk r10.1 s4.gA s4.gD s4.gC s4.gE).gA) ((aD.mk r10.1 s4.gA s4.gD s4.gC s4.gE).gD) ((aD.mk r10.1 s4.gA s4.gD s4.gC s4.gE).gC) ((aD.mk r10.1 s4.gA s4.gD s4.gC s4.gE).gE)) p15.1) λr17=>
     some ((r17,aD.mk r12.1 ((aD.mk r10.1 s4.gA s4.gD s4.gC s4.gE).gA) ((aD.mk r10.1 s4.gA s4.gD s4.gC s4.gE).gD) ((aD.mk r10.1 s4.gA s4.gD s4.gC s4.gE).gC) ((aD.mk r10.1 s4.gA s4.gD s4.gC s4.gE).gE),p15.1,e8,r13))) (
     some ((s3,aD.mk r12.1 ((aD.mk r10.1 s4.gA s4.gD s4.gC s4.gE).gA) ((aD.mk r10.1 s4.gA s4.gD s4.gC s4.gE).gD) ((aD.mk r10.1 s4.gA s4.gD s4.gC s4.gE).gC) ((aD.mk r10.1 s4.gA s4.gD s4.gC s4.gE).gE),p15.1,e8,r13))))) λp7=>
   eR N x1 a8 b4 a2 a3 a5 a6 a7 a9 a10 a11 a1 k p7.1 p7.2.1 p7.2.2.1 (I64 (s6+1))) (
   some ((s3,s4,s5)))
def fA(N:Nat)(r18:Int×Int)(x19:Int)(a1:bE):Nat->aK->Int->Option (aK)
 | 0,_,_=>none
 | k+1,s21,s22=>
  aR (decide (s22 < (I64 (r18.2 - x19)))) λx23=>
  cond x23 (
   aa (jK N a1.gat (aB.mk 0 0 0) 2 a1.gi false s21) λr24=>
   fA N r18 x19 a1 k r24.1 (I64 (s22+1))) (
   some s21)
def mN(N:Nat)(b4:(List (List aC)))(a1:bE)(a2:aP)(a3 a4:aA)(a5:Int)(a6:Bool)(a7:aH)(a8:aE)(a9:aG)(a10:aA)(a11:aF)(a12:aD)(a13:aK):Option (aA×aD×aK):=
 aR ((a8.gI.length:Int)) λx1=>
 aa (eR N x1 a8 b4 a2 a3 a5 a6 a7 a9 a10 a11 a1 N a4 a12 a13 0) λp2=>
 cond (!a9.gA5) (
  some ((p2.1,p2.2.1,p2.2.2))) (
  aa (lH N a9.gM) λr18=>
  aR ((a8.gI.length:Int)) λx19=>
  aa (fA N r18 x19 a1 N p2.2.2 0) λp20=>
  some ((p2.1,p2.2.1,p20)))
theorem aCS{N b4 a1 a2 a3 a4 a5 a6 a7 a8 a9 a10 a11 a12 a13 r}(h:mN N b4 a1 a2 a3 a4 a5 a6 a7 a8 a9 a10 a11 a12 a13=some r):FnM Tryz.prog 89 [.var (.st 26 [(aP.enc a2),(.ref 1 [] 0),(.ref 2 [] 0),(aA.enc a3),(aA.enc a4),(j64 a5),(eB a6),(aH.enc a7)]),.var (.st 38 [(aE.enc a8),(aG.enc a9),(.ifc 112 (.ref 3 [] 0)),(eO 4 1 (eL 2 aC.enc) b4),(aA.enc a10),(aF.enc a11)]),.var (aD.enc a12),.var (aK.enc a13),.tail (b4.length*1)] [(.ref 0 [] 0),(bE.enc a1)] (.tup []) [.var (.st 26 [(aP.enc a2),(.ref 1 [] 0),(.ref 2 [] 0),(aA.enc a3),(aA.enc r.1),(j64 a5),(eB a6),(aH.enc a7)]),.var (.st 38 [(aE.enc a8),(aG.enc a9),(.ifc 112 (.ref 3 [] 0)),(eO 4 1 (eL 2 aC.enc) b4),(aA.enc a10),(aF.enc a11)]),.var (aD.enc r.2.1),.var (aK.enc r.2.2),.tail (b4.length*1)]:=by
 refine Af aDl Tryz.func89 h ?_;apply lx;intro x1;refine At.M 11 [0,3] 5 (λp2=>([],[(0,.var (.st 26 [(aP.enc a2),(.ref 1 [] 0),(.ref 2 [] 0),(aA.enc a3),(aA.enc p2.1),(j64 a5),(eB a6),(aH.enc a7)])),(2,.var (aD.enc p2.2.1)),(3,.var (aK.enc p2.2.2))],[])) [0,3,16,17] 5 (CU4 (eR N x1 a8 b4 a2 a3 a5 a6 a7 a9 a10 a11 a1)) (cu4 λ(s3:aA) (s4:aD) (s5:aK) (s6:Int)=>([(18,(j64 s6))],[(0,.var (.st 26 [(aP.enc a2),(.ref 1 [] 0),(.ref 2 [] 0),(aA.enc a3),(aA.enc s3),(j64 a5),(eB a6),(aH.enc a7)])),(2,.var (aD.enc s4)),(3,.var (aK.enc s5))],[])) (_,_,_,_) N (λp2 k=>un4 λs3 s4 s5 s6=>?_) λp2=>?_
 ·refine At.c 1 ?_ ?_
  ·refine At.J 0 2 [0,3,16,17,18] 5 (λp7=>([],[(0,.var (.st 26 [(aP.enc a2),(.ref 1 [] 0),(.ref 2 [] 0),(aA.enc a3),(aA.enc p7.1),(j64 a5),(eB a6),(aH.enc a7)])),(2,.var (aD.enc p7.2.1)),(3,.var (aK.enc p7.2.2.1))],[.var (aQ.enc p7.2.2.2.1),.var (lV.enc p7.2.2.2.2)])) (λp7=>?_) λp7=>?_
   ·refine At.i hT 1 aQ.enc λe8=>?_;refine At.D 4 [] ?_;apply lx;intro x9;refine DD.Y 9 [0,1,2,3,4] iF λr10=>?_;apply lx;intro x11;refine DD.Y 4 [0,1,2,3,4] iF λr12=>?_;refine DD.y 1 aEY λr13=>?_;refine De 2 ?_;apply lx;intro x14;refine At.c 13 ?_ ?_
    ·apply rt;exact At.jn 0
    ·refine At.J 0 0 [0,3,6,16,17,18] 7 (λp15=>([(81,(eB p15.2))],[(3,.var (aK.enc p15.1))],[])) (λp15=>?_) λp15=>?_
     ·refine At.D 0 [] ?_;refine DD.Y 16 [3] vB λr16=>?_;refine DD.s hT 2 ?_ ?_
      ·refine DD.s hT 5 ?_ ?_
       ·refine De 5 ?_;apply rt;exact At.jn 0
       ·refine De 5 ?_;apply rt;exact At.jn 0
      ·refine De 10 ?_;apply rt;exact At.jn 0
     ·refine At.c 0 ?_ ?_
      ·refine At.o 5 (bG hT (x:=(.sl 3 2 [(aA.enc a1.gc),(aA.enc r13.gC4)]))) ?_;refine At.Y 0 [0,1,2,3,4] rM λr17=>?_;apply rt;exact At.jn 0
      ·apply rt;exact At.jn 0
   ·exact λh=>At.v 2 (_,_,_,_) h
  ·apply rt;exact At.x 0
 ·refine At.c 9 ?_ ?_
  ·apply rt;exact At.r 0
  ·refine At.y 8 uK λr18=>?_;apply lx;intro x19;refine At.M 17 [] 5 (λp20=>([],[(3,.var (aK.enc p20))],[])) [0,3,121] 5 (CU2 (fA N r18 x19 a1)) (cu2 λ(s21:aK) (s22:Int)=>([(122,(j64 s22))],[(3,.var (aK.enc s21))],[])) (_,_) N (λp20 k=>un2 λs21 s22=>?_) λp20=>?_
   ·apply lx;intro x23;refine At.c 1 ?_ ?_
    ·refine At.D 0 [] ?_;refine DD.Y 12 [3] vB λr24=>?_;refine De 0 ?_;exact λh=>At.v 2 (_,_) h
    ·apply rt;exact At.x 0
   ·apply rt;exact At.z 0
def aGA : Nat->Bool:=imL [3,4]
def tG(N:Nat)(a0 a1:aA)(a2:Int):Option (iY):=
 aa (wV N a2) λr1=>
 aa (iQ N r1) λr2=>
 aa (uH N a1 r2) λr3=>
 aa (cond (decide (r3 < 0)) (
  aa (xF N r3) λr5=>
  some ((aB.mk (I64 (0 - r1.gX)) (I64 (0 - r1.gY)) (I64 (0 - r1.gZ)),r5))) (
  some ((r1,r3)))) λp4=>
 cond (p4.2==0) (
  some (iY.mk (aB.mk 0 0 0) (aA.mk 0 0 0) true)) (
  aa (lC N ([p4.2,p4.2])) λr6=>
  aa (fX N a0 r6) λr7=>
  some (iY.mk p4.1 r7 false))
theorem aFS{N a0 a1 a2 r}(h:tG N a0 a1 a2=some r):FnM Tryz.prog 135 [] [(aA.enc a0),(aA.enc a1),(k32 a2)] (iY.enc r) []:=by
 refine Af aGA Tryz.func135 h ?_;refine At.y 4 aDX λr1=>?_;refine At.D 2 [] ?_;refine DD.y 2 mB λr2=>?_;refine DD.y 0 zD λr3=>?_;refine De 1 ?_;refine At.J 0 1 [3,6,7] 2 (λp4=>([(8,(j64 p4.2))],[(1,.var (aB.enc p4.1))],[])) (λp4=>?_) λp4=>?_
 ·refine At.c 2 ?_ ?_
  ·refine At.D 0 [] ?_;refine DD.y 11 aDW λr5=>?_;refine De 2 ?_;apply rt;exact At.jn 0
  ·apply rt;exact At.jn 0
 ·refine At.c 2 ?_ ?_
  ·apply rt;exact At.r 2
  ·refine At.D 0 [] ?_;refine DD.o 4 (λ_=>bG hT (x:=(.sl 1 2 [(j64 p4.2),(j64 p4.2)]))) ?_;refine DD.y 0 qA λr6=>?_;refine DD.y 0 jR λr7=>?_;refine De 2 ?_;apply rt;exact At.r 0
def aGy : Nat->Bool:=imL [2,3]
def oI(N:Nat)(a0:aA)(a1:aB):Option (aA):=
 aa (iQ N a1) λr1=>
 aa (uH N a0 r1) λr2=>
 aa (lC N ([r2,r2])) λr3=>
 aa (fX N a0 r3) λr4=>
 aa (zJ N r1 r4) λr5=>
 some r5
theorem xX{N a0 a1 r}(h:oI N a0 a1=some r):FnM Tryz.prog 136 [] [(aA.enc a0),(aB.enc a1)] (aA.enc r) []:=by
 refine Af aGy Tryz.func136 h ?_;refine At.y 4 mB λr1=>?_;refine At.y 4 zD λr2=>?_;refine At.D 1 [] ?_;refine DD.o 4 (λ_=>bG hT (x:=(.sl 1 2 [(j64 r2),(j64 r2)]))) ?_;refine DD.y 0 qA λr3=>?_;refine DD.y 0 jR λr4=>?_;refine DD.y 0 aDG λr5=>?_;refine De 1 ?_;apply rt;exact At.r 0
def aH2 : Nat->Bool:=imL [2,3]
def nG(N:Nat)(a0 a1:aA):Option (iY):=
 aa (yD N a0) λr1=>
 cond (r1.2 != 0) (
  some (iY.mk (aB.mk 0 0 0) (aA.mk 0 0 0) true)) (
  some (iY.mk r1.1 a1 false))
theorem uI{N a0 a1 r}(h:nG N a0 a1=some r):FnM Tryz.prog 139 [] [(aA.enc a0),(aA.enc a1)] (iY.enc r) []:=by
 refine Af aH2 Tryz.func139 h ?_;refine At.y 4 aFD λr1=>?_;refine At.c 8 ?_ ?_
 ·apply rt;exact At.r 2
 ·apply rt;exact At.r 4
def aFm : Nat->Bool:=imL [5,6,7,8,9]
def mX(N:Nat)(a0:aN)(a1 a2:aA)(a3:aB)(a4:(Vector Int 2)):Option (iY):=
 cond (a0.gB1==0) (
  aa (idx a4.toList 0) λe1=>
  aa (tG N a1 a2 e1) λr2=>
  some r2) (
  cond (a0.gB1==2) (
   aa (iV N a0.gD5) λr3=>
   aa (iV N 65535) λr4=>
   aa (jG N r3 r4) λr5=>
   aa (oI N a2 a3) λr6=>
   aa (idx a4.toList 0) λe7=>
   aa (wV N e7) λr8=>
   aa (iQ N r8) λr9=>
   aa (fX N r9 r5) λr10=>
   aa (lW N ([r6,r10])) λr11=>
   aa (uH N a2 r11) λr12=>
   cond (decide (r12<=0)) (
    some (iY.mk (aB.mk 0 0 0) (aA.mk 0 0 0) true)) (
    aa (nG N r11 a1) λr13=>
    some r13)) (
   cond (a0.gB1==3) (
    aa (idx a4.toList 1) λe14=>
    aa (uA N e14 65536) λr15=>
    aR (decide (r15>=a0.gD5)) λx16=>
    cond x16 (
     aa (iQ N a3) λr17=>
     aa (nG N r17 a1) λr18=>
     some r18) (
     aa (oI N a2 a3) λr19=>
     aa (nG N r19 a1) λr20=>
     some r20)) (
    cond (a0.gB1==1) (
     aa (oI N a2 a3) λr21=>
     aa (nG N r21 a1) λr22=>
     some r22) (
     some (iY.mk (aB.mk 0 0 0) (aA.mk 0 0 0) true)))))
theorem aBk{N a0 a1 a2 a3 a4 r}(h:mX N a0 a1 a2 a3 a4=some r):FnM Tryz.prog 90 [] [(aN.enc a0),(aA.enc a1),(aA.enc a2),(aB.enc a3),(eA 2 1 k32 a4)] (iY.enc r) []:=by
 refine Af aFm Tryz.func90 h ?_;refine At.c 10 ?_ ?_
 ·refine At.b 2 (λ_ e=>dI hT (N:=2) (k:=1) k32 a4 e) λe1=>?_;refine At.y 1 aFS λr2=>?_;apply rt;exact At.r 1
 ·refine At.c 2 ?_ ?_
  ·refine At.y 2 iT λr3=>?_;refine At.y 0 iT λr4=>?_;refine At.y 0 lP λr5=>?_;refine At.D 1 [] ?_;refine DD.y 2 xX λr6=>?_;refine DD.b 0 (λe _=>dI hT (N:=2) (k:=1) k32 a4 e) λe7=>?_;refine DD.y 1 aDX λr8=>?_;refine DD.y 0 mB λr9=>?_;refine DD.y 1 jR λr10=>?_;refine DD.o 0 (λ_=>bG hT (x:=(.sl 3 2 [(aA.enc r6),(aA.enc r10)]))) ?_;refine DD.y 0 tZ λr11=>?_;refine De 2 ?_;refine At.y 2 zD λr12=>?_;refine At.c 1 ?_ ?_
   ·apply rt;exact At.r 2
   ·refine At.y 2 uI λr13=>?_;apply rt;exact At.r 1
  ·refine At.c 2 ?_ ?_
   ·refine At.D 0 [] ?_;refine DD.b 0 (λe _=>dI hT (N:=2) (k:=1) k32 a4 e) λe14=>?_;refine DD.y 1 aDa λr15=>?_;apply lx;intro x16;refine De 3 ?_;refine At.c 0 ?_ ?_
    ·refine At.D 0 [] ?_;refine DD.y 1 mB λr17=>?_;refine DD.y 1 uI λr18=>?_;refine De 1 ?_;apply rt;exact At.r 0
    ·refine At.D 0 [] ?_;refine DD.y 2 xX λr19=>?_;refine DD.y 1 uI λr20=>?_;refine De 1 ?_;apply rt;exact At.r 0
   ·refine At.c 2 ?_ ?_
    ·refine At.D 0 [] ?_;refine DD.y 2 xX λr21=>?_;refine DD.y 1 uI λr22=>?_;refine De 1 ?_;apply rt;exact At.r 0
    ·apply rt;exact At.r 2
def aAO(N:Nat)(a0 a1 a2:Int):Option (Int):=
 some (dO (jB a0 a1) a2)
theorem aFz{N a0 a1 a2 r}(h:aAO N a0 a1 a2=some r):FnM Tryz.prog 101 [] [(j64 a0),(j64 a1),(j64 a2)] (j64 r) []:=by
 refine Af bO Tryz.func101 h ?_;apply rt;exact At.r 7
def kA(N:Nat)(a0 a1:Int):Option (Int):=
 aa (jG N a0 a1) λr1=>
 some r1
theorem qB{N a0 a1 r}(h:kA N a0 a1=some r):FnM Tryz.prog 141 [] [(j64 a0),(.im (j64 a1))] (j64 r) []:=by
 refine Af bO Tryz.func141 h ?_;refine At.y 3 lP λr1=>?_;apply rt;exact At.r 1
def aFX : Nat->Bool:=imL [2]
def lR(N:Nat)(a0:aA)(a1:Int):Option (aA×Bool):=
 aa (aBs N a0) λr1=>
 aa (aAO N r1 268435456 4294967296) λr2=>
 aa (sN N a1) λr3=>
 cond (decide (r3>=r2)) (
  some ((aA.mk 0 0 0,false))) (
  aa (kA N a0.gX r2) λr4=>
  aa (kA N a0.gY r2) λr5=>
  aa (kA N a0.gZ r2) λr6=>
  some ((aA.mk r4 r5 r6,true)))
theorem aAi{N a0 a1 r}(h:lR N a0 a1=some r):FnM Tryz.prog 92 [] [(aA.enc a0),(k32 a1)] (.tup [(aA.enc r.1),(eB r.2)]) []:=by
 refine Af aFX Tryz.func92 h ?_;refine At.y 4 aHf λr1=>?_;refine At.y 0 aFz λr2=>?_;refine At.D 2 [] ?_;refine DD.y 1 aBt λr3=>?_;refine De 2 ?_;refine At.c 0 ?_ ?_
 ·apply rt;exact At.r 3
 ·refine At.gz 0 1 ((j64 r2)) ?_;refine At.o 0 (pM (x:=(.fn (.func 141) [] [(.im (j64 r2))])) (by kernel_rfl) (by kernel_rfl)) ?_;refine At.D 1 [] ?_;refine DD.y 3 qB λr4=>?_;refine DD.y 3 qB λr5=>?_;refine DD.y 3 qB λr6=>?_;refine De 3 ?_;apply rt;exact At.r 0
def pB(N:Nat)(b4:(List (List aC)))(a1:aP)(a2 a3:aA)(a4:Int)(a5:Bool)(a6:aH)(a7:aE)(a8:aG)(a9:aA)(a10:aF)(a11:aD)(a12:aK):Option (aP×aA×aA×Bool×aH×Int×aD×aK):=
 aa (pA N b4 a1 a2 a3 a4 a5 a6 a7 a8 a9 a10 a11 a12) λr1=>
 aa (cond (!r1.2.2.2.2) (
  aa (jH N b4 ([a9]) a1 a2 a3 a4 a5 r1.1 a7 a8 a9 (aF.mk a10.gN r1.2.1 (I64 (a10.gF+1))) a11 r1.2.2.1) λr3=>
  aa (eM N b4 true a1 a2 r3 a4 a5 r1.1 a7 a8 a9 (aF.mk a10.gN r1.2.1 (I64 (a10.gF+1))) a11 r1.2.2.1) λr4=>
  some ((r3,cond a5 true true))) (
  some ((a3,a5)))) λp2=>
 aa (eM N b4 r1.2.2.2.1.gC1 a1 a2 p2.1 a4 p2.2 r1.1 a7 a8 a9 (aF.mk a10.gN r1.2.1 (I64 (a10.gF+1))) a11 r1.2.2.1) λr5=>
 aa (aR (r1.2.2.2.1.gB4.gB1==4) λx7=>
 cond x7 (
  aa (jH N b4 ([r1.2.2.2.1.gc]) a1 a2 p2.1 a4 (cond p2.2 true r1.2.2.2.1.gC1) r1.1 a7 a8 a9 (aF.mk a10.gN r1.2.1 (I64 (a10.gF+1))) a11 r1.2.2.1) λr8=>
  aa (eM N b4 true a1 a2 r8 a4 ((cond p2.2 true r1.2.2.2.1.gC1)) r1.1 a7 a8 a9 (aF.mk a10.gN r1.2.1 (I64 (a10.gF+1))) a11 r1.2.2.1) λr9=>
  some ((r8,cond ((cond p2.2 true r1.2.2.2.1.gC1)) true true))) (
  some ((p2.1,cond p2.2 true r1.2.2.2.1.gC1)))) λp6=>
 aa (aa (cond a8.gA5 (
  some true) (
  aR (r1.2.2.2.1.gB4.gB1==0) λx12=>
  some (cond (!p6.2) x12 false))) λp11=>
 cond p11 (
  aa (mN N b4 r1.2.2.2.1 a1 a2 p6.1 a4 p6.2 r1.1 a7 a8 a9 (aF.mk a10.gN r1.2.1 (I64 (a10.gF+1))) a11 r1.2.2.1) λr13=>
  some ((r13.1,r13.2.1,r13.2.2))) (
  some ((p6.1,a11,r1.2.2.1)))) λp10=>
 aa (cond p6.2 (
  some true) (
  some (a4==a8.gK))) λp14=>
 cond p14 (
  aa (eM N b4 true a1 a2 p10.1 a4 p6.2 r1.1 a7 a8 a9 (aF.mk a10.gN r1.2.1 (I64 (a10.gF+1))) p10.2.1 p10.2.2) λr15=>
  some ((a1,a2,p10.1,cond p6.2 true true,r1.1,r1.2.1,p10.2.1,p10.2.2))) (
  aa (cZ N b4 4 a1 a2 p10.1 a4 p6.2 r1.1 a7 a8 a9 (aF.mk a10.gN r1.2.1 (I64 (a10.gF+1))) p10.2.1 p10.2.2) λr16=>
  aa (cZ N b4 5 a1 a2 p10.1 a4 p6.2 r1.1 a7 a8 a9 (aF.mk a10.gN r1.2.1 (I64 (a10.gF+1))) (aD.mk r16.1 p10.2.1.gA p10.2.1.gD p10.2.1.gC p10.2.1.gE) p10.2.2) λr17=>
  aa (mX N r1.2.2.2.1.gB4 r1.2.2.2.1.gc r1.2.2.2.1.gn a1.gd (#v[r16.2,r17.2])) λr18=>
  aa (jY N ([a2,r18.gC4])) λr19=>
  aa (eM N b4 r18.gC8 a1 r19 p10.1 a4 p6.2 r1.1 a7 a8 a9 (aF.mk a10.gN r1.2.1 (I64 (a10.gF+1))) (aD.mk r17.1 ((aD.mk r16.1 p10.2.1.gA p10.2.1.gD p10.2.1.gC p10.2.1.gE).gA) ((aD.mk r16.1 p10.2.1.gA p10.2.1.gD p10.2.1.gC p10.2.1.gE).gD) ((aD.mk r16.1 p10.2.1.gA p10.2.1.gD p10.2.1.gC p10.2.1.gE).gC) ((aD.mk r16.1 p10.2.1.gA p10.2.1.gD p10.2.1.gC p10.2.1.gE).gE)) p10.2.2) λr20=>
  aa (cond (decide (a4>=2)) (
   aa (cZ N b4 7 a1 r19 p10.1 a4 (cond p6.2 true r18.gC8) r1.1 a7 a8 a9 (aF.mk a10.gN r1.2.1 (I64 (a10.gF+1))) (aD.mk r17.1 ((aD.mk r16.1 p10.2.1.gA p10.2.1.gD p10.2.1.gC p10.2.1.gE).gA) ((aD.mk r16.1 p10.2.1.gA p10.2.1.gD p10.2.1.gC p10.2.1.gE).gD) ((aD.mk r16.1 p10.2.1.gA p10.2.1.gD p10.2.1.gC p10.2.1.gE).gC) ((aD.mk r16.1 p10.2.1.gA p10.2.1.gD p10.2.1.gC p10.2.1.gE).gE)) p10.2.2) λr22=>
   aa (lR N r19 r22.2) λr23=>
   aa (eM N b4 (!r23.2) a1 r23.1 p10.1 a4 (cond p6.2 true r18.gC8) r1.1 a7 a8 a9 (aF.mk a10.gN r1.2.1 (I64 (a10.gF+1))) (aD.mk r22.1 ((aD.mk r17.1 ((aD.mk r16.1 p10.2.1.gA p10.2.1.gD p10.2.1.gC p10.2.1.gE).gA) ((aD.mk r16.1 p10.2.1.gA p10.2.1.gD p10.2.1.gC p10.2.1.gE).gD) ((aD.mk r16.1 p10.2.1.gA p10.2.1.gD p10.2.1.gC p10.2.1.gE).gC) ((aD.mk r16.1 p10.2.1.gA p10.2.1.gD p10.2.1.gC p10.2.1.gE).gE)).gA) ((aD.mk r17.1 ((aD.mk r16.1 p10.2.1.gA p10.2.1.gD p10.2.1.gC p10.2.1.gE).gA) ((aD.mk r16.1 p10.2.1.gA p10.2.1.gD p10.2.1.gC p10.2.1.gE).gD) ((aD.mk r16.1 p10.2.1.gA p10.2.1.gD p10.2.1.gC p10.2.1.gE).gC) ((aD.mk r16.1 p10.2.1.gA p10.2.1.gD p10.2.1.gC p10.2.1.gE).gE)).gD) ((aD.mk r17.1 ((aD.mk r16.1 p10.2.1.gA p10.2.1.gD p10.2.1.gC p10.2.1.gE).gA) ((aD.mk r16.1 p10.2.1.gA p10.2.1.gD p10.2.1.gC p10.2.1.gE).gD) ((aD.mk r16.1 p10.2.1.gA p10.2.1.gD p10.2.1.gC p10.2.1.gE).gC) ((aD.mk r16.1 p10.2.1.gA p10.2.1.gD p10.2.1.gC p10.2.1.gE).gE)).gC) ((aD.mk r17.1 ((aD.mk r16.1 p10.2.1.gA p10.2.1.gD p10.2.1.gC p10.2.1.gE).gA) ((aD.mk r16.1 p10.2.1.gA p10.2.1.gD p10.2.1.gC p10.2.1.gE).gD) ((aD.mk r16.1 p10.2.1.gA p10.2.1.gD p10.2.1.gC p10.2.1.gE).gC) ((aD.mk r16.1 p10.2.1.gA p10.2.1.gD p10.2.1.gC p10.2.1.gE).gE)).gE)) p10.2.2) λr24=>
   some ((r23.1,cond (cond p6.2 true r18.gC8) true (!r23.2),aD.mk r22.1 ((aD.mk r17.1 ((aD.mk r16.1 p10.2.1.gA p10.2.1.gD p10.2.1.gC p10.2.1.gE).gA) ((aD.mk r16.1 p10.2.1.gA p10.2.1.gD p10.2.1.gC p10.2.1.gE).gD) ((aD.mk r16.1 p10.2.1.gA p10.2.1.gD p10.2.1.gC p10.2.1.gE).gC) ((aD.mk r16.1 p10.2.1.gA p10.2.1.gD p10.2.1.gC p10.2.1.gE).gE)).gA) ((aD.mk r17.1 ((aD.mk r16.1 p10.2.1.gA p10.2.1.gD p10.2.1.gC p10.2.1.gE).gA) ((aD.mk r16.1 p10.2.1.gA p10.2.1.gD p10.2.1.gC p10.2.1.gE).gD) ((aD.mk r16.1 p10.2.1.gA p10.2.1.gD p10.2.1.gC p10.2.1.gE).gC) ((aD.mk r16.1 p10.2.1.gA p10.2.1.gD p10.2.1.gC p10.2.1.gE).gE)).gD) ((aD.mk r17.1 ((aD.mk r16.1 p10.2.1.gA p10.2.1.gD p10.2.1.gC p10.2.1.gE).gA) ((aD.mk r16.1 p10.2.1.gA p10.2.1.gD p10.2.1.gC p10.2.1.gE).gD) ((aD.mk r16.1 p10.2.1.gA p10.2.1.gD p10.2.1.gC p10.2.1.gE).gC) ((aD.mk r16.1 p10.2.1.gA p10.2.1.gD p10.2.1.gC p10.2.1.gE).gE)).gC) ((aD.mk r17.1 ((aD.mk r16.1 p10.2.1.gA p10.2.1.gD p10.2.1.gC p10.2.1.gE).gA) ((aD.mk r16.1 p10.2.1.gA p10.2.1.gD p10.2.1.gC p10.2.1.gE).gD) ((aD.mk r16.1 p10.2.1.gA p10.2.1.gD p10.2.1.gC p10.2.1.gE).gC) ((aD.mk r16.1 p10.2.1.gA p10.2.1.gD p10.2.1.gC p10.2.1.gE).gE)).gE)))) (
   some ((r19,cond p6.2 true r18.gC8,aD.mk r17.1 ((aD.mk r16.1 p10.2.1.gA p10.2.1.gD p10.2.1.gC p10.2.1.gE).gA) ((aD.mk r16.1 p10.2.1.gA p10.2.1.gD p10.2.1.gC p10.2.1.gE).gD) ((aD.mk r16.1 p10.2.1.gA p10.2.1.gD p10.2.1.gC p10.2.1.gE).gC) ((aD.mk r16.1 p10.2.1.gA p10.2.1.gD p10.2.1.gC p10.2.1.gE).gE))))) λp21=>
  some ((aP.mk r1.2.2.2.1.gat r18.gF1 r1.2.2.2.1.gi,p21.1,p10.1,p21.2.1,r1.1,r1.2.1,p21.2.2,p10.2.2)))
theorem aDO{N b4 a1 a2 a3 a4 a5 a6 a7 a8 a9 a10 a11 a12 r}(h:pB N b4 a1 a2 a3 a4 a5 a6 a7 a8 a9 a10 a11 a12=some r):FnM Tryz.prog 49 [.var (.st 26 [(aP.enc a1),(.ref 1 [] 0),(.ref 2 [] 0),(aA.enc a2),(aA.enc a3),(j64 a4),(eB a5),(aH.enc a6)]),.var (.st 38 [(aE.enc a7),(aG.enc a8),(.ifc 112 (.ref 3 [] 0)),(eO 4 1 (eL 2 aC.enc) b4),(aA.enc a9),(aF.enc a10)]),.var (aD.enc a11),.var (aK.enc a12),.tail (b4.length*1)] [(.ref 0 [] 0)] (.tup []) [.var (.st 26 [(aP.enc r.1),(.ref 1 [] 0),(.ref 2 [] 0),(aA.enc r.2.1),(aA.enc r.2.2.1),(j64 a4),(eB r.2.2.2.1),(aH.enc r.2.2.2.2.1)]),.var (.st 38 [(aE.enc a7),(aG.enc a8),(.ifc 112 (.ref 3 [] 0)),(eO 4 1 (eL 2 aC.enc) b4),(aA.enc a9),(.st 3 [(j64 a10.gN),(j64 r.2.2.2.2.2.1),(j64 (I64 (a10.gF+1)))])]),.var (aD.enc r.2.2.2.2.2.2.1),.var (aK.enc r.2.2.2.2.2.2.2),.tail (b4.length*1)]:=by
 refine Af bO Tryz.func49 h ?_;refine At.Y 1 [0,1,2,3,4] aDF λr1=>?_;refine At.J 6 1 [0,2] 6 (λp2=>([],[(0,.var (.st 26 [(aP.enc a1),(.ref 1 [] 0),(.ref 2 [] 0),(aA.enc a2),(aA.enc p2.1),(j64 a4),(eB p2.2),(aH.enc r1.1)]))],[])) (λp2=>?_) λp2=>?_
 ·refine At.c 2 ?_ ?_
  ·refine At.o 8 (bG hT (x:=(.sl 3 1 [(aA.enc a9)]))) ?_;refine At.Y 0 [0,1,2,3,4] rM λr3=>?_;refine At.Y 1 [0,1,2,3,4] iS λr4=>?_;apply rt;exact At.jn 0
  ·apply rt;exact At.jn 0
 ·refine At.Y 3 [0,1,2,3,4] iS λr5=>?_;refine At.J 0 1 [0,2] 6 (λp6=>([],[(0,.var (.st 26 [(aP.enc a1),(.ref 1 [] 0),(.ref 2 [] 0),(aA.enc a2),(aA.enc p6.1),(j64 a4),(eB p6.2),(aH.enc r1.1)]))],[])) (λp6=>?_) λp6=>?_
  ·apply lx;intro x7;refine At.c 4 ?_ ?_
   ·refine At.o 3 (bG hT (x:=(.sl 3 1 [(aA.enc r1.2.2.2.1.gc)]))) ?_;refine At.Y 0 [0,1,2,3,4] rM λr8=>?_;refine At.Y 1 [0,1,2,3,4] iS λr9=>?_;apply rt;exact At.jn 0
   ·apply rt;exact At.jn 0
  ·refine At.J 0 1 [0,2] 6 (λp10=>([],[(0,.var (.st 26 [(aP.enc a1),(.ref 1 [] 0),(.ref 2 [] 0),(aA.enc a2),(aA.enc p10.1),(j64 a4),(eB p6.2),(aH.enc r1.1)])),(2,.var (aD.enc p10.2.1)),(3,.var (aK.enc p10.2.2))],[])) (λp10=>?_) λp10=>?_
   ·refine At.J 0 0 [0,2] 6 (λp11=>([(61,(eB p11))],[],[])) (λp11=>?_) λp11=>?_
    ·refine At.s 49 9 ?_ ?_
     ·refine At.g [49,55] 12 ?_;apply rt;exact At.jn 0
     ·apply lx;intro x12;refine At.g [49] 12 ?_;apply rt;exact At.jn 0
    ·refine At.c 0 ?_ ?_
     ·refine At.Y 2 [0,1,2,3,4] aCS λr13=>?_;apply rt;exact At.jn 0
     ·apply rt;exact At.jn 0
   ·refine At.J 0 0 [0,2] 6 (λp14=>([(83,(eB p14))],[],[])) (λp14=>?_) λp14=>?_
    ·refine At.D 0 [] ?_;refine DD.s hT 5 ?_ ?_
     ·refine De 14 ?_;apply rt;exact At.jn 0
     ·refine De 14 ?_;apply rt;exact At.jn 0
    ·refine At.c 0 ?_ ?_
     ·refine At.Y 1 [0,1,2,3,4] iS λr15=>?_;apply rt;exact At.r 0
     ·refine At.D 0 [] ?_;refine DD.Y 12 [0,1,2,3,4] iF λr16=>?_;refine DD.Y 1 [0,1,2,3,4] iF λr17=>?_;refine DD.y 1 aBk λr18=>?_;refine De 2 ?_;refine At.D 0 [] ?_;refine DD.o 7 (λ_=>bG hT (x:=(.sl 3 2 [(aA.enc a2),(aA.enc r18.gC4)]))) ?_;refine DD.y 0 rU λr19=>?_;refine De 3 ?_;refine At.Y 3 [0,1,2,3,4] iS λr20=>?_;refine At.J 0 1 [0,2,4] 7 (λp21=>([],[(0,.var (.st 26 [(aP.enc a1),(.ref 1 [] 0),(.ref 2 [] 0),(aA.enc p21.1),(aA.enc p10.1),(j64 a4),(eB p21.2.1),(aH.enc r1.1)])),(2,.var (aD.enc p21.2.2))],[])) (λp21=>?_) λp21=>?_
      ·refine At.c 5 ?_ ?_
       ·refine At.D 0 [] ?_;refine DD.Y 5 [0,1,2,3,4] iF λr22=>?_;refine DD.y 0 aAi λr23=>?_;refine De 6 ?_;refine At.Y 8 [0,1,2,3,4] iS λr24=>?_;apply rt;exact At.jn 0
       ·apply rt;exact At.jn 0
      ·apply rt;exact At.z 11
def fH(N:Nat)(b2:(List (List aC)))(a4:aE)(a5:aG)(a6:aA)(a7:aF)(a8:aK):Nat->aD->(Vector Int 4)->Int->Option (aD×(Vector Int 4))
 | 0,_,_,_=>none
 | k+1,s9,s10,s11=>
  cond (decide (s11 < 4)) (
   aa (cZ N b2 s11 (aP.mk (aB.mk 0 0 0) (aB.mk 0 0 0) 0) (aA.mk 4294967296 4294967296 4294967296) (aA.mk 0 0 0) 0 false (aH.mk (aA.mk 0 0 0) 0 0 (aA.mk 0 0 0) (-1)) a4 a5 a6 a7 s9 a8) λr12=>
   aa (dS s11 4) λ_=>
   aa (s10.toList[s11.toNat]?) λe14=>
   fH N b2 a4 a5 a6 a7 a8 k (aD.mk r12.1 s9.gA s9.gD s9.gC s9.gE) (s10.setIfInBounds s11.toNat r12.2) (I64 (s11+1))) (
   some ((s9,s10)))
def dM(N:Nat)(a5:aG)(b2:(List (List aC)))(a4:aE)(a6:aA):Nat->aF->aK->aD->aP->aA->aA->Int->Bool->aH->Option (aF×aK×aD×aP×aA×aA×Int×Bool×aH)
 | 0,_,_,_,_,_,_,_,_,_=>none
 | k+1,s17,s18,s19,s20,s21,s22,s23,s24,s25=>
  aa (aR (decide (s23<=a5.gK)) λx27=>
  cond x27 (
   cond (!s24) (
    some true) (
    some a5.gA5)) (
   some false)) λp26=>
  cond p26 (
   aa (pB N b2 s20 s21 s22 s23 s24 s25 a4 a5 a6 s17 s19 s18) λr28=>
   dM N a5 b2 a4 a6 k (aF.mk s17.gN r28.2.2.2.2.2.1 (I64 (s17.gF+1))) r28.2.2.2.2.2.2.2 r28.2.2.2.2.2.2.1 r28.1 r28.2.1 r28.2.2.1 (I64 (s23+1)) r28.2.2.2.1 r28.2.2.2.2.1) (
   some ((s17,s18,s19,s20,s21,s22,s23,s24,s25)))
def eX(N:Nat)(b2:(List (List aC)))(a1 a2 a3:Int)(a4:aE)(a5:aG)(a6:aA)(a7:aF)(a8:aK):Option (aF×aK×aH×Int):=
 aR (cond (decide (a1 < 0)) true (decide (a1>=a5.gW))) λx1=>
 aR (cond x1 true (decide (a2 < 0))) λx2=>
 aR (cond x2 true (decide (a2>=a5.gH))) λx3=>
 aR (cond x3 true (decide (a3 < 0))) λx4=>
 aR (decide (a3>=a5.gA8)) λx5=>
 cond (cond x4 true x5) (
  some ((a7,a8,aH.mk (aA.mk 0 0 0) 0 0 (aA.mk 0 0 0) 0,2))) (
  aR (I64 ((I64 (a2*a5.gW))+a1)) λx6=>
  aa (yP N a5.gD6 x6 a3) λr7=>
  aa (fH N b2 a4 a5 a6 a7 a8 N (aD.mk (dN.mk (bV.mk 0 0 0) false (Vector.replicate 64 0)) true a5.gD6 x6 a3) (#v[0,0,0,0]) 0) λp8=>
  aa (yZ N a5.gD7 a5.gW a5.gH a1 a2 p8.2) λr15=>
  aa (dM N a5 b2 a4 a6 N a7 a8 p8.1 (aP.mk r15.1 r15.2.1 (-1)) (aA.mk 4294967296 4294967296 4294967296) (aA.mk 0 0 0) 0 false (aH.mk (aA.mk 0 0 0) 0 0 (aA.mk 0 0 0) (-1))) λp16=>
  some ((p16.1,p16.2.1,aH.mk p16.2.2.2.2.2.1 p16.2.2.2.2.2.2.2.2.gT p16.2.2.2.2.2.2.2.2.gK p16.2.2.2.2.2.2.2.2.gB5 p16.2.2.2.2.2.2.2.2.gA3,0)))
theorem tE{N b2 a1 a2 a3 a4 a5 a6 a7 a8 r}(h:eX N b2 a1 a2 a3 a4 a5 a6 a7 a8=some r):FnM Tryz.prog 23 [.var (.st 38 [(aE.enc a4),(aG.enc a5),(.ifc 112 (.ref 1 [] 0)),(eO 2 1 (eL 2 aC.enc) b2),(aA.enc a6),(aF.enc a7)]),.var (aK.enc a8),.tail (b2.length*1)] [(.ref 0 [] 0),(j64 a1),(j64 a2),(j64 a3)] (.tup [(aH.enc r.2.2.1),(j64 r.2.2.2)]) [.var (.st 38 [(aE.enc a4),(aG.enc a5),(.ifc 112 (.ref 1 [] 0)),(eO 2 1 (eL 2 aC.enc) b2),(aA.enc a6),(aF.enc r.1)]),.var (aK.enc r.2.1),.tail (b2.length*1)]:=by
 refine Af bO Tryz.func23 h ?_;refine At.o 3 (sZ hT (t:=64) (x:=(.ref 0 [] 0)) (b:=true) (by kernel_rfl) rfl rfl (by kernel_rfl)) ?_;refine At.g [16] 5 ?_;refine At.o 0 (aIL (t:=104) (u:=112) (x:=(.ref 1 [] 0)) (by kernel_rfl) rfl rfl .eql false (by decide) (by kernel_rfl)) ?_;apply lx;intro x1;apply lx;intro x2;apply lx;intro x3;apply lx;intro x4;apply lx;intro x5;refine At.g [16] 41 ?_;refine At.c 0 ?_ ?_
 ·apply rt;exact At.r 3
 ·refine At.D 0 [] ?_;apply lx;intro x6;refine DD.Z 16 [] 4 aFG λr7=>?_;refine De 5 ?_;refine At.M 2 [0,1,2,8,10,11] 7 (λp8=>([],[(4,.var (aD.enc p8.1)),(6,.var (eA 4 1 k32 p8.2))],[])) [0,1,2,8,10,11] 7 (CU3 (fH N b2 a4 a5 a6 a7 a8)) (cu3 λ(s9:aD) (s10:(Vector Int 4)) (s11:Int)=>([(84,(j64 s11))],[(4,.var (aD.enc s9)),(6,.var (eA 4 1 k32 s10))],[])) (_,_,_) N (λp8 k=>un3 λs9 s10 s11=>?_) λp8=>?_
  ·refine At.c 1 ?_ ?_
   ·refine At.Y 5 [5,0,4,1,2] iF λr12=>?_;refine At.b 0 (λ_ e=>bF hT (k:=1) 6 [] 0 e) λu13=>?_;refine At.b 0 (λ_ e=>oX hT k32 0 s10 e r12.2 (by kernel_rfl) (by kernel_rfl) (H':=[.var (.st 38 [(aE.enc a4),(aG.enc a5),(.ifc 112 (.ref 1 [] 0)),(eO 2 1 (eL 2 aC.enc) b2),(aA.enc a6),(aF.enc a7)]),.var (aK.enc a8),.tail (b2.length*1),.var cv_2,.var (.st 72 [(dN.enc r12.1),(eB s9.gA),(k64 s9.gD),(j64 s9.gC),(j64 s9.gE)]),.var cv_3,.var (eA 4 1 k32 (s10.setIfInBounds s11.toNat r12.2))])) λe14=>?_;exact λh=>At.v 2 (_,_,_) h
   ·apply rt;exact At.x 0
  ·refine At.D 5 [] ?_;refine DD.y 20 aHh λr15=>?_;refine De 12 ?_;refine At.M 0 [8,10] 7 (λp16=>([],[(0,.var (.st 38 [(aE.enc a4),(aG.enc a5),(.ifc 112 (.ref 1 [] 0)),(eO 2 1 (eL 2 aC.enc) b2),(aA.enc a6),(aF.enc p16.1)])),(1,.var (aK.enc p16.2.1)),(4,.var (aD.enc p16.2.2.1)),(5,.var (.st 26 [(aP.enc p16.2.2.2.1),(.ref 0 [] 0),(.ref 4 [] 0),(aA.enc p16.2.2.2.2.1),(aA.enc p16.2.2.2.2.2.1),(j64 p16.2.2.2.2.2.2.1),(eB p16.2.2.2.2.2.2.2.1),(aH.enc p16.2.2.2.2.2.2.2.2)]))],[])) [0,8,10] 7 (CU9 (dM N a5 b2 a4 a6)) (cu9 λ(s17:aF) (s18:aK) (s19:aD) (s20:aP) (s21:aA) (s22:aA) (s23:Int) (s24:Bool) (s25:aH)=>([],[(0,.var (.st 38 [(aE.enc a4),(aG.enc a5),(.ifc 112 (.ref 1 [] 0)),(eO 2 1 (eL 2 aC.enc) b2),(aA.enc a6),(aF.enc s17)])),(1,.var (aK.enc s18)),(4,.var (aD.enc s19)),(5,.var (.st 26 [(aP.enc s20),(.ref 0 [] 0),(.ref 4 [] 0),(aA.enc s21),(aA.enc s22),(j64 s23),(eB s24),(aH.enc s25)]))],[])) (_,_,_,_,_,_,_,_,_) N (λp16 k=>un9 λs17 s18 s19 s20 s21 s22 s23 s24 s25=>?_) λp16=>?_
   ·refine At.J 0 0 [0,8,10] 7 (λp26=>([(151,(eB p26))],[],[])) (λp26=>?_) λp26=>?_
    ·refine At.D 0 [] ?_;apply lx;intro x27;refine DD.s hT 11 ?_ ?_
     ·refine DD.s hT 6 ?_ ?_
      ·refine De 7 ?_;apply rt;exact At.jn 0
      ·refine De 7 ?_;apply rt;exact At.jn 0
     ·refine De 13 ?_;apply rt;exact At.jn 0
    ·refine At.c 0 ?_ ?_
     ·refine At.Y 1 [5,0,4,1,2] aDO λr28=>?_;exact λh=>At.v 8 (_,_,_,_,_,_,_,_,_) h
     ·apply rt;exact At.x 0
   ·apply rt;exact At.r 15
def aOT : Nat->Bool:=imL [3]
def sP(N:Nat)(a0:(List aH))(a1:aE):Nat->Int->Option (Sum (Unit) (Int))
 | 0,_=>none
 | k+1,s4=>
  aR (decide (s4 < ((a0.length:Int)))) λx5=>
  cond x5 (
   aa (idx a0 s4) λe6=>
   aa (aR (decide (e6.gA3 < (-1))) λx8=>
   aR ((a1.gS.length:Int)) λx9=>
   aR (dO ((a1.gJ.length:Int)) x9) λx10=>
   aR (cond x8 true (decide (e6.gA3>=x10))) λx11=>
   cond x11 (
    some true) (
    aR (cond (e6.gT != 0) (e6.gT != 1) false) λx12=>
    some x12)) λp7=>
   cond p7 (some (Sum.inr 5)) (sP N a0 a1 k (I64 (s4+1)))) (
   some (Sum.inl (())))
def aBw(N:Nat)(a0:(List aH))(a1:aE):Option (Int):=
 aR (((a0.length:Int))==0) λx1=>
 aR (decide (((a0.length:Int)) > 16)) λx2=>
 cond (cond x1 true x2) (
  some 2) (
  aa (sP N a0 a1 N 0) λo=>kG o (λp3=>
   some 0) (λr=>some r))
theorem aNG{N a0 a1 r}(h:aBw N a0 a1=some r):FnM Tryz.prog 50 [] [(eL 9 aH.enc a0),(aE.enc a1)] (j64 r) []:=by
 refine Af aOT Tryz.func50 h ?_;apply lx;intro x1;apply lx;intro x2;refine At.c 10 ?_ ?_
 ·apply rt;exact At.r 1
 ·refine At.MS 3 [] 0 (λp3=>([],[],[])) [3,15,16] 0 (sP N a0 a1) (λ(s4:Int)=>([(17,(j64 s4))],[],[])) _ N (λop3 g3 k s4=>?_) λp3=>?_
  ·apply lx;intro x5;refine At.c 1 ?_ ?_
   ·refine At.i hT 0 aH.enc λe6=>?_;refine At.J 3 0 [3,15,16,17] 1 (λp7=>([(45,(eB p7))],[],[])) (λp7=>?_) λp7=>?_
    ·apply lx;intro x8;apply lx;intro x9;apply lx;intro x10;apply lx;intro x11;refine At.s 36 16 ?_ ?_
     ·refine At.g [36,40] 9 ?_;apply rt;exact At.jn 0
     ·apply lx;intro x12;refine At.g [36] 9 ?_;apply rt;exact At.jn 0
    ·refine At.c 0 ?_ ?_
     ·intro e;apply aBp g3 e;exact At.r 1
     ·exact λh=>At.v 2 _ h
   ·apply rt;exact At.xs 0
  ·apply rt;exact At.r 1
def xI(N:Nat)(a0:Int):Option (Int):=
 some (shr .i64 a0 32)
theorem aDC{N a0 r}(h:xI N a0=some r):FnM Tryz.prog 98 [] [(j64 a0)] (j64 r) []:=by
 refine Af bO Tryz.func98 h ?_;apply rt;exact At.r 4
def xD(N:Nat)(a0:Int):Option (Int):=
 cond (decide (a0<=0)) (
  some 0) (
  aa (lC N ([a0,4294967296])) λr1=>
  aa (jG N a0 r1) λr2=>
  aa (iV N 65535) λr3=>
  aa (aBF N ([r2,r3])) λr4=>
  aa (xI N r4) λr5=>
  some r5)
theorem aDK{N a0 r}(h:xD N a0=some r):FnM Tryz.prog 57 [] [(j64 a0)] (j64 r) []:=by
 refine Af bO Tryz.func57 h ?_;refine At.c 3 ?_ ?_
 ·apply rt;exact At.r 1
 ·refine At.o 2 (bG hT (x:=(.sl 1 2 [(j64 a0),(j64 4294967296)]))) ?_;refine At.y 0 qA λr1=>?_;refine At.y 0 lP λr2=>?_;refine At.y 0 iT λr3=>?_;refine At.o 0 (bG hT (x:=(.sl 1 2 [(j64 r2),(j64 r3)]))) ?_;refine At.y 0 aFb λr4=>?_;refine At.y 0 aDC λr5=>?_;apply rt;exact At.r 1
def aGV : Nat->Bool:=imL [2]
def tF(N:Nat)(a0:aA):Option ((Vector Int 3)):=
 aa (xD N a0.gX) λr1=>
 aa (xD N a0.gY) λr2=>
 aa (xD N a0.gZ) λr3=>
 some (#v[r1,r2,r3])
theorem aFg{N a0 r}(h:tF N a0=some r):FnM Tryz.prog 55 [] [(aA.enc a0),(.fn (.func 57) [] [])] (eA 3 1 j64 r) []:=by
 refine Af aGV Tryz.func55 h ?_;refine At.D 2 [] ?_;refine DD.y 3 aDK λr1=>?_;refine DD.y 3 aDK λr2=>?_;refine DD.y 3 aDK λr3=>?_;refine De 2 ?_;apply rt;exact At.r 0
def aIi : Nat->Bool:=imL [3,4]
def aBj(N:Nat)(a0 a1:aA):Option (aA):=
 aa (jG N a0.gX a1.gX) λr1=>
 aa (jG N a0.gY a1.gY) λr2=>
 aa (jG N a0.gZ a1.gZ) λr3=>
 some (aA.mk r1 r2 r3)
theorem aIG{N a0 a1 r}(h:aBj N a0 a1=some r):FnM Tryz.prog 93 [] [(aA.enc a0),(aA.enc a1),(.fn (.func 53) [] [])] (aA.enc r) []:=by
 refine Af aIi Tryz.func93 h ?_;refine At.D 3 [] ?_;refine DD.y 5 lP λr1=>?_;refine DD.y 5 lP λr2=>?_;refine DD.y 5 lP λr3=>?_;refine De 2 ?_;apply rt;exact At.r 0
def aOG : Nat->Bool:=imL [1]
def aDM(N:Nat)(a0:aA):Option (aA):=
 cond (aA.eq a0 (aA.mk 0 0 0)) (
  some a0) (
  aa (rN N a0) λr1=>
  aa (aBj N a0 (aA.mk r1 r1 r1)) λr2=>
  some r2)
theorem aNI{N a0 r}(h:aDM N a0=some r):FnM Tryz.prog 58 [] [(aA.enc a0)] (aA.enc r) []:=by
 refine Af aOG Tryz.func58 h ?_;refine At.o 4 (aDN aXA (a0:aA) (aA.mk 0 0 0:aA) (by kernel_rfl) (by kernel_rfl) (λ_=>rfl) (λ_=>rfl) (by kernel_rfl) (by kernel_rfl)) ?_;refine At.c 0 ?_ ?_
 ·apply rt;exact At.r 2
 ·refine At.y 1 aCY λr1=>?_;refine At.y 6 aIG λr2=>?_;apply rt;exact At.r 1
def wY(N:Nat)(a0:Int):Option (Int):=
 aa (iV N 32767) λr1=>
 aa (aAO N a0 (-4294967296) 4294967296) λr2=>
 aa (lC N ([4294967296,r2])) λr3=>
 aa (aBF N ([r1,r3])) λr4=>
 aa (xI N r4) λr5=>
 some r5
theorem aC6{N a0 r}(h:wY N a0=some r):FnM Tryz.prog 59 [] [(j64 a0)] (j64 r) []:=by
 refine Af bO Tryz.func59 h ?_;refine At.y 1 iT λr1=>?_;refine At.y 1 aFz λr2=>?_;refine At.o 0 (bG hT (x:=(.sl 1 2 [(j64 4294967296),(j64 r2)]))) ?_;refine At.y 0 qA λr3=>?_;refine At.o 0 (bG hT (x:=(.sl 1 2 [(j64 r1),(j64 r3)]))) ?_;refine At.y 0 aFb λr4=>?_;refine At.y 0 aDC λr5=>?_;apply rt;exact At.r 1
def aGk : Nat->Bool:=imL [2]
def tB(N:Nat)(a0:aA):Option ((Vector Int 3)):=
 aa (wY N a0.gX) λr1=>
 aa (wY N a0.gY) λr2=>
 aa (wY N a0.gZ) λr3=>
 some (#v[r1,r2,r3])
theorem aFU{N a0 r}(h:tB N a0=some r):FnM Tryz.prog 55 [] [(aA.enc a0),(.fn (.func 59) [] [])] (eA 3 1 j64 r) []:=by
 refine Af aGk Tryz.func55 h ?_;refine At.D 2 [] ?_;refine DD.y 3 aC6 λr1=>?_;refine DD.y 3 aC6 λr2=>?_;refine DD.y 3 aC6 λr3=>?_;refine De 2 ?_;apply rt;exact At.r 0
def aCw(N:Nat)(a0:Int):Option (Int):=
 aa (xI N a0) λr1=>
 some (dO (jB r1 0) 65535)
theorem aMu{N a0 r}(h:aCw N a0=some r):FnM Tryz.prog 60 [] [(j64 a0)] (j64 r) []:=by
 refine Af bO Tryz.func60 h ?_;refine At.y 2 aDC λr1=>?_;apply rt;exact At.r 3
def aLP : Nat->Bool:=imL [3]
def pE(N:Nat)(a0:(List aH)):Nat->aA->aA->Int->Int->Int->Int->Int->Option (aA×aA×Int×Int×Int×Int)
 | 0,_,_,_,_,_,_,_=>none
 | k+1,s3,s4,s5,s6,s7,s8,s9=>
  aR (decide (s9 < ((a0.length:Int)))) λx10=>
  cond x10 (
   aa (aa (idx a0 s9) λe12=>
   aa (lW N ([s3,e12.gA9])) λr13=>
   aa (lW N ([s4,e12.gB5])) λr14=>
   aa (lC N ([s5,e12.gK])) λr15=>
   cond (decide (e12.gA3>=0)) (
    cond (decide (s8 < 0)) (
     some ((r13,r14,e12,r15,I64 (s6+e12.gT),I64 (s7+1),e12.gA3))) (
     some ((r13,r14,e12,r15,I64 (s6+e12.gT),I64 (s7+1),s8)))) (
    some ((r13,r14,e12,r15,I64 (s6+e12.gT),s7,s8)))) λp11=>
   pE N a0 k p11.1 p11.2.1 p11.2.2.2.1 p11.2.2.2.2.1 p11.2.2.2.2.2.1 p11.2.2.2.2.2.2 (I64 (s9+1))) (
   some ((s3,s4,s5,s6,s7,s8)))
def oA(N:Nat)(a0:(List aH))(a1:aE):Option (aI×Int):=
 aa (aBw N a0 a1) λr1=>
 cond (r1 != 0) (
  some ((aI.mk 0 0 [] [] [] [] [] [],r1))) (
  aa (pE N a0 N (aA.mk 0 0 0) (aA.mk 0 0 0) 0 0 0 (-1) 0) λp2=>
  aa (iV N ((a0.length:Int))) λr16=>
  aa (jG N 4294967296 r16) λr17=>
  aa (fX N p2.1 r17) λr18=>
  aa (tF N r18) λr19=>
  aR (I64 (65535*p2.2.2.2.1)) λx20=>
  aa (aDp .i64 x20 ((a0.length:Int))) λx21=>
  aa (aDM N p2.2.1) λr22=>
  aa (tB N r22) λr23=>
  aa (aR (decide (p2.2.2.2.2.1 > 0)) λx25=>
  cond x25 (
   aa (iV N p2.2.2.2.2.1) λr26=>
   aa (jG N p2.2.2.1 r26) λr27=>
   aa (aCw N r27) λr28=>
   aa (dS 0 1) λ_=>
   aa ((([0]:List Int))[(bj 0)]?) λe30=>
   aR (dO (I64 (p2.2.2.2.2.2+1)) 65535) λx31=>
   aa (idx a1.gS p2.2.2.2.2.2) λe32=>
   aR (I64 (kB .u32 e32 65535)) λx33=>
   aa (dS 0 1) λ_=>
   aa ((([0]:List Int))[(bj 0)]?) λe35=>
   aa (dS 0 1) λ_=>
   aa ((([0]:List Int))[(bj 0)]?) λe37=>
   some (((([0]:List Int)).set ((bj 0)) r28,(([0]:List Int)).set ((bj 0)) x31,(([0]:List Int)).set ((bj 0)) x33))) (
   some ((([0]:List Int),([0]:List Int),([0]:List Int))))) λp24=>
  aa (yS p24.1 1) λ_=>
  aa (yS p24.2.1 1) λ_=>
  aa (yS p24.2.2 1) λ_=>
  some ((aI.mk 1 1 ([r19]) ([x21]) p24.1 ([r23]) p24.2.1 p24.2.2,0)))
theorem aAA{N a0 a1 r}(h:oA N a0 a1=some r):FnM Tryz.prog 24 [] [(eL 9 aH.enc a0),(aE.enc a1)] (.tup [(aI.enc r.1),(j64 r.2)]) []:=by
 refine Af aLP Tryz.func24 h ?_;refine At.y 5 aNG λr1=>?_;refine At.c 3 ?_ ?_
 ·apply rt;exact At.r 4
 ·refine At.M 9 [0,3,4,7,8] 3 (λp2=>([(9,(j64 p2.2.2.1)),(10,(j64 p2.2.2.2.1)),(11,(j64 p2.2.2.2.2.1)),(12,(j64 p2.2.2.2.2.2))],[(1,.var (aA.enc p2.1)),(2,.var (aA.enc p2.2.1))],[])) [0,3,4,7,8,24,25] 3 (CU7 (pE N a0)) (cu7 λ(s3:aA) (s4:aA) (s5:Int) (s6:Int) (s7:Int) (s8:Int) (s9:Int)=>([(9,(j64 s5)),(10,(j64 s6)),(11,(j64 s7)),(12,(j64 s8)),(26,(j64 s9))],[(1,.var (aA.enc s3)),(2,.var (aA.enc s4))],[])) (_,_,_,_,_,_,_) N (λp2 k=>un7 λs3 s4 s5 s6 s7 s8 s9=>?_) λp2=>?_
  ·apply lx;intro x10;refine At.c 1 ?_ ?_
   ·refine At.J 0 2 [0,3,4,7,8,24,25,26] 3 (λp11=>([(9,(j64 p11.2.2.2.1)),(10,(j64 p11.2.2.2.2.1)),(11,(j64 p11.2.2.2.2.2.1)),(12,(j64 p11.2.2.2.2.2.2))],[(1,.var (aA.enc p11.1)),(2,.var (aA.enc p11.2.1))],[.var (aH.enc p11.2.2.1)])) (λp11=>?_) λp11=>?_
    ·refine At.i hT 0 aH.enc λe12=>?_;refine At.D 3 [] ?_;refine DD.o 3 (λ_=>bG hT (x:=(.sl 3 2 [(aA.enc s3),(aA.enc e12.gA9)]))) ?_;refine DD.y 0 tZ λr13=>?_;refine DD.o 3 (λ_=>bG hT (x:=(.sl 3 2 [(aA.enc s4),(aA.enc e12.gB5)]))) ?_;refine DD.y 0 tZ λr14=>?_;refine DD.o 3 (λ_=>bG hT (x:=(.sl 1 2 [(j64 s5),(j64 e12.gK)]))) ?_;refine DD.y 0 qA λr15=>?_;refine De 3 ?_;refine At.c 8 ?_ ?_
     ·refine At.c 5 ?_ ?_
      ·apply rt;exact At.jn 3
      ·apply rt;exact At.jn 0
     ·apply rt;exact At.jn 0
    ·exact λh=>At.v 2 (_,_,_,_,_,_,_) h
   ·apply rt;exact At.x 0
  ·refine At.y 2 iT λr16=>?_;refine At.y 0 lP λr17=>?_;refine At.D 1 [false,false,false,false] ?_;refine DD.y 2 jR λr18=>?_;refine DD.y 0 aFg λr19=>?_;refine DD.o 0 (λ_=>bG hT (x:=(.sl 3 1 [(eA 3 1 j64 r19)]))) ?_;apply lx;intro x20;refine DD.b 4 (λe _=>yR hT e (by kernel_rfl) (by kernel_rfl)) λx21=>?_;refine DD.o 0 (λ_=>bG hT (x:=(.sl 1 1 [(j64 x21)]))) ?_;refine DD.w 0 (.bsl 3 [] 0 1 0 1) ⟨[(3,.var (.arr 1 1 (ah j64 (([0]:List Int)))))],[]⟩ (λ_ e=>dsR hT j64 (k:=1) (N:=1) ([0]:List Int) e) ?_;refine DD.y 1 aNI λr22=>?_;refine DD.y 0 aFU λr23=>?_;refine DD.o 0 (λ_=>bG hT (x:=(.sl 3 1 [(eA 3 1 j64 r23)]))) ?_;refine DD.w 0 (.bsl 4 [] 0 1 0 1) ⟨[(4,.var (.arr 1 1 (ah j64 (([0]:List Int)))))],[]⟩ (λ_ e=>dsR hT j64 (k:=1) (N:=1) ([0]:List Int) e) ?_;refine DD.w 0 (.bsl 5 [] 0 1 0 1) ⟨[(5,.var (.arr 1 1 (ah j64 (([0]:List Int)))))],[]⟩ (λ_ e=>dsR hT j64 (k:=1) (N:=1) ([0]:List Int) e) ?_;refine De 3 ?_;refine At.J 0 1 [4,16] 7 (λp24=>([],[(3,.var (.arr 1 1 (ah j64 p24.1))),(4,.var (.arr 1 1 (ah j64 p24.2.1))),(5,.var (.arr 1 1 (ah j64 p24.2.2)))],[])) (λp24=>?_) λp24=>?_
   ·apply lx;intro x25;refine At.c 2 ?_ ?_
    ·refine At.D 0 [] ?_;refine DD.y 4 iT λr26=>?_;refine DD.y 0 lP λr27=>?_;refine DD.y 0 aMu λr28=>?_;refine DD.b 0 (λe _=>aII hT 3 [] 0 0 1 (k:=1) e (by kernel_rfl) (by kernel_rfl)) λu29=>?_;refine bi λe30 he30=>?_;refine DD.w 0 (.v (.bool false)) ⟨[(3,.var (.arr 1 1 (ah j64 ((([0]:List Int)).set ((bj 0)) r28))))],[]⟩ (λ_ e=>zB (aIW hT j64 0 he30 r28 (pj1 e) (pj1 (pj2 e)) (pj1 (pj2 (pj2 e)))) (pj2 (pj2 (pj2 e)))) ?_;refine De 0 ?_;refine At.D 0 [] ?_;apply lx;intro x31;refine DD.i hT 10 k32 λe32=>?_;apply lx;intro x33;refine DD.b 3 (λe _=>aII hT 4 [] 0 0 1 (k:=1) e (by kernel_rfl) (by kernel_rfl)) λu34=>?_;refine bi λe35 he35=>?_;refine DD.w 0 (.v (.bool false)) ⟨[(4,.var (.arr 1 1 (ah j64 ((([0]:List Int)).set ((bj 0)) x31))))],[]⟩ (λ_ e=>zB (aIW hT j64 0 he35 x31 (pj1 e) (pj1 (pj2 e)) (pj1 (pj2 (pj2 e)))) (pj2 (pj2 (pj2 e)))) ?_;refine DD.b 0 (λe _=>aII hT 5 [] 0 0 1 (k:=1) e (by kernel_rfl) (by kernel_rfl)) λu36=>?_;refine bi λe37 he37=>?_;refine DD.w 0 (.v (.bool false)) ⟨[(5,.var (.arr 1 1 (ah j64 ((([0]:List Int)).set ((bj 0)) x33))))],[]⟩ (λ_ e=>zB (aIW hT j64 0 he37 x33 (pj1 e) (pj1 (pj2 e)) (pj1 (pj2 (pj2 e)))) (pj2 (pj2 (pj2 e)))) ?_;refine De 0 ?_;apply rt;exact At.jn 0
    ·apply rt;exact At.jn 0
   ·refine bi λu38 hu38=>?_;refine At.fz 3 3 1 1 _ (ah j64 p24.1) (ai _) (aOc j64 hu38) ?_;refine bi λu39 hu39=>?_;refine At.fz 0 4 1 1 _ (ah j64 p24.2.1) (ai _) (aOc j64 hu39) ?_;refine bi λu40 hu40=>?_;refine At.fz 0 5 1 1 _ (ah j64 p24.2.2) (ai _) (aOc j64 hu40) ?_;apply rt;exact At.r 0
def yV(N:Nat)(a0:aK):Option (Int):=
 aa (jW N a0) λr1=>
 cond r1 (some 0) (some a0.gD8.gn)
theorem aC5{N a0 r}(h:yV N a0=some r):FnM Tryz.prog 232 [.var (aK.enc a0)] [(.ref 0 [] 0)] (j64 r) [.var (aK.enc a0)]:=by
 refine Af bO Tryz.func232 h ?_;refine At.Y 2 [0] sS λr1=>?_;refine At.c 0 ?_ ?_
 ·apply rt;exact At.r 1
 ·apply rt;exact At.r 6
def jM(N:Nat)(b2:(List (List aC)))(a1:aE)(a2:aG)(a3:aA)(a4:aF)(a5:aK):Option (aF):=
 aa (yV N a5) λr1=>
 some (aF.mk r1 a4.gO a4.gF)
theorem vD{N b2 a1 a2 a3 a4 a5 r}(h:jM N b2 a1 a2 a3 a4 a5=some r):FnM Tryz.prog 27 [.var (.st 38 [(aE.enc a1),(aG.enc a2),(.ifc 112 (.ref 1 [] 0)),(eO 2 1 (eL 2 aC.enc) b2),(aA.enc a3),(aF.enc a4)]),.var (aK.enc a5),.tail (b2.length*1)] [(.ref 0 [] 0)] (aF.enc r) [.var (.st 38 [(aE.enc a1),(aG.enc a2),(.ifc 112 (.ref 1 [] 0)),(eO 2 1 (eL 2 aC.enc) b2),(aA.enc a3),(aF.enc a4)]),.var (aK.enc a5),.tail (b2.length*1)]:=by
 refine Af bO Tryz.func27 h ?_;refine At.o 2 (sZ hT (t:=64) (x:=(.ref 0 [] 0)) (b:=true) (by kernel_rfl) rfl rfl (by kernel_rfl)) ?_;refine At.g [6] 5 ?_;refine At.o 0 (aIL (t:=104) (u:=112) (x:=(.ref 1 [] 0)) (by kernel_rfl) rfl rfl .eql false (by decide) (by kernel_rfl)) ?_;refine At.g [6] 12 ?_;refine At.Y 0 [1] aC5 λr1=>?_;apply rt;exact At.r 4
def dY(N:Nat)(b4:(List (List aC)))(a1:Int)(a2:aP)(a3 a4:aA)(a5:Int)(a6:Bool)(a7:aH)(a8:aE)(a9:aG)(a10:aA)(a11:aF)(a12:aD)(a13:aL):Option (dN×Int):=
 aa (jP N a5 a1 a12) λr1=>
 some ((r1.1,r1.2))
theorem jE{N b4 a1 a2 a3 a4 a5 a6 a7 a8 a9 a10 a11 a12 a13 r}(h:dY N b4 a1 a2 a3 a4 a5 a6 a7 a8 a9 a10 a11 a12 a13=some r):FnM Tryz.prog 47 [.var (.st 26 [(aP.enc a2),(.ref 1 [] 0),(.ref 2 [] 0),(aA.enc a3),(aA.enc a4),(j64 a5),(eB a6),(aH.enc a7)]),.var (.st 38 [(aE.enc a8),(aG.enc a9),(.ifc 115 (.ref 3 [] 0)),(eO 4 1 (eL 2 aC.enc) b4),(aA.enc a10),(aF.enc a11)]),.var (aD.enc a12),.var (aL.enc a13),.tail (b4.length*1)] [(.ref 0 [] 0),(j64 a1)] (k32 r.2) [.var (.st 26 [(aP.enc a2),(.ref 1 [] 0),(.ref 2 [] 0),(aA.enc a3),(aA.enc a4),(j64 a5),(eB a6),(aH.enc a7)]),.var (.st 38 [(aE.enc a8),(aG.enc a9),(.ifc 115 (.ref 3 [] 0)),(eO 4 1 (eL 2 aC.enc) b4),(aA.enc a10),(aF.enc a11)]),.var (.st 72 [(dN.enc r.1),(eB a12.gA),(k64 a12.gD),(j64 a12.gC),(j64 a12.gE)]),.var (aL.enc a13),.tail (b4.length*1)]:=by
 refine Af bO Tryz.func47 h ?_;refine At.D 1 [] ?_;refine DD.Y 9 [2] vC λr1=>?_;refine De 1 ?_;apply rt;exact At.r 0
def lT(N:Nat)(a0:aL):Option (Bool):=
 some (!a0.gA)
theorem vI{N a0 r}(h:lT N a0=some r):FnM Tryz.prog 245 [.var (aL.enc a0)] [(.ref 0 [] 0)] (eB r) [.var (aL.enc a0)]:=by
 refine Af bO Tryz.func245 h ?_;refine At.o 2 (sZ hT (t:=115) (x:=(.ref 0 [] 0)) (b:=true) (by kernel_rfl) rfl rfl (by kernel_rfl)) ?_;refine At.g [5] 8 ?_;apply rt;exact At.r 0
def aGH : Nat->Bool:=imL [2,3]
def iB(N:Nat)(a0 a1:aY):Option (Bool):=
 aa (iX N a0.gn a1.gd) λr1=>
 aa (iX N a1.gn a0.gd) λr2=>
 aa (wK N r1 r2) λr3=>
 some (decide (r3 < 0))
theorem lY{N a0 a1 r}(h:iB N a0 a1=some r):FnM Tryz.prog 248 [] [(aY.enc a0),(aY.enc a1)] (eB r) []:=by
 refine Af aGH Tryz.func248 h ?_;refine At.D 3 [] ?_;refine DD.y 4 lE λr1=>?_;refine DD.y 4 lE λr2=>?_;refine DD.y 0 aB1 λr3=>?_;refine De 2 ?_;apply rt;exact At.r 0
def aM7 : Nat->Bool:=imL [4,5,6,7]
def qN(N:Nat)(a0 a1 a2 a3:aB):Nat->aY->aY->Bool->Int->Option (Sum (aY×aY×Bool) (aY×Bool))
 | 0,_,_,_,_=>none
 | k+1,s2,s3,s4,s5=>
  cond (decide (s5 < 3)) (
   aa (aa (idx (#v[#v[a0.gX,a1.gX,a2.gX,a3.gX],#v[a0.gY,a1.gY,a2.gY,a3.gY],#v[a0.gZ,a1.gZ,a2.gZ,a3.gZ]]).toList s5) λe7=>
   aa (dS 0 4) λ_=>
   aa (e7.toList[(bj 0)]?) λe9=>
   aa (dS 2 4) λ_=>
   aa (e7.toList[(bj 2)]?) λe11=>
   aa (dS 1 4) λ_=>
   aa (e7.toList[(bj 1)]?) λe13=>
   aa (dS 2 4) λ_=>
   aa (e7.toList[(bj 2)]?) λe15=>
   aa (dS 3 4) λ_=>
   aa (e7.toList[(bj 3)]?) λe17=>
   aR (decide ((I64 (e9 - e11)) > (I64 (e13 - e15)))) λx18=>
   cond x18 (
    some (Sum.inr ((s2,false)))) (
    aa (cond (e17==0) (
     aR (decide ((I64 (e9 - e11)) > 0)) λx20=>
     aR (decide ((I64 (e13 - e15)) < 0)) λx21=>
     some (cond x20 true x21)) (
     some false)) λp19=>
    cond p19 (
     some (Sum.inr ((s2,false)))) (
     cond (e17==0) (
      some (Sum.inl ((s2,s3,e7,s4)))) (
      cond (decide (e17 < 0)) (
       aR (I64 (0 - (I64 (e13 - e15)))) λx22=>
       aR (I64 (0 - (I64 (e9 - e11)))) λx23=>
       aa (aa (iB N s2 (aY.mk x22 (I64 (0 - e17)))) λr25=>
       cond r25 (some (aY.mk x22 (I64 (0 - e17)))) (some s2)) λp24=>
       aa (cond (!s4) (
        some true) (
        aa (iB N (aY.mk x23 (I64 (0 - e17))) s3) λr27=>
        some r27)) λp26=>
       cond p26 (
        some (Sum.inl ((p24,aY.mk x23 (I64 (0 - e17)),e7,true)))) (
        some (Sum.inl ((p24,s3,e7,s4))))) (
       aa (aa (iB N s2 (aY.mk (I64 (e9 - e11)) e17)) λr29=>
       cond r29 (some (aY.mk (I64 (e9 - e11)) e17)) (some s2)) λp28=>
       aa (cond (!s4) (
        some true) (
        aa (iB N (aY.mk (I64 (e13 - e15)) e17) s3) λr31=>
        some r31)) λp30=>
       cond p30 (
        some (Sum.inl ((p28,aY.mk (I64 (e13 - e15)) e17,e7,true)))) (
        some (Sum.inl ((p28,s3,e7,s4))))))))) λo=>kG o (λp6=>
    qN N a0 a1 a2 a3 k p6.1 p6.2.1 p6.2.2.2 (I64 (s5+1))) (λr=>some (Sum.inr r))) (
   some (Sum.inl ((s2,s3,s4))))
def aAP(N:Nat)(a0 a1 a2 a3:aB):Option (aY×Bool):=
 aa (qN N a0 a1 a2 a3 N (aY.mk 0 1) (aY.mk 0 0) false 0) λo=>kG o (λp1=>
  aa (cond (!p1.2.2) (
   some true) (
   aa (iB N p1.2.1 p1.1) λr33=>
   some (!r33))) λp32=>
  some ((p1.1,p32))) (λr=>some r)
theorem aFv{N a0 a1 a2 a3 r}(h:aAP N a0 a1 a2 a3=some r):FnM Tryz.prog 246 [] [(aB.enc a0),(aB.enc a1),(aB.enc a2),(aB.enc a3)] (.tup [(aY.enc r.1),(eB r.2)]) []:=by
 refine Af aM7 Tryz.func246 h ?_;refine At.MS 41 [8,10] 2 (λp1=>([(11,(eB p1.2.2))],[(0,.var (aY.enc p1.1)),(1,.var (aY.enc p1.2.1))],[])) [8,10,48] 2 (CU4 (qN N a0 a1 a2 a3)) (cu4 λ(s2:aY) (s3:aY) (s4:Bool) (s5:Int)=>([(11,(eB s4)),(49,(j64 s5))],[(0,.var (aY.enc s2)),(1,.var (aY.enc s3))],[])) (_,_,_,_) N (λop1 g1 k=>un4 λs2 s3 s4 s5=>?_) λp1=>?_
 ·refine At.c 1 ?_ ?_
  ·refine At.JS 0 2 [8,10,48,49] 2 (λp6=>([(11,(eB p6.2.2.2))],[(0,.var (aY.enc p6.1)),(1,.var (aY.enc p6.2.1))],[.var (eA 4 1 j64 p6.2.2.1)])) (λop6 g6=>?_) λp6=>?_
   ·refine At.b 0 (λ_ e=>aA2 hT (eA 4 1 j64) (#v[#v[a0.gX,a1.gX,a2.gX,a3.gX],#v[a0.gY,a1.gY,a2.gY,a3.gY],#v[a0.gZ,a1.gZ,a2.gZ,a3.gZ]]) e (by kernel_rfl) (by kernel_rfl)) λe7=>?_;refine At.D 2 [] ?_;refine DD.b 0 (λe _=>bF hT (k:=1) 2 [] 0 e) λu8=>?_;refine DD.l hT 0 j64 j64 0 λe9=>?_;refine DD.b 0 (λe _=>bF hT (k:=1) 2 [] 0 e) λu10=>?_;refine DD.l hT 0 j64 j64 0 λe11=>?_;refine DD.b 1 (λe _=>bF hT (k:=1) 2 [] 0 e) λu12=>?_;refine DD.l hT 0 j64 j64 0 λe13=>?_;refine DD.b 0 (λe _=>bF hT (k:=1) 2 [] 0 e) λu14=>?_;refine DD.l hT 0 j64 j64 0 λe15=>?_;refine DD.b 1 (λe _=>bF hT (k:=1) 2 [] 0 e) λu16=>?_;refine DD.l hT 0 j64 j64 0 λe17=>?_;refine De 3 ?_;apply lx;intro x18;refine At.c 4 ?_ ?_
    ·intro e;apply rtS2 g6 g1 e;exact At.r 3
    ·refine At.J 0 0 [8,10,11,14,15,16,48,49] 3 (λp19=>([(69,(eB p19))],[],[])) (λp19=>?_) λp19=>?_
     ·refine At.s 72 3 ?_ ?_
      ·apply lx;intro x20;apply lx;intro x21;refine At.g [72] 8 ?_;apply rt;exact At.jn 0
      ·refine At.g [72,75] 8 ?_;apply rt;exact At.jn 0
     ·refine At.c 0 ?_ ?_
      ·intro e;apply rtS2 g6 g1 e;exact At.r 3
      ·refine At.c 3 ?_ ?_
       ·apply rt;exact At.jsn 0
       ·refine At.c 3 ?_ ?_
        ·apply lx;intro x22;apply lx;intro x23;refine At.J 9 1 [8,10,11,15,16,48,49] 3 (λp24=>([],[(0,.var (aY.enc p24))],[.var (.st 2 [(j64 x22),(j64 (I64 (0 - e17)))])])) (λp24=>?_) λp24=>?_
         ·refine At.y 7 lY λr25=>?_;refine At.c 0 ?_ ?_
          ·apply rt;exact At.jn 2
          ·apply rt;exact At.jn 0
         ·refine At.J 5 0 [8,10,11,18,48,49] 5 (λp26=>([(109,(eB p26))],[],[])) (λp26=>?_) λp26=>?_
          ·refine At.s 105 3 ?_ ?_
           ·refine At.g [105] 4 ?_;apply rt;exact At.jn 0
           ·refine At.g [105] 2 ?_;refine At.y 0 lY λr27=>?_;refine At.g [105] 1 ?_;apply rt;exact At.jn 0
          ·refine At.c 0 ?_ ?_
           ·apply rt;exact At.jsn 3
           ·apply rt;exact At.jsn 0
        ·refine At.J 0 1 [8,10,11,15,16,48,49] 3 (λp28=>([],[(0,.var (aY.enc p28))],[.var (.st 2 [(j64 (I64 (e9 - e11))),(j64 e17)])])) (λp28=>?_) λp28=>?_
         ·refine At.y 7 lY λr29=>?_;refine At.c 0 ?_ ?_
          ·apply rt;exact At.jn 2
          ·apply rt;exact At.jn 0
         ·refine At.J 5 0 [8,10,11,18,48,49] 5 (λp30=>([(109,(eB p30))],[],[])) (λp30=>?_) λp30=>?_
          ·refine At.s 105 3 ?_ ?_
           ·refine At.g [105] 4 ?_;apply rt;exact At.jn 0
           ·refine At.g [105] 2 ?_;refine At.y 0 lY λr31=>?_;refine At.g [105] 1 ?_;apply rt;exact At.jn 0
          ·refine At.c 0 ?_ ?_
           ·apply rt;exact At.jsn 3
           ·apply rt;exact At.jsn 0
   ·exact λh=>At.v 2 (_,_,_,_) h
  ·apply rt;exact At.xs 0
 ·refine At.J 0 0 [8] 2 (λp32=>([(9,(eB p32))],[],[])) (λp32=>?_) λp32=>?_
  ·refine At.D 0 [] ?_;refine DD.s hT 4 ?_ ?_
   ·refine De 7 ?_;apply rt;exact At.jn 0
   ·refine DD.y 2 lY λr33=>?_;refine De 4 ?_;apply rt;exact At.jn 0
  ·apply rt;exact At.r 0
def aCO : Nat->Bool:=imL [7,8]
def dC(N:Nat)(a0 a1:aB)(a2 a3 a4:Int)(a5:aL):Option (aS×Bool):=
 aa (idx a5.gl a4) λe1=>
 aR ((kB .u8 e1.gD4 a2)==0) λx2=>
 aR (cond x2 true (a4==a3)) λx3=>
 cond x3 (
  some ((aS.mk 0 0 0 0,false))) (
  aa (idx a5.gl a4) λe4=>
  aa (aCg N a0 a1 e4.gP) λr5=>
  some ((r5.1,r5.2)))
theorem uY{N a0 a1 a2 a3 a4 a5 r}(h:dC N a0 a1 a2 a3 a4 a5=some r):FnM Tryz.prog 247 [.var (aL.enc a5)] [(.ref 0 [] 0),(aB.enc a0),(aB.enc a1),(k8 a2),(j64 a3),(j64 a4)] (.tup [(aS.enc r.1),(eB r.2)]) [.var (aL.enc a5)]:=by
 refine Af aCO Tryz.func247 h ?_;refine At.i hT 9 aJ.enc λe1=>?_;apply lx;intro x2;apply lx;intro x3;refine At.c 10 ?_ ?_
 ·apply rt;exact At.r 3
 ·refine At.D 0 [] ?_;refine DD.i hT 7 aJ.enc λe4=>?_;refine DD.y 2 aKA λr5=>?_;refine De 4 ?_;apply rt;exact At.r 0
def aBx : Nat->Bool:=imL [6,7]
def cV(N:Nat)(s23:(List Int))(a0 a1:aB)(a2 a3:Int)(a4:aL):Nat->Int->aS->Int->Int->Option (Int×aS×Int)
 | 0,_,_,_,_=>none
 | k+1,s25,s26,s27,s28=>
  aR (decide (s28 < ((s23.length:Int)))) λx29=>
  cond x29 (
   aa (aa (idx s23 s28) λe31=>
   aa (dC N a0 a1 a2 a3 e31 (aL.mk a4.gA1 a4.gA a4.gl (I64 (s25+1)))) λr32=>
   aa (cond r32.2 (
    cond (decide (s27 < 0)) (
     some true) (
     aa (zI N r32.1 s26) λr34=>
     cond r34 (
      some true) (
      cond (decide (e31 < s27)) (
       aa (zI N s26 r32.1) λr35=>
       some (!r35)) (
       some false)))) (
    some false)) λp33=>
   cond p33 (some ((r32.1,r32.1,e31))) (some ((s26,r32.1,s27)))) λp30=>
   cV N s23 a0 a1 a2 a3 a4 k (I64 (s25+1)) p30.1 p30.2.2 (I64 (s28+1))) (
   some ((s25,s26,s27)))
def cU(N:Nat)(a4:aL)(a0 a1:aB)(a2 a3:Int):Nat->(List Int)->Int->aS->Int->Nat->Option ((List Int)×Int×aS×Int)
 | 0,_,_,_,_,_=>none
 | k+1,s6,s7,s8,s9,s10=>
  aR (decide (((s10:Int)) > 0)) λx11=>
  cond x11 (
   aR (I64 (((s10:Int)) - 1)) λx12=>
   aa (aAa s6.length 0 s10 x12) λ_=>
   aa (s6[x12.toNat]?) λe14=>
   aa (idx a4.gA1.gB0 e14) λe15=>
   aR (I64 (((s10:Int)) - 1)) λx16=>
   aa (aMh s6.length 0 s10 0 x16) λ_=>
   aa (aAP N e15.gLo e15.gHi a0 a1) λr18=>
   aa (cond (!r18.2) (
    some true) (
    cond (decide (s9>=0)) (
     aa (iB N (aY.mk s8.gC3 s8.gC0) r18.1) λr20=>
     some r20) (
     some false))) λp19=>
   cond p19 (
    cU N a4 a0 a1 a2 a3 k s6 (I64 (s7+1)) s8 s9 x16.toNat) (
    cond (decide (e15.gB3>=0)) (
     aa (aOC 8 s6 x16.toNat (([e15.gB6,e15.gB3]:List Int))) λz21=>
     cU N a4 a0 a1 a2 a3 k z21 (I64 (s7+1)) s8 s9 (x16.toNat+2)) (
     aR (I64 (e15.gC7+e15.gC2)) λx22=>
     aa (xR a4.gA1.gD2 e15.gC7 x22) λs23=>
     aa (cV N s23 a0 a1 a2 a3 a4 N (I64 (s7+1)) s8 s9 0) λp24=>
     cU N a4 a0 a1 a2 a3 k s6 p24.1 p24.2.1 p24.2.2 x16.toNat))) (
   some ((s6,s7,s8,s9)))
def lL(N:Nat)(a0 a1:aB)(a2 a3:Int)(a4:aL):Option (Int×Int×aS):=
 aa (aa (lT N a4) λr2=>
 aR ((a4.gA1.gB0.length:Int)) λx3=>
 cond (cond r2 true (x3==0)) (
  some true) (
  aa (xE N a0 a1) λr4=>
  some (!r4))) λp1=>
 cond p1 (
  some ((a4.gD3,-1,aS.mk 0 0 0 0))) (
  aa (cU N a4 a0 a1 a2 a3 N (([0]:List Int)) a4.gD3 (aS.mk 0 0 0 0) (-1) ((([0]:List Int)).length)) λp5=>
  some ((p5.2.1,p5.2.2.2,p5.2.2.1)))
theorem aBo{N a0 a1 a2 a3 a4 r}(h:lL N a0 a1 a2 a3 a4=some r):FnM Tryz.prog 243 [.var (aL.enc a4)] [(.ref 0 [] 0),(aB.enc a0),(aB.enc a1),(k8 a2),(j64 a3)] (.tup [(j64 r.2.1),(aS.enc r.2.2)]) [.var (.st 5 [(bC.enc a4.gA1),(eB a4.gA),(eL 19 aJ.enc a4.gl),(j64 r.1)])]:=by
 refine Af aBx Tryz.func243 h ?_;refine At.J 5 0 [0,3,4,6,7,10,11] 2 (λp1=>([(36,(eB p1))],[],[])) (λp1=>?_) λp1=>?_
 ·refine At.Y 1 [0] vI λr2=>?_;apply lx;intro x3;refine At.s 31 10 ?_ ?_
  ·refine At.g [31] 5 ?_;apply rt;exact At.jn 0
  ·refine At.g [31] 2 ?_;refine At.y 0 aBQ λr4=>?_;refine At.g [31] 2 ?_;apply rt;exact At.jn 0
 ·refine At.c 0 ?_ ?_
  ·refine At.D 0 [] ?_;refine De 4 ?_;apply rt;exact At.r 0
  ·refine At.o 0 (aCv hT j64 (k:=1) ([0]:List Int) (by kernel_rfl) (by kernel_rfl)) ?_;refine At.gsub 1 12 ?_;refine At.M 0 [11] 3 (λp5=>([(10,(j64 p5.2.2.2))],[(0,.var (.st 5 [(bC.enc a4.gA1),(eB a4.gA),(eL 19 aJ.enc a4.gl),(j64 p5.2.1)])),(1,.var (aS.enc p5.2.2.1)),(2,.gro 1 (ah j64 p5.1))],[])) [0,3,4,6,7,11] 3 (CU5 (cU N a4 a0 a1 a2 a3)) (cu5 λ(s6:(List Int)) (s7:Int) (s8:aS) (s9:Int) (s10:Nat)=>([(10,(j64 s9)),(12,(.gro 2 1 s6.length (.sub 0 s10)))],[(0,.var (.st 5 [(bC.enc a4.gA1),(eB a4.gA),(eL 19 aJ.enc a4.gl),(j64 s7)])),(1,.var (aS.enc s8)),(2,.gro 1 (ah j64 s6))],[])) (_,_,_,_,_) N (λp5 k=>un5 λs6 s7 s8 s9 s10=>?_) λp5=>?_
   ·apply lx;intro x11;refine At.c 3 ?_ ?_
    ·refine At.D 0 [] ?_;apply lx;intro x12;refine DD.b 9 (λe _=>kT hT (id:=2) (k:=1) e (by kernel_rfl) (by kernel_rfl)) λu13=>?_;refine bi λe14 he14=>?_;refine DD.w 0 (j64 e14) ⟨[],[]⟩ (λ_ e=>zB (rL hT j64 [] he14 rfl (pj1 e) (pj1 (pj2 e))) (pj2 (pj2 e))) ?_;refine DD.i hT 0 aX.enc λe15=>?_;refine De 3 ?_;apply lx;intro x16;refine At.b 4 (λ_ e=>aIN hT (id:=2) (k:=1) (L:=s6.length) (lo0:=0) (m:=s10) e (by kernel_rfl) (by kernel_rfl)) λs17=>?_;refine At.y 15 aFv λr18=>?_;refine At.J 6 0 [0,3,4,6,7,10,11,12,13] 5 (λp19=>([(92,(eB p19))],[],[])) (λp19=>?_) λp19=>?_
     ·refine At.s 80 3 ?_ ?_
      ·refine At.g [80,83] 12 ?_;apply rt;exact At.jn 0
      ·refine At.g [80] 3 ?_;refine At.s 83 0 ?_ ?_
       ·refine At.g [83] 6 ?_;refine At.y 0 lY λr20=>?_;refine At.g [80,83] 2 ?_;apply rt;exact At.jn 0
       ·refine At.g [83,80] 9 ?_;apply rt;exact At.jn 0
     ·refine At.c 0 ?_ ?_
      ·exact λh=>At.v 0 (_,_,_,_,_) h
      ·refine At.c 3 ?_ ?_
       ·refine At.o 5 (bG hT (x:=(.sl 1 2 [(j64 e15.gB6),(j64 e15.gB3)]))) ?_;refine At.b 0 (λz21 e=>aHA hT j64 (id:=2) (k:=1) e (by kernel_rfl) (by kernel_rfl) (H':=[.var (.st 5 [(bC.enc a4.gA1),(eB a4.gA),(eL 19 aJ.enc a4.gl),(j64 (I64 (s7+1)))]),.var (aS.enc s8),.gro 1 (ah j64 z21),.var (aX.enc e15),.var (aY.enc r18.1)]) (by kernel_rfl)) λz21=>?_;exact λh=>At.v 1 (_,_,_,_,_) h
       ·refine At.D 0 [] ?_;apply lx;intro x22;refine DD.b 12 (λe _=>aA7 hT (k:=1) j64 e) λs23=>?_;refine De 2 ?_;refine At.M 0 [0,3,4,6,7,11,12] 5 (λp24=>([(10,(j64 p24.2.2))],[(0,.var (.st 5 [(bC.enc a4.gA1),(eB a4.gA),(eL 19 aJ.enc a4.gl),(j64 p24.1)])),(1,.var (aS.enc p24.2.1))],[])) [0,3,4,6,7,11,12,115,116] 5 (CU4 (cV N s23 a0 a1 a2 a3 a4)) (cu4 λ(s25:Int) (s26:aS) (s27:Int) (s28:Int)=>([(10,(j64 s27)),(117,(j64 s28))],[(0,.var (.st 5 [(bC.enc a4.gA1),(eB a4.gA),(eL 19 aJ.enc a4.gl),(j64 s25)])),(1,.var (aS.enc s26))],[])) (_,_,_,_) N (λp24 k=>un4 λs25 s26 s27 s28=>?_) λp24=>?_
        ·apply lx;intro x29;refine At.c 1 ?_ ?_
         ·refine At.J 0 2 [0,3,4,6,7,11,12,115,116,117] 5 (λp30=>([(10,(j64 p30.2.2))],[(0,.var (.st 5 [(bC.enc a4.gA1),(eB a4.gA),(eL 19 aJ.enc a4.gl),(j64 (I64 (s25+1)))])),(1,.var (aS.enc p30.1))],[.var (aS.enc p30.2.1)])) (λp30=>?_) λp30=>?_
          ·refine At.i hT 0 j64 λe31=>?_;refine At.Y 16 [0] uY λr32=>?_;refine At.J 6 0 [0,3,4,6,7,10,11,12,17,18,115,116,117] 6 (λp33=>([(158,(eB p33))],[],[])) (λp33=>?_) λp33=>?_
           ·refine At.s 139 2 ?_ ?_
            ·refine At.g [139] 3 ?_;refine At.s 142 0 ?_ ?_
             ·refine At.g [142,139,147,151] 16 ?_;apply rt;exact At.jn 0
             ·refine At.g [142] 2 ?_;refine At.y 0 aEV λr34=>?_;refine At.g [139,142] 2 ?_;refine At.s 147 0 ?_ ?_
              ·refine At.g [147,151,139] 11 ?_;apply rt;exact At.jn 0
              ·refine At.g [147] 4 ?_;refine At.s 151 0 ?_ ?_
               ·refine At.g [151] 2 ?_;refine At.y 0 aEV λr35=>?_;refine At.g [151,147,139] 4 ?_;apply rt;exact At.jn 0
               ·refine At.g [151,147,139] 7 ?_;apply rt;exact At.jn 0
            ·refine At.g [139,142,147,151] 19 ?_;apply rt;exact At.jn 0
           ·refine At.c 0 ?_ ?_
            ·refine At.D 0 [] ?_;refine De 4 ?_;apply rt;exact At.jn 0
            ·apply rt;exact At.jn 0
          ·exact λh=>At.v 2 (_,_,_,_) h
         ·apply rt;exact At.x 0
        ·exact λh=>At.v 0 (_,_,_,_,_) h
    ·apply rt;exact At.x 0
   ·refine At.D 0 [] ?_;refine De 4 ?_;apply rt;exact At.r 0
def qF(N:Nat)(b4:(List (List aC)))(a1:aP)(a2 a3:aA)(a4:Int)(a5:Bool)(a6:aH)(a7:aE)(a8:aG)(a9:aA)(a10:aF)(a11:aD)(a12:aL):Option (aH×Int×Int×bE×Bool):=
 aa (cond (a4==0) (some 9) (some 4)) λp1=>
 aa (lL N a1.go a1.gd p1 a1.gE8 a12) λr2=>
 aa (cond a8.gA5 (some (I64 (a10.gO+4))) (some a10.gO)) λp3=>
 cond (decide (r2.2.1 < 0)) (
  some ((a6,p3,r2.1,bE.mk 0 (aB.mk 0 0 0) (aA.mk 0 0 0) (aA.mk 0 0 0) (aN.mk 0 (#v[0,0,0]) 0) false,false))) (
  aa (idx a7.gL r2.2.1) λe4=>
  aa (dS 1 3) λ_=>
  aa (e4.gP.toList[(bj 1)]?) λe6=>
  aa (dS 0 3) λ_=>
  aa (e4.gP.toList[(bj 0)]?) λe8=>
  aa (sK N e6 e8) λr9=>
  aa (dS 2 3) λ_=>
  aa (e4.gP.toList[(bj 2)]?) λe11=>
  aa (dS 0 3) λ_=>
  aa (e4.gP.toList[(bj 0)]?) λe13=>
  aa (sK N e11 e13) λr14=>
  aa (wW N r9 r14) λr15=>
  aa (iQ N r15) λr16=>
  aa (aa (xN N a1.go a1.gd r2.2.2) λr18=>
  aa (oJ N r16 a1.gd) λr19=>
  aa (idx a7.gA4 e4.gC5) λe20=>
  cond (a4==0) (
   aR ((kB .u8 e4.gD4 8) != 0) λx21=>
   some (bE.mk r2.2.1 r18 r19 (aA.mk 0 0 0) e20 x21)) (
   some (bE.mk r2.2.1 r18 r19 (aA.mk 0 0 0) e20 false))) λp17=>
  aa (cond (decide (e4.gB7>=0)) (
   aa (idx b4 e4.gB7) λe23=>
   cond (!a8.gA5) (some ((I64 (p3+4),e23))) (some ((p3,e23)))) (
   some ((p3,[])))) λp22=>
  aa (pL N p17.gB4.gA9 p22.2 e4.gUv r2.2.2 a4) λr24=>
  aa (aR (cond (a4==0) (!a5) false) λx26=>
  cond x26 (
   aa (qU N p17.gat) λr27=>
   aa (qU N a1.go) λr28=>
   aa (zJ N r27 r28) λr29=>
   aa (rN N r29) λr30=>
   cond p17.gC1 (
    some (aH.mk (aA.mk 0 0 0) 0 r30 p17.gn e4.gA3)) (
    some (aH.mk (aA.mk 0 0 0) 1 r30 p17.gn e4.gA3))) (
   some a6)) λp25=>
  some ((p25,p22.1,r2.1,bE.mk p17.gi p17.gat p17.gn r24 p17.gB4 p17.gC1,true)))
theorem aES{N b4 a1 a2 a3 a4 a5 a6 a7 a8 a9 a10 a11 a12 r}(h:qF N b4 a1 a2 a3 a4 a5 a6 a7 a8 a9 a10 a11 a12=some r):FnM Tryz.prog 86 [.var (.st 26 [(aP.enc a1),(.ref 1 [] 0),(.ref 2 [] 0),(aA.enc a2),(aA.enc a3),(j64 a4),(eB a5),(aH.enc a6)]),.var (.st 38 [(aE.enc a7),(aG.enc a8),(.ifc 115 (.ref 3 [] 0)),(eO 4 1 (eL 2 aC.enc) b4),(aA.enc a9),(aF.enc a10)]),.var (aD.enc a11),.var (aL.enc a12),.tail (b4.length*1)] [(.ref 0 [] 0)] (.tup [(bE.enc r.2.2.2.1),(eB r.2.2.2.2)]) [.var (.st 26 [(aP.enc a1),(.ref 1 [] 0),(.ref 2 [] 0),(aA.enc a2),(aA.enc a3),(j64 a4),(eB a5),(aH.enc r.1)]),.var (.st 38 [(aE.enc a7),(aG.enc a8),(.ifc 115 (.ref 3 [] 0)),(eO 4 1 (eL 2 aC.enc) b4),(aA.enc a9),(.st 3 [(j64 a10.gN),(j64 r.2.1),(j64 (I64 (a10.gF+1)))])]),.var (aD.enc a11),.var (.st 5 [(bC.enc a12.gA1),(eB a12.gA),(eL 19 aJ.enc a12.gl),(j64 r.2.2.1)]),.tail (b4.length*1)]:=by
 refine Af bO Tryz.func86 h ?_;refine At.J 3 1 [0,2] 6 (λp1=>([(4,(k8 p1))],[],[])) (λp1=>?_) λp1=>?_
 ·refine At.c 5 ?_ ?_
  ·apply rt;exact At.jn 1
  ·apply rt;exact At.jn 0
 ·refine At.D 0 [] ?_;refine DD.Y 25 [3] aBo λr2=>?_;refine De 6 ?_;refine At.J 13 1 [0,2,5,6] 7 (λp3=>([],[(1,.var (.st 38 [(aE.enc a7),(aG.enc a8),(.ifc 115 (.ref 3 [] 0)),(eO 4 1 (eL 2 aC.enc) b4),(aA.enc a9),(.st 3 [(j64 a10.gN),(j64 p3),(j64 (I64 (a10.gF+1)))])]))],[])) (λp3=>?_) λp3=>?_
  ·refine At.c 8 ?_ ?_
   ·apply rt;exact At.jn 13
   ·apply rt;exact At.jn 0
  ·refine At.c 2 ?_ ?_
   ·apply rt;exact At.r 3
   ·refine At.i hT 9 aJ.enc λe4=>?_;refine At.D 3 [] ?_;refine DD.b 1 (λe _=>bF hT (k:=3) 7 [0] 0 e) λu5=>?_;refine DD.l hT 0 aB.enc aB.enc 1 λe6=>?_;refine DD.b 1 (λe _=>bF hT (k:=3) 7 [0] 0 e) λu7=>?_;refine DD.l hT 0 aB.enc aB.enc 1 λe8=>?_;refine DD.y 0 tT λr9=>?_;refine DD.b 1 (λe _=>bF hT (k:=3) 7 [0] 0 e) λu10=>?_;refine DD.l hT 0 aB.enc aB.enc 1 λe11=>?_;refine DD.b 1 (λe _=>bF hT (k:=3) 7 [0] 0 e) λu12=>?_;refine DD.l hT 0 aB.enc aB.enc 1 λe13=>?_;refine DD.y 0 tT λr14=>?_;refine DD.y 0 aA4 λr15=>?_;refine DD.y 0 mB λr16=>?_;refine De 2 ?_;refine At.J 0 0 [0,2,6,7] 9 (λp17=>([],[(5,.var (bE.enc p17))],[])) (λp17=>?_) λp17=>?_
    ·refine At.D 0 [] ?_;refine DD.y 12 aGQ λr18=>?_;refine DD.y 6 aB8 λr19=>?_;refine DD.i hT 10 aN.enc λe20=>?_;refine DD.s hT 7 ?_ ?_
     ·apply lx;intro x21;refine De 7 ?_;apply rt;exact At.jn 0
     ·refine De 7 ?_;apply rt;exact At.jn 0
    ·refine At.J 1 1 [0,2,6,7] 9 (λp22=>([(9,(eL 2 aC.enc p22.2))],[(1,.var (.st 38 [(aE.enc a7),(aG.enc a8),(.ifc 115 (.ref 3 [] 0)),(eO 4 1 (eL 2 aC.enc) b4),(aA.enc a9),(.st 3 [(j64 a10.gN),(j64 p22.1),(j64 (I64 (a10.gF+1)))])]))],[])) (λp22=>?_) λp22=>?_
     ·refine At.c 3 ?_ ?_
      ·refine At.D 0 [] ?_;refine DD.i hT 9 (eL 2 aC.enc) λe23=>?_;refine De 2 ?_;refine At.c 9 ?_ ?_
       ·apply rt;exact At.jn 13
       ·apply rt;exact At.jn 0
      ·apply rt;exact At.jn 0
     ·refine At.D 0 [] ?_;refine DD.y 11 aCu λr24=>?_;refine De 2 ?_;refine At.J 0 1 [2] 9 (λp25=>([],[(0,.var (.st 26 [(aP.enc a1),(.ref 1 [] 0),(.ref 2 [] 0),(aA.enc a2),(aA.enc a3),(j64 a4),(eB a5),(aH.enc p25)]))],[])) (λp25=>?_) λp25=>?_
      ·apply lx;intro x26;refine At.c 12 ?_ ?_
       ·refine At.D 0 [] ?_;refine DD.y 3 sJ λr27=>?_;refine DD.y 5 sJ λr28=>?_;refine DD.y 0 aDG λr29=>?_;refine DD.y 0 aCY λr30=>?_;refine De 8 ?_;refine At.c 2 ?_ ?_
        ·apply rt;exact At.jn 5
        ·apply rt;exact At.jn 0
       ·apply rt;exact At.jn 0
      ·apply rt;exact At.r 3
def lD(N:Nat)(b4:(List (List aC)))(a1:(List aA))(a2:aP)(a3 a4:aA)(a5:Int)(a6:Bool)(a7:aH)(a8:aE)(a9:aG)(a10:aA)(a11:aF)(a12:aD)(a13:aL):Option (aA):=
 cond (!a6) (
  aa (nL 24 (([a3]:List aA)) a1) λz1=>
  aa (jY N z1) λr2=>
  aa (lW N ([a4,r2])) λr3=>
  some r3) (
  some a4)
theorem tX{N b4 a1 a2 a3 a4 a5 a6 a7 a8 a9 a10 a11 a12 a13 r}(h:lD N b4 a1 a2 a3 a4 a5 a6 a7 a8 a9 a10 a11 a12 a13=some r):FnM Tryz.prog 87 [.var (.st 26 [(aP.enc a2),(.ref 1 [] 0),(.ref 2 [] 0),(aA.enc a3),(aA.enc a4),(j64 a5),(eB a6),(aH.enc a7)]),.var (.st 38 [(aE.enc a8),(aG.enc a9),(.ifc 115 (.ref 3 [] 0)),(eO 4 1 (eL 2 aC.enc) b4),(aA.enc a10),(aF.enc a11)]),.var (aD.enc a12),.var (aL.enc a13),.tail (b4.length*1)] [(.ref 0 [] 0),(eL 3 aA.enc a1)] (.tup []) [.var (.st 26 [(aP.enc a2),(.ref 1 [] 0),(.ref 2 [] 0),(aA.enc a3),(aA.enc r),(j64 a5),(eB a6),(aH.enc a7)]),.var (.st 38 [(aE.enc a8),(aG.enc a9),(.ifc 115 (.ref 3 [] 0)),(eO 4 1 (eL 2 aC.enc) b4),(aA.enc a10),(aF.enc a11)]),.var (aD.enc a12),.var (aL.enc a13),.tail (b4.length*1)]:=by
 refine Af bO Tryz.func87 h ?_;refine At.c 5 ?_ ?_
 ·refine At.D 0 [] ?_;refine DD.N 9 5 (λι=>(eO ι 3 aA.enc (([a3]:List aA)))) _ (λ_=>rZ hT aA.enc (k:=3) ([a3]:List aA) (by kernel_rfl) (by kernel_rfl)) ?_;refine bi λz1 hz1=>?_;refine DD.w 1 (eO 5 3 aA.enc z1) ⟨[(5,.tail (z1.length*3))],[]⟩ (λ_ e=>iI hT aA.enc (id:=5) (k:=3) hz1 (pj1 e) (pj2 e)) ?_;refine DD.y 0 rU λr2=>?_;refine DD.o 0 (λ_=>bG hT (x:=(.sl 3 2 [(aA.enc a4),(aA.enc r2)]))) ?_;refine DD.y 0 tZ λr3=>?_;refine De 3 ?_;apply rt;exact At.z 0
 ·apply rt;exact At.z 0
def fV(N:Nat)(b4:(List (List aC)))(a1:Bool)(a2:aP)(a3 a4:aA)(a5:Int)(a6:Bool)(a7:aH)(a8:aE)(a9:aG)(a10:aA)(a11:aF)(a12:aD)(a13:aL):Option (Unit):=
 some (())
theorem kE{N b4 a1 a2 a3 a4 a5 a6 a7 a8 a9 a10 a11 a12 a13 r}(h:fV N b4 a1 a2 a3 a4 a5 a6 a7 a8 a9 a10 a11 a12 a13=some r):FnM Tryz.prog 88 [.var (.st 26 [(aP.enc a2),(.ref 1 [] 0),(.ref 2 [] 0),(aA.enc a3),(aA.enc a4),(j64 a5),(eB a6),(aH.enc a7)]),.var (.st 38 [(aE.enc a8),(aG.enc a9),(.ifc 115 (.ref 3 [] 0)),(eO 4 1 (eL 2 aC.enc) b4),(aA.enc a10),(aF.enc a11)]),.var (aD.enc a12),.var (aL.enc a13),.tail (b4.length*1)] [(.ref 0 [] 0),(eB a1)] (.tup []) [.var (.st 26 [(aP.enc a2),(.ref 1 [] 0),(.ref 2 [] 0),(aA.enc a3),(aA.enc a4),(j64 a5),(eB (cond a6 true a1)),(aH.enc a7)]),.var (.st 38 [(aE.enc a8),(aG.enc a9),(.ifc 115 (.ref 3 [] 0)),(eO 4 1 (eL 2 aC.enc) b4),(aA.enc a10),(aF.enc a11)]),.var (aD.enc a12),.var (aL.enc a13),.tail (b4.length*1)]:=by
 refine Af bO Tryz.func88 h ?_;apply rt;exact At.z 11
def aDJ : Nat->Bool:=imL [7,8]
def dU(N:Nat)(s17:(List Int))(a0 a1:aB)(a2 a3:Int)(a5:aL)(a4:Bool):Nat->Int->Int->Option (Sum (Int) (Int×Bool))
 | 0,_,_=>none
 | k+1,s19,s20=>
  aR (decide (s20 < ((s17.length:Int)))) λx21=>
  cond x21 (
   aa (idx s17 s20) λe22=>
   aa (dC N a0 a1 a2 a3 e22 (aL.mk a5.gA1 a5.gA a5.gl (I64 (s19+1)))) λr23=>
   aa (cond r23.2 (
    aR (decide (r23.1.gC3 < r23.1.gC0)) λx25=>
    some (cond (!a4) true x25)) (
    some false)) λp24=>
   cond p24 (
    some (Sum.inr ((I64 (s19+1),true)))) (
    dU N s17 a0 a1 a2 a3 a5 a4 k (I64 (s19+1)) (I64 (s20+1)))) (
   some (Sum.inl s19))
def dQ(N:Nat)(a5:aL)(a0 a1:aB)(a2 a3:Int)(a4:Bool):Nat->(List Int)->Int->Nat->Option (Sum ((List Int)×Int) (Int×Bool))
 | 0,_,_,_=>none
 | k+1,s6,s7,s8=>
  aR (decide (((s8:Int)) > 0)) λx9=>
  cond x9 (
   aa (aAa s6.length 0 s8 (I64 (((s8:Int)) - 1))) λ_=>
   aa (s6[((I64 (((s8:Int)) - 1)).toNat)]?) λe11=>
   aa (idx a5.gA1.gB0 e11) λe12=>
   aa (aMh s6.length 0 s8 0 (I64 (((s8:Int)) - 1))) λ_=>
   aa (aAP N e12.gLo e12.gHi a0 a1) λr14=>
   cond (!r14.2) (
    dQ N a5 a0 a1 a2 a3 a4 k s6 (I64 (s7+1)) ((I64 (((s8:Int)) - 1)).toNat)) (
    cond (decide (e12.gB3>=0)) (
     aa (aOC 8 s6 ((I64 (((s8:Int)) - 1)).toNat) (([e12.gB6,e12.gB3]:List Int))) λz15=>
     dQ N a5 a0 a1 a2 a3 a4 k z15 (I64 (s7+1)) ((I64 (((s8:Int)) - 1)).toNat+2)) (
     aR (I64 (e12.gC7+e12.gC2)) λx16=>
     aa (xR a5.gA1.gD2 e12.gC7 x16) λs17=>
     aa (dU N s17 a0 a1 a2 a3 a5 a4 N (I64 (s7+1)) 0) λo=>kG o (λp18=>
      dQ N a5 a0 a1 a2 a3 a4 k s6 p18 ((I64 (((s8:Int)) - 1)).toNat)) (λr=>some (Sum.inr r))))) (
   some (Sum.inl ((s6,s7))))
def kV(N:Nat)(a0 a1:aB)(a2 a3:Int)(a4:Bool)(a5:aL):Option (Int×Bool):=
 aa (aa (lT N a5) λr2=>
 aR ((a5.gA1.gB0.length:Int)) λx3=>
 cond (cond r2 true (x3==0)) (
  some true) (
  aa (xE N a0 a1) λr4=>
  some (!r4))) λp1=>
 cond p1 (
  some ((a5.gD3,false))) (
  aa (dQ N a5 a0 a1 a2 a3 a4 N (([0]:List Int)) a5.gD3 ((([0]:List Int)).length)) λo=>kG o (λp5=>
   some ((p5.2,false))) (λr=>some r))
theorem xB{N a0 a1 a2 a3 a4 a5 r}(h:kV N a0 a1 a2 a3 a4 a5=some r):FnM Tryz.prog 242 [.var (aL.enc a5)] [(.ref 0 [] 0),(aB.enc a0),(aB.enc a1),(k8 a2),(j64 a3),(eB a4)] (eB r.2) [.var (.st 5 [(bC.enc a5.gA1),(eB a5.gA),(eL 19 aJ.enc a5.gl),(j64 r.1)])]:=by
 refine Af aDJ Tryz.func242 h ?_;refine At.J 3 0 [0,3,4,5,7,8] 1 (λp1=>([(37,(eB p1))],[],[])) (λp1=>?_) λp1=>?_
 ·refine At.Y 1 [0] vI λr2=>?_;apply lx;intro x3;refine At.s 32 10 ?_ ?_
  ·refine At.g [32] 5 ?_;apply rt;exact At.jn 0
  ·refine At.g [32] 2 ?_;refine At.y 0 aBQ λr4=>?_;refine At.g [32] 2 ?_;apply rt;exact At.jn 0
 ·refine At.c 0 ?_ ?_
  ·apply rt;exact At.r 1
  ·refine At.o 0 (aCv hT j64 (k:=1) ([0]:List Int) (by kernel_rfl) (by kernel_rfl)) ?_;refine At.gsub 1 13 ?_;refine At.MS 0 [] 2 (λp5=>([],[(0,.var (.st 5 [(bC.enc a5.gA1),(eB a5.gA),(eL 19 aJ.enc a5.gl),(j64 p5.2)])),(1,.gro 1 (ah j64 p5.1))],[])) [0,3,4,5,7,8] 2 (CU3 (dQ N a5 a0 a1 a2 a3 a4)) (cu3 λ(s6:(List Int)) (s7:Int) (s8:Nat)=>([(13,(.gro 1 1 s6.length (.sub 0 s8)))],[(0,.var (.st 5 [(bC.enc a5.gA1),(eB a5.gA),(eL 19 aJ.enc a5.gl),(j64 s7)])),(1,.gro 1 (ah j64 s6))],[])) (_,_,_) N (λop5 g5 k=>un3 λs6 s7 s8=>?_) λp5=>?_
   ·apply lx;intro x9;refine At.c 3 ?_ ?_
    ·refine At.D 0 [] ?_;refine DD.b 9 (λe _=>kT hT (id:=1) (k:=1) e (by kernel_rfl) (by kernel_rfl)) λu10=>?_;refine bi λe11 he11=>?_;refine DD.w 0 (j64 e11) ⟨[],[]⟩ (λ_ e=>zB (rL hT j64 [] he11 rfl (pj1 e) (pj1 (pj2 e))) (pj2 (pj2 e))) ?_;refine DD.i hT 0 aX.enc λe12=>?_;refine De 3 ?_;refine At.b 4 (λ_ e=>aIN hT (id:=1) (k:=1) (L:=s6.length) (lo0:=0) (m:=s8) e (by kernel_rfl) (by kernel_rfl)) λs13=>?_;refine At.y 15 aFv λr14=>?_;refine At.c 8 ?_ ?_
     ·exact λh=>At.v 0 (_,_,_) h
     ·refine At.c 3 ?_ ?_
      ·refine At.o 5 (bG hT (x:=(.sl 1 2 [(j64 e12.gB6),(j64 e12.gB3)]))) ?_;refine At.b 0 (λz15 e=>aHA hT j64 (id:=1) (k:=1) e (by kernel_rfl) (by kernel_rfl) (H':=[.var (.st 5 [(bC.enc a5.gA1),(eB a5.gA),(eL 19 aJ.enc a5.gl),(j64 (I64 (s7+1)))]),.gro 1 (ah j64 z15),.var (aX.enc e12),.var (aY.enc r14.1)]) (by kernel_rfl)) λz15=>?_;exact λh=>At.v 1 (_,_,_) h
      ·refine At.D 0 [] ?_;apply lx;intro x16;refine DD.b 12 (λe _=>aA7 hT (k:=1) j64 e) λs17=>?_;refine De 2 ?_;refine At.MS 0 [0,3,4,5,7,8,13] 4 (λp18=>([],[(0,.var (.st 5 [(bC.enc a5.gA1),(eB a5.gA),(eL 19 aJ.enc a5.gl),(j64 p18)]))],[])) [0,3,4,5,7,8,13,101,102] 4 (CU2 (dU N s17 a0 a1 a2 a3 a5 a4)) (cu2 λ(s19:Int) (s20:Int)=>([(103,(j64 s20))],[(0,.var (.st 5 [(bC.enc a5.gA1),(eB a5.gA),(eL 19 aJ.enc a5.gl),(j64 s19)]))],[])) (_,_) N (λop18 g18 k=>un2 λs19 s20=>?_) λp18=>?_
       ·apply lx;intro x21;refine At.c 1 ?_ ?_
        ·refine At.i hT 0 j64 λe22=>?_;refine At.Y 16 [0] uY λr23=>?_;refine At.J 6 0 [0,3,4,5,7,8,13,101,102,103] 5 (λp24=>([(135,(eB p24))],[],[])) (λp24=>?_) λp24=>?_
         ·refine At.s 125 2 ?_ ?_
          ·apply lx;intro x25;refine At.g [125] 10 ?_;apply rt;exact At.jn 0
          ·refine At.g [125,128] 10 ?_;apply rt;exact At.jn 0
         ·refine At.c 0 ?_ ?_
          ·intro e;apply rtS2 g18 g5 e;exact At.r 1
          ·exact λh=>At.v 2 (_,_) h
        ·apply rt;exact At.xs 0
       ·exact λh=>At.v 0 (_,_,_) h
    ·apply rt;exact At.xs 0
   ·apply rt;exact At.r 1
def aCj : Nat->Bool:=imL [3]
def fU(N:Nat)(x1:Int)(a8:aE)(b4:(List (List aC)))(a2:aP)(a3:aA)(a5:Int)(a6:Bool)(a7:aH)(a9:aG)(a10:aA)(a11:aF)(a1:bE):Nat->aA->aD->aL->Int->Option (aA×aD×aL)
 | 0,_,_,_,_=>none
 | k+1,s3,s4,s5,s6=>
  cond (decide (s6 < x1)) (
   aa (aa (idx a8.gI s6) λe8=>
   aR (I64 (8+(I64 (2*s6)))) λx9=>
   aa (dY N b4 x9 a2 a3 s3 a5 a6 a7 a8 a9 a10 a11 s4 s5) λr10=>
   aR (I64 (9+(I64 (2*s6)))) λx11=>
   aa (dY N b4 x11 a2 a3 s3 a5 a6 a7 a8 a9 a10 a11 (aD.mk r10.1 s4.gA s4.gD s4.gC s4.gE) s5) λr12=>
   aa (sF N e8 a1.gat a1.gn (#v[r10.2,r12.2])) λr13=>
   aR (cond r13.gE7 (!a9.gA5) false) λx14=>
   cond x14 (
    some ((s3,aD.mk r12.1 ((aD.mk r10.1 s4.gA s4.gD s4.gC s4.gE).gA) ((aD.mk r10.1 s4.gA s4.gD s4.gC s4.gE).gD) ((aD.mk r10.1 s4.gA s4.gD s4.gC s4.gE).gC) ((aD.mk r10.1 s4.gA s4.gD s4.gC s4.gE).gE),s5.gD3,e8,r13))) (
    aa (aa (kV N a1.gat r13.gE9 2 a1.gi (!r13.gF0) s5) λr16=>
    cond (!r16.2) (
     cond (!r13.gE7) (
      some ((r16.1,a1.gB4.gB1==0))) (
      some ((r16.1,false)))) (
     some ((r16.1,false)))) λp15=>
    cond p15.2 (
     aa (lD N b4 ([a1.gc,r13.gC4]) a2 a3 s3 a5 a6 a7 a8 a9 a10 a11 (aD.mk r12.1 ((aD.mk r10.1 s4.gA s4.gD s4.gC s4.gE).gA) ((aD.mk r10.1 s4.gA s4.gD s4.gC s4.gE).gD) ((aD.mk r10.1 s4.gA s4.gD s4.gC s4.gE).gC) ((aD.mk r10.1 s4.gA s4.gD s4.gC s4.gE).gE)) (aL.mk s5.gA1 s5.gA s5.gl p15.1)) λr17=>
     some ((r17,aD.mk r12.1 ((aD.mk r10.1 s4.gA s4.gD s4.gC s4.gE).gA) ((aD.mk r10.1 s4.gA s4.gD s4.gC s4.gE).gD) ((aD.mk r10.1 s4.gA s4.gD s4.gC s4.gE).gC) ((aD.mk r10.1 s4.gA s4.gD s4.gC s4.gE).gE),p15.1,e8,r13))) (
     some ((s3,aD.mk r12.1 ((aD.mk r10.1 s4.gA s4.gD s4.gC s4.gE).gA) ((aD.mk r10.1 s4.gA s4.gD s4.gC s4.gE).gD) ((aD.mk r10.1 s4.gA s4.gD s4.gC s4.gE).gC) ((aD.mk r10.1 s4.gA s4.gD s4.gC s4.gE).gE),p15.1,e8,r13))))) λp7=>
   fU N x1 a8 b4 a2 a3 a5 a6 a7 a9 a10 a11 a1 k p7.1 p7.2.1 (aL.mk s5.gA1 s5.gA s5.gl p7.2.2.1) (I64 (s6+1))) (
   some ((s3,s4,s5)))
def qC(N:Nat)(r18:Int×Int)(x19:Int)(a1:bE):Nat->aL->Int->Option (aL)
 | 0,_,_=>none
 | k+1,s21,s22=>
  aR (decide (s22 < (I64 (r18.2 - x19)))) λx23=>
  cond x23 (
   aa (kV N a1.gat (aB.mk 0 0 0) 2 a1.gi false s21) λr24=>
   qC N r18 x19 a1 k (aL.mk s21.gA1 s21.gA s21.gl r24.1) (I64 (s22+1))) (
   some s21)
def oY(N:Nat)(b4:(List (List aC)))(a1:bE)(a2:aP)(a3 a4:aA)(a5:Int)(a6:Bool)(a7:aH)(a8:aE)(a9:aG)(a10:aA)(a11:aF)(a12:aD)(a13:aL):Option (aA×aD×aL):=
 aR ((a8.gI.length:Int)) λx1=>
 aa (fU N x1 a8 b4 a2 a3 a5 a6 a7 a9 a10 a11 a1 N a4 a12 a13 0) λp2=>
 cond (!a9.gA5) (
  some ((p2.1,p2.2.1,p2.2.2))) (
  aa (lH N a9.gM) λr18=>
  aR ((a8.gI.length:Int)) λx19=>
  aa (qC N r18 x19 a1 N p2.2.2 0) λp20=>
  some ((p2.1,p2.2.1,p20)))
theorem aC1{N b4 a1 a2 a3 a4 a5 a6 a7 a8 a9 a10 a11 a12 a13 r}(h:oY N b4 a1 a2 a3 a4 a5 a6 a7 a8 a9 a10 a11 a12 a13=some r):FnM Tryz.prog 89 [.var (.st 26 [(aP.enc a2),(.ref 1 [] 0),(.ref 2 [] 0),(aA.enc a3),(aA.enc a4),(j64 a5),(eB a6),(aH.enc a7)]),.var (.st 38 [(aE.enc a8),(aG.enc a9),(.ifc 115 (.ref 3 [] 0)),(eO 4 1 (eL 2 aC.enc) b4),(aA.enc a10),(aF.enc a11)]),.var (aD.enc a12),.var (aL.enc a13),.tail (b4.length*1)] [(.ref 0 [] 0),(bE.enc a1)] (.tup []) [.var (.st 26 [(aP.enc a2),(.ref 1 [] 0),(.ref 2 [] 0),(aA.enc a3),(aA.enc r.1),(j64 a5),(eB a6),(aH.enc a7)]),.var (.st 38 [(aE.enc a8),(aG.enc a9),(.ifc 115 (.ref 3 [] 0)),(eO 4 1 (eL 2 aC.enc) b4),(aA.enc a10),(aF.enc a11)]),.var (aD.enc r.2.1),.var (aL.enc r.2.2),.tail (b4.length*1)]:=by
 refine Af aCj Tryz.func89 h ?_;apply lx;intro x1;refine At.M 11 [0,3] 5 (λp2=>([],[(0,.var (.st 26 [(aP.enc a2),(.ref 1 [] 0),(.ref 2 [] 0),(aA.enc a3),(aA.enc p2.1),(j64 a5),(eB a6),(aH.enc a7)])),(2,.var (aD.enc p2.2.1)),(3,.var (aL.enc p2.2.2))],[])) [0,3,16,17] 5 (CU4 (fU N x1 a8 b4 a2 a3 a5 a6 a7 a9 a10 a11 a1)) (cu4 λ(s3:aA) (s4:aD) (s5:aL) (s6:Int)=>([(18,(j64 s6))],[(0,.var (.st 26 [(aP.enc a2),(.ref 1 [] 0),(.ref 2 [] 0),(aA.enc a3),(aA.enc s3),(j64 a5),(eB a6),(aH.enc a7)])),(2,.var (aD.enc s4)),(3,.var (aL.enc s5))],[])) (_,_,_,_) N (λp2 k=>un4 λs3 s4 s5 s6=>?_) λp2=>?_
 ·refine At.c 1 ?_ ?_
  ·refine At.J 0 2 [0,3,16,17,18] 5 (λp7=>([],[(0,.var (.st 26 [(aP.enc a2),(.ref 1 [] 0),(.ref 2 [] 0),(aA.enc a3),(aA.enc p7.1),(j64 a5),(eB a6),(aH.enc a7)])),(2,.var (aD.enc p7.2.1)),(3,.var (.st 5 [(bC.enc s5.gA1),(eB s5.gA),(eL 19 aJ.enc s5.gl),(j64 p7.2.2.1)]))],[.var (aQ.enc p7.2.2.2.1),.var (lV.enc p7.2.2.2.2)])) (λp7=>?_) λp7=>?_
   ·refine At.i hT 1 aQ.enc λe8=>?_;refine At.D 4 [] ?_;apply lx;intro x9;refine DD.Y 9 [0,1,2,3,4] jE λr10=>?_;apply lx;intro x11;refine DD.Y 4 [0,1,2,3,4] jE λr12=>?_;refine DD.y 1 aEY λr13=>?_;refine De 2 ?_;apply lx;intro x14;refine At.c 13 ?_ ?_
    ·apply rt;exact At.jn 0
    ·refine At.J 0 0 [0,3,6,16,17,18] 7 (λp15=>([(81,(eB p15.2))],[(3,.var (.st 5 [(bC.enc s5.gA1),(eB s5.gA),(eL 19 aJ.enc s5.gl),(j64 p15.1)]))],[])) (λp15=>?_) λp15=>?_
     ·refine At.D 0 [] ?_;refine DD.Y 16 [3] xB λr16=>?_;refine DD.s hT 2 ?_ ?_
      ·refine DD.s hT 5 ?_ ?_
       ·refine De 5 ?_;apply rt;exact At.jn 0
       ·refine De 5 ?_;apply rt;exact At.jn 0
      ·refine De 10 ?_;apply rt;exact At.jn 0
     ·refine At.c 0 ?_ ?_
      ·refine At.o 5 (bG hT (x:=(.sl 3 2 [(aA.enc a1.gc),(aA.enc r13.gC4)]))) ?_;refine At.Y 0 [0,1,2,3,4] tX λr17=>?_;apply rt;exact At.jn 0
      ·apply rt;exact At.jn 0
   ·exact λh=>At.v 2 (_,_,_,_) h
  ·apply rt;exact At.x 0
 ·refine At.c 9 ?_ ?_
  ·apply rt;exact At.r 0
  ·refine At.y 8 uK λr18=>?_;apply lx;intro x19;refine At.M 17 [] 5 (λp20=>([],[(3,.var (aL.enc p20))],[])) [0,3,121] 5 (CU2 (qC N r18 x19 a1)) (cu2 λ(s21:aL) (s22:Int)=>([(122,(j64 s22))],[(3,.var (aL.enc s21))],[])) (_,_) N (λp20 k=>un2 λs21 s22=>?_) λp20=>?_
   ·apply lx;intro x23;refine At.c 1 ?_ ?_
    ·refine At.D 0 [] ?_;refine DD.Y 12 [3] xB λr24=>?_;refine De 0 ?_;exact λh=>At.v 2 (_,_) h
    ·apply rt;exact At.x 0
   ·apply rt;exact At.z 0
def qH(N:Nat)(b4:(List (List aC)))(a1:aP)(a2 a3:aA)(a4:Int)(a5:Bool)(a6:aH)(a7:aE)(a8:aG)(a9:aA)(a10:aF)(a11:aD)(a12:aL):Option (aP×aA×aA×Bool×aH×Int×aD×aL):=
 aa (qF N b4 a1 a2 a3 a4 a5 a6 a7 a8 a9 a10 a11 a12) λr1=>
 aa (cond (!r1.2.2.2.2) (
  aa (lD N b4 ([a9]) a1 a2 a3 a4 a5 r1.1 a7 a8 a9 (aF.mk a10.gN r1.2.1 (I64 (a10.gF+1))) a11 (aL.mk a12.gA1 a12.gA a12.gl r1.2.2.1)) λr3=>
  aa (fV N b4 true a1 a2 r3 a4 a5 r1.1 a7 a8 a9 (aF.mk a10.gN r1.2.1 (I64 (a10.gF+1))) a11 (aL.mk a12.gA1 a12.gA a12.gl r1.2.2.1)) λr4=>
  some ((r3,cond a5 true true))) (
  some ((a3,a5)))) λp2=>
 aa (fV N b4 r1.2.2.2.1.gC1 a1 a2 p2.1 a4 p2.2 r1.1 a7 a8 a9 (aF.mk a10.gN r1.2.1 (I64 (a10.gF+1))) a11 (aL.mk a12.gA1 a12.gA a12.gl r1.2.2.1)) λr5=>
 aa (aR (r1.2.2.2.1.gB4.gB1==4) λx7=>
 cond x7 (
  aa (lD N b4 ([r1.2.2.2.1.gc]) a1 a2 p2.1 a4 (cond p2.2 true r1.2.2.2.1.gC1) r1.1 a7 a8 a9 (aF.mk a10.gN r1.2.1 (I64 (a10.gF+1))) a11 (aL.mk a12.gA1 a12.gA a12.gl r1.2.2.1)) λr8=>
  aa (fV N b4 true a1 a2 r8 a4 ((cond p2.2 true r1.2.2.2.1.gC1)) r1.1 a7 a8 a9 (aF.mk a10.gN r1.2.1 (I64 (a10.gF+1))) a11 (aL.mk a12.gA1 a12.gA a12.gl r1.2.2.1)) λr9=>
  some ((r8,cond ((cond p2.2 true r1.2.2.2.1.gC1)) true true))) (
  some ((p2.1,cond p2.2 true r1.2.2.2.1.gC1)))) λp6=>
 aa (aa (cond a8.gA5 (
  some true) (
  aR (r1.2.2.2.1.gB4.gB1==0) λx12=>
  some (cond (!p6.2) x12 false))) λp11=>
 cond p11 (
  aa (oY N b4 r1.2.2.2.1 a1 a2 p6.1 a4 p6.2 r1.1 a7 a8 a9 (aF.mk a10.gN r1.2.1 (I64 (a10.gF+1))) a11 (aL.mk a12.gA1 a12.gA a12.gl r1.2.2.1)) λr13=>
  some ((r13.1,r13.2.1,r13.2.2))) (
  some ((p6.1,a11,aL.mk a12.gA1 a12.gA a12.gl r1.2.2.1)))) λp10=>
 aa (cond p6.2 (
  some true) (
  some (a4==a8.gK))) λp14=>
 cond p14 (
  aa (fV N b4 true a1 a2 p10.1 a4 p6.2 r1.1 a7 a8 a9 (aF.mk a10.gN r1.2.1 (I64 (a10.gF+1))) p10.2.1 p10.2.2) λr15=>
  some ((a1,a2,p10.1,cond p6.2 true true,r1.1,r1.2.1,p10.2.1,p10.2.2))) (
  aa (dY N b4 4 a1 a2 p10.1 a4 p6.2 r1.1 a7 a8 a9 (aF.mk a10.gN r1.2.1 (I64 (a10.gF+1))) p10.2.1 p10.2.2) λr16=>
  aa (dY N b4 5 a1 a2 p10.1 a4 p6.2 r1.1 a7 a8 a9 (aF.mk a10.gN r1.2.1 (I64 (a10.gF+1))) (aD.mk r16.1 p10.2.1.gA p10.2.1.gD p10.2.1.gC p10.2.1.gE) p10.2.2) λr17=>
  aa (mX N r1.2.2.2.1.gB4 r1.2.2.2.1.gc r1.2.2.2.1.gn a1.gd (#v[r16.2,r17.2])) λr18=>
  aa (jY N ([a2,r18.gC4])) λr19=>
  aa (fV N b4 r18.gC8 a1 r19 p10.1 a4 p6.2 r1.1 a7 a8 a9 (aF.mk a10.gN r1.2.1 (I64 (a10.gF+1))) (aD.mk r17.1 ((aD.mk r16.1 p10.2.1.gA p10.2.1.gD p10.2.1.gC p10.2.1.gE).gA) ((aD.mk r16.1 p10.2.1.gA p10.2.1.gD p10.2.1.gC p10.2.1.gE).gD) ((aD.mk r16.1 p10.2.1.gA p10.2.1.gD p10.2.1.gC p10.2.1.gE).gC) ((aD.mk r16.1 p10.2.1.gA p10.2.1.gD p10.2.1.gC p10.2.1.gE).gE)) p10.2.2) λr20=>
  aa (cond (decide (a4>=2)) (
   aa (dY N b4 7 a1 r19 p10.1 a4 (cond p6.2 true r18.gC8) r1.1 a7 a8 a9 (aF.mk a10.gN r1.2.1 (I64 (a10.gF+1))) (aD.mk r17.1 ((aD.mk r16.1 p10.2.1.gA p10.2.1.gD p10.2.1.gC p10.2.1.gE).gA) ((aD.mk r16.1 p10.2.1.gA p10.2.1.gD p10.2.1.gC p10.2.1.gE).gD) ((aD.mk r16.1 p10.2.1.gA p10.2.1.gD p10.2.1.gC p10.2.1.gE).gC) ((aD.mk r16.1 p10.2.1.gA p10.2.1.gD p10.2.1.gC p10.2.1.gE).gE)) p10.2.2) λr22=>
   aa (lR N r19 r22.2) λr23=>
   aa (fV N b4 (!r23.2) a1 r23.1 p10.1 a4 (cond p6.2 true r18.gC8) r1.1 a7 a8 a9 (aF.mk a10.gN r1.2.1 (I64 (a10.gF+1))) (aD.mk r22.1 ((aD.mk r17.1 ((aD.mk r16.1 p10.2.1.gA p10.2.1.gD p10.2.1.gC p10.2.1.gE).gA) ((aD.mk r16.1 p10.2.1.gA p10.2.1.gD p10.2.1.gC p10.2.1.gE).gD) ((aD.mk r16.1 p10.2.1.gA p10.2.1.gD p10.2.1.gC p10.2.1.gE).gC) ((aD.mk r16.1 p10.2.1.gA p10.2.1.gD p10.2.1.gC p10.2.1.gE).gE)).gA) ((aD.mk r17.1 ((aD.mk r16.1 p10.2.1.gA p10.2.1.gD p10.2.1.gC p10.2.1.gE).gA) ((aD.mk r16.1 p10.2.1.gA p10.2.1.gD p10.2.1.gC p10.2.1.gE).gD) ((aD.mk r16.1 p10.2.1.gA p10.2.1.gD p10.2.1.gC p10.2.1.gE).gC) ((aD.mk r16.1 p10.2.1.gA p10.2.1.gD p10.2.1.gC p10.2.1.gE).gE)).gD) ((aD.mk r17.1 ((aD.mk r16.1 p10.2.1.gA p10.2.1.gD p10.2.1.gC p10.2.1.gE).gA) ((aD.mk r16.1 p10.2.1.gA p10.2.1.gD p10.2.1.gC p10.2.1.gE).gD) ((aD.mk r16.1 p10.2.1.gA p10.2.1.gD p10.2.1.gC p10.2.1.gE).gC) ((aD.mk r16.1 p10.2.1.gA p10.2.1.gD p10.2.1.gC p10.2.1.gE).gE)).gC) ((aD.mk r17.1 ((aD.mk r16.1 p10.2.1.gA p10.2.1.gD p10.2.1.gC p10.2.1.gE).gA) ((aD.mk r16.1 p10.2.1.gA p10.2.1.gD p10.2.1.gC p10.2.1.gE).gD) ((aD.mk r16.1 p10.2.1.gA p10.2.1.gD p10.2.1.gC p10.2.1.gE).gC) ((aD.mk r16.1 p10.2.1.gA p10.2.1.gD p10.2.1.gC p10.2.1.gE).gE)).gE)) p10.2.2) λr24=>
   some ((r23.1,cond (cond p6.2 true r18.gC8) true (!r23.2),aD.mk r22.1 ((aD.mk r17.1 ((aD.mk r16.1 p10.2.1.gA p10.2.1.gD p10.2.1.gC p10.2.1.gE).gA) ((aD.mk r16.1 p10.2.1.gA p10.2.1.gD p10.2.1.gC p10.2.1.gE).gD) ((aD.mk r16.1 p10.2.1.gA p10.2.1.gD p10.2.1.gC p10.2.1.gE).gC) ((aD.mk r16.1 p10.2.1.gA p10.2.1.gD p10.2.1.gC p10.2.1.gE).gE)).gA) ((aD.mk r17.1 ((aD.mk r16.1 p10.2.1.gA p10.2.1.gD p10.2.1.gC p10.2.1.gE).gA) ((aD.mk r16.1 p10.2.1.gA p10.2.1.gD p10.2.1.gC p10.2.1.gE).gD) ((aD.mk r16.1 p10.2.1.gA p10.2.1.gD p10.2.1.gC p10.2.1.gE).gC) ((aD.mk r16.1 p10.2.1.gA p10.2.1.gD p10.2.1.gC p10.2.1.gE).gE)).gD) ((aD.mk r17.1 ((aD.mk r16.1 p10.2.1.gA p10.2.1.gD p10.2.1.gC p10.2.1.gE).gA) ((aD.mk r16.1 p10.2.1.gA p10.2.1.gD p10.2.1.gC p10.2.1.gE).gD) ((aD.mk r16.1 p10.2.1.gA p10.2.1.gD p10.2.1.gC p10.2.1.gE).gC) ((aD.mk r16.1 p10.2.1.gA p10.2.1.gD p10.2.1.gC p10.2.1.gE).gE)).gC) ((aD.mk r17.1 ((aD.mk r16.1 p10.2.1.gA p10.2.1.gD p10.2.1.gC p10.2.1.gE).gA) ((aD.mk r16.1 p10.2.1.gA p10.2.1.gD p10.2.1.gC p10.2.1.gE).gD) ((aD.mk r16.1 p10.2.1.gA p10.2.1.gD p10.2.1.gC p10.2.1.gE).gC) ((aD.mk r16.1 p10.2.1.gA p10.2.1.gD p10.2.1.gC p10.2.1.gE).gE)).gE)))) (
   some ((r19,cond p6.2 true r18.gC8,aD.mk r17.1 ((aD.mk r16.1 p10.2.1.gA p10.2.1.gD p10.2.1.gC p10.2.1.gE).gA) ((aD.mk r16.1 p10.2.1.gA p10.2.1.gD p10.2.1.gC p10.2.1.gE).gD) ((aD.mk r16.1 p10.2.1.gA p10.2.1.gD p10.2.1.gC p10.2.1.gE).gC) ((aD.mk r16.1 p10.2.1.gA p10.2.1.gD p10.2.1.gC p10.2.1.gE).gE))))) λp21=>
  some ((aP.mk r1.2.2.2.1.gat r18.gF1 r1.2.2.2.1.gi,p21.1,p10.1,p21.2.1,r1.1,r1.2.1,p21.2.2,p10.2.2)))
theorem aD6{N b4 a1 a2 a3 a4 a5 a6 a7 a8 a9 a10 a11 a12 r}(h:qH N b4 a1 a2 a3 a4 a5 a6 a7 a8 a9 a10 a11 a12=some r):FnM Tryz.prog 49 [.var (.st 26 [(aP.enc a1),(.ref 1 [] 0),(.ref 2 [] 0),(aA.enc a2),(aA.enc a3),(j64 a4),(eB a5),(aH.enc a6)]),.var (.st 38 [(aE.enc a7),(aG.enc a8),(.ifc 115 (.ref 3 [] 0)),(eO 4 1 (eL 2 aC.enc) b4),(aA.enc a9),(aF.enc a10)]),.var (aD.enc a11),.var (aL.enc a12),.tail (b4.length*1)] [(.ref 0 [] 0)] (.tup []) [.var (.st 26 [(aP.enc r.1),(.ref 1 [] 0),(.ref 2 [] 0),(aA.enc r.2.1),(aA.enc r.2.2.1),(j64 a4),(eB r.2.2.2.1),(aH.enc r.2.2.2.2.1)]),.var (.st 38 [(aE.enc a7),(aG.enc a8),(.ifc 115 (.ref 3 [] 0)),(eO 4 1 (eL 2 aC.enc) b4),(aA.enc a9),(.st 3 [(j64 a10.gN),(j64 r.2.2.2.2.2.1),(j64 (I64 (a10.gF+1)))])]),.var (aD.enc r.2.2.2.2.2.2.1),.var (aL.enc r.2.2.2.2.2.2.2),.tail (b4.length*1)]:=by
 refine Af bO Tryz.func49 h ?_;refine At.Y 1 [0,1,2,3,4] aES λr1=>?_;refine At.J 6 1 [0,2] 6 (λp2=>([],[(0,.var (.st 26 [(aP.enc a1),(.ref 1 [] 0),(.ref 2 [] 0),(aA.enc a2),(aA.enc p2.1),(j64 a4),(eB p2.2),(aH.enc r1.1)]))],[])) (λp2=>?_) λp2=>?_
 ·refine At.c 2 ?_ ?_
  ·refine At.o 8 (bG hT (x:=(.sl 3 1 [(aA.enc a9)]))) ?_;refine At.Y 0 [0,1,2,3,4] tX λr3=>?_;refine At.Y 1 [0,1,2,3,4] kE λr4=>?_;apply rt;exact At.jn 0
  ·apply rt;exact At.jn 0
 ·refine At.Y 3 [0,1,2,3,4] kE λr5=>?_;refine At.J 0 1 [0,2] 6 (λp6=>([],[(0,.var (.st 26 [(aP.enc a1),(.ref 1 [] 0),(.ref 2 [] 0),(aA.enc a2),(aA.enc p6.1),(j64 a4),(eB p6.2),(aH.enc r1.1)]))],[])) (λp6=>?_) λp6=>?_
  ·apply lx;intro x7;refine At.c 4 ?_ ?_
   ·refine At.o 3 (bG hT (x:=(.sl 3 1 [(aA.enc r1.2.2.2.1.gc)]))) ?_;refine At.Y 0 [0,1,2,3,4] tX λr8=>?_;refine At.Y 1 [0,1,2,3,4] kE λr9=>?_;apply rt;exact At.jn 0
   ·apply rt;exact At.jn 0
  ·refine At.J 0 1 [0,2] 6 (λp10=>([],[(0,.var (.st 26 [(aP.enc a1),(.ref 1 [] 0),(.ref 2 [] 0),(aA.enc a2),(aA.enc p10.1),(j64 a4),(eB p6.2),(aH.enc r1.1)])),(2,.var (aD.enc p10.2.1)),(3,.var (aL.enc p10.2.2))],[])) (λp10=>?_) λp10=>?_
   ·refine At.J 0 0 [0,2] 6 (λp11=>([(61,(eB p11))],[],[])) (λp11=>?_) λp11=>?_
    ·refine At.s 49 9 ?_ ?_
     ·refine At.g [49,55] 12 ?_;apply rt;exact At.jn 0
     ·apply lx;intro x12;refine At.g [49] 12 ?_;apply rt;exact At.jn 0
    ·refine At.c 0 ?_ ?_
     ·refine At.Y 2 [0,1,2,3,4] aC1 λr13=>?_;apply rt;exact At.jn 0
     ·apply rt;exact At.jn 0
   ·refine At.J 0 0 [0,2] 6 (λp14=>([(83,(eB p14))],[],[])) (λp14=>?_) λp14=>?_
    ·refine At.D 0 [] ?_;refine DD.s hT 5 ?_ ?_
     ·refine De 14 ?_;apply rt;exact At.jn 0
     ·refine De 14 ?_;apply rt;exact At.jn 0
    ·refine At.c 0 ?_ ?_
     ·refine At.Y 1 [0,1,2,3,4] kE λr15=>?_;apply rt;exact At.r 0
     ·refine At.D 0 [] ?_;refine DD.Y 12 [0,1,2,3,4] jE λr16=>?_;refine DD.Y 1 [0,1,2,3,4] jE λr17=>?_;refine DD.y 1 aBk λr18=>?_;refine De 2 ?_;refine At.D 0 [] ?_;refine DD.o 7 (λ_=>bG hT (x:=(.sl 3 2 [(aA.enc a2),(aA.enc r18.gC4)]))) ?_;refine DD.y 0 rU λr19=>?_;refine De 3 ?_;refine At.Y 3 [0,1,2,3,4] kE λr20=>?_;refine At.J 0 1 [0,2,4] 7 (λp21=>([],[(0,.var (.st 26 [(aP.enc a1),(.ref 1 [] 0),(.ref 2 [] 0),(aA.enc p21.1),(aA.enc p10.1),(j64 a4),(eB p21.2.1),(aH.enc r1.1)])),(2,.var (aD.enc p21.2.2))],[])) (λp21=>?_) λp21=>?_
      ·refine At.c 5 ?_ ?_
       ·refine At.D 0 [] ?_;refine DD.Y 5 [0,1,2,3,4] jE λr22=>?_;refine DD.y 0 aAi λr23=>?_;refine De 6 ?_;refine At.Y 8 [0,1,2,3,4] kE λr24=>?_;apply rt;exact At.jn 0
       ·apply rt;exact At.jn 0
      ·apply rt;exact At.z 11
def iA(N:Nat)(b2:(List (List aC)))(a4:aE)(a5:aG)(a6:aA)(a7:aF)(a8:aL):Nat->aD->(Vector Int 4)->Int->Option (aD×(Vector Int 4))
 | 0,_,_,_=>none
 | k+1,s9,s10,s11=>
  cond (decide (s11 < 4)) (
   aa (dY N b2 s11 (aP.mk (aB.mk 0 0 0) (aB.mk 0 0 0) 0) (aA.mk 4294967296 4294967296 4294967296) (aA.mk 0 0 0) 0 false (aH.mk (aA.mk 0 0 0) 0 0 (aA.mk 0 0 0) (-1)) a4 a5 a6 a7 s9 a8) λr12=>
   aa (dS s11 4) λ_=>
   aa (s10.toList[s11.toNat]?) λe14=>
   iA N b2 a4 a5 a6 a7 a8 k (aD.mk r12.1 s9.gA s9.gD s9.gC s9.gE) (s10.setIfInBounds s11.toNat r12.2) (I64 (s11+1))) (
   some ((s9,s10)))
def eJ(N:Nat)(a5:aG)(b2:(List (List aC)))(a4:aE)(a6:aA):Nat->aF->aL->aD->aP->aA->aA->Int->Bool->aH->Option (aF×aL×aD×aP×aA×aA×Int×Bool×aH)
 | 0,_,_,_,_,_,_,_,_,_=>none
 | k+1,s17,s18,s19,s20,s21,s22,s23,s24,s25=>
  aa (aR (decide (s23<=a5.gK)) λx27=>
  cond x27 (
   cond (!s24) (
    some true) (
    some a5.gA5)) (
   some false)) λp26=>
  cond p26 (
   aa (qH N b2 s20 s21 s22 s23 s24 s25 a4 a5 a6 s17 s19 s18) λr28=>
   eJ N a5 b2 a4 a6 k (aF.mk s17.gN r28.2.2.2.2.2.1 (I64 (s17.gF+1))) r28.2.2.2.2.2.2.2 r28.2.2.2.2.2.2.1 r28.1 r28.2.1 r28.2.2.1 (I64 (s23+1)) r28.2.2.2.1 r28.2.2.2.2.1) (
   some ((s17,s18,s19,s20,s21,s22,s23,s24,s25)))
def fT(N:Nat)(b2:(List (List aC)))(a1 a2 a3:Int)(a4:aE)(a5:aG)(a6:aA)(a7:aF)(a8:aL):Option (aF×aL×aH×Int):=
 aR (cond (decide (a1 < 0)) true (decide (a1>=a5.gW))) λx1=>
 aR (cond x1 true (decide (a2 < 0))) λx2=>
 aR (cond x2 true (decide (a2>=a5.gH))) λx3=>
 aR (cond x3 true (decide (a3 < 0))) λx4=>
 aR (decide (a3>=a5.gA8)) λx5=>
 cond (cond x4 true x5) (
  some ((a7,a8,aH.mk (aA.mk 0 0 0) 0 0 (aA.mk 0 0 0) 0,2))) (
  aR (I64 ((I64 (a2*a5.gW))+a1)) λx6=>
  aa (yP N a5.gD6 x6 a3) λr7=>
  aa (iA N b2 a4 a5 a6 a7 a8 N (aD.mk (dN.mk (bV.mk 0 0 0) false (Vector.replicate 64 0)) true a5.gD6 x6 a3) (#v[0,0,0,0]) 0) λp8=>
  aa (yZ N a5.gD7 a5.gW a5.gH a1 a2 p8.2) λr15=>
  aa (eJ N a5 b2 a4 a6 N a7 a8 p8.1 (aP.mk r15.1 r15.2.1 (-1)) (aA.mk 4294967296 4294967296 4294967296) (aA.mk 0 0 0) 0 false (aH.mk (aA.mk 0 0 0) 0 0 (aA.mk 0 0 0) (-1))) λp16=>
  some ((p16.1,p16.2.1,aH.mk p16.2.2.2.2.2.1 p16.2.2.2.2.2.2.2.2.gT p16.2.2.2.2.2.2.2.2.gK p16.2.2.2.2.2.2.2.2.gB5 p16.2.2.2.2.2.2.2.2.gA3,0)))
theorem vA{N b2 a1 a2 a3 a4 a5 a6 a7 a8 r}(h:fT N b2 a1 a2 a3 a4 a5 a6 a7 a8=some r):FnM Tryz.prog 23 [.var (.st 38 [(aE.enc a4),(aG.enc a5),(.ifc 115 (.ref 1 [] 0)),(eO 2 1 (eL 2 aC.enc) b2),(aA.enc a6),(aF.enc a7)]),.var (aL.enc a8),.tail (b2.length*1)] [(.ref 0 [] 0),(j64 a1),(j64 a2),(j64 a3)] (.tup [(aH.enc r.2.2.1),(j64 r.2.2.2)]) [.var (.st 38 [(aE.enc a4),(aG.enc a5),(.ifc 115 (.ref 1 [] 0)),(eO 2 1 (eL 2 aC.enc) b2),(aA.enc a6),(aF.enc r.1)]),.var (aL.enc r.2.1),.tail (b2.length*1)]:=by
 refine Af bO Tryz.func23 h ?_;refine At.o 3 (sZ hT (t:=64) (x:=(.ref 0 [] 0)) (b:=true) (by kernel_rfl) rfl rfl (by kernel_rfl)) ?_;refine At.g [16] 5 ?_;refine At.o 0 (aIL (t:=104) (u:=115) (x:=(.ref 1 [] 0)) (by kernel_rfl) rfl rfl .eql false (by decide) (by kernel_rfl)) ?_;apply lx;intro x1;apply lx;intro x2;apply lx;intro x3;apply lx;intro x4;apply lx;intro x5;refine At.g [16] 41 ?_;refine At.c 0 ?_ ?_
 ·apply rt;exact At.r 3
 ·refine At.D 0 [] ?_;apply lx;intro x6;refine DD.Z 16 [] 4 aFG λr7=>?_;refine De 5 ?_;refine At.M 2 [0,1,2,8,10,11] 7 (λp8=>([],[(4,.var (aD.enc p8.1)),(6,.var (eA 4 1 k32 p8.2))],[])) [0,1,2,8,10,11] 7 (CU3 (iA N b2 a4 a5 a6 a7 a8)) (cu3 λ(s9:aD) (s10:(Vector Int 4)) (s11:Int)=>([(84,(j64 s11))],[(4,.var (aD.enc s9)),(6,.var (eA 4 1 k32 s10))],[])) (_,_,_) N (λp8 k=>un3 λs9 s10 s11=>?_) λp8=>?_
  ·refine At.c 1 ?_ ?_
   ·refine At.Y 5 [5,0,4,1,2] jE λr12=>?_;refine At.b 0 (λ_ e=>bF hT (k:=1) 6 [] 0 e) λu13=>?_;refine At.b 0 (λ_ e=>oX hT k32 0 s10 e r12.2 (by kernel_rfl) (by kernel_rfl) (H':=[.var (.st 38 [(aE.enc a4),(aG.enc a5),(.ifc 115 (.ref 1 [] 0)),(eO 2 1 (eL 2 aC.enc) b2),(aA.enc a6),(aF.enc a7)]),.var (aL.enc a8),.tail (b2.length*1),.var cv_2,.var (.st 72 [(dN.enc r12.1),(eB s9.gA),(k64 s9.gD),(j64 s9.gC),(j64 s9.gE)]),.var cv_3,.var (eA 4 1 k32 (s10.setIfInBounds s11.toNat r12.2))])) λe14=>?_;exact λh=>At.v 2 (_,_,_) h
   ·apply rt;exact At.x 0
  ·refine At.D 5 [] ?_;refine DD.y 20 aHh λr15=>?_;refine De 12 ?_;refine At.M 0 [8,10] 7 (λp16=>([],[(0,.var (.st 38 [(aE.enc a4),(aG.enc a5),(.ifc 115 (.ref 1 [] 0)),(eO 2 1 (eL 2 aC.enc) b2),(aA.enc a6),(aF.enc p16.1)])),(1,.var (aL.enc p16.2.1)),(4,.var (aD.enc p16.2.2.1)),(5,.var (.st 26 [(aP.enc p16.2.2.2.1),(.ref 0 [] 0),(.ref 4 [] 0),(aA.enc p16.2.2.2.2.1),(aA.enc p16.2.2.2.2.2.1),(j64 p16.2.2.2.2.2.2.1),(eB p16.2.2.2.2.2.2.2.1),(aH.enc p16.2.2.2.2.2.2.2.2)]))],[])) [0,8,10] 7 (CU9 (eJ N a5 b2 a4 a6)) (cu9 λ(s17:aF) (s18:aL) (s19:aD) (s20:aP) (s21:aA) (s22:aA) (s23:Int) (s24:Bool) (s25:aH)=>([],[(0,.var (.st 38 [(aE.enc a4),(aG.enc a5),(.ifc 115 (.ref 1 [] 0)),(eO 2 1 (eL 2 aC.enc) b2),(aA.enc a6),(aF.enc s17)])),(1,.var (aL.enc s18)),(4,.var (aD.enc s19)),(5,.var (.st 26 [(aP.enc s20),(.ref 0 [] 0),(.ref 4 [] 0),(aA.enc s21),(aA.enc s22),(j64 s23),(eB s24),(aH.enc s25)]))],[])) (_,_,_,_,_,_,_,_,_) N (λp16 k=>un9 λs17 s18 s19 s20 s21 s22 s23 s24 s25=>?_) λp16=>?_
   ·refine At.J 0 0 [0,8,10] 7 (λp26=>([(151,(eB p26))],[],[])) (λp26=>?_) λp26=>?_
    ·refine At.D 0 [] ?_;apply lx;intro x27;refine DD.s hT 11 ?_ ?_
     ·refine DD.s hT 6 ?_ ?_
      ·refine De 7 ?_;apply rt;exact At.jn 0
      ·refine De 7 ?_;apply rt;exact At.jn 0
     ·refine De 13 ?_;apply rt;exact At.jn 0
    ·refine At.c 0 ?_ ?_
     ·refine At.Y 1 [5,0,4,1,2] aD6 λr28=>?_;exact λh=>At.v 8 (_,_,_,_,_,_,_,_,_) h
     ·apply rt;exact At.x 0
   ·apply rt;exact At.r 15
def aAf(N:Nat)(a0:aL):Option (Int):=
 aa (lT N a0) λr1=>
 cond r1 (some 0) (some a0.gD3)
theorem aDv{N a0 r}(h:aAf N a0=some r):FnM Tryz.prog 244 [.var (aL.enc a0)] [(.ref 0 [] 0)] (j64 r) [.var (aL.enc a0)]:=by
 refine Af bO Tryz.func244 h ?_;refine At.Y 2 [0] vI λr1=>?_;refine At.c 0 ?_ ?_
 ·apply rt;exact At.r 1
 ·apply rt;exact At.r 5
def kR(N:Nat)(b2:(List (List aC)))(a1:aE)(a2:aG)(a3:aA)(a4:aF)(a5:aL):Option (aF):=
 aa (aAf N a5) λr1=>
 some (aF.mk r1 a4.gO a4.gF)
theorem xA{N b2 a1 a2 a3 a4 a5 r}(h:kR N b2 a1 a2 a3 a4 a5=some r):FnM Tryz.prog 27 [.var (.st 38 [(aE.enc a1),(aG.enc a2),(.ifc 115 (.ref 1 [] 0)),(eO 2 1 (eL 2 aC.enc) b2),(aA.enc a3),(aF.enc a4)]),.var (aL.enc a5),.tail (b2.length*1)] [(.ref 0 [] 0)] (aF.enc r) [.var (.st 38 [(aE.enc a1),(aG.enc a2),(.ifc 115 (.ref 1 [] 0)),(eO 2 1 (eL 2 aC.enc) b2),(aA.enc a3),(aF.enc a4)]),.var (aL.enc a5),.tail (b2.length*1)]:=by
 refine Af bO Tryz.func27 h ?_;refine At.o 2 (sZ hT (t:=64) (x:=(.ref 0 [] 0)) (b:=true) (by kernel_rfl) rfl rfl (by kernel_rfl)) ?_;refine At.g [6] 5 ?_;refine At.o 0 (aIL (t:=104) (u:=115) (x:=(.ref 1 [] 0)) (by kernel_rfl) rfl rfl .eql false (by decide) (by kernel_rfl)) ?_;refine At.g [6] 12 ?_;refine At.Y 0 [1] aDv λr1=>?_;apply rt;exact At.r 4
def aMo : Nat->Bool:=imL [2,3]
def nF(N:Nat)(a1:aG)(r4:(List aJ)×(List aN)×(List aQ)×(List (List aC))×aA×(List aJ)×Int)(s36 s25:Int)(s33:aE):Nat->(List aH)->aF->aK->Int->Option ((List aH)×aF×aK)
 | 0,_,_,_,_=>none
 | k+1,s38,s39,s40,s41=>
  aR (decide (s41 < a1.gA8)) λx42=>
  cond x42 (
   aa (eX N r4.2.2.2.1 s36 s25 s41 s33 a1 r4.2.2.2.2.1 s39 s40) λr43=>
   aa (nL 72 s38 (([r43.2.2.1]:List aH))) λz44=>
   nF N a1 r4 s36 s25 s33 k z44 r43.1 r43.2.1 (I64 (s41+1))) (
   some ((s38,s39,s40)))
def nE(N:Nat)(a1:aG)(r4:(List aJ)×(List aN)×(List aQ)×(List (List aC))×aA×(List aJ)×Int)(s25:Int)(a0:aE):Nat->(List (Vector Int 3))->(List Int)->(List Int)->(List (Vector Int 3))->(List Int)->(List Int)->aE->aF->aK->Int->Option ((List (Vector Int 3))×(List Int)×(List Int)×(List (Vector Int 3))×(List Int)×(List Int)×aE×aF×aK)
 | 0,_,_,_,_,_,_,_,_,_,_=>none
 | k+1,s27,s28,s29,s30,s31,s32,s33,s34,s35,s36=>
  cond (decide (s36 < a1.gW)) (
   aa (nF N a1 r4 s36 s25 s33 N [] s34 s35 0) λp37=>
   aa (oA N p37.1 a0) λr45=>
   aa (nL 24 s27 r45.1.gB9) λz46=>
   aa (nL 24 s30 r45.1.gB5) λz47=>
   aa (nL 8 s28 r45.1.gT) λz48=>
   aa (nL 8 s29 r45.1.gK) λz49=>
   aa (nL 8 s31 r45.1.gB8) λz50=>
   aa (nL 8 s32 r45.1.gR) λz51=>
   nE N a1 r4 s25 a0 k z46 z48 z49 z47 z50 z51 s33 p37.2.1 p37.2.2 (I64 (s36+1))) (
   some ((s27,s28,s29,s30,s31,s32,s33,s34,s35)))
def nC(N:Nat)(a1:aG)(r4:(List aJ)×(List aN)×(List aQ)×(List (List aC))×aA×(List aJ)×Int)(a0:aE):Nat->(List (Vector Int 3))->(List Int)->(List Int)->(List (Vector Int 3))->(List Int)->(List Int)->(List aJ)->(List aN)->(List aC)->(List aQ)->(List Int)->(List Int)->Int->Int->Int->aF->aK->Int->Option ((List (Vector Int 3))×(List Int)×(List Int)×(List (Vector Int 3))×(List Int)×(List Int)×aE×aF×aK)
 | 0,_,_,_,_,_,_,_,_,_,_,_,_,_,_,_,_,_,_=>none
 | k+1,s8,s9,s10,s11,s12,s13,s14,s15,s16,s17,s18,s19,s20,s21,s22,s23,s24,s25=>
  cond (decide (s25 < a1.gH)) (
   aa (nE N a1 r4 s25 a0 N s8 s9 s10 s11 s12 s13 (aE.mk s14 s15 s16 s17 s18 s19 s20 s21 s22) s23 s24 0) λp26=>
   nC N a1 r4 a0 k p26.1 p26.2.1 p26.2.2.1 p26.2.2.2.1 p26.2.2.2.2.1 p26.2.2.2.2.2.1 p26.2.2.2.2.2.2.1.gL p26.2.2.2.2.2.2.1.gA4 p26.2.2.2.2.2.2.1.gQ p26.2.2.2.2.2.2.1.gI p26.2.2.2.2.2.2.1.gJ p26.2.2.2.2.2.2.1.gS p26.2.2.2.2.2.2.1.gR p26.2.2.2.2.2.2.1.gB2 p26.2.2.2.2.2.2.1.gTo p26.2.2.2.2.2.2.2.1 p26.2.2.2.2.2.2.2.2 (I64 (s25+1))) (
   some ((s8,s9,s10,s11,s12,s13,aE.mk s14 s15 s16 s17 s18 s19 s20 s21 s22,s23,s24)))
def nJ(N:Nat)(a1:aG)(r6:(List aJ)×(List aN)×(List aQ)×(List (List aC))×aA×aL×Int)(s82 s71:Int)(s79:aE):Nat->(List aH)->aF->aL->Int->Option ((List aH)×aF×aL)
 | 0,_,_,_,_=>none
 | k+1,s84,s85,s86,s87=>
  aR (decide (s87 < a1.gA8)) λx88=>
  cond x88 (
   aa (fT N r6.2.2.2.1 s82 s71 s87 s79 a1 r6.2.2.2.2.1 s85 s86) λr89=>
   aa (nL 72 s84 (([r89.2.2.1]:List aH))) λz90=>
   nJ N a1 r6 s82 s71 s79 k z90 r89.1 r89.2.1 (I64 (s87+1))) (
   some ((s84,s85,s86)))
def nH(N:Nat)(a1:aG)(r6:(List aJ)×(List aN)×(List aQ)×(List (List aC))×aA×aL×Int)(s71:Int)(a0:aE):Nat->(List (Vector Int 3))->(List Int)->(List Int)->(List (Vector Int 3))->(List Int)->(List Int)->aE->aF->aL->Int->Option ((List (Vector Int 3))×(List Int)×(List Int)×(List (Vector Int 3))×(List Int)×(List Int)×aE×aF×aL)
 | 0,_,_,_,_,_,_,_,_,_,_=>none
 | k+1,s73,s74,s75,s76,s77,s78,s79,s80,s81,s82=>
  cond (decide (s82 < a1.gW)) (
   aa (nJ N a1 r6 s82 s71 s79 N [] s80 s81 0) λp83=>
   aa (oA N p83.1 a0) λr91=>
   aa (nL 24 s73 r91.1.gB9) λz92=>
   aa (nL 24 s76 r91.1.gB5) λz93=>
   aa (nL 8 s74 r91.1.gT) λz94=>
   aa (nL 8 s75 r91.1.gK) λz95=>
   aa (nL 8 s77 r91.1.gB8) λz96=>
   aa (nL 8 s78 r91.1.gR) λz97=>
   nH N a1 r6 s71 a0 k z92 z94 z95 z93 z96 z97 s79 p83.2.1 p83.2.2 (I64 (s82+1))) (
   some ((s73,s74,s75,s76,s77,s78,s79,s80,s81)))
def nI(N:Nat)(a1:aG)(r6:(List aJ)×(List aN)×(List aQ)×(List (List aC))×aA×aL×Int)(a0:aE):Nat->(List (Vector Int 3))->(List Int)->(List Int)->(List (Vector Int 3))->(List Int)->(List Int)->(List aJ)->(List aN)->(List aC)->(List aQ)->(List Int)->(List Int)->Int->Int->Int->aF->aL->Int->Option ((List (Vector Int 3))×(List Int)×(List Int)×(List (Vector Int 3))×(List Int)×(List Int)×aE×aF×aL)
 | 0,_,_,_,_,_,_,_,_,_,_,_,_,_,_,_,_,_,_=>none
 | k+1,s54,s55,s56,s57,s58,s59,s60,s61,s62,s63,s64,s65,s66,s67,s68,s69,s70,s71=>
  cond (decide (s71 < a1.gH)) (
   aa (nH N a1 r6 s71 a0 N s54 s55 s56 s57 s58 s59 (aE.mk s60 s61 s62 s63 s64 s65 s66 s67 s68) s69 s70 0) λp72=>
   nI N a1 r6 a0 k p72.1 p72.2.1 p72.2.2.1 p72.2.2.2.1 p72.2.2.2.2.1 p72.2.2.2.2.2.1 p72.2.2.2.2.2.2.1.gL p72.2.2.2.2.2.2.1.gA4 p72.2.2.2.2.2.2.1.gQ p72.2.2.2.2.2.2.1.gI p72.2.2.2.2.2.2.1.gJ p72.2.2.2.2.2.2.1.gS p72.2.2.2.2.2.2.1.gR p72.2.2.2.2.2.2.1.gB2 p72.2.2.2.2.2.2.1.gTo p72.2.2.2.2.2.2.2.1 p72.2.2.2.2.2.2.2.2 (I64 (s71+1))) (
   some ((s54,s55,s56,s57,s58,s59,aE.mk s60 s61 s62 s63 s64 s65 s66 s67 s68,s69,s70)))
def jQ(N:Nat)(a0:aE)(a1:aG):Option (aI×aF×Int):=
 aa (jX N a0 a1) λq=>
 kG q (λr2=>
  cond (r2 != 0) (
   some ((aI.mk 0 0 [] [] [] [] [] [],aF.mk 0 0 0,r2))) (
   none)) (λq=>
 kG q (λr3=>
  none) (λq=>
 kG q (λr4=>
  cond (r4.2.2.2.2.2.2 != 0) (
   some ((aI.mk 0 0 [] [] [] [] [] [],aF.mk 0 0 0,r4.2.2.2.2.2.2))) (
   aa (nC N a1 r4 a0 N [] [] [] [] [] [] r4.1 r4.2.1 a0.gQ r4.2.2.1 a0.gJ a0.gS a0.gR a0.gB2 a0.gTo (aF.mk 0 0 0) (aK.mk (fD.mk 0) true r4.2.2.2.2.2.1) 0) λp7=>
   aa (jM N r4.2.2.2.1 p7.2.2.2.2.2.2.1 a1 r4.2.2.2.2.1 p7.2.2.2.2.2.2.2.1 p7.2.2.2.2.2.2.2.2) λr52=>
   some ((aI.mk a1.gW a1.gH p7.1 p7.2.1 p7.2.2.1 p7.2.2.2.1 p7.2.2.2.2.1 p7.2.2.2.2.2.1,r52,0)))) (λq=>
 kG q (λr5=>
  none) (λr6=>
  cond (r6.2.2.2.2.2.2 != 0) (
   some ((aI.mk 0 0 [] [] [] [] [] [],aF.mk 0 0 0,r6.2.2.2.2.2.2))) (
   aa (nI N a1 r6 a0 N [] [] [] [] [] [] r6.1 r6.2.1 a0.gQ r6.2.2.1 a0.gJ a0.gS a0.gR a0.gB2 a0.gTo (aF.mk 0 0 0) r6.2.2.2.2.2.1 0) λp53=>
   aa (kR N r6.2.2.2.1 p53.2.2.2.2.2.2.1 a1 r6.2.2.2.2.1 p53.2.2.2.2.2.2.2.1 p53.2.2.2.2.2.2.2.2) λr98=>
   some ((aI.mk a1.gW a1.gH p53.1 p53.2.1 p53.2.2.1 p53.2.2.2.1 p53.2.2.2.2.1 p53.2.2.2.2.2.1,r98,0)))))))
theorem aCd{N a0 a1 r}(h:jQ N a0 a1=some r):FnM Tryz.prog 14 [] [(aE.enc a0),(aG.enc a1)] (.tup [(aI.enc r.1),(aF.enc r.2.1),(j64 r.2.2)]) []:=by
 refine Af aMo Tryz.func14 h ?_;refine aR6 (λr2 hr2=>?_) (λq hq=>?_)
 ·refine At.o 7 (tY [] (aEW hr2)) ?_;refine At.c 7 ?_ ?_
  ·apply rt;exact At.r 6
  ·refine At.grob 7 2 3 [2] ?_;refine At.grob 0 2 1 [3] ?_;refine At.grob 0 2 1 [4] ?_;refine At.grob 0 2 3 [5] ?_;refine At.grob 0 2 1 [6] ?_;refine At.grob 0 2 1 [7] ?_;exact nn
 ·refine aOE (λr3 e=>?_) (λq e=>?_)
  ·subst e;have hr3:=hq;exact nn
  ·subst e;have hq:=hq;refine aOE (λr4 e=>?_) (λq e=>?_)
   ·subst e;have hr4:=hq;refine At.o 7 (tY [] (aEH hr4)) ?_;refine At.c 7 ?_ ?_
    ·apply rt;exact At.r 6
    ·refine At.grob 7 9 3 [2] ?_;refine At.grob 0 9 1 [3] ?_;refine At.grob 0 9 1 [4] ?_;refine At.grob 0 9 3 [5] ?_;refine At.grob 0 9 1 [6] ?_;refine At.grob 0 9 1 [7] ?_;refine At.L 3 [4,5,7,9] 16 (λp7=>([],[(2,.var (.st 38 [(aE.enc p7.2.2.2.2.2.2.1),(aG.enc a1),(.ifc 112 (.ref 8 [] 0)),(eO 6 1 (eL 2 aC.enc) r4.2.2.2.1),(aA.enc r4.2.2.2.2.1),(aF.enc p7.2.2.2.2.2.2.2.1)])),(8,.var (aK.enc p7.2.2.2.2.2.2.2.2)),(9,.var (.st 8 [(j64 a1.gW),(j64 a1.gH),(.gro 10 3 p7.1.length .all),(.gro 11 1 p7.2.1.length .all),(.gro 12 1 p7.2.2.1.length .all),(.gro 13 3 p7.2.2.2.1.length .all),(.gro 14 1 p7.2.2.2.2.1.length .all),(.gro 15 1 p7.2.2.2.2.2.1.length .all)])),(10,.gro 3 (ah (eA 3 1 j64) p7.1)),(11,.gro 1 (ah j64 p7.2.1)),(12,.gro 1 (ah j64 p7.2.2.1)),(13,.gro 3 (ah (eA 3 1 j64) p7.2.2.2.1)),(14,.gro 1 (ah j64 p7.2.2.2.2.1)),(15,.gro 1 (ah j64 p7.2.2.2.2.2.1))],[])) (λp7 J k=>∃s8 s9 s10 s11 s12 s13 s14 s15 s16 s17 s18 s19 s20 s21 s22 s23 s24 s25,nC N a1 r4 a0 k s8 s9 s10 s11 s12 s13 s14 s15 s16 s17 s18 s19 s20 s21 s22 s23 s24 s25=some p7/\J [2,3,4,5,7,9,35] 16 [(36,(j64 s25))] [(2,.var (.st 38 [(.st 9 [(eL 19 aJ.enc s14),(eL 5 aN.enc s15),(eL 2 aC.enc s16),(eL 13 aQ.enc s17),(eL 1 k64 s18),(eL 1 k32 s19),(k32 s20),(k32 s21),(k32 s22)]),(aG.enc a1),(.ifc 112 (.ref 8 [] 0)),(eO 6 1 (eL 2 aC.enc) r4.2.2.2.1),(aA.enc r4.2.2.2.2.1),(aF.enc s23)])),(8,.var (aK.enc s24)),(9,.var (.st 8 [(j64 a1.gW),(j64 a1.gH),(.gro 10 3 s8.length .all),(.gro 11 1 s9.length .all),(.gro 12 1 s10.length .all),(.gro 13 3 s11.length .all),(.gro 14 1 s12.length .all),(.gro 15 1 s13.length .all)])),(10,.gro 3 (ah (eA 3 1 j64) s8)),(11,.gro 1 (ah j64 s9)),(12,.gro 1 (ah j64 s10)),(13,.gro 3 (ah (eA 3 1 j64) s11)),(14,.gro 1 (ah j64 s12)),(15,.gro 1 (ah j64 s13))] []) N (λ_ h=>⟨_,_,_,_,_,_,_,_,_,_,_,_,_,_,_,_,_,_,h,jr⟩) (λp7 k s hI=>?_) λp7=>?_
     ·obtain⟨s8,s9,s10,s11,s12,s13,s14,s15,s16,s17,s18,s19,s20,s21,s22,s23,s24,s25,h,hj⟩:=hI;cases k with
      | zero=>cases h
      | succ k=>
       refine At.jr hj ?_ h;refine At.c 1 ?_ ?_
       ·refine At.M 5 [2,3,4,5,7,9,35,36] 16 (λp26=>([],[(2,.var (.st 38 [(aE.enc p26.2.2.2.2.2.2.1),(aG.enc a1),(.ifc 112 (.ref 8 [] 0)),(eO 6 1 (eL 2 aC.enc) r4.2.2.2.1),(aA.enc r4.2.2.2.2.1),(aF.enc p26.2.2.2.2.2.2.2.1)])),(8,.var (aK.enc p26.2.2.2.2.2.2.2.2)),(9,.var (.st 8 [(j64 a1.gW),(j64 a1.gH),(.gro 10 3 p26.1.length .all),(.gro 11 1 p26.2.1.length .all),(.gro 12 1 p26.2.2.1.length .all),(.gro 13 3 p26.2.2.2.1.length .all),(.gro 14 1 p26.2.2.2.2.1.length .all),(.gro 15 1 p26.2.2.2.2.2.1.length .all)])),(10,.gro 3 (ah (eA 3 1 j64) p26.1)),(11,.gro 1 (ah j64 p26.2.1)),(12,.gro 1 (ah j64 p26.2.2.1)),(13,.gro 3 (ah (eA 3 1 j64) p26.2.2.2.1)),(14,.gro 1 (ah j64 p26.2.2.2.2.1)),(15,.gro 1 (ah j64 p26.2.2.2.2.2.1))],[])) [2,3,4,5,7,9,10,35,36,40] 16 (CU10 (nE N a1 r4 s25 a0)) (cu10 λ(s27:(List (Vector Int 3))) (s28:(List Int)) (s29:(List Int)) (s30:(List (Vector Int 3))) (s31:(List Int)) (s32:(List Int)) (s33:aE) (s34:aF) (s35:aK) (s36:Int)=>([(41,(j64 s36))],[(2,.var (.st 38 [(aE.enc s33),(aG.enc a1),(.ifc 112 (.ref 8 [] 0)),(eO 6 1 (eL 2 aC.enc) r4.2.2.2.1),(aA.enc r4.2.2.2.2.1),(aF.enc s34)])),(8,.var (aK.enc s35)),(9,.var (.st 8 [(j64 a1.gW),(j64 a1.gH),(.gro 10 3 s27.length .all),(.gro 11 1 s28.length .all),(.gro 12 1 s29.length .all),(.gro 13 3 s30.length .all),(.gro 14 1 s31.length .all),(.gro 15 1 s32.length .all)])),(10,.gro 3 (ah (eA 3 1 j64) s27)),(11,.gro 1 (ah j64 s28)),(12,.gro 1 (ah j64 s29)),(13,.gro 3 (ah (eA 3 1 j64) s30)),(14,.gro 1 (ah j64 s31)),(15,.gro 1 (ah j64 s32))],[])) (_,_,_,_,_,_,_,_,_,_) N (λp26 k=>un10 λs27 s28 s29 s30 s31 s32 s33 s34 s35 s36=>?_) λp26=>?_
        ·refine At.c 1 ?_ ?_
         ·refine At.ownn 6 12 9 ?_;refine At.M 0 [2,3,4,5,7,9,10,35,36,40,41] 17 (λp37=>([(12,(eO 16 9 aH.enc p37.1))],[(2,.var (.st 38 [(aE.enc s33),(aG.enc a1),(.ifc 112 (.ref 8 [] 0)),(eO 6 1 (eL 2 aC.enc) r4.2.2.2.1),(aA.enc r4.2.2.2.2.1),(aF.enc p37.2.1)])),(8,.var (aK.enc p37.2.2)),(16,.tail (p37.1.length*9))],[])) [2,3,4,5,7,9,10,11,35,36,40,41,45] 17 (CU4 (nF N a1 r4 s36 s25 s33)) (cu4 λ(s38:(List aH)) (s39:aF) (s40:aK) (s41:Int)=>([(12,(eO 16 9 aH.enc s38)),(46,(j64 s41))],[(2,.var (.st 38 [(aE.enc s33),(aG.enc a1),(.ifc 112 (.ref 8 [] 0)),(eO 6 1 (eL 2 aC.enc) r4.2.2.2.1),(aA.enc r4.2.2.2.2.1),(aF.enc s39)])),(8,.var (aK.enc s40)),(16,.tail (s38.length*9))],[])) (_,_,_,_) N (λp37 k=>un4 λs38 s39 s40 s41=>?_) λp37=>?_
          ·apply lx;intro x42;refine At.c 1 ?_ ?_
           ·refine At.Y 6 [2,8,6] tE λr43=>?_;refine At.o 8 (bG hT (x:=(.sl 9 1 [(aH.enc r43.2.2.1)]))) ?_;refine At.b 0 (λ_ e=>iI hT aH.enc (id:=16) (k:=9) e) λz44=>?_;exact λh=>At.v 3 (_,_,_,_) h
           ·apply rt;exact At.x 0
          ·refine At.y 2 aAA λr45=>?_;refine At.D 6 [] ?_;refine bi λz46 hz46=>?_;refine DD.w 4 (.gro 10 3 z46.length .all) ⟨[(10,.gro 3 (ah (eA 3 1 j64) z46))],[]⟩ (λ_ e=>kY hT (eA 3 1 j64) (id:=10) (k:=3) hz46 (pj1 e) (pj1 (pj2 e)) (pj2 (pj2 e))) ?_;refine bi λz47 hz47=>?_;refine DD.w 4 (.gro 13 3 z47.length .all) ⟨[(13,.gro 3 (ah (eA 3 1 j64) z47))],[]⟩ (λ_ e=>kY hT (eA 3 1 j64) (id:=13) (k:=3) hz47 (pj1 e) (pj1 (pj2 e)) (pj2 (pj2 e))) ?_;refine De 4 ?_;refine At.D 0 [] ?_;refine bi λz48 hz48=>?_;refine DD.w 4 (.gro 11 1 z48.length .all) ⟨[(11,.gro 1 (ah j64 z48))],[]⟩ (λ_ e=>kY hT j64 (id:=11) (k:=1) hz48 (pj1 e) (pj1 (pj2 e)) (pj2 (pj2 e))) ?_;refine bi λz49 hz49=>?_;refine DD.w 4 (.gro 12 1 z49.length .all) ⟨[(12,.gro 1 (ah j64 z49))],[]⟩ (λ_ e=>kY hT j64 (id:=12) (k:=1) hz49 (pj1 e) (pj1 (pj2 e)) (pj2 (pj2 e))) ?_;refine De 4 ?_;refine At.D 0 [] ?_;refine bi λz50 hz50=>?_;refine DD.w 4 (.gro 14 1 z50.length .all) ⟨[(14,.gro 1 (ah j64 z50))],[]⟩ (λ_ e=>kY hT j64 (id:=14) (k:=1) hz50 (pj1 e) (pj1 (pj2 e)) (pj2 (pj2 e))) ?_;refine bi λz51 hz51=>?_;refine DD.w 4 (.gro 15 1 z51.length .all) ⟨[(15,.gro 1 (ah j64 z51))],[]⟩ (λ_ e=>kY hT j64 (id:=15) (k:=1) hz51 (pj1 e) (pj1 (pj2 e)) (pj2 (pj2 e))) ?_;refine De 4 ?_;exact λh=>At.v 2 (_,_,_,_,_,_,_,_,_,_) h
         ·apply rt;exact At.x 0
        ·exact λh=>At.k 2 ⟨_,_,_,_,_,_,_,_,_,_,_,_,_,_,_,_,_,_,h,jr⟩
       ·apply rt;exact At.x 0
     ·refine At.D 0 [] ?_;refine DD.Y 2 [2,8,6] vD λr52=>?_;refine De 3 ?_;refine At.fz 0 10 3 p7.1.length _ (ah (eA 3 1 j64) p7.1) (ai _) (ai _) ?_;refine At.fz 0 11 1 p7.2.1.length _ (ah j64 p7.2.1) (ai _) (ai _) ?_;refine At.fz 0 12 1 p7.2.2.1.length _ (ah j64 p7.2.2.1) (ai _) (ai _) ?_;refine At.fz 0 13 3 p7.2.2.2.1.length _ (ah (eA 3 1 j64) p7.2.2.2.1) (ai _) (ai _) ?_;refine At.fz 0 14 1 p7.2.2.2.2.1.length _ (ah j64 p7.2.2.2.2.1) (ai _) (ai _) ?_;refine At.fz 0 15 1 p7.2.2.2.2.2.1.length _ (ah j64 p7.2.2.2.2.2.1) (ai _) (ai _) ?_;apply rt;exact At.r 0
   ·subst e;have hq:=hq;refine aOE (λr5 e=>?_) (λr6 e=>?_)
    ·subst e;have hr5:=hq;exact nn
    ·subst e;have hr6:=hq;refine At.o 7 (tY [] (aD1 hr6)) ?_;refine At.c 7 ?_ ?_
     ·apply rt;exact At.r 6
     ·refine At.grob 7 9 3 [2] ?_;refine At.grob 0 9 1 [3] ?_;refine At.grob 0 9 1 [4] ?_;refine At.grob 0 9 3 [5] ?_;refine At.grob 0 9 1 [6] ?_;refine At.grob 0 9 1 [7] ?_;refine At.L 3 [4,5,7,9] 16 (λp53=>([],[(2,.var (.st 38 [(aE.enc p53.2.2.2.2.2.2.1),(aG.enc a1),(.ifc 115 (.ref 8 [] 0)),(eO 6 1 (eL 2 aC.enc) r6.2.2.2.1),(aA.enc r6.2.2.2.2.1),(aF.enc p53.2.2.2.2.2.2.2.1)])),(8,.var (aL.enc p53.2.2.2.2.2.2.2.2)),(9,.var (.st 8 [(j64 a1.gW),(j64 a1.gH),(.gro 10 3 p53.1.length .all),(.gro 11 1 p53.2.1.length .all),(.gro 12 1 p53.2.2.1.length .all),(.gro 13 3 p53.2.2.2.1.length .all),(.gro 14 1 p53.2.2.2.2.1.length .all),(.gro 15 1 p53.2.2.2.2.2.1.length .all)])),(10,.gro 3 (ah (eA 3 1 j64) p53.1)),(11,.gro 1 (ah j64 p53.2.1)),(12,.gro 1 (ah j64 p53.2.2.1)),(13,.gro 3 (ah (eA 3 1 j64) p53.2.2.2.1)),(14,.gro 1 (ah j64 p53.2.2.2.2.1)),(15,.gro 1 (ah j64 p53.2.2.2.2.2.1))],[])) (λp53 J k=>∃s54 s55 s56 s57 s58 s59 s60 s61 s62 s63 s64 s65 s66 s67 s68 s69 s70 s71,nI N a1 r6 a0 k s54 s55 s56 s57 s58 s59 s60 s61 s62 s63 s64 s65 s66 s67 s68 s69 s70 s71=some p53/\J [2,3,4,5,7,9,35] 16 [(36,(j64 s71))] [(2,.var (.st 38 [(.st 9 [(eL 19 aJ.enc s60),(eL 5 aN.enc s61),(eL 2 aC.enc s62),(eL 13 aQ.enc s63),(eL 1 k64 s64),(eL 1 k32 s65),(k32 s66),(k32 s67),(k32 s68)]),(aG.enc a1),(.ifc 115 (.ref 8 [] 0)),(eO 6 1 (eL 2 aC.enc) r6.2.2.2.1),(aA.enc r6.2.2.2.2.1),(aF.enc s69)])),(8,.var (aL.enc s70)),(9,.var (.st 8 [(j64 a1.gW),(j64 a1.gH),(.gro 10 3 s54.length .all),(.gro 11 1 s55.length .all),(.gro 12 1 s56.length .all),(.gro 13 3 s57.length .all),(.gro 14 1 s58.length .all),(.gro 15 1 s59.length .all)])),(10,.gro 3 (ah (eA 3 1 j64) s54)),(11,.gro 1 (ah j64 s55)),(12,.gro 1 (ah j64 s56)),(13,.gro 3 (ah (eA 3 1 j64) s57)),(14,.gro 1 (ah j64 s58)),(15,.gro 1 (ah j64 s59))] []) N (λ_ h=>⟨_,_,_,_,_,_,_,_,_,_,_,_,_,_,_,_,_,_,h,jr⟩) (λp53 k s hI=>?_) λp53=>?_
      ·obtain⟨s54,s55,s56,s57,s58,s59,s60,s61,s62,s63,s64,s65,s66,s67,s68,s69,s70,s71,h,hj⟩:=hI;cases k with
       | zero=>cases h
       | succ k=>
        refine At.jr hj ?_ h;refine At.c 1 ?_ ?_
        ·refine At.M 5 [2,3,4,5,7,9,35,36] 16 (λp72=>([],[(2,.var (.st 38 [(aE.enc p72.2.2.2.2.2.2.1),(aG.enc a1),(.ifc 115 (.ref 8 [] 0)),(eO 6 1 (eL 2 aC.enc) r6.2.2.2.1),(aA.enc r6.2.2.2.2.1),(aF.enc p72.2.2.2.2.2.2.2.1)])),(8,.var (aL.enc p72.2.2.2.2.2.2.2.2)),(9,.var (.st 8 [(j64 a1.gW),(j64 a1.gH),(.gro 10 3 p72.1.length .all),(.gro 11 1 p72.2.1.length .all),(.gro 12 1 p72.2.2.1.length .all),(.gro 13 3 p72.2.2.2.1.length .all),(.gro 14 1 p72.2.2.2.2.1.length .all),(.gro 15 1 p72.2.2.2.2.2.1.length .all)])),(10,.gro 3 (ah (eA 3 1 j64) p72.1)),(11,.gro 1 (ah j64 p72.2.1)),(12,.gro 1 (ah j64 p72.2.2.1)),(13,.gro 3 (ah (eA 3 1 j64) p72.2.2.2.1)),(14,.gro 1 (ah j64 p72.2.2.2.2.1)),(15,.gro 1 (ah j64 p72.2.2.2.2.2.1))],[])) [2,3,4,5,7,9,10,35,36,40] 16 (CU10 (nH N a1 r6 s71 a0)) (cu10 λ(s73:(List (Vector Int 3))) (s74:(List Int)) (s75:(List Int)) (s76:(List (Vector Int 3))) (s77:(List Int)) (s78:(List Int)) (s79:aE) (s80:aF) (s81:aL) (s82:Int)=>([(41,(j64 s82))],[(2,.var (.st 38 [(aE.enc s79),(aG.enc a1),(.ifc 115 (.ref 8 [] 0)),(eO 6 1 (eL 2 aC.enc) r6.2.2.2.1),(aA.enc r6.2.2.2.2.1),(aF.enc s80)])),(8,.var (aL.enc s81)),(9,.var (.st 8 [(j64 a1.gW),(j64 a1.gH),(.gro 10 3 s73.length .all),(.gro 11 1 s74.length .all),(.gro 12 1 s75.length .all),(.gro 13 3 s76.length .all),(.gro 14 1 s77.length .all),(.gro 15 1 s78.length .all)])),(10,.gro 3 (ah (eA 3 1 j64) s73)),(11,.gro 1 (ah j64 s74)),(12,.gro 1 (ah j64 s75)),(13,.gro 3 (ah (eA 3 1 j64) s76)),(14,.gro 1 (ah j64 s77)),(15,.gro 1 (ah j64 s78))],[])) (_,_,_,_,_,_,_,_,_,_) N (λp72 k=>un10 λs73 s74 s75 s76 s77 s78 s79 s80 s81 s82=>?_) λp72=>?_
         ·refine At.c 1 ?_ ?_
          ·refine At.ownn 6 12 9 ?_;refine At.M 0 [2,3,4,5,7,9,10,35,36,40,41] 17 (λp83=>([(12,(eO 16 9 aH.enc p83.1))],[(2,.var (.st 38 [(aE.enc s79),(aG.enc a1),(.ifc 115 (.ref 8 [] 0)),(eO 6 1 (eL 2 aC.enc) r6.2.2.2.1),(aA.enc r6.2.2.2.2.1),(aF.enc p83.2.1)])),(8,.var (aL.enc p83.2.2)),(16,.tail (p83.1.length*9))],[])) [2,3,4,5,7,9,10,11,35,36,40,41,45] 17 (CU4 (nJ N a1 r6 s82 s71 s79)) (cu4 λ(s84:(List aH)) (s85:aF) (s86:aL) (s87:Int)=>([(12,(eO 16 9 aH.enc s84)),(46,(j64 s87))],[(2,.var (.st 38 [(aE.enc s79),(aG.enc a1),(.ifc 115 (.ref 8 [] 0)),(eO 6 1 (eL 2 aC.enc) r6.2.2.2.1),(aA.enc r6.2.2.2.2.1),(aF.enc s85)])),(8,.var (aL.enc s86)),(16,.tail (s84.length*9))],[])) (_,_,_,_) N (λp83 k=>un4 λs84 s85 s86 s87=>?_) λp83=>?_
           ·apply lx;intro x88;refine At.c 1 ?_ ?_
            ·refine At.Y 6 [2,8,6] vA λr89=>?_;refine At.o 8 (bG hT (x:=(.sl 9 1 [(aH.enc r89.2.2.1)]))) ?_;refine At.b 0 (λ_ e=>iI hT aH.enc (id:=16) (k:=9) e) λz90=>?_;exact λh=>At.v 3 (_,_,_,_) h
            ·apply rt;exact At.x 0
           ·refine At.y 2 aAA λr91=>?_;refine At.D 6 [] ?_;refine bi λz92 hz92=>?_;refine DD.w 4 (.gro 10 3 z92.length .all) ⟨[(10,.gro 3 (ah (eA 3 1 j64) z92))],[]⟩ (λ_ e=>kY hT (eA 3 1 j64) (id:=10) (k:=3) hz92 (pj1 e) (pj1 (pj2 e)) (pj2 (pj2 e))) ?_;refine bi λz93 hz93=>?_;refine DD.w 4 (.gro 13 3 z93.length .all) ⟨[(13,.gro 3 (ah (eA 3 1 j64) z93))],[]⟩ (λ_ e=>kY hT (eA 3 1 j64) (id:=13) (k:=3) hz93 (pj1 e) (pj1 (pj2 e)) (pj2 (pj2 e))) ?_;refine De 4 ?_;refine At.D 0 [] ?_;refine bi λz94 hz94=>?_;refine DD.w 4 (.gro 11 1 z94.length .all) ⟨[(11,.gro 1 (ah j64 z94))],[]⟩ (λ_ e=>kY hT j64 (id:=11) (k:=1) hz94 (pj1 e) (pj1 (pj2 e)) (pj2 (pj2 e))) ?_;refine bi λz95 hz95=>?_;refine DD.w 4 (.gro 12 1 z95.length .all) ⟨[(12,.gro 1 (ah j64 z95))],[]⟩ (λ_ e=>kY hT j64 (id:=12) (k:=1) hz95 (pj1 e) (pj1 (pj2 e)) (pj2 (pj2 e))) ?_;refine De 4 ?_;refine At.D 0 [] ?_;refine bi λz96 hz96=>?_;refine DD.w 4 (.gro 14 1 z96.length .all) ⟨[(14,.gro 1 (ah j64 z96))],[]⟩ (λ_ e=>kY hT j64 (id:=14) (k:=1) hz96 (pj1 e) (pj1 (pj2 e)) (pj2 (pj2 e))) ?_;refine bi λz97 hz97=>?_;refine DD.w 4 (.gro 15 1 z97.length .all) ⟨[(15,.gro 1 (ah j64 z97))],[]⟩ (λ_ e=>kY hT j64 (id:=15) (k:=1) hz97 (pj1 e) (pj1 (pj2 e)) (pj2 (pj2 e))) ?_;refine De 4 ?_;exact λh=>At.v 2 (_,_,_,_,_,_,_,_,_,_) h
          ·apply rt;exact At.x 0
         ·exact λh=>At.k 2 ⟨_,_,_,_,_,_,_,_,_,_,_,_,_,_,_,_,_,_,h,jr⟩
        ·apply rt;exact At.x 0
      ·refine At.D 0 [] ?_;refine DD.Y 2 [2,8,6] xA λr98=>?_;refine De 3 ?_;refine At.fz 0 10 3 p53.1.length _ (ah (eA 3 1 j64) p53.1) (ai _) (ai _) ?_;refine At.fz 0 11 1 p53.2.1.length _ (ah j64 p53.2.1) (ai _) (ai _) ?_;refine At.fz 0 12 1 p53.2.2.1.length _ (ah j64 p53.2.2.1) (ai _) (ai _) ?_;refine At.fz 0 13 3 p53.2.2.2.1.length _ (ah (eA 3 1 j64) p53.2.2.2.1) (ai _) (ai _) ?_;refine At.fz 0 14 1 p53.2.2.2.2.1.length _ (ah j64 p53.2.2.2.2.1) (ai _) (ai _) ?_;refine At.fz 0 15 1 p53.2.2.2.2.2.1.length _ (ah j64 p53.2.2.2.2.2.1) (ai _) (ai _) ?_;apply rt;exact At.r 0
def zK(N:Nat)(b1:(List (Vector Int 4)))(a1:cF):Option ((List (Vector Int 4))):=
 aa (nL 32 b1 (([#v[a1.gx,a1.gy,a1.gw,a1.gh]]:List (Vector Int 4)))) λz1=>
 some z1
theorem aGD{N:Nat}{b1:(List (Vector Int 4))}{a1:cF}{r:(List (Vector Int 4))}(h:zK N b1 a1=some r):aRZ Tryz.prog (aED 41 Tryz.f21.body [1,1,1,0,1,0]) [en 8 (.ref 0 [] 0)] [.var (eO 1 4 (eA 4 1 j64) b1),.tail (b1.length*4)] [(cF.enc a1)] [.var (eO 1 4 (eA 4 1 j64) r),.tail (r.length*4)] none:=by
 unfold zK at h;refine aDP (lo:=3) (by kernel_rfl) (λbk rl=>At.of bO hT hmo h ?_)
 refine At.to 0 ⟨[en 8 (.ref 0 [] 0),en 27 (cF.enc a1)],[.var (eO 1 4 (eA 4 1 j64) b1),.tail (b1.length*4),.loop rl]⟩ ?_;refine At.mid 2 (λrl2=>?_)
 refine At.o 10 (bG hT (x:=(.sl 4 1 [(.arr 4 1 [(j64 a1.gx),(j64 a1.gy),(j64 a1.gw),(j64 a1.gh)])]))) ?_;refine At.b 0 (λ_ e=>iI hT (eA 4 1 j64) (id:=1) (k:=4) e) λz1=>?_;apply rt;exact At.rnd 1
def iR(N:Nat)(a3 a2 a1 s3:Int):Nat->(List (Vector Int 4))->Int->Option ((List (Vector Int 4)))
 | 0,_,_=>none
 | k+1,s5,s6=>
  cond (decide (s6 < a3)) (
   aR (dO a2 (I64 (a3 - s6))) λx7=>
   aR (dO a2 (I64 (a1 - s3))) λx8=>
   aa (zK N s5 (cF.mk s6 s3 x7 x8)) λr9=>
   iR N a3 a2 a1 s3 k r9 (I64 (s6+a2))) (
   some s5)
def iP(N:Nat)(a1 a3 a2:Int):Nat->(List (Vector Int 4))->Int->Option ((List (Vector Int 4)))
 | 0,_,_=>none
 | k+1,s2,s3=>
  cond (decide (s3 < a1)) (
   aa (iR N a3 a2 a1 s3 N s2 0) λp4=>
   iP N a1 a3 a2 k p4 (I64 (s3+a2))) (
   some s2)
def jU(N:Nat)(b1:(List (Vector Int 4)))(a1 a2 a3:Int):Option ((List (Vector Int 4))):=
 aa (iP N a1 a3 a2 N b1 0) λp1=>
 some p1
theorem vN{N:Nat}{b1:(List (Vector Int 4))}{a1:Int}{a2:Int}{a3:Int}{r:(List (Vector Int 4))}(h:jU N b1 a1 a2 a3=some r):ItM Tryz.prog 44 (aED 41 Tryz.f21.body [1,1,1,0,1,0]) [en 8 (.ref 0 [] 0)] [.var (eO 1 4 (eA 4 1 j64) b1),.tail (b1.length*4)] [(.yld 2),(.im (j64 a1)),(.im (j64 a2)),(.im (j64 a3))] (.tup []) [.var (eO 1 4 (eA 4 1 j64) r),.tail (r.length*4)] none:=by
 unfold jU at h;refine aEp (m:=35) (lo:=3) (rs:=[]) hT Tryz.func44 rfl (by kernel_rfl) rfl (λfn tmps D hsz=>At.of bO hT hmo h ?_)
 refine At.M 1 [] 3 (λp1=>([],[(0,.var (eO 1 4 (eA 4 1 j64) p1)),(1,.tail (p1.length*4))],[])) [0,1,2,3] 3 (CU2 (iP N a1 a3 a2)) (cu2 λ(s2:(List (Vector Int 4))) (s3:Int)=>([(5,(j64 s3))],[(0,.var (eO 1 4 (eA 4 1 j64) s2)),(1,.tail (s2.length*4))],[])) (_,_) N (λp1 k=>un2 λs2 s3=>?_) λp1=>?_
 ·refine At.c 3 ?_ ?_
  ·refine At.M 1 [0,1,2,3,5] 3 (λp4=>([],[(0,.var (eO 1 4 (eA 4 1 j64) p4)),(1,.tail (p4.length*4))],[])) [0,1,2,3,5] 3 (CU2 (iR N a3 a2 a1 s3)) (cu2 λ(s5:(List (Vector Int 4))) (s6:Int)=>([(6,(j64 s6))],[(0,.var (eO 1 4 (eA 4 1 j64) s5)),(1,.tail (s5.length*4))],[])) (_,_) N (λp4 k=>un2 λs5 s6=>?_) λp4=>?_
   ·refine At.c 3 ?_ ?_
    ·apply lx;intro x7;apply lx;intro x8;refine At.b 14 (λ_ e=>aIQ (aGD e) (fn:=fn) (D:=D) hsz rfl (List.mem_singleton.2 rfl) (by kernel_rfl) (by kernel_rfl)) λr9=>?_;exact λh=>At.v 6 (_,_) h
    ·apply rt;exact At.x 0
   ·exact λh=>At.v 4 (_,_) h
  ·apply rt;exact At.x 0
 ·apply rt;exact At.z 0
theorem uQ : sC Tryz.prog 44:=qT (show kC Tryz.prog 44=true by kernel_rfl)
def aCW(N:Nat)(a0 a1 a2:Int):Option ((List (Vector Int 4))×Int):=
 aa (aa (fQ N a0) λr2=>
 cond (!r2) (
  some true) (
  aa (fQ N a1) λr3=>
  cond (!r3) (
   some true) (
   aa (fQ N a2) λr4=>
   some (!r4)))) λp1=>
 cond p1 (
  some (([],2))) (
  aa (sD N a0 a1 a2) λr5=>
  aa (jU N [] a1 a2 a0) λr6=>
  some ((r6,0)))
theorem aJX{N a0 a1 a2 r}(h:aCW N a0 a1 a2=some r):FnM Tryz.prog 21 [] [(j64 a0),(j64 a1),(j64 a2)] (.tup [(eL 4 (eA 4 1 j64) r.1),(j64 r.2)]) []:=by
 unfold aCW at h;refine At.fR bO hT hmo Tryz.func21 rfl h ?_;refine At.J 2 0 [0,1,2] 0 (λp1=>([(22,(eB p1))],[],[])) (λp1=>?_) λp1=>?_
 ·refine At.y 1 oK λr2=>?_;refine At.s 13 2 ?_ ?_
  ·refine At.g [13,18] 9 ?_;apply rt;exact At.jn 0
  ·refine At.g [13] 1 ?_;refine At.y 0 oK λr3=>?_;refine At.g [13] 3 ?_;refine At.s 18 0 ?_ ?_
   ·refine At.g [18] 4 ?_;apply rt;exact At.jn 0
   ·refine At.g [18] 1 ?_;refine At.y 0 oK λr4=>?_;refine At.g [18] 2 ?_;apply rt;exact At.jn 0
 ·refine At.c 0 ?_ ?_
  ·apply rt;exact At.r 2
  ·refine At.y 4 aBq λr5=>?_;refine At.ownb 0 0 4 [] ?_;refine bi λr6 hr6=>?_;refine At.rg 0 (vN hr6) uQ (.tmp 26) [0,1] ⟨[en 8 (.ref 0 [] 0)],[.var (eO 1 4 (eA 4 1 j64) r6),.tail (r6.length*4)]⟩ [(.im (j64 a1)),(.im (j64 a2)),(.im (j64 a0))] ?_;apply rt;exact At.r 3
def eH(N:Nat):Option (Bool):=
 aa (aCW N 5 3 2) λr1=>
 aa (aR (((r1.1.length:Int))==6) λx3=>
 aR (cond (r1.2==0) x3 false) λx4=>
 cond x4 (
  aa (idx r1.1 5) λe5=>
  aR ((eqV (λa b=>a==b)) e5 (#v[4,2,1,1])) λx6=>
  some x6) (
  some false)) λp2=>
 some p2
theorem nS{N r}(h:eH N=some r):FnM Tryz.prog 8 [] [] (eB r) []:=by
 refine Af bO Tryz.func8 h ?_;refine At.y 1 aJX λr1=>?_;refine At.J 5 0 [] 0 (λp2=>([(0,(eB p2))],[],[])) (λp2=>?_) λp2=>?_
 ·apply lx;intro x3;apply lx;intro x4;refine At.s 14 8 ?_ ?_
  ·refine At.g [14] 1 ?_;refine At.i hT 0 (eA 4 1 j64) λe5=>?_;refine At.g [14] 2 ?_;refine At.o 0 (aDN aW8 (e5:(Vector Int 4)) (#v[4,2,1,1]:(Vector Int 4)) (by kernel_rfl) (by kernel_rfl) (λ_=>rfl) (λ_=>rfl) (by kernel_rfl) (by kernel_rfl)) ?_;apply lx;intro x6;refine At.g [14] 2 ?_;apply rt;exact At.jn 0
  ·refine At.g [14] 7 ?_;apply rt;exact At.jn 0
 ·apply rt;exact At.r 0
def fM(N:Nat)(b2:(List aH))(b4:(List (List aC)))(a2:aE)(a3:aG)(a4:Int)(a5:(List aM))(a6:Int)(a7:aI)(a8:aE)(a9:aG)(a10:aA)(a11:aF)(a12:aK):Option (Unit):=
 some (())
theorem qG{N b2 b4 a2 a3 a4 a5 a6 a7 a8 a9 a10 a11 a12 r}(h:fM N b2 b4 a2 a3 a4 a5 a6 a7 a8 a9 a10 a11 a12=some r):FnM Tryz.prog 22 [.var (.st 43 [(.ref 1 [] 0),(aE.enc a2),(aG.enc a3),(j64 a4),(eL 6 aM.enc a5),(j64 a6),(eO 2 9 aH.enc b2),(aI.enc a7)]),.var (.st 38 [(aE.enc a8),(aG.enc a9),(.ifc 112 (.ref 3 [] 0)),(eO 4 1 (eL 2 aC.enc) b4),(aA.enc a10),(aF.enc a11)]),.tail (b2.length*9),.var (aK.enc a12),.tail (b4.length*1)] [(.ref 0 [] 0)] (eB false) [.var (.st 43 [(.ref 1 [] 0),(aE.enc a2),(aG.enc a3),(j64 a4),(eL 6 aM.enc a5),(j64 a6),(eO 2 9 aH.enc b2),(aI.enc a7)]),.var (.st 38 [(aE.enc a8),(aG.enc a9),(.ifc 112 (.ref 3 [] 0)),(eO 4 1 (eL 2 aC.enc) b4),(aA.enc a10),(aF.enc a11)]),.tail (b2.length*9),.var (aK.enc a12),.tail (b4.length*1)]:=by
 refine Af bO Tryz.func22 h ?_;refine At.o 2 (sZ hT (t:=41) (x:=(.ref 0 [] 0)) (b:=true) (by kernel_rfl) rfl rfl (by kernel_rfl)) ?_;refine At.g [5] 5 ?_;refine At.o 0 (sZ hT (t:=64) (x:=(.ref 1 [] 0)) (b:=true) (by kernel_rfl) rfl rfl (by kernel_rfl)) ?_;refine At.g [5] 2 ?_;apply rt;exact At.r 0
def jT(N:Nat)(b2:(List aH))(b4:(List (List aC)))(a2:aE)(a3:aG)(a4:Int)(a5:(List aM))(a6:Int)(a7:aI)(a8:aE)(a9:aG)(a10:aA)(a11:aF)(a12:aK):Option (Int):=
 aa (fM N b2 b4 a2 a3 a4 a5 a6 a7 a8 a9 a10 a11 a12) λr1=>
 aR (I64 (((a5.length:Int))*a3.gA8)) λx2=>
 some (I64 (x2 - a6))
theorem vE{N b2 b4 a2 a3 a4 a5 a6 a7 a8 a9 a10 a11 a12 r}(h:jT N b2 b4 a2 a3 a4 a5 a6 a7 a8 a9 a10 a11 a12=some r):FnM Tryz.prog 11 [.var (.st 43 [(.ref 1 [] 0),(aE.enc a2),(aG.enc a3),(j64 a4),(eL 6 aM.enc a5),(j64 a6),(eO 2 9 aH.enc b2),(aI.enc a7)]),.var (.st 38 [(aE.enc a8),(aG.enc a9),(.ifc 112 (.ref 3 [] 0)),(eO 4 1 (eL 2 aC.enc) b4),(aA.enc a10),(aF.enc a11)]),.tail (b2.length*9),.var (aK.enc a12),.tail (b4.length*1)] [(.ref 0 [] 0)] (j64 r) [.var (.st 43 [(.ref 1 [] 0),(aE.enc a2),(aG.enc a3),(j64 a4),(eL 6 aM.enc a5),(j64 a6),(eO 2 9 aH.enc b2),(aI.enc a7)]),.var (.st 38 [(aE.enc a8),(aG.enc a9),(.ifc 112 (.ref 3 [] 0)),(eO 4 1 (eL 2 aC.enc) b4),(aA.enc a10),(aF.enc a11)]),.tail (b2.length*9),.var (aK.enc a12),.tail (b4.length*1)]:=by
 refine Af bO Tryz.func11 h ?_;refine At.Y 2 [0,1,2,3,4] qG λr1=>?_;refine At.D 1 [] ?_;apply lx;intro x2;refine De 17 ?_;apply rt;exact At.r 0
def sQ(N:Nat)(a0:(List (Vector Int 3))):Nat->(List Int)->Int->Option ((List Int))
 | 0,_,_=>none
 | k+1,s2,s3=>
  aR (decide (s3 < ((a0.length:Int)))) λx4=>
  cond x4 (
   aa (idx a0 s3) λe5=>
   aa (xR e5.toList 0 3) λs7=>
   aa (nL 8 s2 s7) λz8=>
   sQ N a0 k z8 (I64 (s3+1))) (
   some s2)
def aBS(N:Nat)(a0:(List (Vector Int 3))):Option ((List Int)):=
 aa (sQ N a0 N [] 0) λp1=>
 some p1
theorem aHp{N a0 r}(h:aBS N a0=some r):FnM Tryz.prog 153 [] [(eL 3 (eA 3 1 j64) a0)] (eL 1 j64 r) []:=by
 refine Af bO Tryz.func153 h ?_;refine At.ownn 5 3 1 ?_;refine At.M 0 [] 1 (λp1=>([(3,(eO 0 1 j64 p1))],[(0,.tail (p1.length*1))],[])) [6,7] 1 (CU2 (sQ N a0)) (cu2 λ(s2:(List Int)) (s3:Int)=>([(3,(eO 0 1 j64 s2)),(8,(j64 s3))],[(0,.tail (s2.length*1))],[])) (_,_) N (λp1 k=>un2 λs2 s3=>?_) λp1=>?_
 ·apply lx;intro x4;refine At.c 1 ?_ ?_
  ·refine At.i hT 0 (eA 3 1 j64) λe5=>?_;refine At.gz 4 1 ((eA 3 1 j64 e5)) ?_;refine At.b 0 (λ_ e=>aCG hT (N:=3) (k:=1) j64 e5 e) λs7=>?_;refine At.b 0 (λ_ e=>iI hT j64 (id:=0) (k:=1) e) λz8=>?_;exact λh=>At.v 3 (_,_) h
  ·apply rt;exact At.x 0
 ·apply rt;exact At.r 2
def aEG(N:Nat):Option ((Vector aU 6)):=
 some (#v[aU.mk 0 0 3 aNp [],aU.mk 0 0 1 (ByteArray.mk #[65,76,80,72,65]) [],aU.mk 0 0 1 (ByteArray.mk #[68,69,80,84,72]) [],aU.mk 0 0 3 aNz [],aU.mk 0 0 1 (ByteArray.mk #[65,83,83,69,84]) [],aU.mk 0 0 1 (ByteArray.mk #[76,65,66,69,76]) []])
theorem aLF{N r}(h:aEG N=some r):FnM Tryz.prog 154 [] [] (eA 30 5 aU.enc r) []:=by
 refine Af bO Tryz.func154 h ?_;refine At.wa 8 7 [(aU.enc (aU.mk 0 0 3 aNp [])),(aU.enc (aU.mk 0 0 1 (ByteArray.mk #[65,76,80,72,65]) [])),(aU.enc (aU.mk 0 0 1 (ByteArray.mk #[68,69,80,84,72]) [])),(aU.enc (aU.mk 0 0 3 aNz [])),(aU.enc (aU.mk 0 0 1 (ByteArray.mk #[65,83,83,69,84]) [])),(aU.enc (aU.mk 0 0 1 (ByteArray.mk #[76,65,66,69,76]) []))] ?_;apply rt;exact At.r 1
def oE(N:Nat)(a0 a1 a2:Int):Option (Bool):=
 aR (cond (decide (a0>=a1)) (decide (a0<=a2)) false) λx1=>
 some x1
theorem uB{N a0 a1 a2 r}(h:oE N a0 a1 a2=some r):FnM Tryz.prog 189 [] [(j64 a0),(j64 a1),(j64 a2)] (eB r) []:=by
 refine Af bO Tryz.func189 h ?_;apply lx;intro x1;apply rt;exact At.r 10
def aBL(N:Nat)(x1:Int)(a0:ByteArray):Nat->Int->Option (Sum (Unit) (Bool))
 | 0,_=>none
 | k+1,s3=>
  cond (decide (s3 < x1)) (
   aa (idx (aC4 a0) s3) λe4=>
   aR (cond (decide (e4 < 65)) true (decide (e4 > 90))) λx5=>
   cond x5 (some (Sum.inr false)) (aBL N x1 a0 k (I64 (s3+1)))) (
   some (Sum.inl (())))
def oF(N:Nat)(a0:ByteArray):Option (Bool):=
 aR (((aC4 a0).length:Int)) λx1=>
 aa (aBL N x1 a0 N 0) λo=>kG o (λp2=>
  aR ((ByteArray.size a0:Int)) λx6=>
  aa (oE N x6 1 16) λr7=>
  some r7) (λr=>some r)
theorem aL7{N a0 r}(h:oF N a0=some r):FnM Tryz.prog 190 [] [(eS a0)] (eB r) []:=by
 refine Af bO Tryz.func190 h ?_;refine At.o 2 (aUN hT a0 (e:=5) (by kernel_rfl) (by kernel_rfl)) ?_;apply lx;intro x1;refine At.MS 2 [0] 0 (λp2=>([],[],[])) [0,6,7] 0 (aBL N x1 a0) (λ(s3:Int)=>([(8,(j64 s3))],[],[])) _ N (λop2 g2 k s3=>?_) λp2=>?_
 ·refine At.c 1 ?_ ?_
  ·refine At.i hT 0 k8 λe4=>?_;apply lx;intro x5;refine At.c 8 ?_ ?_
   ·intro e;apply aBp g2 e;exact At.r 1
   ·exact λh=>At.v 2 _ h
  ·apply rt;exact At.xs 0
 ·apply lx;intro x6;refine At.y 2 uB λr7=>?_;apply rt;exact At.r 1
def aN1 : Nat->Bool:=imL [1]
def oU(N:Nat)(x9:Int)(a0:aU):Nat->Int->Option (Sum (Unit) (Int))
 | 0,_=>none
 | k+1,s11=>
  cond (decide (s11 < x9)) (
   aa (idx a0.gE1 s11) λe12=>
   aa (oE N e12 0 65535) λr13=>
   cond (!r13) (some (Sum.inr 5)) (oU N x9 a0 k (I64 (s11+1)))) (
   some (Sum.inl (())))
def aB9(N:Nat)(a0:aU):Option (Int):=
 aa (aa (oE N a0.gW 1 64) λr2=>
 cond (!r2) (
  some true) (
  aa (oE N a0.gH 1 64) λr3=>
  cond (!r3) (
   some true) (
   aa (oE N a0.gC9 1 4) λr4=>
   some (!r4)))) λp1=>
 cond p1 (
  some 2) (
  aa (oF N a0.gD0) λr5=>
  aR ((a0.gE1.length:Int)) λx6=>
  aR (I64 ((I64 (a0.gW*a0.gH))*a0.gC9)) λx7=>
  aR (cond (!r5) true (x6 != x7)) λx8=>
  cond x8 (
   some 5) (
   aR ((a0.gE1.length:Int)) λx9=>
   aa (oU N x9 a0 N 0) λo=>kG o (λp10=>
    some 0) (λr=>some r)))
theorem aLa{N a0 r}(h:aB9 N a0=some r):FnM Tryz.prog 155 [] [(aU.enc a0)] (j64 r) []:=by
 refine Af aN1 Tryz.func155 h ?_;refine At.J 2 0 [1] 0 (λp1=>([(20,(eB p1))],[],[])) (λp1=>?_) λp1=>?_
 ·refine At.y 2 uB λr2=>?_;refine At.s 9 2 ?_ ?_
  ·refine At.g [9,15] 11 ?_;apply rt;exact At.jn 0
  ·refine At.g [9] 2 ?_;refine At.y 0 uB λr3=>?_;refine At.g [9] 3 ?_;refine At.s 15 0 ?_ ?_
   ·refine At.g [15] 5 ?_;apply rt;exact At.jn 0
   ·refine At.g [15] 2 ?_;refine At.y 0 uB λr4=>?_;refine At.g [15] 2 ?_;apply rt;exact At.jn 0
 ·refine At.c 0 ?_ ?_
  ·apply rt;exact At.r 1
  ·refine At.y 2 aL7 λr5=>?_;apply lx;intro x6;apply lx;intro x7;apply lx;intro x8;refine At.c 15 ?_ ?_
   ·apply rt;exact At.r 1
   ·apply lx;intro x9;refine At.MS 4 [] 0 (λp10=>([],[],[])) [40,41] 0 (oU N x9 a0) (λ(s11:Int)=>([(42,(j64 s11))],[],[])) _ N (λop10 g10 k s11=>?_) λp10=>?_
    ·refine At.c 1 ?_ ?_
     ·refine At.i hT 0 j64 λe12=>?_;refine At.y 3 uB λr13=>?_;refine At.c 1 ?_ ?_
      ·intro e;apply aBp g10 e;exact At.r 1
      ·exact λh=>At.v 2 _ h
     ·apply rt;exact At.xs 0
    ·apply rt;exact At.r 1
def aMD : Nat->Bool:=imL [1]
def nK(N:Nat)(r3:(Vector aU 6))(r1:(List Int))(a0:aI)(r2:(List Int)):Nat->(List aU)->Int->Option (Sum ((List aU)) ((List aU)×Int))
 | 0,_,_=>none
 | k+1,s5,s6=>
  cond (decide (s6 < 6)) (
   aa (idx r3.toList s6) λe7=>
   aa (dS s6 6) λ_=>
   aa ((#v[r1,a0.gT,a0.gK,r2,a0.gB8,a0.gR]).toList[s6.toNat]?) λe9=>
   aa (nL 8 (([]:List Int)) e9) λz10=>
   aa (aB9 N (aU.mk a0.gW a0.gH e7.gC9 e7.gD0 z10)) λr11=>
   cond (r11 != 0) (
    some (Sum.inr (([],r11)))) (
    aa (nL 64 s5 (([aU.mk a0.gW a0.gH e7.gC9 e7.gD0 z10]:List aU))) λz12=>
    nK N r3 r1 a0 r2 k z12 (I64 (s6+1)))) (
   some (Sum.inl s5))
def aBB(N:Nat)(a0:aI):Option ((List aU)×Int):=
 aa (aBS N a0.gB9) λr1=>
 aa (aBS N a0.gB5) λr2=>
 aa (aEG N ) λr3=>
 aa (nK N r3 r1 a0 r2 N [] 0) λo=>kG o (λp4=>
  some ((p4,0))) (λr=>some r)
theorem aKK{N a0 r}(h:aBB N a0=some r):FnM Tryz.prog 102 [] [(aI.enc a0)] (.tup [(eL 5 aU.enc r.1),(j64 r.2)]) []:=by
 refine Af aMD Tryz.func102 h ?_;refine At.D 3 [] ?_;refine DD.y 2 aHp λr1=>?_;refine DD.y 6 aHp λr2=>?_;refine De 7 ?_;refine At.y 1 aLF λr3=>?_;refine At.ownn 1 5 5 ?_;refine At.MS 0 [] 2 (λp4=>([(5,(eO 1 5 aU.enc p4))],[(1,.tail (p4.length*5))],[])) [1,4,24] 2 (CU2 (nK N r3 r1 a0 r2)) (cu2 λ(s5:(List aU)) (s6:Int)=>([(5,(eO 1 5 aU.enc s5)),(25,(j64 s6))],[(1,.tail (s5.length*5))],[])) (_,_) N (λop4 g4 k=>un2 λs5 s6=>?_) λp4=>?_
 ·refine At.c 1 ?_ ?_
  ·refine At.b 1 (λ_ e=>aA2 hT aU.enc r3 e (by kernel_rfl) (by kernel_rfl)) λe7=>?_;refine At.D 3 [] ?_;refine De 8 ?_;refine At.o 0 (rZ hT j64 (k:=1) ([]:List Int) (by kernel_rfl) (by kernel_rfl)) ?_;refine At.b 1 (λ_ e=>bF hT (k:=1) 0 [] 0 e) λu8=>?_;refine At.b 0 (λ_ e=>pV hT (eL 1 j64) 0 e) λe9=>?_;refine At.b 0 (λ_ e=>iI hT j64 (id:=3) (k:=1) e) λz10=>?_;refine At.y 3 aLa λr11=>?_;refine At.c 3 ?_ ?_
   ·intro e;apply aBp g4 e;exact At.r 3
   ·refine At.wk 2 47 ((.st 5 [(j64 a0.gW),(j64 a0.gH),(j64 e7.gC9),(eS e7.gD0),(eL 1 j64 z10)])) ?_;refine At.o 0 (bG hT (x:=(.sl 5 1 [(.st 5 [(j64 a0.gW),(j64 a0.gH),(j64 e7.gC9),(eS e7.gD0),(eL 1 j64 z10)])]))) ?_;refine At.b 0 (λ_ e=>iI hT aU.enc (id:=1) (k:=5) e) λz12=>?_;exact λh=>At.v 3 (_,_) h
  ·apply rt;exact At.xs 0
 ·apply rt;exact At.r 3
def lF(N:Nat)(a0:(List aI)):Nat->Int->Option (Sum (Unit) (Int))
 | 0,_=>none
 | k+1,s2=>
  aR (decide (s2 < ((a0.length:Int)))) λx3=>
  cond x3 (
   aa (idx a0 s2) λe4=>
   aa (aBB N e4) λr5=>
   cond (r5.2 != 0) (some (Sum.inr r5.2)) (lF N a0 k (I64 (s2+1)))) (
   some (Sum.inl (())))
def pX(N:Nat)(a0:(List aI)):Option (Int):=
 aa (lF N a0 N 0) λo=>kG o (λp1=>
  some 0) (λr=>some r)
theorem aE7{N a0 r}(h:pX N a0=some r):FnM Tryz.prog 61 [] [(eL 8 aI.enc a0)] (j64 r) []:=by
 refine Af bO Tryz.func61 h ?_;refine At.MS 4 [] 0 (λp1=>([],[],[])) [7,8] 0 (lF N a0) (λ(s2:Int)=>([(9,(j64 s2))],[],[])) _ N (λop1 g1 k s2=>?_) λp1=>?_
 ·apply lx;intro x3;refine At.c 1 ?_ ?_
  ·refine At.i hT 0 aI.enc λe4=>?_;refine At.y 4 aKK λr5=>?_;refine At.c 7 ?_ ?_
   ·intro e;apply aBp g1 e;exact At.r 2
   ·exact λh=>At.v 2 _ h
  ·apply rt;exact At.xs 0
 ·apply rt;exact At.r 1
def aKW : Nat->Bool:=imL [5]
def aAC(N:Nat)(a0:aI)(a1 a2 a3 a4:Int):Option (Bool):=
 aR (decide ((dO a1 a2)>=0)) λx1=>
 aR (decide ((dO a3 a4)>=1)) λx2=>
 aR (cond (cond x1 x2 false) (decide (a3<=a0.gW)) false) λx3=>
 aR (cond x3 (decide (a4<=a0.gH)) false) λx4=>
 aR (decide (a1<=(I64 (a0.gW - a3)))) λx5=>
 aR (decide (a2<=(I64 (a0.gH - a4)))) λx6=>
 aR (cond (cond x4 x5 false) x6 false) λx7=>
 some x7
theorem aIl{N a0 a1 a2 a3 a4 r}(h:aAC N a0 a1 a2 a3 a4=some r):FnM Tryz.prog 62 [] [(aI.enc a0),(j64 a1),(j64 a2),(j64 a3),(j64 a4)] (eB r) []:=by
 refine Af aKW Tryz.func62 h ?_;apply lx;intro x1;apply lx;intro x2;apply lx;intro x3;apply lx;intro x4;apply lx;intro x5;apply lx;intro x6;apply lx;intro x7;apply rt;exact At.r 41
def cS(N:Nat)(a0:(List (Vector Int 3))):Option ((List (Vector Int 3))):=
 aa (nL 24 (([]:List (Vector Int 3))) a0) λz1=>
 some z1
theorem iO{N a0 r}(h:cS N a0=some r):FnM Tryz.prog 43 [] [(eL 3 (eA 3 1 j64) a0)] (.gro 0 3 r.length .all) [.gro 3 (ah (eA 3 1 j64) r)]:=by
 refine Af bO Tryz.func43 h ?_;refine At.q hT 2 (d:=4) (t:=49) (e:=97) (z:=3) (x:=(eL 3 (eA 3 1 j64) a0)) (es:=ah (eA 3 1 j64) a0) rfl ?_ (λhe=>?_)
 ·refine At.o 1 (aCv hT (eA 3 1 j64) (k:=3) ([]:List (Vector Int 3)) (by kernel_rfl) (by kernel_rfl)) ?_;refine At.b 1 (λz1 e=>kY hT (eA 3 1 j64) (id:=0) (k:=3) e (by kernel_rfl) (by kernel_rfl) (H':=[.gro 3 (ah (eA 3 1 j64) z1)]) (by kernel_rfl)) λz1=>?_;apply rt;exact At.r 1
 ·have h0:a0=[]:=cw.1 he;subst h0;change some []=_->_;refine At.gron 2 2 3 ?_;apply rt;exact At.r 0
def bT(N:Nat)(a0:(List Int)):Option ((List Int)):=
 aa (nL 8 (([]:List Int)) a0) λz1=>
 some z1
theorem cR{N a0 r}(h:bT N a0=some r):FnM Tryz.prog 103 [] [(eL 1 j64 a0)] (.gro 0 1 r.length .all) [.gro 1 (ah j64 r)]:=by
 refine Af bO Tryz.func103 h ?_;refine At.q hT 2 (d:=4) (t:=50) (e:=3) (z:=1) (x:=(eL 1 j64 a0)) (es:=ah j64 a0) rfl ?_ (λhe=>?_)
 ·refine At.o 1 (aCv hT j64 (k:=1) ([]:List Int) (by kernel_rfl) (by kernel_rfl)) ?_;refine At.b 1 (λz1 e=>kY hT j64 (id:=0) (k:=1) e (by kernel_rfl) (by kernel_rfl) (H':=[.gro 1 (ah j64 z1)]) (by kernel_rfl)) λz1=>?_;apply rt;exact At.r 1
 ·have h0:a0=[]:=cw.1 he;subst h0;change some []=_->_;refine At.gron 2 2 1 ?_;apply rt;exact At.r 0
def aGn : Nat->Bool:=imL [1]
def uS(N:Nat)(a0:aI):Option ((List (Vector Int 3))×(List Int)×(List Int)×(List (Vector Int 3))×(List Int)×(List Int)):=
 aa (cS N a0.gB9) λr1=>
 aa (bT N a0.gT) λr2=>
 aa (bT N a0.gK) λr3=>
 aa (cS N a0.gB5) λr4=>
 aa (bT N a0.gB8) λr5=>
 aa (bT N a0.gR) λr6=>
 some ((r1,r2,r3,r4,r5,r6))
theorem aFo{N a0 r}(h:uS N a0=some r):FnM Tryz.prog 63 [] [(aI.enc a0)] (.st 8 [(j64 a0.gW),(j64 a0.gH),(.gro 0 3 r.1.length .all),(.gro 1 1 r.2.1.length .all),(.gro 2 1 r.2.2.1.length .all),(.gro 3 3 r.2.2.2.1.length .all),(.gro 4 1 r.2.2.2.2.1.length .all),(.gro 5 1 r.2.2.2.2.2.length .all)]) [.gro 3 (ah (eA 3 1 j64) r.1),.gro 1 (ah j64 r.2.1),.gro 1 (ah j64 r.2.2.1),.gro 3 (ah (eA 3 1 j64) r.2.2.2.1),.gro 1 (ah j64 r.2.2.2.2.1),.gro 1 (ah j64 r.2.2.2.2.2)]:=by
 refine Af aGn Tryz.func63 h ?_;refine At.D 2 [] ?_;refine DD.Z 6 [] 1 iO λr1=>?_;refine DD.Z 2 [] 2 cR λr2=>?_;refine DD.Z 2 [] 3 cR λr3=>?_;refine DD.Z 2 [] 4 iO λr4=>?_;refine DD.Z 2 [] 5 cR λr5=>?_;refine DD.Z 2 [] 6 cR λr6=>?_;refine De 2 ?_;refine At.sw 0 1 0 ?_;refine At.sw 0 2 1 ?_;refine At.sw 0 3 2 ?_;refine At.sw 0 4 3 ?_;refine At.sw 0 5 4 ?_;refine At.sw 0 6 5 ?_;apply rt;exact At.r 0
def aG4 : Nat->Bool:=imL [6]
def uO(N:Nat)(b1:(List (Vector Int 3)))(b2 b3:(List Int))(b4:(List (Vector Int 3)))(b5 b6:(List Int))(a6:Int)(a7:aI)(a8 a9 a10:Int):Option ((List (Vector Int 3))×(List Int)×(List Int)×(List (Vector Int 3))×(List Int)×(List Int)):=
 aa (idx a7.gB9 a8) λe1=>
 aa (idx a7.gT a8) λe2=>
 aa (idx a7.gK a8) λe3=>
 aa (dS a6 b1.length) λ_=>
 aa (aC3 b1 a6.toNat e1) λz5=>
 aa (dS a6 b2.length) λ_=>
 aa (aC3 b2 a6.toNat e2) λz7=>
 aa (dS a6 b3.length) λ_=>
 aa (aC3 b3 a6.toNat e3) λz9=>
 aa (idx a7.gB5 a8) λe10=>
 aa (idx a7.gB8 a8) λe11=>
 aa (idx a7.gR a8) λe12=>
 aa (dS a6 b4.length) λ_=>
 aa (aC3 b4 a6.toNat e10) λz14=>
 aa (dS a6 b5.length) λ_=>
 aa (aC3 b5 a6.toNat e11) λz16=>
 aa (dS a6 b6.length) λ_=>
 aa (aC3 b6 a6.toNat e12) λz18=>
 some ((z5,z7,z9,z14,z16,z18))
theorem aGO{N b1 b2 b3 b4 b5 b6 a6 a7 a8 a9 a10 r}(h:uO N b1 b2 b3 b4 b5 b6 a6 a7 a8 a9 a10=some r):FnM Tryz.prog 64 [.var (.st 8 [(j64 a9),(j64 a10),(.gro 1 3 b1.length .all),(.gro 2 1 b2.length .all),(.gro 3 1 b3.length .all),(.gro 4 3 b4.length .all),(.gro 5 1 b5.length .all),(.gro 6 1 b6.length .all)]),.gro 3 (ah (eA 3 1 j64) b1),.gro 1 (ah j64 b2),.gro 1 (ah j64 b3),.gro 3 (ah (eA 3 1 j64) b4),.gro 1 (ah j64 b5),.gro 1 (ah j64 b6)] [(.ref 0 [] 0),(j64 a6),(aI.enc a7),(j64 a8)] (.tup []) [.var (.st 8 [(j64 a9),(j64 a10),(.gro 1 3 r.1.length .all),(.gro 2 1 r.2.1.length .all),(.gro 3 1 r.2.2.1.length .all),(.gro 4 3 r.2.2.2.1.length .all),(.gro 5 1 r.2.2.2.2.1.length .all),(.gro 6 1 r.2.2.2.2.2.length .all)]),.gro 3 (ah (eA 3 1 j64) r.1),.gro 1 (ah j64 r.2.1),.gro 1 (ah j64 r.2.2.1),.gro 3 (ah (eA 3 1 j64) r.2.2.2.1),.gro 1 (ah j64 r.2.2.2.2.1),.gro 1 (ah j64 r.2.2.2.2.2)]:=by
 refine Af aG4 Tryz.func64 h ?_;refine At.D 1 [] ?_;refine DD.i hT 18 (eA 3 1 j64) λe1=>?_;refine DD.i hT 4 j64 λe2=>?_;refine DD.i hT 4 j64 λe3=>?_;refine DD.b 1 (λe _=>aDD hT (id:=1) (k:=3) e (by kernel_rfl) (by kernel_rfl)) λu4=>?_;refine bi λz5 hz5=>?_;refine DD.w 0 (.v (.bool false)) ⟨[(1,.gro 3 (ah (eA 3 1 j64) z5))],[]⟩ (λ_ e=>tQ hT (eA 3 1 j64) (k:=3) e1 hz5 rfl (pj1 e) (congrFun (pj1 (pj2 e))) (pj1 (pj2 (pj2 e))) (pj2 (pj2 (pj2 e)))) ?_;refine DD.b 0 (λe _=>aDD hT (id:=2) (k:=1) e (by kernel_rfl) (by kernel_rfl)) λu6=>?_;refine bi λz7 hz7=>?_;refine DD.w 0 (.v (.bool false)) ⟨[(2,.gro 1 (ah j64 z7))],[]⟩ (λ_ e=>tQ hT j64 (k:=1) e2 hz7 rfl (pj1 e) (congrFun (pj1 (pj2 e))) (pj1 (pj2 (pj2 e))) (pj2 (pj2 (pj2 e)))) ?_;refine DD.b 0 (λe _=>aDD hT (id:=3) (k:=1) e (by kernel_rfl) (by kernel_rfl)) λu8=>?_;refine bi λz9 hz9=>?_;refine DD.w 0 (.v (.bool false)) ⟨[(3,.gro 1 (ah j64 z9))],[]⟩ (λ_ e=>tQ hT j64 (k:=1) e3 hz9 rfl (pj1 e) (congrFun (pj1 (pj2 e))) (pj1 (pj2 (pj2 e))) (pj2 (pj2 (pj2 e)))) ?_;refine De 0 ?_;refine At.gp [] [0] 3 b3.length z9.length ((xU hz9).2.2) ?_;refine At.gp [] [0] 2 b2.length z7.length ((xU hz7).2.2) ?_;refine At.gp [] [0] 1 b1.length z5.length ((xU hz5).2.2) ?_;refine At.D 0 [] ?_;refine DD.i hT 18 (eA 3 1 j64) λe10=>?_;refine DD.i hT 4 j64 λe11=>?_;refine DD.i hT 4 j64 λe12=>?_;refine DD.b 1 (λe _=>aDD hT (id:=4) (k:=3) e (by kernel_rfl) (by kernel_rfl)) λu13=>?_;refine bi λz14 hz14=>?_;refine DD.w 0 (.v (.bool false)) ⟨[(4,.gro 3 (ah (eA 3 1 j64) z14))],[]⟩ (λ_ e=>tQ hT (eA 3 1 j64) (k:=3) e10 hz14 rfl (pj1 e) (congrFun (pj1 (pj2 e))) (pj1 (pj2 (pj2 e))) (pj2 (pj2 (pj2 e)))) ?_;refine DD.b 0 (λe _=>aDD hT (id:=5) (k:=1) e (by kernel_rfl) (by kernel_rfl)) λu15=>?_;refine bi λz16 hz16=>?_;refine DD.w 0 (.v (.bool false)) ⟨[(5,.gro 1 (ah j64 z16))],[]⟩ (λ_ e=>tQ hT j64 (k:=1) e11 hz16 rfl (pj1 e) (congrFun (pj1 (pj2 e))) (pj1 (pj2 (pj2 e))) (pj2 (pj2 (pj2 e)))) ?_;refine DD.b 0 (λe _=>aDD hT (id:=6) (k:=1) e (by kernel_rfl) (by kernel_rfl)) λu17=>?_;refine bi λz18 hz18=>?_;refine DD.w 0 (.v (.bool false)) ⟨[(6,.gro 1 (ah j64 z18))],[]⟩ (λ_ e=>tQ hT j64 (k:=1) e12 hz18 rfl (pj1 e) (congrFun (pj1 (pj2 e))) (pj1 (pj2 (pj2 e))) (pj2 (pj2 (pj2 e)))) ?_;refine De 0 ?_;refine At.gp [] [0] 6 b6.length z18.length ((xU hz18).2.2) ?_;refine At.gp [] [0] 5 b5.length z16.length ((xU hz16).2.2) ?_;refine At.gp [] [0] 4 b4.length z14.length ((xU hz14).2.2) ?_;apply rt;exact At.z 0
def aOp : Nat->Bool:=imL [4,5]
def vW(N:Nat)(a1:aI)(a3:Int)(a0:aI)(a2:Int):Nat->(List (Vector Int 3))->(List Int)->(List Int)->(List (Vector Int 3))->(List Int)->(List Int)->Int->Option ((List (Vector Int 3))×(List Int)×(List Int)×(List (Vector Int 3))×(List Int)×(List Int))
 | 0,_,_,_,_,_,_,_=>none
 | k+1,s5,s6,s7,s8,s9,s10,s11=>
  aR (decide (s11 < (I64 (a1.gW*a1.gH)))) λx12=>
  cond x12 (
   aa (aDp .i64 s11 a1.gW) λx13=>
   aR (I64 ((I64 (a3+x13))*a0.gW)) λx14=>
   aa (aDq .i64 s11 a1.gW) λx15=>
   aR (I64 ((I64 (x14+a2))+x15)) λx16=>
   aa (uO N s5 s6 s7 s8 s9 s10 x16 a1 s11 a0.gW a0.gH) λr17=>
   vW N a1 a3 a0 a2 k r17.1 r17.2.1 r17.2.2.1 r17.2.2.2.1 r17.2.2.2.2.1 r17.2.2.2.2.2 (I64 (s11+1))) (
   some ((s5,s6,s7,s8,s9,s10)))
def aBO(N:Nat)(a0 a1:aI)(a2 a3:Int):Option (aI×Int):=
 aa (pX N ([a0,a1])) λr1=>
 cond (r1 != 0) (
  some ((aI.mk 0 0 [] [] [] [] [] [],r1))) (
  aa (aAC N a0 a2 a3 a1.gW a1.gH) λr2=>
  cond (!r2) (
   some ((aI.mk 0 0 [] [] [] [] [] [],2))) (
   aa (uS N a0) λr3=>
   aa (vW N a1 a3 a0 a2 N r3.1 r3.2.1 r3.2.2.1 r3.2.2.2.1 r3.2.2.2.2.1 r3.2.2.2.2.2 0) λp4=>
   some ((aI.mk a0.gW a0.gH p4.1 p4.2.1 p4.2.2.1 p4.2.2.2.1 p4.2.2.2.2.1 p4.2.2.2.2.2,0))))
theorem aHQ{N a0 a1 a2 a3 r}(h:aBO N a0 a1 a2 a3=some r):FnM Tryz.prog 25 [] [(aI.enc a0),(aI.enc a1),(j64 a2),(j64 a3)] (.tup [(aI.enc r.1),(j64 r.2)]) []:=by
 refine Af aOp Tryz.func25 h ?_;refine At.o 6 (bG hT (x:=(.sl 8 2 [(aI.enc a0),(aI.enc a1)]))) ?_;refine At.y 0 aE7 λr1=>?_;refine At.c 3 ?_ ?_
 ·apply rt;exact At.r 4
 ·refine At.y 7 aIl λr2=>?_;refine At.c 1 ?_ ?_
  ·apply rt;exact At.r 3
  ·refine At.Y 1 [] aFo λr3=>?_;refine At.M 8 [8,11] 8 (λp4=>([],[(1,.gro 3 (ah (eA 3 1 j64) p4.1)),(2,.gro 1 (ah j64 p4.2.1)),(3,.gro 1 (ah j64 p4.2.2.1)),(4,.gro 3 (ah (eA 3 1 j64) p4.2.2.2.1)),(5,.gro 1 (ah j64 p4.2.2.2.2.1)),(6,.gro 1 (ah j64 p4.2.2.2.2.2)),(7,.var (.st 8 [(j64 a0.gW),(j64 a0.gH),(.gro 1 3 p4.1.length .all),(.gro 2 1 p4.2.1.length .all),(.gro 3 1 p4.2.2.1.length .all),(.gro 4 3 p4.2.2.2.1.length .all),(.gro 5 1 p4.2.2.2.2.1.length .all),(.gro 6 1 p4.2.2.2.2.2.length .all)]))],[])) [2,3,4,5,8,11,37] 8 (CU7 (vW N a1 a3 a0 a2)) (cu7 λ(s5:(List (Vector Int 3))) (s6:(List Int)) (s7:(List Int)) (s8:(List (Vector Int 3))) (s9:(List Int)) (s10:(List Int)) (s11:Int)=>([(38,(j64 s11))],[(1,.gro 3 (ah (eA 3 1 j64) s5)),(2,.gro 1 (ah j64 s6)),(3,.gro 1 (ah j64 s7)),(4,.gro 3 (ah (eA 3 1 j64) s8)),(5,.gro 1 (ah j64 s9)),(6,.gro 1 (ah j64 s10)),(7,.var (.st 8 [(j64 a0.gW),(j64 a0.gH),(.gro 1 3 s5.length .all),(.gro 2 1 s6.length .all),(.gro 3 1 s7.length .all),(.gro 4 3 s8.length .all),(.gro 5 1 s9.length .all),(.gro 6 1 s10.length .all)]))],[])) (_,_,_,_,_,_,_) N (λp4 k=>un7 λs5 s6 s7 s8 s9 s10 s11=>?_) λp4=>?_
   ·apply lx;intro x12;refine At.c 1 ?_ ?_
    ·refine At.D 2 [] ?_;refine DD.b 4 (λe _=>yR hT e (by kernel_rfl) (by kernel_rfl)) λx13=>?_;apply lx;intro x14;refine DD.b 9 (λe _=>aBA hT e (by kernel_rfl) (by kernel_rfl)) λx15=>?_;apply lx;intro x16;refine DD.Y 3 [7,1,2,3,4,5,6] aGO λr17=>?_;refine De 0 ?_;exact λh=>At.v 2 (_,_,_,_,_,_,_) h
    ·apply rt;exact At.x 0
   ·refine At.fz 3 1 3 p4.1.length _ (ah (eA 3 1 j64) p4.1) (ai _) (ai _) ?_;refine At.fz 0 2 1 p4.2.1.length _ (ah j64 p4.2.1) (ai _) (ai _) ?_;refine At.fz 0 3 1 p4.2.2.1.length _ (ah j64 p4.2.2.1) (ai _) (ai _) ?_;refine At.fz 0 4 3 p4.2.2.2.1.length _ (ah (eA 3 1 j64) p4.2.2.2.1) (ai _) (ai _) ?_;refine At.fz 0 5 1 p4.2.2.2.2.1.length _ (ah j64 p4.2.2.2.2.1) (ai _) (ai _) ?_;refine At.fz 0 6 1 p4.2.2.2.2.2.length _ (ah j64 p4.2.2.2.2.2) (ai _) (ai _) ?_;apply rt;exact At.r 0
def iJ(N:Nat)(a2:Int)(b4:(List (List aC)))(a3:aE)(a4:aG)(a5:Int)(a6:(List aM))(a9:aE)(a10:aG)(a11:aA):Nat->(List aH)->Int->aI->aF->aK->Int->Option ((List aH)×Int×aI×aF×aK×Int)
 | 0,_,_,_,_,_,_=>none
 | k+1,s3,s4,s5,s6,s7,s8=>
  aa (cond (decide (s8 < a2)) (
   aa (jT N s3 b4 a3 a4 a5 a6 s4 s5 a9 a10 a11 s6 s7) λr10=>
   some (decide (r10 > 0))) (
   some false)) λp9=>
  cond p9 (
   aa (aDp .i64 s4 a4.gA8) λx11=>
   aa (idx a6 x11) λe12=>
   aa (aDq .i64 s4 a4.gA8) λx13=>
   aa (eX N b4 e12.gx e12.gy x13 a9 a10 a11 s6 s7) λr14=>
   aa (nL 72 s3 (([r14.2.2.1]:List aH))) λz15=>
   aR ((I64 (x13+1))==a4.gA8) λx16=>
   cond x16 (
    aa (oA N z15 a3) λr17=>
    aa (aBO N s5 r17.1 e12.gx e12.gy) λr18=>
    iJ N a2 b4 a3 a4 a5 a6 a9 a10 a11 k [] (I64 (s4+1)) r18.1 r14.1 r14.2.1 (I64 (s8+1))) (
    iJ N a2 b4 a3 a4 a5 a6 a9 a10 a11 k z15 (I64 (s4+1)) s5 r14.1 r14.2.1 (I64 (s8+1)))) (
   some ((s3,s4,s5,s6,s7,s8)))
def pY(N:Nat)(b2:(List aH))(b4:(List (List aC)))(a2:Int)(a3:aE)(a4:aG)(a5:Int)(a6:(List aM))(a7:Int)(a8:aI)(a9:aE)(a10:aG)(a11:aA)(a12:aF)(a13:aK):Option ((List aH)×Int×aI×aF×aK×Int):=
 aa (fM N b2 b4 a3 a4 a5 a6 a7 a8 a9 a10 a11 a12 a13) λr1=>
 aa (iJ N a2 b4 a3 a4 a5 a6 a9 a10 a11 N b2 a7 a8 a12 a13 0) λp2=>
 some ((p2.1,p2.2.1,p2.2.2.1,p2.2.2.2.1,p2.2.2.2.2.1,p2.2.2.2.2.2))
theorem aBW{N b2 b4 a2 a3 a4 a5 a6 a7 a8 a9 a10 a11 a12 a13 r}(h:pY N b2 b4 a2 a3 a4 a5 a6 a7 a8 a9 a10 a11 a12 a13=some r):FnM Tryz.prog 9 [.var (.st 43 [(.ref 1 [] 0),(aE.enc a3),(aG.enc a4),(j64 a5),(eL 6 aM.enc a6),(j64 a7),(eO 2 9 aH.enc b2),(aI.enc a8)]),.var (.st 38 [(aE.enc a9),(aG.enc a10),(.ifc 112 (.ref 3 [] 0)),(eO 4 1 (eL 2 aC.enc) b4),(aA.enc a11),(aF.enc a12)]),.tail (b2.length*9),.var (aK.enc a13),.tail (b4.length*1)] [(.ref 0 [] 0),(j64 a2)] (j64 r.2.2.2.2.2) [.var (.st 43 [(.ref 1 [] 0),(aE.enc a3),(aG.enc a4),(j64 a5),(eL 6 aM.enc a6),(j64 r.2.1),(eO 5 9 aH.enc r.1),(aI.enc r.2.2.1)]),.var (.st 38 [(aE.enc a9),(aG.enc a10),(.ifc 112 (.ref 3 [] 0)),(eO 4 1 (eL 2 aC.enc) b4),(aA.enc a11),(aF.enc r.2.2.2.1)]),.dead,.var (aK.enc r.2.2.2.2.1),.tail (b4.length*1),.tail (r.1.length*9)]:=by
 refine Af bO Tryz.func9 h ?_;refine At.mv 0 2 ?_;refine At.Y 2 [0,1,5,3,4] qG λr1=>?_;refine At.M 1 [] 6 (λp2=>([(4,(j64 p2.2.2.2.2.2))],[(0,.var (.st 43 [(.ref 1 [] 0),(aE.enc a3),(aG.enc a4),(j64 a5),(eL 6 aM.enc a6),(j64 p2.2.1),(eO 5 9 aH.enc p2.1),(aI.enc p2.2.2.1)])),(1,.var (.st 38 [(aE.enc a9),(aG.enc a10),(.ifc 112 (.ref 3 [] 0)),(eO 4 1 (eL 2 aC.enc) b4),(aA.enc a11),(aF.enc p2.2.2.2.1)])),(3,.var (aK.enc p2.2.2.2.2.1)),(5,.tail (p2.1.length*9))],[])) [0,1] 6 (CU6 (iJ N a2 b4 a3 a4 a5 a6 a9 a10 a11)) (cu6 λ(s3:(List aH)) (s4:Int) (s5:aI) (s6:aF) (s7:aK) (s8:Int)=>([(4,(j64 s8))],[(0,.var (.st 43 [(.ref 1 [] 0),(aE.enc a3),(aG.enc a4),(j64 a5),(eL 6 aM.enc a6),(j64 s4),(eO 5 9 aH.enc s3),(aI.enc s5)])),(1,.var (.st 38 [(aE.enc a9),(aG.enc a10),(.ifc 112 (.ref 3 [] 0)),(eO 4 1 (eL 2 aC.enc) b4),(aA.enc a11),(aF.enc s6)])),(3,.var (aK.enc s7)),(5,.tail (s3.length*9))],[])) (_,_,_,_,_,_) N (λp2 k=>un6 λs3 s4 s5 s6 s7 s8=>?_) λp2=>?_
 ·refine At.J 0 0 [0,1,4] 6 (λp9=>([(20,(eB p9))],[],[])) (λp9=>?_) λp9=>?_
  ·refine At.s 16 4 ?_ ?_
   ·refine At.g [16] 1 ?_;refine At.Y 0 [0,1,5,3,4] vE λr10=>?_;refine At.g [16] 2 ?_;apply rt;exact At.jn 0
   ·refine At.g [16] 4 ?_;apply rt;exact At.jn 0
  ·refine At.c 0 ?_ ?_
   ·refine At.D 0 [] ?_;refine DD.b 13 (λe _=>yR hT e (by kernel_rfl) (by kernel_rfl)) λx11=>?_;refine DD.i hT 0 aM.enc λe12=>?_;refine DD.b 10 (λe _=>aBA hT e (by kernel_rfl) (by kernel_rfl)) λx13=>?_;refine De 3 ?_;refine At.D 0 [] ?_;refine DD.Y 9 [1,3,4] tE λr14=>?_;refine De 6 ?_;refine At.D 0 [] ?_;refine DD.o 6 (λ_=>bG hT (x:=(.sl 9 1 [(aH.enc r14.2.2.1)]))) ?_;refine bi λz15 hz15=>?_;refine DD.w 0 (eO 5 9 aH.enc z15) ⟨[(5,.tail (z15.length*9))],[]⟩ (λ_ e=>iI hT aH.enc (id:=5) (k:=9) hz15 (pj1 e) (pj2 e)) ?_;refine De 3 ?_;apply lx;intro x16;refine At.c 19 ?_ ?_
    ·refine At.D 0 [] ?_;refine DD.y 8 aAA λr17=>?_;refine De 6 ?_;refine At.D 0 [] ?_;refine DD.y 10 aHQ λr18=>?_;refine De 6 ?_;exact λh=>At.vw 4 (_,_,_,_,_,_) (aPo 0 9 [6] (aDi 9 5 (by kernel_rfl) jr)) h
    ·exact λh=>At.v 0 (_,_,_,_,_,_) h
   ·apply rt;exact At.x 0
 ·apply rt;exact At.r 2
def aKG : Nat->Bool:=imL [1]
def vS(N:Nat)(a0:aI):Option (aI):=
 aa (cS N a0.gB9) λr1=>
 aa (bT N a0.gT) λr2=>
 aa (bT N a0.gK) λr3=>
 aa (cS N a0.gB5) λr4=>
 aa (bT N a0.gB8) λr5=>
 aa (bT N a0.gR) λr6=>
 some (aI.mk a0.gW a0.gH r1 r2 r3 r4 r5 r6)
theorem aJB{N a0 r}(h:vS N a0=some r):FnM Tryz.prog 63 [] [(aI.enc a0)] (aI.enc r) []:=by
 refine Af aKG Tryz.func63 h ?_;refine At.D 2 [] ?_;refine DD.Z 6 [] 1 iO λr1=>?_;refine DD.Z 2 [] 2 cR λr2=>?_;refine DD.Z 2 [] 3 cR λr3=>?_;refine DD.Z 2 [] 4 iO λr4=>?_;refine DD.Z 2 [] 5 cR λr5=>?_;refine DD.Z 2 [] 6 cR λr6=>?_;refine De 2 ?_;refine At.fz 0 1 3 r1.length _ (ah (eA 3 1 j64) r1) (ai _) (ai _) ?_;refine At.fz 0 2 1 r2.length _ (ah j64 r2) (ai _) (ai _) ?_;refine At.fz 0 3 1 r3.length _ (ah j64 r3) (ai _) (ai _) ?_;refine At.fz 0 4 3 r4.length _ (ah (eA 3 1 j64) r4) (ai _) (ai _) ?_;refine At.fz 0 5 1 r5.length _ (ah j64 r5) (ai _) (ai _) ?_;refine At.fz 0 6 1 r6.length _ (ah j64 r6) (ai _) (ai _) ?_;apply rt;exact At.r 0
def aBY(N:Nat)(rcu:Nat->(List aI)->Option (aI×Int))(a0:(List aI)):Option (aI×Int):=
 aR (((a0.length:Int))==0) λx1=>
 cond x1 (
  some ((aI.mk 0 0 [] [] [] [] [] [],2))) (
  aR (((a0.length:Int))==1) λx2=>
  cond x2 (
   aa (idx a0 0) λe3=>
   aa (pX N ([e3])) λr4=>
   cond (r4 != 0) (
    some ((aI.mk 0 0 [] [] [] [] [] [],r4))) (
    aa (idx a0 0) λe5=>
    aa (vS N e5) λr6=>
    some ((r6,0)))) (
   aa (xR a0 1 ((a0.length:Int))) λs7=>
   aa (rcu N s7) λr8=>
   cond (r8.2 != 0) (
    some ((aI.mk 0 0 [] [] [] [] [] [],r8.2))) (
    aa (idx a0 0) λe9=>
    none)))
def uD(N:Nat):Nat->(List aI)->Option (aI×Int)
 | 0,_=>none
 | k+1,a0=>aBY N (λ_=>uD N k) a0
def yQ(N:Nat)(a0:(List aI)):Option (aI×Int):=uD N N a0
theorem aID{N:Nat}:∀(k:Nat) {a0 r},uD N k a0=some r->FnM Tryz.prog 65 [] [(eL 8 aI.enc a0)] (.tup [(aI.enc r.1),(j64 r.2)]) []:=by
 intro k
 induction k with
 | zero=>intro a0 r h;cases h
 | succ k ihr=>
  intro a0 r h;rw[uD] at h;unfold aBY at h;refine Af bO Tryz.func65 h ?_;apply lx;intro x1;refine At.c 6 ?_ ?_
  ·apply rt;exact At.r 3
  ·apply lx;intro x2;refine At.c 2 ?_ ?_
   ·refine At.i hT 1 aI.enc λe3=>?_;refine At.o 1 (bG hT (x:=(.sl 8 1 [(aI.enc e3)]))) ?_;refine At.y 0 aE7 λr4=>?_;refine At.c 3 ?_ ?_
    ·apply rt;exact At.r 4
    ·refine At.i hT 1 aI.enc λe5=>?_;refine At.y 1 aJB λr6=>?_;apply rt;exact At.r 2
   ·refine At.b 1 (λ_ e=>aA7 hT (k:=8) aI.enc e) λs7=>?_;refine At.y 0 ihr λr8=>?_;refine At.c 8 ?_ ?_
    ·apply rt;exact At.r 4
    ·refine At.D 0 [] ?_;refine DD.i hT 1 aI.enc λe9=>?_;exact nn
theorem aE6{N a0 r}(h:yQ N a0=some r):FnM Tryz.prog 65 [] [(eL 8 aI.enc a0)] (.tup [(aI.enc r.1),(j64 r.2)]) []:=aID N h
def sU(N:Nat)(b2:(List aH))(b4:(List (List aC)))(a2:aE)(a3:aG)(a4:Int)(a5:(List aM))(a6:Int)(a7:aI)(a8:aE)(a9:aG)(a10:aA)(a11:aF)(a12:aK):Option (aI×Int):=
 aa (fM N b2 b4 a2 a3 a4 a5 a6 a7 a8 a9 a10 a11 a12) λr1=>
 aa (yQ N ([a7])) λr2=>
 some ((r2.1,r2.2))
theorem aDQ{N b2 b4 a2 a3 a4 a5 a6 a7 a8 a9 a10 a11 a12 r}(h:sU N b2 b4 a2 a3 a4 a5 a6 a7 a8 a9 a10 a11 a12=some r):FnM Tryz.prog 26 [.var (.st 43 [(.ref 1 [] 0),(aE.enc a2),(aG.enc a3),(j64 a4),(eL 6 aM.enc a5),(j64 a6),(eO 2 9 aH.enc b2),(aI.enc a7)]),.var (.st 38 [(aE.enc a8),(aG.enc a9),(.ifc 112 (.ref 3 [] 0)),(eO 4 1 (eL 2 aC.enc) b4),(aA.enc a10),(aF.enc a11)]),.tail (b2.length*9),.var (aK.enc a12),.tail (b4.length*1)] [(.ref 0 [] 0)] (.tup [(aI.enc r.1),(j64 r.2)]) [.var (.st 43 [(.ref 1 [] 0),(aE.enc a2),(aG.enc a3),(j64 a4),(eL 6 aM.enc a5),(j64 a6),(eO 2 9 aH.enc b2),(aI.enc a7)]),.var (.st 38 [(aE.enc a8),(aG.enc a9),(.ifc 112 (.ref 3 [] 0)),(eO 4 1 (eL 2 aC.enc) b4),(aA.enc a10),(aF.enc a11)]),.tail (b2.length*9),.var (aK.enc a12),.tail (b4.length*1)]:=by
 refine Af bO Tryz.func26 h ?_;refine At.Y 3 [0,1,2,3,4] qG λr1=>?_;refine At.o 5 (bG hT (x:=(.sl 8 1 [(aI.enc a7)]))) ?_;refine At.y 0 aE6 λr2=>?_;apply rt;exact At.r 4
def qI(N:Nat)(b2:(List aH))(b4:(List (List aC)))(a2:aE)(a3:aG)(a4:Int)(a5:(List aM))(a6:Int)(a7:aI)(a8:aE)(a9:aG)(a10:aA)(a11:aF)(a12:aK):Option (aI×aF×Int):=
 aa (fM N b2 b4 a2 a3 a4 a5 a6 a7 a8 a9 a10 a11 a12) λr1=>
 aa (jT N b2 b4 a2 a3 a4 a5 a6 a7 a8 a9 a10 a11 a12) λr2=>
 cond (decide (r2 > 0)) (
  some ((aI.mk 0 0 [] [] [] [] [] [],aF.mk 0 0 0,16))) (
  aa (sU N b2 b4 a2 a3 a4 a5 a6 a7 a8 a9 a10 a11 a12) λr3=>
  aa (jM N b4 a8 a9 a10 a11 a12) λr4=>
  some ((r3.1,r4,0)))
theorem aEM{N b2 b4 a2 a3 a4 a5 a6 a7 a8 a9 a10 a11 a12 r}(h:qI N b2 b4 a2 a3 a4 a5 a6 a7 a8 a9 a10 a11 a12=some r):FnM Tryz.prog 12 [.var (.st 43 [(.ref 1 [] 0),(aE.enc a2),(aG.enc a3),(j64 a4),(eL 6 aM.enc a5),(j64 a6),(eO 2 9 aH.enc b2),(aI.enc a7)]),.var (.st 38 [(aE.enc a8),(aG.enc a9),(.ifc 112 (.ref 3 [] 0)),(eO 4 1 (eL 2 aC.enc) b4),(aA.enc a10),(aF.enc a11)]),.tail (b2.length*9),.var (aK.enc a12),.tail (b4.length*1)] [(.ref 0 [] 0)] (.tup [(aI.enc r.1),(aF.enc r.2.1),(j64 r.2.2)]) [.var (.st 43 [(.ref 1 [] 0),(aE.enc a2),(aG.enc a3),(j64 a4),(eL 6 aM.enc a5),(j64 a6),(eO 2 9 aH.enc b2),(aI.enc a7)]),.var (.st 38 [(aE.enc a8),(aG.enc a9),(.ifc 112 (.ref 3 [] 0)),(eO 4 1 (eL 2 aC.enc) b4),(aA.enc a10),(aF.enc a11)]),.tail (b2.length*9),.var (aK.enc a12),.tail (b4.length*1)]:=by
 refine Af bO Tryz.func12 h ?_;refine At.Y 4 [0,1,2,3,4] qG λr1=>?_;refine At.Y 3 [0,1,2,3,4] vE λr2=>?_;refine At.c 2 ?_ ?_
 ·apply rt;exact At.r 5
 ·refine At.Y 1 [0,1,2,3,4] aDQ λr3=>?_;refine At.D 6 [] ?_;refine DD.Y 5 [1,3,4] vD λr4=>?_;refine De 3 ?_;apply rt;exact At.r 0
def fZ(N:Nat)(a0 a1:(List (Vector Int 3))):Nat->Int->Option (Sum (Unit) (Bool))
 | 0,_=>none
 | k+1,s3=>
  aR (decide (s3 < ((a0.length:Int)))) λx4=>
  cond x4 (
   aa (idx a0 s3) λe5=>
   aa (idx a1 s3) λe6=>
   cond (!((eqV (λa b=>a==b)) e5 e6)) (
    some (Sum.inr false)) (
    fZ N a0 a1 k (I64 (s3+1)))) (
   some (Sum.inl (())))
def oN(N:Nat)(a0 a1:(List (Vector Int 3))):Option (Bool):=
 aR (((a0.length:Int)) != ((a1.length:Int))) λx1=>
 cond x1 (
  some false) (
  aa (fZ N a0 a1 N 0) λo=>kG o (λp2=>
   some true) (λr=>some r))
theorem aAl{N a0 a1 r}(h:oN N a0 a1=some r):FnM Tryz.prog 28 [] [(eL 3 (eA 3 1 j64) a0),(eL 3 (eA 3 1 j64) a1)] (eB r) []:=by
 refine Af bO Tryz.func28 h ?_;apply lx;intro x1;refine At.c 6 ?_ ?_
 ·apply rt;exact At.r 1
 ·refine At.MS 3 [] 0 (λp2=>([],[],[])) [0,1,12] 0 (fZ N a0 a1) (λ(s3:Int)=>([(13,(j64 s3))],[],[])) _ N (λop2 g2 k s3=>?_) λp2=>?_
  ·apply lx;intro x4;refine At.c 1 ?_ ?_
   ·refine At.D 2 [] ?_;refine DD.i hT 2 (eA 3 1 j64) λe5=>?_;refine DD.i hT 3 (eA 3 1 j64) λe6=>?_;refine DD.o 1 (λ_=>aA6 aV7 (e5:(Vector Int 3)) (e6:(Vector Int 3)) (by kernel_rfl) (by kernel_rfl) (λ_=>rfl) (λ_=>rfl) (by kernel_rfl) (by kernel_rfl)) ?_;refine De 0 ?_;refine At.c 0 ?_ ?_
    ·intro e;apply aBp g2 e;exact At.r 1
    ·exact λh=>At.v 2 _ h
   ·apply rt;exact At.xs 0
  ·apply rt;exact At.r 1
def iZ(N:Nat)(a0 a1:(List Int)):Nat->Int->Option (Sum (Unit) (Bool))
 | 0,_=>none
 | k+1,s3=>
  aR (decide (s3 < ((a0.length:Int)))) λx4=>
  cond x4 (
   aa (idx a0 s3) λe5=>
   aa (idx a1 s3) λe6=>
   cond (e5 != e6) (
    some (Sum.inr false)) (
    iZ N a0 a1 k (I64 (s3+1)))) (
   some (Sum.inl (())))
def lZ(N:Nat)(a0 a1:(List Int)):Option (Bool):=
 aR (((a0.length:Int)) != ((a1.length:Int))) λx1=>
 cond x1 (
  some false) (
  aa (iZ N a0 a1 N 0) λo=>kG o (λp2=>
   some true) (λr=>some r))
theorem sX{N a0 a1 r}(h:lZ N a0 a1=some r):FnM Tryz.prog 29 [] [(eL 1 j64 a0),(eL 1 j64 a1)] (eB r) []:=by
 refine Af bO Tryz.func29 h ?_;apply lx;intro x1;refine At.c 6 ?_ ?_
 ·apply rt;exact At.r 1
 ·refine At.MS 3 [] 0 (λp2=>([],[],[])) [0,1,12] 0 (iZ N a0 a1) (λ(s3:Int)=>([(13,(j64 s3))],[],[])) _ N (λop2 g2 k s3=>?_) λp2=>?_
  ·apply lx;intro x4;refine At.c 1 ?_ ?_
   ·refine At.D 2 [] ?_;refine DD.i hT 2 j64 λe5=>?_;refine DD.i hT 3 j64 λe6=>?_;refine De 2 ?_;refine At.c 0 ?_ ?_
    ·intro e;apply aBp g2 e;exact At.r 1
    ·exact λh=>At.v 2 _ h
   ·apply rt;exact At.xs 0
  ·apply rt;exact At.r 1
def aNr : Nat->Bool:=imL [2,3]
def aAS(N:Nat)(a0 a1:aI):Option (Bool):=
 aa (aR (cond (a0.gW==a1.gW) (a0.gH==a1.gH) false) λx2=>
 cond x2 (
  aa (oN N a0.gB9 a1.gB9) λr3=>
  cond r3 (
   aa (lZ N a0.gT a1.gT) λr4=>
   cond r4 (
    aa (lZ N a0.gK a1.gK) λr5=>
    cond r5 (
     aa (oN N a0.gB5 a1.gB5) λr6=>
     cond r6 (
      aa (lZ N a0.gB8 a1.gB8) λr7=>
      cond r7 (
       aa (lZ N a0.gR a1.gR) λr8=>
       some r8) (
       some false)) (
      some false)) (
     some false)) (
    some false)) (
   some false)) (
  some false)) λp1=>
 some p1
theorem aGZ{N a0 a1 r}(h:aAS N a0 a1=some r):FnM Tryz.prog 13 [] [(aI.enc a0),(aI.enc a1)] (eB r) []:=by
 refine Af aNr Tryz.func13 h ?_;refine At.J 3 0 [] 0 (λp1=>([(4,(eB p1))],[],[])) (λp1=>?_) λp1=>?_
 ·apply lx;intro x2;refine At.s 17 13 ?_ ?_
  ·refine At.g [17] 4 ?_;refine At.y 0 aAl λr3=>?_;refine At.g [17] 2 ?_;refine At.s 24 0 ?_ ?_
   ·refine At.g [24] 4 ?_;refine At.y 0 sX λr4=>?_;refine At.g [24] 2 ?_;refine At.s 31 0 ?_ ?_
    ·refine At.g [31] 4 ?_;refine At.y 0 sX λr5=>?_;refine At.g [31] 2 ?_;refine At.s 38 0 ?_ ?_
     ·refine At.g [38] 4 ?_;refine At.y 0 aAl λr6=>?_;refine At.g [38] 2 ?_;refine At.s 45 0 ?_ ?_
      ·refine At.g [45] 4 ?_;refine At.y 0 sX λr7=>?_;refine At.g [45] 2 ?_;refine At.s 52 0 ?_ ?_
       ·refine At.g [52] 4 ?_;refine At.y 0 sX λr8=>?_;refine At.g [52] 2 ?_;apply rt;exact At.jn 0
       ·refine At.g [52] 7 ?_;apply rt;exact At.jn 0
      ·refine At.g [45,52] 14 ?_;apply rt;exact At.jn 0
     ·refine At.g [38,45,52] 21 ?_;apply rt;exact At.jn 0
    ·refine At.g [31,38,45,52] 28 ?_;apply rt;exact At.jn 0
   ·refine At.g [24,31,38,45,52] 35 ?_;apply rt;exact At.jn 0
  ·refine At.g [17,24,31,38,45,52] 42 ?_;apply rt;exact At.jn 0
 ·apply rt;exact At.r 0
def eE(N:Nat)(b2:(List aH))(b4:(List (List aC)))(a2:aE)(a3:aG)(a4:Int)(a5:(List aM))(a6:Int)(a7:aI)(a8:aE)(a9:aG)(a10:aA)(a11:aF)(a12:aL):Option (Unit):=
 some (())
theorem pC{N b2 b4 a2 a3 a4 a5 a6 a7 a8 a9 a10 a11 a12 r}(h:eE N b2 b4 a2 a3 a4 a5 a6 a7 a8 a9 a10 a11 a12=some r):FnM Tryz.prog 22 [.var (.st 43 [(.ref 1 [] 0),(aE.enc a2),(aG.enc a3),(j64 a4),(eL 6 aM.enc a5),(j64 a6),(eO 2 9 aH.enc b2),(aI.enc a7)]),.var (.st 38 [(aE.enc a8),(aG.enc a9),(.ifc 115 (.ref 3 [] 0)),(eO 4 1 (eL 2 aC.enc) b4),(aA.enc a10),(aF.enc a11)]),.tail (b2.length*9),.var (aL.enc a12),.tail (b4.length*1)] [(.ref 0 [] 0)] (eB false) [.var (.st 43 [(.ref 1 [] 0),(aE.enc a2),(aG.enc a3),(j64 a4),(eL 6 aM.enc a5),(j64 a6),(eO 2 9 aH.enc b2),(aI.enc a7)]),.var (.st 38 [(aE.enc a8),(aG.enc a9),(.ifc 115 (.ref 3 [] 0)),(eO 4 1 (eL 2 aC.enc) b4),(aA.enc a10),(aF.enc a11)]),.tail (b2.length*9),.var (aL.enc a12),.tail (b4.length*1)]:=by
 refine Af bO Tryz.func22 h ?_;refine At.o 2 (sZ hT (t:=41) (x:=(.ref 0 [] 0)) (b:=true) (by kernel_rfl) rfl rfl (by kernel_rfl)) ?_;refine At.g [5] 5 ?_;refine At.o 0 (sZ hT (t:=64) (x:=(.ref 1 [] 0)) (b:=true) (by kernel_rfl) rfl rfl (by kernel_rfl)) ?_;refine At.g [5] 2 ?_;apply rt;exact At.r 0
def iN(N:Nat)(b2:(List aH))(b4:(List (List aC)))(a2:aE)(a3:aG)(a4:Int)(a5:(List aM))(a6:Int)(a7:aI)(a8:aE)(a9:aG)(a10:aA)(a11:aF)(a12:aL):Option (Int):=
 aa (eE N b2 b4 a2 a3 a4 a5 a6 a7 a8 a9 a10 a11 a12) λr1=>
 aR (I64 (((a5.length:Int))*a3.gA8)) λx2=>
 some (I64 (x2 - a6))
theorem sR{N b2 b4 a2 a3 a4 a5 a6 a7 a8 a9 a10 a11 a12 r}(h:iN N b2 b4 a2 a3 a4 a5 a6 a7 a8 a9 a10 a11 a12=some r):FnM Tryz.prog 11 [.var (.st 43 [(.ref 1 [] 0),(aE.enc a2),(aG.enc a3),(j64 a4),(eL 6 aM.enc a5),(j64 a6),(eO 2 9 aH.enc b2),(aI.enc a7)]),.var (.st 38 [(aE.enc a8),(aG.enc a9),(.ifc 115 (.ref 3 [] 0)),(eO 4 1 (eL 2 aC.enc) b4),(aA.enc a10),(aF.enc a11)]),.tail (b2.length*9),.var (aL.enc a12),.tail (b4.length*1)] [(.ref 0 [] 0)] (j64 r) [.var (.st 43 [(.ref 1 [] 0),(aE.enc a2),(aG.enc a3),(j64 a4),(eL 6 aM.enc a5),(j64 a6),(eO 2 9 aH.enc b2),(aI.enc a7)]),.var (.st 38 [(aE.enc a8),(aG.enc a9),(.ifc 115 (.ref 3 [] 0)),(eO 4 1 (eL 2 aC.enc) b4),(aA.enc a10),(aF.enc a11)]),.tail (b2.length*9),.var (aL.enc a12),.tail (b4.length*1)]:=by
 refine Af bO Tryz.func11 h ?_;refine At.Y 2 [0,1,2,3,4] pC λr1=>?_;refine At.D 1 [] ?_;apply lx;intro x2;refine De 17 ?_;apply rt;exact At.r 0
def fJ(N:Nat)(a2:Int)(b4:(List (List aC)))(a3:aE)(a4:aG)(a5:Int)(a6:(List aM))(a9:aE)(a10:aG)(a11:aA):Nat->(List aH)->Int->aI->aF->aL->Int->Option ((List aH)×Int×aI×aF×aL×Int)
 | 0,_,_,_,_,_,_=>none
 | k+1,s3,s4,s5,s6,s7,s8=>
  aa (cond (decide (s8 < a2)) (
   aa (iN N s3 b4 a3 a4 a5 a6 s4 s5 a9 a10 a11 s6 s7) λr10=>
   some (decide (r10 > 0))) (
   some false)) λp9=>
  cond p9 (
   aa (aDp .i64 s4 a4.gA8) λx11=>
   aa (idx a6 x11) λe12=>
   aa (aDq .i64 s4 a4.gA8) λx13=>
   aa (fT N b4 e12.gx e12.gy x13 a9 a10 a11 s6 s7) λr14=>
   aa (nL 72 s3 (([r14.2.2.1]:List aH))) λz15=>
   aR ((I64 (x13+1))==a4.gA8) λx16=>
   cond x16 (
    aa (oA N z15 a3) λr17=>
    aa (aBO N s5 r17.1 e12.gx e12.gy) λr18=>
    fJ N a2 b4 a3 a4 a5 a6 a9 a10 a11 k [] (I64 (s4+1)) r18.1 r14.1 r14.2.1 (I64 (s8+1))) (
    fJ N a2 b4 a3 a4 a5 a6 a9 a10 a11 k z15 (I64 (s4+1)) s5 r14.1 r14.2.1 (I64 (s8+1)))) (
   some ((s3,s4,s5,s6,s7,s8)))
def nU(N:Nat)(b2:(List aH))(b4:(List (List aC)))(a2:Int)(a3:aE)(a4:aG)(a5:Int)(a6:(List aM))(a7:Int)(a8:aI)(a9:aE)(a10:aG)(a11:aA)(a12:aF)(a13:aL):Option ((List aH)×Int×aI×aF×aL×Int):=
 aa (eE N b2 b4 a3 a4 a5 a6 a7 a8 a9 a10 a11 a12 a13) λr1=>
 aa (fJ N a2 b4 a3 a4 a5 a6 a9 a10 a11 N b2 a7 a8 a12 a13 0) λp2=>
 some ((p2.1,p2.2.1,p2.2.2.1,p2.2.2.2.1,p2.2.2.2.2.1,p2.2.2.2.2.2))
theorem aAG{N b2 b4 a2 a3 a4 a5 a6 a7 a8 a9 a10 a11 a12 a13 r}(h:nU N b2 b4 a2 a3 a4 a5 a6 a7 a8 a9 a10 a11 a12 a13=some r):FnM Tryz.prog 9 [.var (.st 43 [(.ref 1 [] 0),(aE.enc a3),(aG.enc a4),(j64 a5),(eL 6 aM.enc a6),(j64 a7),(eO 2 9 aH.enc b2),(aI.enc a8)]),.var (.st 38 [(aE.enc a9),(aG.enc a10),(.ifc 115 (.ref 3 [] 0)),(eO 4 1 (eL 2 aC.enc) b4),(aA.enc a11),(aF.enc a12)]),.tail (b2.length*9),.var (aL.enc a13),.tail (b4.length*1)] [(.ref 0 [] 0),(j64 a2)] (j64 r.2.2.2.2.2) [.var (.st 43 [(.ref 1 [] 0),(aE.enc a3),(aG.enc a4),(j64 a5),(eL 6 aM.enc a6),(j64 r.2.1),(eO 5 9 aH.enc r.1),(aI.enc r.2.2.1)]),.var (.st 38 [(aE.enc a9),(aG.enc a10),(.ifc 115 (.ref 3 [] 0)),(eO 4 1 (eL 2 aC.enc) b4),(aA.enc a11),(aF.enc r.2.2.2.1)]),.dead,.var (aL.enc r.2.2.2.2.1),.tail (b4.length*1),.tail (r.1.length*9)]:=by
 refine Af bO Tryz.func9 h ?_;refine At.mv 0 2 ?_;refine At.Y 2 [0,1,5,3,4] pC λr1=>?_;refine At.M 1 [] 6 (λp2=>([(4,(j64 p2.2.2.2.2.2))],[(0,.var (.st 43 [(.ref 1 [] 0),(aE.enc a3),(aG.enc a4),(j64 a5),(eL 6 aM.enc a6),(j64 p2.2.1),(eO 5 9 aH.enc p2.1),(aI.enc p2.2.2.1)])),(1,.var (.st 38 [(aE.enc a9),(aG.enc a10),(.ifc 115 (.ref 3 [] 0)),(eO 4 1 (eL 2 aC.enc) b4),(aA.enc a11),(aF.enc p2.2.2.2.1)])),(3,.var (aL.enc p2.2.2.2.2.1)),(5,.tail (p2.1.length*9))],[])) [0,1] 6 (CU6 (fJ N a2 b4 a3 a4 a5 a6 a9 a10 a11)) (cu6 λ(s3:(List aH)) (s4:Int) (s5:aI) (s6:aF) (s7:aL) (s8:Int)=>([(4,(j64 s8))],[(0,.var (.st 43 [(.ref 1 [] 0),(aE.enc a3),(aG.enc a4),(j64 a5),(eL 6 aM.enc a6),(j64 s4),(eO 5 9 aH.enc s3),(aI.enc s5)])),(1,.var (.st 38 [(aE.enc a9),(aG.enc a10),(.ifc 115 (.ref 3 [] 0)),(eO 4 1 (eL 2 aC.enc) b4),(aA.enc a11),(aF.enc s6)])),(3,.var (aL.enc s7)),(5,.tail (s3.length*9))],[])) (_,_,_,_,_,_) N (λp2 k=>un6 λs3 s4 s5 s6 s7 s8=>?_) λp2=>?_
 ·refine At.J 0 0 [0,1,4] 6 (λp9=>([(20,(eB p9))],[],[])) (λp9=>?_) λp9=>?_
  ·refine At.s 16 4 ?_ ?_
   ·refine At.g [16] 1 ?_;refine At.Y 0 [0,1,5,3,4] sR λr10=>?_;refine At.g [16] 2 ?_;apply rt;exact At.jn 0
   ·refine At.g [16] 4 ?_;apply rt;exact At.jn 0
  ·refine At.c 0 ?_ ?_
   ·refine At.D 0 [] ?_;refine DD.b 13 (λe _=>yR hT e (by kernel_rfl) (by kernel_rfl)) λx11=>?_;refine DD.i hT 0 aM.enc λe12=>?_;refine DD.b 10 (λe _=>aBA hT e (by kernel_rfl) (by kernel_rfl)) λx13=>?_;refine De 3 ?_;refine At.D 0 [] ?_;refine DD.Y 9 [1,3,4] vA λr14=>?_;refine De 6 ?_;refine At.D 0 [] ?_;refine DD.o 6 (λ_=>bG hT (x:=(.sl 9 1 [(aH.enc r14.2.2.1)]))) ?_;refine bi λz15 hz15=>?_;refine DD.w 0 (eO 5 9 aH.enc z15) ⟨[(5,.tail (z15.length*9))],[]⟩ (λ_ e=>iI hT aH.enc (id:=5) (k:=9) hz15 (pj1 e) (pj2 e)) ?_;refine De 3 ?_;apply lx;intro x16;refine At.c 19 ?_ ?_
    ·refine At.D 0 [] ?_;refine DD.y 8 aAA λr17=>?_;refine De 6 ?_;refine At.D 0 [] ?_;refine DD.y 10 aHQ λr18=>?_;refine De 6 ?_;exact λh=>At.vw 4 (_,_,_,_,_,_) (aPo 0 9 [6] (aDi 9 5 (by kernel_rfl) jr)) h
    ·exact λh=>At.v 0 (_,_,_,_,_,_) h
   ·apply rt;exact At.x 0
 ·apply rt;exact At.r 2
def qW(N:Nat)(b2:(List aH))(b4:(List (List aC)))(a2:aE)(a3:aG)(a4:Int)(a5:(List aM))(a6:Int)(a7:aI)(a8:aE)(a9:aG)(a10:aA)(a11:aF)(a12:aL):Option (aI×Int):=
 aa (eE N b2 b4 a2 a3 a4 a5 a6 a7 a8 a9 a10 a11 a12) λr1=>
 aa (yQ N ([a7])) λr2=>
 some ((r2.1,r2.2))
theorem aCa{N b2 b4 a2 a3 a4 a5 a6 a7 a8 a9 a10 a11 a12 r}(h:qW N b2 b4 a2 a3 a4 a5 a6 a7 a8 a9 a10 a11 a12=some r):FnM Tryz.prog 26 [.var (.st 43 [(.ref 1 [] 0),(aE.enc a2),(aG.enc a3),(j64 a4),(eL 6 aM.enc a5),(j64 a6),(eO 2 9 aH.enc b2),(aI.enc a7)]),.var (.st 38 [(aE.enc a8),(aG.enc a9),(.ifc 115 (.ref 3 [] 0)),(eO 4 1 (eL 2 aC.enc) b4),(aA.enc a10),(aF.enc a11)]),.tail (b2.length*9),.var (aL.enc a12),.tail (b4.length*1)] [(.ref 0 [] 0)] (.tup [(aI.enc r.1),(j64 r.2)]) [.var (.st 43 [(.ref 1 [] 0),(aE.enc a2),(aG.enc a3),(j64 a4),(eL 6 aM.enc a5),(j64 a6),(eO 2 9 aH.enc b2),(aI.enc a7)]),.var (.st 38 [(aE.enc a8),(aG.enc a9),(.ifc 115 (.ref 3 [] 0)),(eO 4 1 (eL 2 aC.enc) b4),(aA.enc a10),(aF.enc a11)]),.tail (b2.length*9),.var (aL.enc a12),.tail (b4.length*1)]:=by
 refine Af bO Tryz.func26 h ?_;refine At.Y 3 [0,1,2,3,4] pC λr1=>?_;refine At.o 5 (bG hT (x:=(.sl 8 1 [(aI.enc a7)]))) ?_;refine At.y 0 aE6 λr2=>?_;apply rt;exact At.r 4
def oZ(N:Nat)(b2:(List aH))(b4:(List (List aC)))(a2:aE)(a3:aG)(a4:Int)(a5:(List aM))(a6:Int)(a7:aI)(a8:aE)(a9:aG)(a10:aA)(a11:aF)(a12:aL):Option (aI×aF×Int):=
 aa (eE N b2 b4 a2 a3 a4 a5 a6 a7 a8 a9 a10 a11 a12) λr1=>
 aa (iN N b2 b4 a2 a3 a4 a5 a6 a7 a8 a9 a10 a11 a12) λr2=>
 cond (decide (r2 > 0)) (
  some ((aI.mk 0 0 [] [] [] [] [] [],aF.mk 0 0 0,16))) (
  aa (qW N b2 b4 a2 a3 a4 a5 a6 a7 a8 a9 a10 a11 a12) λr3=>
  aa (kR N b4 a8 a9 a10 a11 a12) λr4=>
  some ((r3.1,r4,0)))
theorem aDI{N b2 b4 a2 a3 a4 a5 a6 a7 a8 a9 a10 a11 a12 r}(h:oZ N b2 b4 a2 a3 a4 a5 a6 a7 a8 a9 a10 a11 a12=some r):FnM Tryz.prog 12 [.var (.st 43 [(.ref 1 [] 0),(aE.enc a2),(aG.enc a3),(j64 a4),(eL 6 aM.enc a5),(j64 a6),(eO 2 9 aH.enc b2),(aI.enc a7)]),.var (.st 38 [(aE.enc a8),(aG.enc a9),(.ifc 115 (.ref 3 [] 0)),(eO 4 1 (eL 2 aC.enc) b4),(aA.enc a10),(aF.enc a11)]),.tail (b2.length*9),.var (aL.enc a12),.tail (b4.length*1)] [(.ref 0 [] 0)] (.tup [(aI.enc r.1),(aF.enc r.2.1),(j64 r.2.2)]) [.var (.st 43 [(.ref 1 [] 0),(aE.enc a2),(aG.enc a3),(j64 a4),(eL 6 aM.enc a5),(j64 a6),(eO 2 9 aH.enc b2),(aI.enc a7)]),.var (.st 38 [(aE.enc a8),(aG.enc a9),(.ifc 115 (.ref 3 [] 0)),(eO 4 1 (eL 2 aC.enc) b4),(aA.enc a10),(aF.enc a11)]),.tail (b2.length*9),.var (aL.enc a12),.tail (b4.length*1)]:=by
 refine Af bO Tryz.func12 h ?_;refine At.Y 4 [0,1,2,3,4] pC λr1=>?_;refine At.Y 3 [0,1,2,3,4] sR λr2=>?_;refine At.c 2 ?_ ?_
 ·apply rt;exact At.r 5
 ·refine At.Y 1 [0,1,2,3,4] aCa λr3=>?_;refine At.D 6 [] ?_;refine DD.Y 5 [1,3,4] xA λr4=>?_;refine De 3 ?_;apply rt;exact At.r 0
def eZ(N:Nat)(x20:Int)(r9:(List (List aC))×aE×aA×aK×aE×(List aM)×aI×Int)(r2:aG)(p3:Int)(a2:(List Int)):Nat->(List aH)->aF->aK->Int->aI->Int->Int->Option ((List aH)×aF×aK×Int×aI×Int)
 | 0,_,_,_,_,_,_,_=>none
 | k+1,s22,s23,s24,s25,s26,s27,s28=>
  aa (aR (I64 ((I64 (2*x20))+1)) λx30=>
  cond (decide (s28 < x30)) (
   aa (jT N s22 r9.1 r9.2.2.2.2.1 r2 p3 r9.2.2.2.2.2.1 s25 s26 r9.2.1 r2 r9.2.2.1 s23 s24) λr31=>
   some (decide (r31 > 0))) (
   some false)) λp29=>
  cond p29 (
   aa (aR (decide (((a2.length:Int)) > 0)) λx33=>
   cond x33 (
    aa (aDq .i64 s28 ((a2.length:Int))) λx34=>
    aa (idx a2 x34) λe35=>
    aR (I64 (1+(ga (I64 e35) 5))) λx36=>
    some x36) (
    some 1)) λp32=>
   aa (pY N s22 r9.1 p32 r9.2.2.2.2.1 r2 p3 r9.2.2.2.2.2.1 s25 s26 r9.2.1 r2 r9.2.2.1 s23 s24) λr37=>
   aR (I64 (s27+r37.2.2.2.2.2)) λx38=>
   eZ N x20 r9 r2 p3 a2 k r37.1 r37.2.2.2.1 r37.2.2.2.2.1 r37.2.1 r37.2.2.1 x38 (I64 (s28+1))) (
   some ((s22,s23,s24,s25,s26,s27)))
def fB(N:Nat)(x52:Int)(r10:(List (List aC))×aE×aA×aL×aE×(List aM)×aI×Int)(r2:aG)(p3:Int)(a2:(List Int)):Nat->(List aH)->aF->aL->Int->aI->Int->Int->Option ((List aH)×aF×aL×Int×aI×Int)
 | 0,_,_,_,_,_,_,_=>none
 | k+1,s54,s55,s56,s57,s58,s59,s60=>
  aa (aR (I64 ((I64 (2*x52))+1)) λx62=>
  cond (decide (s60 < x62)) (
   aa (iN N s54 r10.1 r10.2.2.2.2.1 r2 p3 r10.2.2.2.2.2.1 s57 s58 r10.2.1 r2 r10.2.2.1 s55 s56) λr63=>
   some (decide (r63 > 0))) (
   some false)) λp61=>
  cond p61 (
   aa (aR (decide (((a2.length:Int)) > 0)) λx65=>
   cond x65 (
    aa (aDq .i64 s60 ((a2.length:Int))) λx66=>
    aa (idx a2 x66) λe67=>
    aR (I64 (1+(ga (I64 e67) 5))) λx68=>
    some x68) (
    some 1)) λp64=>
   aa (nU N s54 r10.1 p64 r10.2.2.2.2.1 r2 p3 r10.2.2.2.2.2.1 s57 s58 r10.2.1 r2 r10.2.2.1 s55 s56) λr69=>
   aR (I64 (s59+r69.2.2.2.2.2)) λx70=>
   fB N x52 r10 r2 p3 a2 k r69.1 r69.2.2.2.1 r69.2.2.2.2.1 r69.2.1 r69.2.2.1 x70 (I64 (s60+1))) (
   some ((s54,s55,s56,s57,s58,s59)))
def eQ(N:Nat)(a0:aE)(a1:aG)(a2:(List Int)):Option (Bool):=
 aa (oH N a0) λr1=>
 aa (oS N a1) λr2=>
 aa (aR (decide (((a2.length:Int)) > 0)) λx4=>
 cond x4 (
  aa (idx a2 0) λe5=>
  aR (I64 (1+(ga (I64 e5) 64))) λx6=>
  some x6) (
  some 1)) λp3=>
 aa (jD N r1 r2 p3) λq=>
 kG q (λr8=>
  aa (jQ N r1 r2) λr11=>
  aa (cond (r8 != 0) (
   some (())) (
   some (()))) λp12=>
  aa (cond (r8==r11.2.2) (
   aa (eH N ) λr14=>
   some r14) (
   some false)) λp13=>
  some p13) (λq=>
 kG q (λr9=>
  aa (jQ N r1 r2) λr15=>
  aa (cond (r9.2.2.2.2.2.2.2 != 0) (
   some true) (
   some false)) λp16=>
  cond p16 (
   aa (aR (r9.2.2.2.2.2.2.2==r15.2.2) λx18=>
   cond x18 (
    aa (eH N ) λr19=>
    some r19) (
    some false)) λp17=>
   some p17) (
   aR (I64 ((I64 (r2.gW*r2.gH))*r2.gA8)) λx20=>
   aa (eZ N x20 r9 r2 p3 a2 N [] ((aF.mk 0 0 0)) r9.2.2.2.1 0 r9.2.2.2.2.2.2.1 0 0) λp21=>
   aa (qI N p21.1 r9.1 r9.2.2.2.2.1 r2 p3 r9.2.2.2.2.2.1 p21.2.2.2.1 p21.2.2.2.2.1 r9.2.1 r2 r9.2.2.1 p21.2.1 p21.2.2.1) λr39=>
   aa (cond (p21.2.2.2.2.2==x20) (
    aa (pY N p21.1 r9.1 5 r9.2.2.2.2.1 r2 p3 r9.2.2.2.2.2.1 p21.2.2.2.1 p21.2.2.2.2.1 r9.2.1 r2 r9.2.2.1 p21.2.1 p21.2.2.1) λr41=>
    aR (cond (r41.2.2.2.2.2==0) (r39.2.2==0) false) λx42=>
    aR (cond x42 (r15.2.2==0) false) λx43=>
    cond x43 (
     aa (aAS N r15.1 r39.1) λr44=>
     cond r44 (
      aR (aF.eq r15.2.1 r39.2.1) λx45=>
      cond x45 (
       aa (eH N ) λr46=>
       some ((r41.1,r41.2.2.2.1,r41.2.2.2.2.1,r41.2.1,r41.2.2.1,r46))) (
       some ((r41.1,r41.2.2.2.1,r41.2.2.2.2.1,r41.2.1,r41.2.2.1,false)))) (
      some ((r41.1,r41.2.2.2.1,r41.2.2.2.2.1,r41.2.1,r41.2.2.1,false)))) (
     some ((r41.1,r41.2.2.2.1,r41.2.2.2.2.1,r41.2.1,r41.2.2.1,false)))) (
    some ((p21.1,p21.2.1,p21.2.2.1,p21.2.2.2.1,p21.2.2.2.2.1,false)))) λp40=>
   some p40.2.2.2.2.2)) (λr10=>
  aa (jQ N r1 r2) λr47=>
  aa (cond (r10.2.2.2.2.2.2.2 != 0) (
   some true) (
   some false)) λp48=>
  cond p48 (
   aa (aR (r10.2.2.2.2.2.2.2==r47.2.2) λx50=>
   cond x50 (
    aa (eH N ) λr51=>
    some r51) (
    some false)) λp49=>
   some p49) (
   aR (I64 ((I64 (r2.gW*r2.gH))*r2.gA8)) λx52=>
   aa (fB N x52 r10 r2 p3 a2 N [] ((aF.mk 0 0 0)) r10.2.2.2.1 0 r10.2.2.2.2.2.2.1 0 0) λp53=>
   aa (oZ N p53.1 r10.1 r10.2.2.2.2.1 r2 p3 r10.2.2.2.2.2.1 p53.2.2.2.1 p53.2.2.2.2.1 r10.2.1 r2 r10.2.2.1 p53.2.1 p53.2.2.1) λr71=>
   aa (cond (p53.2.2.2.2.2==x52) (
    aa (nU N p53.1 r10.1 5 r10.2.2.2.2.1 r2 p3 r10.2.2.2.2.2.1 p53.2.2.2.1 p53.2.2.2.2.1 r10.2.1 r2 r10.2.2.1 p53.2.1 p53.2.2.1) λr73=>
    aR (cond (r73.2.2.2.2.2==0) (r71.2.2==0) false) λx74=>
    aR (cond x74 (r47.2.2==0) false) λx75=>
    cond x75 (
     aa (aAS N r47.1 r71.1) λr76=>
     cond r76 (
      aR (aF.eq r47.2.1 r71.2.1) λx77=>
      cond x77 (
       aa (eH N ) λr78=>
       some ((r73.1,r73.2.2.2.1,r73.2.2.2.2.1,r73.2.1,r73.2.2.1,r78))) (
       some ((r73.1,r73.2.2.2.1,r73.2.2.2.2.1,r73.2.1,r73.2.2.1,false)))) (
      some ((r73.1,r73.2.2.2.1,r73.2.2.2.2.1,r73.2.1,r73.2.2.1,false)))) (
     some ((r73.1,r73.2.2.2.1,r73.2.2.2.2.1,r73.2.1,r73.2.2.1,false)))) (
    some ((p53.1,p53.2.1,p53.2.2.1,p53.2.2.2.1,p53.2.2.2.2.1,false)))) λp72=>
   some p72.2.2.2.2.2)))
theorem aCT{N a0 a1 a2 r}(h:eQ N a0 a1 a2=some r):FnM Tryz.prog 4 [] [(aE.enc a0),(aG.enc a1),(eL 1 k8 a2)] (eB r) []:=by
 refine Af bO Tryz.func4 h ?_;refine At.D 3 [] ?_;refine DD.y 1 aGE λr1=>?_;refine DD.y 1 aE1 λr2=>?_;refine De 2 ?_;refine At.J 1 1 [2,3,4] 2 (λp3=>([(7,(j64 p3))],[],[])) (λp3=>?_) λp3=>?_
 ·apply lx;intro x4;refine At.c 3 ?_ ?_
  ·refine At.i hT 2 k8 λe5=>?_;apply lx;intro x6;apply rt;exact At.jn 5
  ·apply rt;exact At.jn 0
 ·refine aR6 (λr8 hr8=>?_) (λq hq=>?_)
  ·refine At.o 3 (tY [] (aJe hr8)) ?_;refine At.y 7 aCd λr11=>?_;refine At.J 9 0 [2,4,8,9,10,11,12] 4 (λp12=>([(53,(eB true))],[],[])) (λp12=>?_) λp12=>?_
   ·refine At.s 50 3 ?_ ?_
    ·refine At.g [50] 3 ?_;apply rt;exact At.jn 0
    ·refine At.g [50] 1 ?_;refine At.o 0 (sZ hT (t:=41) (x:=(.v (.pointer none))) (b:=false) (by kernel_rfl) rfl rfl (by kernel_rfl)) ?_;refine At.g [50] 1 ?_;apply rt;exact At.jn 0
   ·refine At.J 1 0 [] 4 (λp13=>([(6,(eB p13))],[],[])) (λp13=>?_) λp13=>?_
    ·refine At.s 57 4 ?_ ?_
     ·refine At.y 0 nS λr14=>?_;refine At.g [57] 2 ?_;apply rt;exact At.jn 0
     ·refine At.g [57] 3 ?_;apply rt;exact At.jn 0
    ·apply rt;exact At.r 0
  ·refine aOE (λr9 e=>?_) (λr10 e=>?_)
   ·subst e;have hr9:=hq;refine At.o 3 (tY [] (aJo hr9)) ?_;refine At.y 7 aCd λr15=>?_;refine At.J 9 0 [2,4,8,9,10,11,12] 14 (λp16=>([(53,(eB p16))],[],[])) (λp16=>?_) λp16=>?_
    ·refine At.s 50 3 ?_ ?_
     ·refine At.g [50] 3 ?_;apply rt;exact At.jn 0
     ·refine At.g [50] 1 ?_;refine At.o 0 (sZ hT (t:=41) (x:=(.ref 9 [] 0)) (b:=true) (by kernel_rfl) rfl rfl (by kernel_rfl)) ?_;refine At.g [50] 1 ?_;apply rt;exact At.jn 0
    ·refine At.c 0 ?_ ?_
     ·refine At.J 0 0 [] 14 (λp17=>([(6,(eB p17))],[],[])) (λp17=>?_) λp17=>?_
      ·apply lx;intro x18;refine At.s 57 4 ?_ ?_
       ·refine At.y 0 nS λr19=>?_;refine At.g [57] 2 ?_;apply rt;exact At.jn 0
       ·refine At.g [57] 3 ?_;apply rt;exact At.jn 0
      ·apply rt;exact At.r 0
     ·apply lx;intro x20;refine At.M 11 [8,10,11,12,13] 14 (λp21=>([(14,(j64 p21.2.2.2.2.2))],[(2,.var (.st 38 [(aE.enc r9.2.1),(aG.enc r2),(.ifc 112 (.ref 8 [] 0)),(eO 6 1 (eL 2 aC.enc) r9.1),(aA.enc r9.2.2.1),(aF.enc p21.2.1)])),(8,.var (aK.enc p21.2.2.1)),(9,.var (.st 43 [(.ref 2 [] 0),(aE.enc r9.2.2.2.2.1),(aG.enc r2),(j64 p3),(eL 6 aM.enc r9.2.2.2.2.2.1),(j64 p21.2.2.2.1),(eO 11 9 aH.enc p21.1),(aI.enc p21.2.2.2.2.1)])),(11,.tail (p21.1.length*9))],[])) [2,8,10,11,12,13] 14 (CU7 (eZ N x20 r9 r2 p3 a2)) (cu7 λ(s22:(List aH)) (s23:aF) (s24:aK) (s25:Int) (s26:aI) (s27:Int) (s28:Int)=>([(14,(j64 s27)),(15,(j64 s28))],[(2,.var (.st 38 [(aE.enc r9.2.1),(aG.enc r2),(.ifc 112 (.ref 8 [] 0)),(eO 6 1 (eL 2 aC.enc) r9.1),(aA.enc r9.2.2.1),(aF.enc s23)])),(8,.var (aK.enc s24)),(9,.var (.st 43 [(.ref 2 [] 0),(aE.enc r9.2.2.2.2.1),(aG.enc r2),(j64 p3),(eL 6 aM.enc r9.2.2.2.2.2.1),(j64 s25),(eO 11 9 aH.enc s22),(aI.enc s26)])),(11,.tail (s22.length*9))],[])) (_,_,_,_,_,_,_) N (λp21 k=>un7 λs22 s23 s24 s25 s26 s27 s28=>?_) λp21=>?_
      ·refine At.J 0 0 [2,8,10,11,12,13,14,15] 14 (λp29=>([(77,(eB p29))],[],[])) (λp29=>?_) λp29=>?_
       ·apply lx;intro x30;refine At.s 73 6 ?_ ?_
        ·refine At.g [73] 1 ?_;refine At.Y 0 [9,2,11,8,6] vE λr31=>?_;refine At.g [73] 2 ?_;apply rt;exact At.jn 0
        ·refine At.g [73] 4 ?_;apply rt;exact At.jn 0
       ·refine At.c 0 ?_ ?_
        ·refine At.J 1 1 [2,8,10,11,12,13,14,15] 14 (λp32=>([(16,(j64 p32))],[],[])) (λp32=>?_) λp32=>?_
         ·apply lx;intro x33;refine At.c 3 ?_ ?_
          ·refine At.b 4 (λ_ e=>aBA hT e (by kernel_rfl) (by kernel_rfl)) λx34=>?_;refine At.i hT 0 k8 λe35=>?_;apply lx;intro x36;apply rt;exact At.jn 5
          ·apply rt;exact At.jn 0
         ·refine At.Y 3 [9,2,11,8,6] aBW λr37=>?_;apply lx;intro x38;exact λh=>At.vw 5 (_,_,_,_,_,_,_) (aDi 14 11 (by kernel_rfl) jr) h
        ·apply rt;exact At.x 0
      ·refine At.Y 1 [9,2,11,8,6] aEM λr39=>?_;refine At.J 9 0 [] 16 (λp40=>([(6,(eB p40.2.2.2.2.2))],[(2,.var (.st 38 [(aE.enc r9.2.1),(aG.enc r2),(.ifc 112 (.ref 8 [] 0)),(eO 6 1 (eL 2 aC.enc) r9.1),(aA.enc r9.2.2.1),(aF.enc p40.2.1)])),(8,.var (aK.enc p40.2.2.1)),(9,.var (.st 43 [(.ref 2 [] 0),(aE.enc r9.2.2.2.2.1),(aG.enc r2),(j64 p3),(eL 6 aM.enc r9.2.2.2.2.2.1),(j64 p40.2.2.2.1),(eO 11 9 aH.enc p40.1),(aI.enc p40.2.2.2.2.1)])),(11,.tail (p40.1.length*9))],[])) (λp40=>?_) λp40=>?_
       ·refine At.s 107 4 ?_ ?_
        ·refine At.g [107] 1 ?_;refine At.Y 0 [9,2,11,8,6] aBW λr41=>?_;apply lx;intro x42;apply lx;intro x43;refine At.g [107] 11 ?_;refine At.s 120 0 ?_ ?_
         ·refine At.g [120] 2 ?_;refine At.y 0 aGZ λr44=>?_;refine At.g [120] 2 ?_;refine At.s 125 0 ?_ ?_
          ·refine At.g [125] 2 ?_;refine At.o 0 (aDN aSB (r15.2.1:aF) (r39.2.1:aF) (by kernel_rfl) (by kernel_rfl) (λ_=>rfl) (λ_=>rfl) (by kernel_rfl) (by kernel_rfl)) ?_;apply lx;intro x45;refine At.g [125] 2 ?_;refine At.s 130 0 ?_ ?_
           ·refine At.y 0 nS λr46=>?_;refine At.g [130] 2 ?_;apply rt;exact At.jw 0 (aDi 16 11 (by kernel_rfl) jr)
           ·refine At.g [130] 3 ?_;apply rt;exact At.jw 0 (aDi 16 11 (by kernel_rfl) jr)
          ·refine At.g [125,130] 8 ?_;apply rt;exact At.jw 0 (aDi 16 11 (by kernel_rfl) jr)
         ·refine At.g [120,125,130] 13 ?_;apply rt;exact At.jw 0 (aDi 16 11 (by kernel_rfl) jr)
        ·refine At.g [107,112,116,120,125,130] 26 ?_;apply rt;exact At.jn 0
       ·apply rt;exact At.r 0
   ·subst e;have hr10:=hq;refine At.o 3 (tY [] (aJt hr10)) ?_;refine At.y 7 aCd λr47=>?_;refine At.J 9 0 [2,4,8,9,10,11,12] 14 (λp48=>([(53,(eB p48))],[],[])) (λp48=>?_) λp48=>?_
    ·refine At.s 50 3 ?_ ?_
     ·refine At.g [50] 3 ?_;apply rt;exact At.jn 0
     ·refine At.g [50] 1 ?_;refine At.o 0 (sZ hT (t:=41) (x:=(.ref 9 [] 0)) (b:=true) (by kernel_rfl) rfl rfl (by kernel_rfl)) ?_;refine At.g [50] 1 ?_;apply rt;exact At.jn 0
    ·refine At.c 0 ?_ ?_
     ·refine At.J 0 0 [] 14 (λp49=>([(6,(eB p49))],[],[])) (λp49=>?_) λp49=>?_
      ·apply lx;intro x50;refine At.s 57 4 ?_ ?_
       ·refine At.y 0 nS λr51=>?_;refine At.g [57] 2 ?_;apply rt;exact At.jn 0
       ·refine At.g [57] 3 ?_;apply rt;exact At.jn 0
      ·apply rt;exact At.r 0
     ·apply lx;intro x52;refine At.M 11 [8,10,11,12,13] 14 (λp53=>([(14,(j64 p53.2.2.2.2.2))],[(2,.var (.st 38 [(aE.enc r10.2.1),(aG.enc r2),(.ifc 115 (.ref 8 [] 0)),(eO 6 1 (eL 2 aC.enc) r10.1),(aA.enc r10.2.2.1),(aF.enc p53.2.1)])),(8,.var (aL.enc p53.2.2.1)),(9,.var (.st 43 [(.ref 2 [] 0),(aE.enc r10.2.2.2.2.1),(aG.enc r2),(j64 p3),(eL 6 aM.enc r10.2.2.2.2.2.1),(j64 p53.2.2.2.1),(eO 11 9 aH.enc p53.1),(aI.enc p53.2.2.2.2.1)])),(11,.tail (p53.1.length*9))],[])) [2,8,10,11,12,13] 14 (CU7 (fB N x52 r10 r2 p3 a2)) (cu7 λ(s54:(List aH)) (s55:aF) (s56:aL) (s57:Int) (s58:aI) (s59:Int) (s60:Int)=>([(14,(j64 s59)),(15,(j64 s60))],[(2,.var (.st 38 [(aE.enc r10.2.1),(aG.enc r2),(.ifc 115 (.ref 8 [] 0)),(eO 6 1 (eL 2 aC.enc) r10.1),(aA.enc r10.2.2.1),(aF.enc s55)])),(8,.var (aL.enc s56)),(9,.var (.st 43 [(.ref 2 [] 0),(aE.enc r10.2.2.2.2.1),(aG.enc r2),(j64 p3),(eL 6 aM.enc r10.2.2.2.2.2.1),(j64 s57),(eO 11 9 aH.enc s54),(aI.enc s58)])),(11,.tail (s54.length*9))],[])) (_,_,_,_,_,_,_) N (λp53 k=>un7 λs54 s55 s56 s57 s58 s59 s60=>?_) λp53=>?_
      ·refine At.J 0 0 [2,8,10,11,12,13,14,15] 14 (λp61=>([(77,(eB p61))],[],[])) (λp61=>?_) λp61=>?_
       ·apply lx;intro x62;refine At.s 73 6 ?_ ?_
        ·refine At.g [73] 1 ?_;refine At.Y 0 [9,2,11,8,6] sR λr63=>?_;refine At.g [73] 2 ?_;apply rt;exact At.jn 0
        ·refine At.g [73] 4 ?_;apply rt;exact At.jn 0
       ·refine At.c 0 ?_ ?_
        ·refine At.J 1 1 [2,8,10,11,12,13,14,15] 14 (λp64=>([(16,(j64 p64))],[],[])) (λp64=>?_) λp64=>?_
         ·apply lx;intro x65;refine At.c 3 ?_ ?_
          ·refine At.b 4 (λ_ e=>aBA hT e (by kernel_rfl) (by kernel_rfl)) λx66=>?_;refine At.i hT 0 k8 λe67=>?_;apply lx;intro x68;apply rt;exact At.jn 5
          ·apply rt;exact At.jn 0
         ·refine At.Y 3 [9,2,11,8,6] aAG λr69=>?_;apply lx;intro x70;exact λh=>At.vw 5 (_,_,_,_,_,_,_) (aDi 14 11 (by kernel_rfl) jr) h
        ·apply rt;exact At.x 0
      ·refine At.Y 1 [9,2,11,8,6] aDI λr71=>?_;refine At.J 9 0 [] 16 (λp72=>([(6,(eB p72.2.2.2.2.2))],[(2,.var (.st 38 [(aE.enc r10.2.1),(aG.enc r2),(.ifc 115 (.ref 8 [] 0)),(eO 6 1 (eL 2 aC.enc) r10.1),(aA.enc r10.2.2.1),(aF.enc p72.2.1)])),(8,.var (aL.enc p72.2.2.1)),(9,.var (.st 43 [(.ref 2 [] 0),(aE.enc r10.2.2.2.2.1),(aG.enc r2),(j64 p3),(eL 6 aM.enc r10.2.2.2.2.2.1),(j64 p72.2.2.2.1),(eO 11 9 aH.enc p72.1),(aI.enc p72.2.2.2.2.1)])),(11,.tail (p72.1.length*9))],[])) (λp72=>?_) λp72=>?_
       ·refine At.s 107 4 ?_ ?_
        ·refine At.g [107] 1 ?_;refine At.Y 0 [9,2,11,8,6] aAG λr73=>?_;apply lx;intro x74;apply lx;intro x75;refine At.g [107] 11 ?_;refine At.s 120 0 ?_ ?_
         ·refine At.g [120] 2 ?_;refine At.y 0 aGZ λr76=>?_;refine At.g [120] 2 ?_;refine At.s 125 0 ?_ ?_
          ·refine At.g [125] 2 ?_;refine At.o 0 (aDN aSB (r47.2.1:aF) (r71.2.1:aF) (by kernel_rfl) (by kernel_rfl) (λ_=>rfl) (λ_=>rfl) (by kernel_rfl) (by kernel_rfl)) ?_;apply lx;intro x77;refine At.g [125] 2 ?_;refine At.s 130 0 ?_ ?_
           ·refine At.y 0 nS λr78=>?_;refine At.g [130] 2 ?_;apply rt;exact At.jw 0 (aDi 16 11 (by kernel_rfl) jr)
           ·refine At.g [130] 3 ?_;apply rt;exact At.jw 0 (aDi 16 11 (by kernel_rfl) jr)
          ·refine At.g [125,130] 8 ?_;apply rt;exact At.jw 0 (aDi 16 11 (by kernel_rfl) jr)
         ·refine At.g [120,125,130] 13 ?_;apply rt;exact At.jw 0 (aDi 16 11 (by kernel_rfl) jr)
        ·refine At.g [107,112,116,120,125,130] 26 ?_;apply rt;exact At.jn 0
       ·apply rt;exact At.r 0
end Go.UK
