/- A part of the proof: what the functions of the program compute. -/
import Derived.Test.YtidamaopieegkaaGreatDoorST
open Option renaming bind→ae
open Vector renaming replicate→am
namespace Go.UK
open Go Go.Proofs
set_option maxRecDepth 20000
set_option maxHeartbeats 40000000
set_option linter.all false
attribute [local irreducible] adv vK uX mR brPt aDK yI fE nG aDL bO jW cW qE aBG aAu lPt bS opD jR oK aAW stD dCl dEn dH DD cB owp awl aw FnM opS Stab TOK Big
def dK(N:Nat)(b1:(List Int))(a1 a2:Int):Option (Int):=
 ae (cB (cond (a2==0) (a1 != 0) false) λx2=>
 cond x2 (some 2) (some a2)) λp1=>
 some p1
theorem jN{N b1 a1 a2 r}(h:dK N b1 a1 a2=some r):FnM Tryz.prog 24 [.var (.st 2 [(eO 1 1 k8 b1),(j64 a2)]),.tail (b1.length*1)] [(.ref 0 [] 0),(.v (.slice none 0 0)),(j64 a1)] (.tup []) [.var (.st 2 [(eO 3 1 k8 []),(j64 r)]),.dead,.dead,.tail 0]:=by
 unfold dK at h;refine At.f eD hT hmo Tryz.func24 rfl h ?_;refine At.mv 0 1 ?_;refine At.J 0 1 [0,1] 3 (λp1=>([],[(0,.var (.st 2 [(eO 2 1 k8 b1),(j64 p1)]))],[])) (λp1=>?_) λp1=>?_
 ·refine lx ?_;intro x2;refine At.c 9 ?_ ?_
  ·apply rt;exact At.jn 4
  ·apply rt;exact At.jn 0
 ·refine At.ownn 0 1 1 ?_;apply rt;exact At.z 5
def cU(N:Nat)(a0:(List Int)):Option ((List Int)):=
 ae (pK 1 (([]:List Int)) a0) λz1=>
 some z1
theorem jO{N a0 r}(h:cU N a0=some r):FnM Tryz.prog 29 [] [(eL 1 k8 a0)] (eO 0 1 k8 r) [.tail (r.length*1)]:=by
 unfold cU at h;refine At.f eD hT hmo Tryz.func29 rfl h ?_;refine At.q hT 2 (d:=4) (t:=25) (e:=5) (z:=1) (x:=(eL 1 k8 a0)) (es:=List.map k8 a0) rfl ?_ (λhe=>?_)
 ·refine At.o 1 (aBb hT k8 (k:=1) ([]:List Int) (by kernel_rfl) (by kernel_rfl)) ?_;refine At.b 1 (λ_ e=>kA hT k8 (id:=0) (k:=1) e) λz1=>?_;apply rt;exact At.r 1
 ·have h0:a0=[]:=List.map_eq_nil_iff.1 he;subst h0;change some []=_->_;refine At.ownn 2 2 1 ?_;apply rt;exact At.r 0
def fJ(N:Nat)(a1 e7:Int):Nat->(List Int)->Int->Option ((List Int))
 | 0,_,_=>none
 | k+1,s11,s12=>
  cond (decide (s12 < a1)) (
   ae (xL .u64 e7 (I64 (8*s12))) λx13=>
   ae (pK 1 s11 (([U8 x13]:List Int))) λz14=>
   fJ N a1 e7 k z14 (I64 (s12+1))) (
   some s11)
def iB(N:Nat)(a2:(List Int))(a1:Int):Nat->(List Int)->Int->Option (Sum ((List Int)) ((List Int)×Int))
 | 0,_,_=>none
 | k+1,s4,s5=>
  cB (decide (s5 < ((a2.length:Int)))) λx6=>
  cond x6 (
   ae (idx a2 s5) λe7=>
   ae (cond (decide (a1 < 8)) (
    ae (xL .u64 e7 (I64 (8*a1))) λx9=>
    some (decide (x9 > 0))) (
    some false)) λp8=>
   cond p8 (
    some (Sum.inr (([],3)))) (
    ae (fJ N a1 e7 N s4 0) λp10=>
    iB N a2 a1 k p10 (I64 (s5+1)))) (
   some (Sum.inl s4))
def eQ(N:Nat)(a0:(List Int))(a1:Int)(a2:(List Int)):Option ((List Int)×Int):=
 cB (cond (decide (a1 < 1)) true (decide (a1 > 8))) λx1=>
 cond x1 (
  some (([],2))) (
  ae (cU N a0) λr2=>
  ae (iB N a2 a1 N r2 0) λo=>oL o (λp3=>
   some ((p3,0))) (λr=>some r))
theorem mN{N a0 a1 a2 r}(h:eQ N a0 a1 a2=some r):FnM Tryz.prog 16 [] [(eL 1 k8 a0),(j64 a1),(eL 1 k64 a2)] (.tup [(eO 0 1 k8 r.1),(j64 r.2)]) [.tail (r.1.length*1)]:=by
 unfold eQ at h;refine At.f eD hT hmo Tryz.func16 rfl h ?_;refine lx ?_;intro x1;refine At.c 8 ?_ ?_
 ·refine At.ownn 2 6 1 ?_;apply rt;exact At.r 0
 ·refine At.Y 1 [] jO λr2=>?_;refine At.MS 4 [] 1 (λp3=>([(8,(eO 0 1 k8 p3))],[(0,.tail (p3.length*1))],[])) [1,20,21] 1 (CU2 (iB N a2 a1)) (cu2 λ(s4:(List Int)) (s5:Int)=>([(8,(eO 0 1 k8 s4)),(22,(j64 s5))],[(0,.tail (s4.length*1))],[])) (_,_) N (λop3 g3 k=>un2 λs4 s5=>?_) λp3=>?_
  ·refine lx ?_;intro x6;refine At.c 1 ?_ ?_
   ·refine At.i hT 0 k64 λe7=>?_;refine At.J 2 0 [1,8,10,20,21,22] 1 (λp8=>([(34,(eB p8))],[],[])) (λp8=>?_) λp8=>?_
    ·refine At.s 28 3 ?_ ?_
     ·refine At.g [28] 3 ?_;refine At.b 0 (λ_ e=>pI hT (k' := .i64) e (by kernel_rfl) (by kernel_rfl)) λx9=>?_;refine At.g [28] 2 ?_;apply rt;exact At.jn 0
     ·refine At.g [28] 6 ?_;apply rt;exact At.jn 0
    ·refine At.c 0 ?_ ?_
     ·refine At.ownn 2 6 1 ?_;refine At.sw 0 1 0 ?_;intro e;apply aB0 g3 e;exact At.r 0
     ·refine At.M 2 [1,20,21,22] 1 (λp10=>([(8,(eO 0 1 k8 p10))],[(0,.tail (p10.length*1))],[])) [1,10,20,21,22,35] 1 (CU2 (fJ N a1 e7)) (cu2 λ(s11:(List Int)) (s12:Int)=>([(8,(eO 0 1 k8 s11)),(36,(j64 s12))],[(0,.tail (s11.length*1))],[])) (_,_) N (λp10 k=>un2 λs11 s12=>?_) λp10=>?_
      ·refine At.c 1 ?_ ?_
       ·refine At.b 6 (λ_ e=>pI hT (k' := .i64) e (by kernel_rfl) (by kernel_rfl)) λx13=>?_;refine At.o 1 (cM hT (x:=(.sl 1 1 [(k8 (U8 x13))]))) ?_;refine At.b 0 (λ_ e=>kA hT k8 (id:=0) (k:=1) e) λz14=>?_;exact λh=>At.v 3 (_,_) h
       ·apply rt;exact At.x 0
      ·exact λh=>At.v 2 (_,_) h
   ·apply rt;exact At.xs 0
  ·apply rt;exact At.r 3
def cD(N:Nat)(b1 b2:(List Int))(a2 a3:Int):Option (Int):=
 ae (cB (cond (a3==0) (a2 != 0) false) λx2=>
 cond x2 (some 2) (some a3)) λp1=>
 some p1
theorem eH{N b1 b2 a2 a3 r}(h:cD N b1 b2 a2 a3=some r):FnM Tryz.prog 24 [.var (.st 2 [(eO 2 1 k8 b2),(j64 a3)]),.tail (b1.length*1),.tail (b2.length*1)] [(.ref 0 [] 0),(eO 1 1 k8 b1),(j64 a2)] (.tup []) [.var (.st 2 [(eO 1 1 k8 b1),(j64 r)]),.tail (b1.length*1),.dead]:=by
 unfold cD at h;refine At.f eD hT hmo Tryz.func24 rfl h ?_;refine At.mv 0 2 ?_;refine At.J 0 1 [0,1] 4 (λp1=>([],[(0,.var (.st 2 [(eO 3 1 k8 b2),(j64 p1)]))],[])) (λp1=>?_) λp1=>?_
 ·refine lx ?_;intro x2;refine At.c 9 ?_ ?_
  ·apply rt;exact At.jn 4
  ·apply rt;exact At.jn 0
 ·apply rt;exact At.z 5
def cL(N:Nat)(a2:(List Int))(a1:Int):Nat->(List Int)->Int->Int->Option (Sum ((List Int)×Int) ((List Int)×Int))
 | 0,_,_,_=>none
 | k+1,s2,s3,s4=>
  cB (decide (s4 < ((a2.length:Int)))) λx5=>
  cond x5 (
   ae (idx a2 s4) λe6=>
   cond (decide (e6 < 0)) (
    ae (dK N s2 2 s3) λr7=>
    some (Sum.inr (([],r7)))) (
    ae (eQ N s2 a1 ([U64 e6])) λr8=>
    ae (cD N r8.1 s2 r8.2 s3) λr9=>
    cL N a2 a1 k r8.1 r9 (I64 (s4+1)))) (
   some (Sum.inl ((s2,s3))))
def aI(N:Nat)(b1:(List Int))(a1:Int)(a2:(List Int))(a3:Int):Option ((List Int)×Int):=
 ae (cL N a2 a1 N b1 a3 0) λo=>oL o (λp1=>
  some ((p1.1,p1.2))) (λr=>some r)
theorem aY{N b1 a1 a2 a3 r}(h:aI N b1 a1 a2 a3=some r):FnM Tryz.prog 23 [.var (.st 2 [(eO 1 1 k8 b1),(j64 a3)]),.tail (b1.length*1)] [(.ref 0 [] 0),(j64 a1),(eL 1 j64 a2)] (.tup []) [.var (.st 2 [(eO 2 1 k8 r.1),(j64 r.2)]),.dead,.tail (r.1.length*1)]:=by
 unfold aI at h;refine At.fC eD hT hmo Tryz.func23 rfl h ?_;refine At.mv 0 1 ?_;refine At.MS 3 [] 3 (λp1=>([],[(0,.var (.st 2 [(eO 2 1 k8 p1.1),(j64 p1.2)])),(2,.tail (p1.1.length*1))],[])) [0,1,8,9] 3 (CU3 (cL N a2 a1)) (cu3 λ(s2:(List Int)) (s3:Int) (s4:Int)=>([(10,(j64 s4))],[(0,.var (.st 2 [(eO 2 1 k8 s2),(j64 s3)])),(2,.tail (s2.length*1))],[])) (_,_,_) N (λop1 g1 k=>un3 λs2 s3 s4=>?_) λp1=>?_
 ·refine lx ?_;intro x5;refine At.c 1 ?_ ?_
  ·refine At.i hT 0 j64 λe6=>?_;refine At.c 4 ?_ ?_
   ·refine At.Y 1 [0,2] jN λr7=>?_;intro e;apply aB0 g1 e;exact At.rC 0 [(4,2)]
   ·refine At.o 8 (cM hT (x:=(.sl 1 1 [(k64 (U64 e6))]))) ?_;refine At.Y 0 [] mN λr8=>?_;refine At.Y 2 [0,3,2] eH λr9=>?_;exact λh=>At.vw 2 (_,_,_) (aFo 3 2 (by kernel_rfl) jr) h
  ·apply rt;exact At.xs 0
 ·apply rt;exact At.zC 0 []
def eV(N:Nat)(a2:(List Int))(a1:Int):Nat->(List Int)->Int->Option (Sum ((List Int)) ((List Int)×Int))
 | 0,_,_=>none
 | k+1,s3,s4=>
  cB (decide (s4 < ((a2.length:Int)))) λx5=>
  cond x5 (
   ae (idx a2 s4) λe6=>
   cB (I64 (64 - (I64 (8*a1)))) λx7=>
   ae (aBt .i64 e6 x7) λx8=>
   cB (I64 (64 - (I64 (8*a1)))) λx9=>
   ae (xL .i64 x8 x9) λx10=>
   cond (x10 != e6) (
    some (Sum.inr (([],3)))) (
    cB (I64 (64 - (I64 (8*a1)))) λx11=>
    ae (aBt .u64 (U64 e6) x11) λx12=>
    cB (I64 (64 - (I64 (8*a1)))) λx13=>
    ae (xL .u64 x12 x13) λx14=>
    ae (pK 8 s3 (([x14]:List Int))) λz15=>
    eV N a2 a1 k z15 (I64 (s4+1)))) (
   some (Sum.inl s3))
def dC(N:Nat)(a0:(List Int))(a1:Int)(a2:(List Int)):Option ((List Int)×Int):=
 cB (cond (decide (a1 < 1)) true (decide (a1 > 8))) λx1=>
 cond x1 (
  some (([],2))) (
  ae (eV N a2 a1 N [] 0) λo=>oL o (λp2=>
   ae (eQ N a0 a1 p2) λr16=>
   some ((r16.1,r16.2))) (λr=>some r))
theorem jY{N a0 a1 a2 r}(h:dC N a0 a1 a2=some r):FnM Tryz.prog 15 [] [(eL 1 k8 a0),(j64 a1),(eL 1 j64 a2)] (.tup [(eO 0 1 k8 r.1),(j64 r.2)]) [.tail (r.1.length*1)]:=by
 unfold dC at h;refine At.f eD hT hmo Tryz.func15 rfl h ?_;refine lx ?_;intro x1;refine At.c 8 ?_ ?_
 ·refine At.ownn 2 6 1 ?_;apply rt;exact At.r 0
 ·refine At.ownn 4 8 1 ?_;refine At.MS 0 [0,1] 1 (λp2=>([(8,(eO 0 1 k64 p2))],[(0,.tail (p2.length*1))],[])) [0,1,18,19] 1 (CU2 (eV N a2 a1)) (cu2 λ(s3:(List Int)) (s4:Int)=>([(8,(eO 0 1 k64 s3)),(20,(j64 s4))],[(0,.tail (s3.length*1))],[])) (_,_) N (λop2 g2 k=>un2 λs3 s4=>?_) λp2=>?_
  ·refine lx ?_;intro x5;refine At.c 1 ?_ ?_
   ·refine At.i hT 0 j64 λe6=>?_;refine lx ?_;intro x7;refine At.b 6 (λ_ e=>uB hT (k' := .i64) e (by kernel_rfl) (by kernel_rfl)) λx8=>?_;refine lx ?_;intro x9;refine At.b 3 (λ_ e=>pI hT (k' := .i64) e (by kernel_rfl) (by kernel_rfl)) λx10=>?_;refine At.c 4 ?_ ?_
    ·refine At.ownn 2 6 1 ?_;refine At.sw 0 1 0 ?_;intro e;apply aB0 g2 e;exact At.r 0
    ·refine lx ?_;intro x11;refine At.b 6 (λ_ e=>uB hT (k' := .i64) e (by kernel_rfl) (by kernel_rfl)) λx12=>?_;refine lx ?_;intro x13;refine At.b 3 (λ_ e=>pI hT (k' := .i64) e (by kernel_rfl) (by kernel_rfl)) λx14=>?_;refine At.o 0 (cM hT (x:=(.sl 1 1 [(k64 x14)]))) ?_;refine At.b 0 (λ_ e=>kA hT k64 (id:=0) (k:=1) e) λz15=>?_;exact λh=>At.v 3 (_,_) h
   ·apply rt;exact At.xs 0
  ·refine At.Y 3 [] mN λr16=>?_;refine At.sw 4 1 0 ?_;apply rt;exact At.r 0
def cH(N:Nat)(a1:(List aG)):Nat->(List Int)->Int->Int->Option ((List Int)×Int)
 | 0,_,_,_=>none
 | k+1,s2,s3,s4=>
  cB (decide (s4 < ((a1.length:Int)))) λx5=>
  cond x5 (
   ae (idx a1 s4) λe6=>
   ae (dC N s2 4 ([e6.gX,e6.gY,e6.gZ])) λr7=>
   ae (cD N r7.1 s2 r7.2 s3) λr8=>
   cH N a1 k r7.1 r8 (I64 (s4+1))) (
   some ((s2,s3)))
def eG(N:Nat)(b1:(List Int))(a1:(List aG))(a2:Int):Option ((List Int)×Int):=
 ae (cH N a1 N b1 a2 0) λp1=>
 some ((p1.1,p1.2))
theorem mS{N b1 a1 a2 r}(h:eG N b1 a1 a2=some r):FnM Tryz.prog 41 [.var (.st 2 [(eO 1 1 k8 b1),(j64 a2)]),.tail (b1.length*1)] [(.ref 0 [] 0),(eL 3 aG.enc a1)] (.tup []) [.var (.st 2 [(eO 2 1 k8 r.1),(j64 r.2)]),.dead,.tail (r.1.length*1)]:=by
 unfold eG at h;refine At.f eD hT hmo Tryz.func41 rfl h ?_;refine At.mv 0 1 ?_;refine At.M 3 [] 3 (λp1=>([],[(0,.var (.st 2 [(eO 2 1 k8 p1.1),(j64 p1.2)])),(2,.tail (p1.1.length*1))],[])) [0,6,7] 3 (CU3 (cH N a1)) (cu3 λ(s2:(List Int)) (s3:Int) (s4:Int)=>([(8,(j64 s4))],[(0,.var (.st 2 [(eO 2 1 k8 s2),(j64 s3)])),(2,.tail (s2.length*1))],[])) (_,_,_) N (λp1 k=>un3 λs2 s3 s4=>?_) λp1=>?_
 ·refine lx ?_;intro x5;refine At.c 1 ?_ ?_
  ·refine At.i hT 0 aG.enc λe6=>?_;refine At.D 3 [] ?_;refine DD.o 11 (λ_=>cM hT (x:=(.sl 1 3 [(j64 e6.gX),(j64 e6.gY),(j64 e6.gZ)]))) ?_;refine DD.Z 0 [] 4 jY λr7=>?_;refine DD.Y 2 [0,4,2] eH λr8=>?_;refine DD.e hT hmo 0 ?_;exact λh=>At.vw 2 (_,_,_) (aFo 4 2 (by kernel_rfl) jr) h
  ·apply rt;exact At.x 0
 ·apply rt;exact At.z 0
def oU : Nat->Bool:=imL [3]
def dV(N:Nat)(b1:(List Int))(a1:aD)(a2:Int):Option ((List Int)×Int):=
 ae (cond a1.gA6 (some 1) (some 0)) λp1=>
 ae (aI N b1 1 ([a1.gW,a1.gH,a1.gB2,a1.gB1,a1.gA9,p1]) a2) λr2=>
 ae (eQ N r2.1 8 ([a1.gA3])) λr3=>
 ae (cD N r3.1 r2.1 r3.2 r2.2) λr4=>
 ae (eG N r3.1 ([a1.gD.gA5,a1.gD.gA2,a1.gD.gUp,a1.gD.gA1]) r4) λr5=>
 ae (aI N r5.1 4 ([a1.gD.gS,a1.gD.gR]) r5.2) λr6=>
 some ((r6.1,r6.2))
theorem oC{N b1 a1 a2 r}(h:dV N b1 a1 a2=some r):FnM Tryz.prog 25 [.var (.st 2 [(eO 1 1 k8 b1),(j64 a2)]),.tail (b1.length*1)] [(.ref 0 [] 0),(aD.enc a1)] (.tup []) [.var (.st 2 [(eO 5 1 k8 r.1),(j64 r.2)]),.dead,.dead,.dead,.dead,.tail (r.1.length*1)]:=by
 unfold dV at h;refine At.f oU hT hmo Tryz.func25 rfl h ?_;refine At.J 2 1 [0,3] 2 (λp1=>([(4,(j64 p1))],[],[])) (λp1=>?_) λp1=>?_
 ·refine At.c 2 ?_ ?_
  ·apply rt;exact At.jn 1
  ·apply rt;exact At.jn 0
 ·refine At.o 12 (cM hT (x:=(.sl 1 6 [(j64 a1.gW),(j64 a1.gH),(j64 a1.gB2),(j64 a1.gB1),(j64 a1.gA9),(j64 p1)]))) ?_;refine At.Y 0 [0,1] aY λr2=>?_;refine At.D 0 [] ?_;refine DD.o 7 (λ_=>cM hT (x:=(.sl 1 1 [(k64 a1.gA3)]))) ?_;refine DD.Z 0 [] 3 mN λr3=>?_;refine DD.Y 2 [0,3,2] eH λr4=>?_;refine DD.e hT hmo 0 ?_;refine At.o 13 (cM hT (x:=(.sl 3 4 [(aG.enc a1.gD.gA5),(aG.enc a1.gD.gA2),(aG.enc a1.gD.gUp),(aG.enc a1.gD.gA1)]))) ?_;refine At.Y 0 [0,3] mS λr5=>?_;refine At.o 7 (cM hT (x:=(.sl 1 2 [(j64 a1.gD.gS),(j64 a1.gD.gR)]))) ?_;refine At.Y 0 [0,4] aY λr6=>?_;apply rt;exact At.z 0
def qK : Nat->Bool:=imL [3]
def cV(N:Nat)(z10:(List Int)):Nat->(List Int)->Int->Int->Option ((List Int)×Int)
 | 0,_,_,_=>none
 | k+1,s12,s13,s14=>
  cB (decide (s14 < ((z10.length:Int)))) λx15=>
  cond x15 (
   ae (idx z10 s14) λe16=>
   ae (dC N s12 8 ([e16])) λr17=>
   ae (cD N r17.1 s12 r17.2 s13) λr18=>
   cV N z10 k r17.1 r18 (I64 (s14+1))) (
   some ((s12,s13)))
def aM(N:Nat)(b1:(List Int))(a1:aF)(a2:Int):Option ((List Int)×Int):=
 ae (aI N b1 1 ([a1.gE]) a2) λr1=>
 cond (a1.gE==1) (
  ae (aI N r1.1 4 ([a1.gQ]) r1.2) λr2=>
  cB ((a1.gL.length:Int)) λx3=>
  ae (aI N r2.1 2 ([x3]) r2.2) λr4=>
  ae (pK 1 r4.1 a1.gL) λz5=>
  some ((z5,r4.2))) (
  cond (a1.gE==2) (
   ae (aI N r1.1 4 ([a1.gQ]) r1.2) λr6=>
   some ((r6.1,r6.2))) (
   ae (cond (a1.gE==3) (some (a1.gE==3)) (some (a1.gE==4))) λp7=>
   cond p7 (
    ae (aI N r1.1 4 ([a1.gC.gK,a1.gC.gI,a1.gC.gG,a1.gC.gN]) r1.2) λr8=>
    cond (a1.gE==4) (
     some ((r8.1,r8.2))) (
     ae (pK 8 a1.gC.gT.gM.toList (([a1.gC.gT.gT.gX,a1.gC.gT.gT.gY,a1.gC.gT.gT.gZ]:List Int))) λz10=>
     ae (cV N z10 N r8.1 r8.2 0) λp11=>
     some ((p11.1,p11.2)))) (
    cond (a1.gE==5) (
     ae (aI N r1.1 1 ([a1.gF]) r1.2) λr19=>
     ae (dV N r19.1 a1.gB0 r19.2) λr20=>
     ae (aI N r20.1 2 ([a1.gA7]) r20.2) λr21=>
     some ((r21.1,r21.2))) (
     ae (cond (a1.gE==6) (some (a1.gE==6)) (some (a1.gE==9))) λp22=>
     cond p22 (
      ae (aI N r1.1 1 ([a1.gF]) r1.2) λr23=>
      some ((r23.1,r23.2))) (
      cond (a1.gE==7) (
       ae (aI N r1.1 1 ([a1.gF,a1.gJ]) r1.2) λr24=>
       ae (aI N r24.1 4 ([I64 a1.gA0,a1.gA4]) r24.2) λr25=>
       some ((r25.1,r25.2))) (
       cond (a1.gE==8) (
        ae (aI N r1.1 1 ([a1.gF,a1.gJ]) r1.2) λr26=>
        some ((r26.1,r26.2))) (
        cond (a1.gE==10) (
         ae (aI N r1.1 4 ([a1.gA8]) r1.2) λr27=>
         some ((r27.1,r27.2))) (
         ae (dK N r1.1 2 r1.2) λr28=>
         some (([],r28))))))))))
theorem pE{N b1 a1 a2 r}(h:aM N b1 a1 a2=some r):FnM Tryz.prog 13 [.var (.st 2 [(eO 1 1 k8 b1),(j64 a2)]),.tail (b1.length*1)] [(.ref 0 [] 0),(aF.enc a1)] (.tup []) [.var (.st 2 [(eO 4 1 k8 r.1),(j64 r.2)]),.dead,.dead,.dead,.tail (r.1.length*1)]:=by
 unfold aM at h;refine At.fC qK hT hmo Tryz.func13 rfl h ?_;refine At.o 4 (cM hT (x:=(.sl 1 1 [(j64 a1.gE)]))) ?_;refine At.Y 0 [0,1] aY λr1=>?_;refine At.c 8 ?_ ?_
 ·refine At.o 3 (cM hT (x:=(.sl 1 1 [(j64 a1.gQ)]))) ?_;refine At.Y 0 [0,2] aY λr2=>?_;refine lx ?_;intro x3;refine At.o 4 (cM hT (x:=(.sl 1 1 [(j64 x3)]))) ?_;refine At.Y 0 [0,4] aY λr4=>?_;refine At.D 0 [] ?_;refine bi λz5 hz5=>?_;refine DD.w 7 (eO 5 1 k8 z5) ⟨[(5,.tail (z5.length*1))],[]⟩ (λ_ e=>kA hT k8 (id:=5) (k:=1) hz5 (pj1 e) (pj2 e)) ?_;refine DD.e hT hmo 3 ?_;apply rt;exact At.zC 0 [(5,4)]
 ·refine At.c 2 ?_ ?_
  ·refine At.o 3 (cM hT (x:=(.sl 1 1 [(j64 a1.gQ)]))) ?_;refine At.Y 0 [0,2] aY λr6=>?_;apply rt;exact At.zC 0 []
  ·refine At.J 0 1 [0,3,4,15] 4 (λp7=>([(48,(eB p7))],[],[])) (λp7=>?_) λp7=>?_
   ·refine At.c 2 ?_ ?_
    ·apply rt;exact At.jn 0
    ·apply rt;exact At.jn 2
   ·refine At.c 0 ?_ ?_
    ·refine At.o 9 (cM hT (x:=(.sl 1 4 [(j64 a1.gC.gK),(j64 a1.gC.gI),(j64 a1.gC.gG),(j64 a1.gC.gN)]))) ?_;refine At.Y 0 [0,2] aY λr8=>?_;refine At.c 3 ?_ ?_
     ·apply rt;exact At.rC 0 []
     ·refine At.dr 0 [0,4,64] 5 ?_;refine At.gz 0 3 ((aN.enc a1.gC)) ?_;refine At.D 0 [] ?_;refine DD.N 2 5 (λι=>(eO ι 1 j64 a1.gC.gT.gM.toList)) _ (λ_=>aG4 hT (N:=9) (k:=1) j64 a1.gC.gT.gM (by kernel_rfl) (by kernel_rfl)) ?_;refine DD.o 12 (λ_=>cM hT (x:=(.sl 1 3 [(j64 a1.gC.gT.gT.gX),(j64 a1.gC.gT.gT.gY),(j64 a1.gC.gT.gT.gZ)]))) ?_;refine bi λz10 hz10=>?_;refine DD.w 0 (eO 5 1 j64 z10) ⟨[(5,.tail (z10.length*1))],[]⟩ (λ_ e=>kA hT j64 (id:=5) (k:=1) hz10 (pj1 e) (pj2 e)) ?_;refine DD.e hT hmo 2 ?_;refine At.M 0 [] 6 (λp11=>([],[(0,.var (.st 2 [(eO 4 1 k8 p11.1),(j64 p11.2)])),(4,.tail (p11.1.length*1))],[])) [0,81,82] 6 (CU3 (cV N z10)) (cu3 λ(s12:(List Int)) (s13:Int) (s14:Int)=>([(83,(j64 s14))],[(0,.var (.st 2 [(eO 4 1 k8 s12),(j64 s13)])),(4,.tail (s12.length*1))],[])) (_,_,_) N (λp11 k=>un3 λs12 s13 s14=>?_) λp11=>?_
      ·refine lx ?_;intro x15;refine At.c 1 ?_ ?_
       ·refine At.i hT 0 j64 λe16=>?_;refine At.o 8 (cM hT (x:=(.sl 1 1 [(j64 e16)]))) ?_;refine At.Y 0 [] jY λr17=>?_;refine At.Y 2 [0,6,4] eH λr18=>?_;exact λh=>At.vw 2 (_,_,_) (aFo 6 4 (by kernel_rfl) jr) h
       ·apply rt;exact At.x 0
      ·apply rt;exact At.zC 0 []
    ·refine At.c 2 ?_ ?_
     ·refine At.o 3 (cM hT (x:=(.sl 1 1 [(j64 a1.gF)]))) ?_;refine At.Y 0 [0,2] aY λr19=>?_;refine At.Y 3 [0,4] oC λr20=>?_;refine At.o 3 (cM hT (x:=(.sl 1 1 [(j64 a1.gA7)]))) ?_;refine At.Y 0 [0,8] aY λr21=>?_;apply rt;exact At.zC 0 [(9,4)]
     ·refine At.J 0 1 [0,3,15] 4 (λp22=>([(115,(eB p22))],[],[])) (λp22=>?_) λp22=>?_
      ·refine At.c 2 ?_ ?_
       ·apply rt;exact At.jn 0
       ·apply rt;exact At.jn 2
      ·refine At.c 0 ?_ ?_
       ·refine At.o 3 (cM hT (x:=(.sl 1 1 [(j64 a1.gF)]))) ?_;refine At.Y 0 [0,2] aY λr23=>?_;apply rt;exact At.zC 0 []
       ·refine At.c 2 ?_ ?_
        ·refine At.o 5 (cM hT (x:=(.sl 1 2 [(j64 a1.gF),(j64 a1.gJ)]))) ?_;refine At.Y 0 [0,2] aY λr24=>?_;refine At.o 6 (cM hT (x:=(.sl 1 2 [(j64 (I64 a1.gA0)),(j64 a1.gA4)]))) ?_;refine At.Y 0 [0,4] aY λr25=>?_;apply rt;exact At.zC 0 [(5,4)]
        ·refine At.c 2 ?_ ?_
         ·refine At.o 5 (cM hT (x:=(.sl 1 2 [(j64 a1.gF),(j64 a1.gJ)]))) ?_;refine At.Y 0 [0,2] aY λr26=>?_;apply rt;exact At.zC 0 []
         ·refine At.c 2 ?_ ?_
          ·refine At.o 3 (cM hT (x:=(.sl 1 1 [(j64 a1.gA8)]))) ?_;refine At.Y 0 [0,2] aY λr27=>?_;apply rt;exact At.zC 0 []
          ·refine At.Y 1 [0,2] jN λr28=>?_;apply rt;exact At.zC 0 [(5,4)]
def cO(N:Nat)(a0:(List aF)):Nat->(List Int)->Int->Option (Sum ((List Int)) ((List Int)×Int))
 | 0,_,_=>none
 | k+1,s3,s4=>
  cB (decide (s4 < ((a0.length:Int)))) λx5=>
  cond x5 (
   ae (idx a0 s4) λe6=>
   ae (aM N [] e6 0) λr7=>
   cond (r7.2 != 0) (
    some (Sum.inr (([],r7.2)))) (
    ae (pK 1 s3 r7.1) λz8=>
    cO N a0 k z8 (I64 (s4+1)))) (
   some (Sum.inl s3))
def cT(N:Nat)(a0:(List aF)):Option ((List Int)×Int):=
 cB (decide (((a0.length:Int)) > 256)) λx1=>
 cond x1 (
  some (([],3))) (
  ae (cO N a0 N [] 0) λo=>oL o (λp2=>
   cB (decide (((p2.length:Int)) > 65536)) λx9=>
   cond x9 (some (([],3))) (some ((p2,0)))) (λr=>some r))
theorem lD{N a0 r}(h:cT N a0=some r):FnM Tryz.prog 5 [] [(eL 46 aF.enc a0)] (.tup [(eL 1 k8 r.1),(j64 r.2)]) []:=by
 unfold cT at h;refine At.f eD hT hmo Tryz.func5 rfl h ?_;refine lx ?_;intro x1;refine At.c 5 ?_ ?_
 ·apply rt;exact At.r 2
 ·refine At.ownn 4 4 1 ?_;refine At.MS 0 [] 1 (λp2=>([(4,(eO 0 1 k8 p2))],[(0,.tail (p2.length*1))],[])) [11,12] 1 (CU2 (cO N a0)) (cu2 λ(s3:(List Int)) (s4:Int)=>([(4,(eO 0 1 k8 s3)),(13,(j64 s4))],[(0,.tail (s3.length*1))],[])) (_,_) N (λop2 g2 k=>un2 λs3 s4=>?_) λp2=>?_
  ·refine lx ?_;intro x5;refine At.c 1 ?_ ?_
   ·refine At.i hT 0 aF.enc λe6=>?_;refine At.ownb 8 2 1 [0] ?_;refine At.Y 0 [2,3] pE λr7=>?_;refine At.c 5 ?_ ?_
    ·refine At.D 0 [] ?_;refine DD.e hT hmo 6 ?_;intro e;apply aB0 g2 e;exact At.r 0
    ·refine At.b 5 (λ_ e=>kA hT k8 (id:=0) (k:=1) e) λz8=>?_;exact λh=>At.v 3 (_,_) h
   ·apply rt;exact At.xs 0
  ·refine lx ?_;intro x9;refine At.c 3 ?_ ?_
   ·apply rt;exact At.r 2
   ·apply rt;exact At.r 3
def fZ(N:Nat)(a0 a1:(List Int)):Option (Bool):=
 cB (ByteArray.toList (aBg a0)==ByteArray.toList (aBg a1)) λx1=>
 some x1
theorem qO{N a0 a1 r}(h:fZ N a0 a1=some r):FnM Tryz.prog 7 [] [(eL 1 k8 a0),(eL 1 k8 a1)] (eB r) []:=by
 unfold fZ at h;refine At.f eD hT hmo Tryz.func7 rfl h ?_;refine At.o 2 (aDE hT a0 (v:=(eL 1 k8 a0)) (e:=5) (by kernel_rfl) (by kernel_rfl) (by kernel_rfl)) ?_;refine At.o 1 (aDE hT a1 (v:=(eL 1 k8 a1)) (e:=5) (by kernel_rfl) (by kernel_rfl) (by kernel_rfl)) ?_;refine lx ?_;intro x1;apply rt;exact At.r 2
def wG : Nat->Bool:=imL [1]
def kC(N:Nat)(s2:(List Int)):Nat->(List Int)->Int->Option ((List Int))
 | 0,_,_=>none
 | k+1,s4,s5=>
  cB (decide (s5 < ((s2.length:Int)))) λx6=>
  cond x6 (
   ae (idx s2 s5) λe7=>
   ae (dC N s4 8 ([e7])) λr8=>
   kC N s2 k r8.1 (I64 (s5+1))) (
   some s4)
def jZ(N:Nat)(a0:dA):Option ((List Int)):=
 cB ((a0.gB7.length:Int)) λx1=>
 ae (nD a0.gB7 0 (aAX x1 255)) λs2=>
 ae (kC N s2 N ([U8 a0.gB4,U8 ((s2.length:Int))]) 0) λp3=>
 cB ((a0.gB8.length:Int)) λx9=>
 ae (eQ N p3 4 ([U64 x9])) λr10=>
 ae (pK 1 r10.1 a0.gB8) λz11=>
 some z11
theorem oV{N a0 r}(h:jZ N a0=some r):FnM Tryz.prog 8 [] [(dA.enc a0)] (eL 1 k8 r) []:=by
 unfold jZ at h;refine At.f wG hT hmo Tryz.func8 rfl h ?_;refine lx ?_;intro x1;refine At.b 8 (λ_ e=>pT hT (k:=1) j64 e) λs2=>?_;refine At.o 7 (cM hT (x:=(.sl 1 2 [(k8 (U8 a0.gB4)),(k8 (U8 ((s2.length:Int))))]))) ?_;refine At.M 4 [1] 0 (λp3=>([(4,(eL 1 k8 p3))],[],[])) [1,21,22] 0 (CU2 (kC N s2)) (cu2 λ(s4:(List Int)) (s5:Int)=>([(4,(eL 1 k8 s4)),(23,(j64 s5))],[],[])) (_,_) N (λp3 k=>un2 λs4 s5=>?_) λp3=>?_
 ·refine lx ?_;intro x6;refine At.c 1 ?_ ?_
  ·refine At.i hT 0 j64 λe7=>?_;refine At.o 4 (cM hT (x:=(.sl 1 1 [(j64 e7)]))) ?_;refine At.Y 0 [] jY λr8=>?_;exact λh=>At.v 6 (_,_) h
  ·apply rt;exact At.x 0
 ·refine lx ?_;intro x9;refine At.o 5 (cM hT (x:=(.sl 1 1 [(k64 (U64 x9))]))) ?_;refine At.Y 0 [] mN λr10=>?_;refine At.b 7 (λ_ e=>kA hT k8 (id:=0) (k:=1) e) λz11=>?_;apply rt;exact At.r 1
def lU(N:Nat)(a0:(List Int)):Option ((List Int)):=
 ae (cU N a0) λr1=>
 some r1
theorem aAh{N a0 r}(h:lU N a0=some r):FnM Tryz.prog 20 [] [(eL 1 k8 a0)] (.ref 1 [] 0) [.tail (r.length*1),.var (.st 3 [(eO 0 1 k8 r),(j64 0),(eB true)])]:=by
 unfold lU at h;refine At.f eD hT hmo Tryz.func20 rfl h ?_;refine At.Y 2 [] jO λr1=>?_;apply rt;exact At.r 3
def dJ(N:Nat)(a0:aA):Option (Bool):=
 some (!a0.gB3)
theorem iJ{N a0 r}(h:dJ N a0=some r):FnM Tryz.prog 33 [.var (aA.enc a0)] [(.ref 0 [] 0)] (eB r) [.var (aA.enc a0)]:=by
 unfold dJ at h;refine At.f eD hT hmo Tryz.func33 rfl h ?_;refine At.o 2 (pP hT (t:=72) (x:=(.ref 0 [] 0)) (b:=true) (by kernel_rfl) rfl rfl (by kernel_rfl)) ?_;refine At.g [5] 8 ?_;apply rt;exact At.r 0
def eK(N:Nat)(a0:aA):Option (Int):=
 ae (dJ N a0) λr1=>
 cB (cond r1 true (a0.ge != 0)) λx2=>
 cond x2 (some 0) (some ((a0.gb.length:Int)))
theorem kM{N a0 r}(h:eK N a0=some r):FnM Tryz.prog 21 [.var (aA.enc a0)] [(.ref 0 [] 0)] (j64 r) [.var (aA.enc a0)]:=by
 unfold eK at h;refine At.f eD hT hmo Tryz.func21 rfl h ?_;refine At.Y 2 [0] iJ λr1=>?_;refine lx ?_;intro x2;refine At.c 7 ?_ ?_
 ·apply rt;exact At.r 1
 ·apply rt;exact At.r 6
def aZ(N:Nat)(a0:Int)(a1:aA):Option (aA×(List Int)):=
 ae (dJ N a1) λr1=>
 cB (cond r1 true (a1.ge != 0)) λx2=>
 cond x2 (
  some ((a1,[]))) (
  cond (decide (a0 < 0)) (
   some ((aA.mk a1.gb 2 a1.gB3,[]))) (
   cB (decide (a0 > ((a1.gb.length:Int)))) λx3=>
   cond x3 (
    some ((aA.mk a1.gb 4 a1.gB3,[]))) (
    ae (aAA a1.gb 0 a0 a0) λs4=>
    ae (nD a1.gb a0 ((a1.gb.length:Int))) λs5=>
    some ((aA.mk s5 a1.ge a1.gB3,s4)))))
theorem kK{N a0 a1 r}(h:aZ N a0 a1=some r):FnM Tryz.prog 35 [.var (aA.enc a1)] [(.ref 0 [] 0),(j64 a0)] (eL 1 k8 r.2) [.var (aA.enc r.1)]:=by
 unfold aZ at h;refine At.f eD hT hmo Tryz.func35 rfl h ?_;refine At.Y 2 [0] iJ λr1=>?_;refine lx ?_;intro x2;refine At.c 8 ?_ ?_
 ·apply rt;exact At.r 1
 ·refine At.c 3 ?_ ?_
  ·apply rt;exact At.r 5
  ·refine lx ?_;intro x3;refine At.c 8 ?_ ?_
   ·apply rt;exact At.r 5
   ·refine At.b 6 (λ_ e=>aFk hT (k:=1) k8 e (by kernel_rfl) (by kernel_rfl)) λs4=>?_;refine At.b 7 (λ_ e=>pT hT (k:=1) k8 e) λs5=>?_;apply rt;exact At.r 5
def bP(N:Nat)(r3:aA×(List Int)):Nat->Int->Int->Option (Int)
 | 0,_,_=>none
 | k+1,s5,s6=>
  cB (decide (s6 < ((r3.2.length:Int)))) λx7=>
  cond x7 (
   ae (idx r3.2 s6) λe8=>
   ae (aBt .u64 (U64 e8) (I64 (8*s6))) λx9=>
   bP N r3 k (bor .u64 s5 x9) (I64 (s6+1))) (
   some s5)
def aW(N:Nat)(a0:Int)(a1:aA):Option (aA×Int):=
 ae (cB (cond (decide (a0 < 1)) true (decide (a0 > 8))) λx2=>
 cond x2 (some (-1)) (some a0)) λp1=>
 ae (aZ N p1 a1) λr3=>
 ae (bP N r3 N 0 0) λp4=>
 some ((r3.1,p4))
theorem fA{N a0 a1 r}(h:aW N a0 a1=some r):FnM Tryz.prog 39 [.var (aA.enc a1)] [(.ref 0 [] 0),(j64 a0)] (k64 r.2) [.var (aA.enc r.1)]:=by
 unfold aW at h;refine At.f eD hT hmo Tryz.func39 rfl h ?_;refine At.J 1 1 [0] 1 (λp1=>([(1,(j64 p1))],[],[])) (λp1=>?_) λp1=>?_
 ·refine lx ?_;intro x2;refine At.c 6 ?_ ?_
  ·apply rt;exact At.jn 1
  ·apply rt;exact At.jn 0
 ·refine At.Y 3 [0] kK λr3=>?_;refine At.M 2 [] 1 (λp4=>([(5,(k64 p4))],[],[])) [16,17] 1 (CU2 (bP N r3)) (cu2 λ(s5:Int) (s6:Int)=>([(5,(k64 s5)),(18,(j64 s6))],[],[])) (_,_) N (λp4 k=>un2 λs5 s6=>?_) λp4=>?_
  ·refine lx ?_;intro x7;refine At.c 1 ?_ ?_
   ·refine At.i hT 1 k8 λe8=>?_;refine At.b 8 (λ_ e=>uB hT (k' := .i64) e (by kernel_rfl) (by kernel_rfl)) λx9=>?_;exact λh=>At.v 4 (_,_) h
   ·apply rt;exact At.x 0
  ·apply rt;exact At.r 2
def aB(N:Nat)(a0:Int)(a1:aA):Option (aA×Int):=
 ae (aW N a0 a1) λr1=>
 some ((r1.1,I64 r1.2))
theorem aL{N a0 a1 r}(h:aB N a0 a1=some r):FnM Tryz.prog 34 [.var (aA.enc a1)] [(.st 1 [(.ref 0 [] 0)]),(j64 a0)] (j64 r.2) [.var (aA.enc r.1)]:=by
 unfold aB at h;refine At.f eD hT hmo Tryz.func34 rfl h ?_;refine At.Y 5 [0] fA λr1=>?_;apply rt;exact At.r 2
def bC(N:Nat)(a0:aA):Option (aA×aN):=
 ae (aB N 4 a0) λr1=>
 ae (aB N 4 r1.1) λr2=>
 ae (aB N 4 r2.1) λr3=>
 ae (aB N 4 r3.1) λr4=>
 some ((r4.1,aN.mk r1.2 r2.2 r3.2 r4.2 (aX.mk (am 9 0) (bR.mk 0 0 0))))
theorem jE{N a0 r}(h:bC N a0=some r):FnM Tryz.prog 36 [.var (aA.enc a0)] [(.st 1 [(.ref 0 [] 0)])] (aN.enc r.2) [.var (aA.enc r.1)]:=by
 unfold bC at h;refine At.f eD hT hmo Tryz.func36 rfl h ?_;refine At.D 2 [] ?_;refine DD.Y 1 [0] aL λr1=>?_;refine DD.Y 1 [0] aL λr2=>?_;refine DD.Y 1 [0] aL λr3=>?_;refine DD.Y 1 [0] aL λr4=>?_;refine DD.e hT hmo 2 ?_;apply rt;exact At.r 0
def aU(N:Nat)(a0:Int)(a1:aA):Option (aA×Int):=
 ae (aW N a0 a1) λr1=>
 cB (cond (decide (a0 < 1)) true (decide (a0 > 8))) λx2=>
 cond x2 (
  some ((r1.1,0))) (
  cB (I64 (64 - (I64 (8*a0)))) λx3=>
  ae (aBt .i64 (I64 r1.2) x3) λx4=>
  cB (I64 (64 - (I64 (8*a0)))) λx5=>
  ae (xL .i64 x4 x5) λx6=>
  some ((r1.1,x6)))
theorem eZ{N a0 a1 r}(h:aU N a0 a1=some r):FnM Tryz.prog 54 [.var (aA.enc a1)] [(.ref 0 [] 0),(j64 a0)] (j64 r.2) [.var (aA.enc r.1)]:=by
 unfold aU at h;refine At.f eD hT hmo Tryz.func54 rfl h ?_;refine At.Y 3 [0] fA λr1=>?_;refine lx ?_;intro x2;refine At.c 7 ?_ ?_
 ·apply rt;exact At.r 1
 ·refine lx ?_;intro x3;refine At.b 5 (λ_ e=>uB hT (k' := .i64) e (by kernel_rfl) (by kernel_rfl)) λx4=>?_;refine lx ?_;intro x5;refine At.b 3 (λ_ e=>pI hT (k' := .i64) e (by kernel_rfl) (by kernel_rfl)) λx6=>?_;apply rt;exact At.r 1
def aT(N:Nat)(a0:Int):Nat->(List Int)->aA->Int->Option ((List Int)×aA)
 | 0,_,_,_=>none
 | k+1,s2,s3,s4=>
  cond (decide (s4 < a0)) (
   ae (aU N 8 s3) λr5=>
   ae (pK 8 s2 (([r5.2]:List Int))) λz6=>
   aT N a0 k z6 r5.1 (I64 (s4+1))) (
   some ((s2,s3)))
def bH(N:Nat)(a0:Int)(a1:aA):Option (aA×(List Int)):=
 ae (aT N a0 N [] a1 0) λp1=>
 some ((p1.2,p1.1))
theorem lY{N a0 a1 r}(h:bH N a0 a1=some r):FnM Tryz.prog 37 [.var (aA.enc a1)] [(.st 1 [(.ref 0 [] 0)]),(j64 a0)] (eL 1 j64 r.2) [.var (aA.enc r.1)]:=by
 unfold bH at h;refine At.f eD hT hmo Tryz.func37 rfl h ?_;refine At.ownn 5 5 1 ?_;refine At.M 0 [] 3 (λp1=>([(5,(eO 2 1 j64 p1.1))],[(0,.var (aA.enc p1.2)),(2,.tail (p1.1.length*1))],[])) [2,6] 3 (CU3 (aT N a0)) (cu3 λ(s2:(List Int)) (s3:aA) (s4:Int)=>([(5,(eO 2 1 j64 s2)),(7,(j64 s4))],[(0,.var (aA.enc s3)),(2,.tail (s2.length*1))],[])) (_,_,_) N (λp1 k=>un3 λs2 s3 s4=>?_) λp1=>?_
 ·refine At.c 1 ?_ ?_
  ·refine At.Y 3 [0] eZ λr5=>?_;refine At.o 0 (cM hT (x:=(.sl 1 1 [(j64 r5.2)]))) ?_;refine At.b 0 (λ_ e=>kA hT j64 (id:=2) (k:=1) e) λz6=>?_;exact λh=>At.v 3 (_,_,_) h
  ·apply rt;exact At.x 0
 ·apply rt;exact At.r 2
def aP(N:Nat)(a0:aA):Option (aA×aG):=
 ae (aU N 4 a0) λr1=>
 ae (aU N 4 r1.1) λr2=>
 ae (aU N 4 r2.1) λr3=>
 some ((r3.1,aG.mk r1.2 r2.2 r3.2))
theorem dW{N a0 r}(h:aP N a0=some r):FnM Tryz.prog 55 [.var (aA.enc a0)] [(.st 1 [(.ref 0 [] 0)])] (aG.enc r.2) [.var (aA.enc r.1)]:=by
 unfold aP at h;refine At.f eD hT hmo Tryz.func55 rfl h ?_;refine At.D 2 [] ?_;refine DD.Y 2 [0] eZ λr1=>?_;refine DD.Y 2 [0] eZ λr2=>?_;refine DD.Y 2 [0] eZ λr3=>?_;refine DD.e hT hmo 2 ?_;apply rt;exact At.r 0
def bL(N:Nat)(a0:aA):Option (aA×aD×Bool):=
 ae (aB N 1 a0) λr1=>
 ae (aB N 1 r1.1) λr2=>
 ae (aB N 1 r2.1) λr3=>
 ae (aB N 1 r3.1) λr4=>
 ae (aB N 1 r4.1) λr5=>
 ae (aB N 1 r5.1) λr6=>
 ae (aW N 8 r6.1) λr7=>
 ae (aP N r7.1) λr8=>
 ae (aP N r8.1) λr9=>
 ae (aP N r9.1) λr10=>
 ae (aP N r10.1) λr11=>
 ae (aB N 4 r11.1) λr12=>
 ae (aB N 4 r12.1) λr13=>
 some ((r13.1,aD.mk r1.2 r2.2 r3.2 r4.2 r5.2 r7.2 (bA.mk r8.2 r9.2 r10.2 r11.2 r12.2 r13.2) (r6.2==1),decide (r6.2<=1)))
theorem mZ{N a0 r}(h:bL N a0=some r):FnM Tryz.prog 38 [.var (aA.enc a0)] [(.st 1 [(.ref 0 [] 0)])] (.tup [(aD.enc r.2.1),(eB r.2.2)]) [.var (aA.enc r.1)]:=by
 unfold bL at h;refine At.f eD hT hmo Tryz.func38 rfl h ?_;refine At.D 3 [] ?_;refine DD.Y 1 [0] aL λr1=>?_;refine DD.Y 1 [0] aL λr2=>?_;refine DD.Y 1 [0] aL λr3=>?_;refine DD.Y 1 [0] aL λr4=>?_;refine DD.Y 1 [0] aL λr5=>?_;refine DD.e hT hmo 3 ?_;refine At.Y 1 [0] aL λr6=>?_;refine At.Y 7 [0] fA λr7=>?_;refine At.D 2 [] ?_;refine DD.Y 1 [0] dW λr8=>?_;refine DD.Y 1 [0] dW λr9=>?_;refine DD.Y 1 [0] dW λr10=>?_;refine DD.Y 1 [0] dW λr11=>?_;refine DD.Y 1 [0] aL λr12=>?_;refine DD.Y 1 [0] aL λr13=>?_;refine DD.e hT hmo 3 ?_;apply rt;exact At.r 5
def fW(N:Nat)(a0:aA):Option (Int):=
 ae (dJ N a0) λr1=>
 cond r1 (some 1) (some a0.ge)
theorem qH{N a0 r}(h:fW N a0=some r):FnM Tryz.prog 40 [.var (aA.enc a0)] [(.ref 0 [] 0)] (j64 r) [.var (aA.enc a0)]:=by
 unfold fW at h;refine At.f eD hT hmo Tryz.func40 rfl h ?_;refine At.Y 2 [0] iJ λr1=>?_;refine At.c 0 ?_ ?_
 ·apply rt;exact At.r 1
 ·apply rt;exact At.r 5
def aH(N:Nat)(a0:aA):Option (aA×aF×Int):=
 ae (aB N 1 a0) λr1=>
 ae (cond (r1.2==1) (
  ae (aB N 4 r1.1) λr3=>
  ae (aB N 2 r3.1) λr4=>
  ae (aZ N r4.2 r4.1) λr5=>
  some ((r5.1,aF.mk r1.2 r3.2 r5.2 (aN.mk 0 0 0 0 (aX.mk (am 9 0) (bR.mk 0 0 0))) 0 (aD.mk 0 0 0 0 0 0 (bA.mk (aG.mk 0 0 0) (aG.mk 0 0 0) (aG.mk 0 0 0) (aG.mk 0 0 0) 0 0) false) 0 0 0 0 0,true))) (
  cond (r1.2==2) (
   ae (aB N 4 r1.1) λr6=>
   some ((r6.1,aF.mk r1.2 r6.2 [] (aN.mk 0 0 0 0 (aX.mk (am 9 0) (bR.mk 0 0 0))) 0 (aD.mk 0 0 0 0 0 0 (bA.mk (aG.mk 0 0 0) (aG.mk 0 0 0) (aG.mk 0 0 0) (aG.mk 0 0 0) 0 0) false) 0 0 0 0 0,true))) (
   cond (r1.2==3) (
    ae (bC N r1.1) λr7=>
    ae (bH N 12 r7.1) λr8=>
    ae (nD r8.2 0 9) λs9=>
    ae (aDk 9 s9) λv10=>
    ae (idx r8.2 9) λe11=>
    ae (idx r8.2 10) λe12=>
    ae (idx r8.2 11) λe13=>
    some ((r8.1,aF.mk r1.2 0 [] (aN.mk r7.2.gK r7.2.gI r7.2.gG r7.2.gN (aX.mk v10 (bR.mk e11 e12 e13))) 0 (aD.mk 0 0 0 0 0 0 (bA.mk (aG.mk 0 0 0) (aG.mk 0 0 0) (aG.mk 0 0 0) (aG.mk 0 0 0) 0 0) false) 0 0 0 0 0,true))) (
    cond (r1.2==4) (
     ae (bC N r1.1) λr14=>
     some ((r14.1,aF.mk r1.2 0 [] r14.2 0 (aD.mk 0 0 0 0 0 0 (bA.mk (aG.mk 0 0 0) (aG.mk 0 0 0) (aG.mk 0 0 0) (aG.mk 0 0 0) 0 0) false) 0 0 0 0 0,true))) (
     cond (r1.2==5) (
      ae (aB N 1 r1.1) λr15=>
      ae (bL N r15.1) λr16=>
      ae (aB N 2 r16.1) λr17=>
      some ((r17.1,aF.mk r1.2 0 [] (aN.mk 0 0 0 0 (aX.mk (am 9 0) (bR.mk 0 0 0))) r15.2 r16.2.1 r17.2 0 0 0 0,r16.2.2))) (
      ae (cond (r1.2==6) (some (r1.2==6)) (some (r1.2==9))) λp18=>
      cond p18 (
       ae (aB N 1 r1.1) λr19=>
       some ((r19.1,aF.mk r1.2 0 [] (aN.mk 0 0 0 0 (aX.mk (am 9 0) (bR.mk 0 0 0))) r19.2 (aD.mk 0 0 0 0 0 0 (bA.mk (aG.mk 0 0 0) (aG.mk 0 0 0) (aG.mk 0 0 0) (aG.mk 0 0 0) 0 0) false) 0 0 0 0 0,true))) (
       cond (r1.2==7) (
        ae (aB N 1 r1.1) λr20=>
        ae (aB N 1 r20.1) λr21=>
        ae (aW N 4 r21.1) λr22=>
        ae (aB N 4 r22.1) λr23=>
        some ((r23.1,aF.mk r1.2 0 [] (aN.mk 0 0 0 0 (aX.mk (am 9 0) (bR.mk 0 0 0))) r20.2 (aD.mk 0 0 0 0 0 0 (bA.mk (aG.mk 0 0 0) (aG.mk 0 0 0) (aG.mk 0 0 0) (aG.mk 0 0 0) 0 0) false) 0 r21.2 (U32 r22.2) r23.2 0,true))) (
        cond (r1.2==8) (
         ae (aB N 1 r1.1) λr24=>
         ae (aB N 1 r24.1) λr25=>
         some ((r25.1,aF.mk r1.2 0 [] (aN.mk 0 0 0 0 (aX.mk (am 9 0) (bR.mk 0 0 0))) r24.2 (aD.mk 0 0 0 0 0 0 (bA.mk (aG.mk 0 0 0) (aG.mk 0 0 0) (aG.mk 0 0 0) (aG.mk 0 0 0) 0 0) false) 0 r25.2 0 0 0,true))) (
         cond (r1.2==10) (
          ae (aB N 4 r1.1) λr26=>
          some ((r26.1,aF.mk r1.2 0 [] (aN.mk 0 0 0 0 (aX.mk (am 9 0) (bR.mk 0 0 0))) 0 (aD.mk 0 0 0 0 0 0 (bA.mk (aG.mk 0 0 0) (aG.mk 0 0 0) (aG.mk 0 0 0) (aG.mk 0 0 0) 0 0) false) 0 0 0 0 r26.2,true))) (
          some ((r1.1,aF.mk r1.2 0 [] (aN.mk 0 0 0 0 (aX.mk (am 9 0) (bR.mk 0 0 0))) 0 (aD.mk 0 0 0 0 0 0 (bA.mk (aG.mk 0 0 0) (aG.mk 0 0 0) (aG.mk 0 0 0) (aG.mk 0 0 0) 0 0) false) 0 0 0 0 0,false)))))))))))) λp2=>
 ae (fW N p2.1) λr27=>
 cond (r27 != 0) (
  some ((p2.1,p2.2.1,4))) (
  cond (!p2.2.2) (some ((p2.1,p2.2.1,5))) (some ((p2.1,p2.2.1,0))))
theorem oA{N a0 r}(h:aH N a0=some r):FnM Tryz.prog 22 [.var (aA.enc a0)] [(.st 1 [(.ref 0 [] 0)])] (.tup [(aF.enc r.2.1),(j64 r.2.2)]) [.var (aA.enc r.1)]:=by
 unfold aH at h;refine At.f eD hT hmo Tryz.func22 rfl h ?_;refine At.Y 4 [0] aL λr1=>?_;refine At.J 3 1 [1,2] 3 (λp2=>([(4,(eB p2.2.2))],[(0,.var (aA.enc p2.1)),(2,.var (aF.enc p2.2.1))],[])) (λp2=>?_) λp2=>?_
 ·refine At.c 4 ?_ ?_
  ·refine At.Y 1 [0] aL λr3=>?_;refine At.D 2 [] ?_;refine DD.Y 3 [0] aL λr4=>?_;refine DD.Y 0 [0] kK λr5=>?_;refine DD.e hT hmo 2 ?_;apply rt;exact At.jn 0
  ·refine At.c 2 ?_ ?_
   ·refine At.Y 1 [0] aL λr6=>?_;apply rt;exact At.jn 2
   ·refine At.c 2 ?_ ?_
    ·refine At.Y 1 [0] jE λr7=>?_;refine At.Y 3 [0] lY λr8=>?_;refine At.b 2 (λ_ e=>pT hT (k:=1) j64 e) λs9=>?_;refine At.b 0 (λv10 e=>aGK hT j64 s9 v10 e rfl (by kernel_rfl) (by kernel_rfl)) λv10=>?_;refine At.D 5 [] ?_;refine DD.i hT 1 j64 λe11=>?_;refine DD.i hT 2 j64 λe12=>?_;refine DD.i hT 2 j64 λe13=>?_;refine DD.e hT hmo 6 ?_;apply rt;exact At.jn 0
    ·refine At.c 2 ?_ ?_
     ·refine At.Y 1 [0] jE λr14=>?_;apply rt;exact At.jn 2
     ·refine At.c 2 ?_ ?_
      ·refine At.Y 1 [0] aL λr15=>?_;refine At.Y 3 [0] mZ λr16=>?_;refine At.Y 7 [0] aL λr17=>?_;apply rt;exact At.jn 2
      ·refine At.J 0 1 [1,2,4,10] 3 (λp18=>([(73,(eB p18))],[],[])) (λp18=>?_) λp18=>?_
       ·refine At.c 2 ?_ ?_
        ·apply rt;exact At.jn 0
        ·apply rt;exact At.jn 2
       ·refine At.c 0 ?_ ?_
        ·refine At.Y 1 [0] aL λr19=>?_;apply rt;exact At.jn 2
        ·refine At.c 2 ?_ ?_
         ·refine At.D 0 [] ?_;refine DD.Y 1 [0] aL λr20=>?_;refine DD.Y 1 [0] aL λr21=>?_;refine DD.e hT hmo 4 ?_;refine At.D 0 [] ?_;refine DD.Y 2 [0] fA λr22=>?_;refine DD.Y 2 [0] aL λr23=>?_;refine DD.e hT hmo 4 ?_;apply rt;exact At.jn 0
         ·refine At.c 2 ?_ ?_
          ·refine At.D 0 [] ?_;refine DD.Y 1 [0] aL λr24=>?_;refine DD.Y 1 [0] aL λr25=>?_;refine DD.e hT hmo 4 ?_;apply rt;exact At.jn 0
          ·refine At.c 2 ?_ ?_
           ·refine At.Y 1 [0] aL λr26=>?_;apply rt;exact At.jn 2
           ·apply rt;exact At.jn 1
 ·refine At.Y 2 [0] qH λr27=>?_;refine At.c 2 ?_ ?_
  ·apply rt;exact At.r 3
  ·refine At.c 3 ?_ ?_
   ·apply rt;exact At.r 3
   ·apply rt;exact At.r 3
def cR(N:Nat)(a0:(List Int)):Nat->(List aF)->(List Int)->Int->Bool->Option (Sum ((List aF)×aA) ((List aF)×Int×Int))
 | 0,_,_,_,_=>none
 | k+1,s4,s5,s6,s7=>
  ae (eK N (aA.mk s5 s6 s7)) λr8=>
  cond (decide (r8 > 0)) (
   ae (eK N (aA.mk s5 s6 s7)) λr9=>
   cB (I64 (((a0.length:Int)) - r9)) λx10=>
   cB (((s4.length:Int))==256) λx11=>
   cond x11 (
    some (Sum.inr ((s4,x10,3)))) (
    ae (aH N (aA.mk s5 s6 s7)) λr12=>
    cond (r12.2.2 != 0) (
     some (Sum.inr ((s4,x10,r12.2.2)))) (
     ae (pK 384 s4 (([r12.2.1]:List aF))) λz13=>
     cR N a0 k z13 r12.1.gb r12.1.ge r12.1.gB3))) (
   some (Sum.inl ((s4,aA.mk s5 s6 s7))))
def dD(N:Nat)(a0:(List Int)):Option ((List aF)×Int×Int):=
 cB (decide (((a0.length:Int)) > 65536)) λx1=>
 cond x1 (
  some (([],0,3))) (
  ae (lU N a0) λr2=>
  ae (cR N a0 N [] r2 0 true) λo=>oL o (λp3=>
   some ((p3.1,(a0.length:Int),0))) (λr=>some r))
theorem lF{N a0 r}(h:dD N a0=some r):FnM Tryz.prog 12 [] [(eL 1 k8 a0)] (.tup [(eL 46 aF.enc r.1),(j64 r.2.1),(j64 r.2.2)]) []:=by
 unfold dD at h;refine At.f eD hT hmo Tryz.func12 rfl h ?_;refine lx ?_;intro x1;refine At.c 6 ?_ ?_
 ·apply rt;exact At.r 3
 ·refine At.Y 1 [] aAh λr2=>?_;refine At.ownn 3 2 46 ?_;refine At.MS 0 [0] 4 (λp3=>([(2,(eO 3 46 aF.enc p3.1))],[(1,.var (aA.enc p3.2)),(3,.tail (p3.1.length*46))],[])) [0,5] 4 (CU4 (cR N a0)) (cu4 λ(s4:(List aF)) (s5:(List Int)) (s6:Int) (s7:Bool)=>([(2,(eO 3 46 aF.enc s4))],[(1,.var (.st 3 [(eL 1 k8 s5),(j64 s6),(eB s7)])),(3,.tail (s4.length*46))],[])) (_,_,_,_) N (λop3 g3 k=>un4 λs4 s5 s6 s7=>?_) λp3=>?_
  ·refine At.Y 2 [1] kM λr8=>?_;refine At.c 1 ?_ ?_
   ·refine At.Y 4 [1] kM λr9=>?_;refine lx ?_;intro x10;refine lx ?_;intro x11;refine At.c 5 ?_ ?_
    ·intro e;apply aB0 g3 e;exact At.r 5
    ·refine At.Y 1 [1] oA λr12=>?_;refine At.c 8 ?_ ?_
     ·intro e;apply aB0 g3 e;exact At.r 6
     ·refine At.o 2 (cM hT (x:=(.sl 46 1 [(aF.enc r12.2.1)]))) ?_;refine At.b 0 (λ_ e=>kA hT aF.enc (id:=3) (k:=46) e) λz13=>?_;exact λh=>At.v 1 (_,_,_,_) h
   ·apply rt;exact At.xs 0
  ·apply rt;exact At.r 6
end Go.UK
