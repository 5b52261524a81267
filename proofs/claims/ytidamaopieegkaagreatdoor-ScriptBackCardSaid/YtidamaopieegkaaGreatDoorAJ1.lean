/- A part of the proof: what the functions of the program compute. -/
import Derived.Test.YtidamaopieegkaaGreatDoorST
open Int renaming tmod→dc,toNat→bx
open Option renaming bind→ae
open Vector renaming replicate→am
namespace Go.UK
open Go Go.Proofs
set_option maxRecDepth 20000
set_option maxHeartbeats 40000000
set_option linter.all false
attribute [local irreducible] adv aBJ uQ nE brPt aCq yO iM oQ aDO bY fU cZ wH aBk aAZ lPt owp awl aw FnM opS Stab TOK Big
def dN(N:Nat)(b1:(List Int))(a1 a2:Int):Option (Int):=
 ae (cF (cond (a2==0) (a1 != 0) false) λx2=>
 cond x2 (some 2) (some a2)) λp1=>
 some p1
theorem jZ{N b1 a1 a2 r}(h:dN N b1 a1 a2=some r):FnM Tryz.prog 24 [.var (.st 2 [(eO 1 1 k8 b1),(j64 a2)]),.tail (b1.length*1)] [(.ref 0 [] 0),(.v (.slice none 0 0)),(j64 a1)] (.tup []) [.var (.st 2 [(eO 3 1 k8 []),(j64 r)]),.dead,.dead,.tail 0]:=by
 unfold dN at h;refine At.f eF hT hmo Tryz.func24 rfl h ?_;refine At.mv 0 1 ?_;refine At.J 0 1 [0,1] 3 (λp1=>([],[(0,.var (.st 2 [(eO 2 1 k8 b1),(j64 p1)]))],[])) (λp1=>?_) λp1=>?_
 ·refine lx ?_;intro x2;refine At.c 9 ?_ ?_
  ·apply rt;exact At.jn 4
  ·apply rt;exact At.jn 0
 ·refine At.ownn 0 1 1 ?_;apply rt;exact At.z 5
def cX(N:Nat)(a0:(List Int)):Option ((List Int)):=
 ae (pQ 1 (([]:List Int)) a0) λz1=>
 some z1
theorem kA{N a0 r}(h:cX N a0=some r):FnM Tryz.prog 29 [] [(eL 1 k8 a0)] (eO 0 1 k8 r) [.tail (r.length*1)]:=by
 unfold cX at h;refine At.f eF hT hmo Tryz.func29 rfl h ?_;refine At.q hT 2 (d:=4) (t:=25) (e:=5) (z:=1) (x:=(eL 1 k8 a0)) (es:=List.map k8 a0) rfl ?_ (λhe=>?_)
 ·refine At.o 1 (aBg hT k8 (k:=1) ([]:List Int) (by kernel_rfl) (by kernel_rfl)) ?_;refine At.b 1 (λ_ e=>kM hT k8 (id:=0) (k:=1) e) λz1=>?_;apply rt;exact At.r 1
 ·have h0:a0=[]:=List.map_eq_nil_iff.1 he;subst h0;change some []=_->_;refine At.ownn 2 2 1 ?_;apply rt;exact At.r 0
def fP(N:Nat)(a1 e7:Int):Nat->(List Int)->Int->Option ((List Int))
 | 0,_,_=>none
 | k+1,s11,s12=>
  cond (decide (s12 < a1)) (
   ae (yC .u64 e7 (I64 (8*s12))) λx13=>
   ae (pQ 1 s11 (([U8 x13]:List Int))) λz14=>
   fP N a1 e7 k z14 (I64 (s12+1))) (
   some s11)
def iH(N:Nat)(a2:(List Int))(a1:Int):Nat->(List Int)->Int->Option (Sum ((List Int)) ((List Int)×Int))
 | 0,_,_=>none
 | k+1,s4,s5=>
  cF (decide (s5 < ((a2.length:Int)))) λx6=>
  cond x6 (
   ae (idx a2 s5) λe7=>
   ae (cond (decide (a1 < 8)) (
    ae (yC .u64 e7 (I64 (8*a1))) λx9=>
    some (decide (x9 > 0))) (
    some false)) λp8=>
   cond p8 (
    some (Sum.inr (([],3)))) (
    ae (fP N a1 e7 N s4 0) λp10=>
    iH N a2 a1 k p10 (I64 (s5+1)))) (
   some (Sum.inl s4))
def eW(N:Nat)(a0:(List Int))(a1:Int)(a2:(List Int)):Option ((List Int)×Int):=
 cF (cond (decide (a1 < 1)) true (decide (a1 > 8))) λx1=>
 cond x1 (
  some (([],2))) (
  ae (cX N a0) λr2=>
  ae (iH N a2 a1 N r2 0) λo=>qK o (λp3=>
   some ((p3,0))) (λr=>some r))
theorem mU{N a0 a1 a2 r}(h:eW N a0 a1 a2=some r):FnM Tryz.prog 16 [] [(eL 1 k8 a0),(j64 a1),(eL 1 k64 a2)] (.tup [(eO 0 1 k8 r.1),(j64 r.2)]) [.tail (r.1.length*1)]:=by
 unfold eW at h;refine At.f eF hT hmo Tryz.func16 rfl h ?_;refine lx ?_;intro x1;refine At.c 8 ?_ ?_
 ·refine At.ownn 2 6 1 ?_;apply rt;exact At.r 0
 ·refine At.b 1 (λ_ e=>aQ [] (kA e)) λr2=>?_;refine At.LS 4 [] 1 (λp3=>([(8,(eO 0 1 k8 p3))],[(0,.tail (p3.length*1))],[])) (λop3 J k=>∃s4 s5,iH N a2 a1 k s4 s5=some op3/\J [1,20,21] 1 [(8,(eO 0 1 k8 s4)),(22,(j64 s5))] [(0,.tail (s4.length*1))] []) N (λ_ h=>⟨_,_,h,jr⟩) (λop3 g3 k s hI=>?_) λp3=>?_
  ·obtain⟨s4,s5,h,hj⟩:=hI;cases k with
   | zero=>cases h
   | succ k=>
    refine At.jr hj ?_ h;refine lx ?_;intro x6;refine At.c 1 ?_ ?_
    ·refine At.b 0 (λ_ e=>iF hT k64 e) λe7=>?_;refine At.J 2 0 [1,8,10,20,21,22] 1 (λp8=>([(34,(eB p8))],[],[])) (λp8=>?_) λp8=>?_
     ·refine At.s 28 3 ?_ ?_
      ·refine At.g [28] 3 ?_;refine At.b 0 (λ_ e=>pJ hT (k' := .i64) e (by kernel_rfl) (by kernel_rfl)) λx9=>?_;refine At.g [28] 2 ?_;apply rt;exact At.jn 0
      ·refine At.g [28] 6 ?_;apply rt;exact At.jn 0
     ·refine At.c 0 ?_ ?_
      ·refine At.ownn 2 6 1 ?_;refine At.sw 0 1 0 ?_;intro e;apply aBL g3 e;exact At.r 0
      ·refine At.L 2 [1,20,21,22] 1 (λp10=>([(8,(eO 0 1 k8 p10))],[(0,.tail (p10.length*1))],[])) (λp10 J k=>∃s11 s12,fP N a1 e7 k s11 s12=some p10/\J [1,10,20,21,22,35] 1 [(8,(eO 0 1 k8 s11)),(36,(j64 s12))] [(0,.tail (s11.length*1))] []) N (λ_ h=>⟨_,_,h,jr⟩) (λp10 k s hI=>?_) λp10=>?_
       ·obtain⟨s11,s12,h,hj⟩:=hI;cases k with
        | zero=>cases h
        | succ k=>
         refine At.jr hj ?_ h;refine At.c 1 ?_ ?_
         ·refine At.b 6 (λ_ e=>pJ hT (k' := .i64) e (by kernel_rfl) (by kernel_rfl)) λx13=>?_;refine At.o 1 (cP hT (x:=(.sl 1 1 [(k8 (U8 x13))]))) ?_;refine At.b 0 (λ_ e=>kM hT k8 (id:=0) (k:=1) e) λz14=>?_;exact λh=>At.k 3 ⟨_,_,h,jr⟩
         ·apply rt;exact At.x 0
       ·exact λh=>At.k 2 ⟨_,_,h,jr⟩
    ·apply rt;exact At.xs 0
  ·apply rt;exact At.r 3
def cD(N:Nat)(b1 b2:(List Int))(a2 a3:Int):Option (Int):=
 ae (cF (cond (a3==0) (a2 != 0) false) λx2=>
 cond x2 (some 2) (some a3)) λp1=>
 some p1
theorem eJ{N b1 b2 a2 a3 r}(h:cD N b1 b2 a2 a3=some r):FnM Tryz.prog 24 [.var (.st 2 [(eO 2 1 k8 b2),(j64 a3)]),.tail (b1.length*1),.tail (b2.length*1)] [(.ref 0 [] 0),(eO 1 1 k8 b1),(j64 a2)] (.tup []) [.var (.st 2 [(eO 1 1 k8 b1),(j64 r)]),.tail (b1.length*1),.dead]:=by
 unfold cD at h;refine At.f eF hT hmo Tryz.func24 rfl h ?_;refine At.mv 0 2 ?_;refine At.J 0 1 [0,1] 4 (λp1=>([],[(0,.var (.st 2 [(eO 3 1 k8 b2),(j64 p1)]))],[])) (λp1=>?_) λp1=>?_
 ·refine lx ?_;intro x2;refine At.c 9 ?_ ?_
  ·apply rt;exact At.jn 4
  ·apply rt;exact At.jn 0
 ·apply rt;exact At.z 5
def cO(N:Nat)(a2:(List Int))(a1:Int):Nat->(List Int)->Int->Int->Option (Sum ((List Int)×Int) ((List Int)×Int))
 | 0,_,_,_=>none
 | k+1,s2,s3,s4=>
  cF (decide (s4 < ((a2.length:Int)))) λx5=>
  cond x5 (
   ae (idx a2 s4) λe6=>
   cond (decide (e6 < 0)) (
    ae (dN N s2 2 s3) λr7=>
    some (Sum.inr (([],r7)))) (
    ae (eW N s2 a1 ([U64 e6])) λr8=>
    ae (cD N r8.1 s2 r8.2 s3) λr9=>
    cO N a2 a1 k r8.1 r9 (I64 (s4+1)))) (
   some (Sum.inl ((s2,s3))))
def aI(N:Nat)(b1:(List Int))(a1:Int)(a2:(List Int))(a3:Int):Option ((List Int)×Int):=
 ae (cO N a2 a1 N b1 a3 0) λo=>qK o (λp1=>
  some ((p1.1,p1.2))) (λr=>some r)
theorem aZ{N b1 a1 a2 a3 r}(h:aI N b1 a1 a2 a3=some r):FnM Tryz.prog 23 [.var (.st 2 [(eO 1 1 k8 b1),(j64 a3)]),.tail (b1.length*1)] [(.ref 0 [] 0),(j64 a1),(eL 1 j64 a2)] (.tup []) [.var (.st 2 [(eO 2 1 k8 r.1),(j64 r.2)]),.dead,.tail (r.1.length*1)]:=by
 unfold aI at h;refine At.fC eF hT hmo Tryz.func23 rfl h ?_;refine At.mv 0 1 ?_;refine At.LS 3 [] 3 (λp1=>([],[(0,.var (.st 2 [(eO 2 1 k8 p1.1),(j64 p1.2)])),(2,.tail (p1.1.length*1))],[])) (λop1 J k=>∃s2 s3 s4,cO N a2 a1 k s2 s3 s4=some op1/\J [0,1,8,9] 3 [(10,(j64 s4))] [(0,.var (.st 2 [(eO 2 1 k8 s2),(j64 s3)])),(2,.tail (s2.length*1))] []) N (λ_ h=>⟨_,_,_,h,jr⟩) (λop1 g1 k s hI=>?_) λp1=>?_
 ·obtain⟨s2,s3,s4,h,hj⟩:=hI;cases k with
  | zero=>cases h
  | succ k=>
   refine At.jr hj ?_ h;refine lx ?_;intro x5;refine At.c 1 ?_ ?_
   ·refine At.b 0 (λ_ e=>iF hT j64 e) λe6=>?_;refine At.c 4 ?_ ?_
    ·refine At.b 1 (λ_ e=>aQ [0,2] (jZ e)) λr7=>?_;intro e;apply aBL g1 e;exact At.rC 0 [(4,2)]
    ·refine At.o 8 (cP hT (x:=(.sl 1 1 [(k64 (U64 e6))]))) ?_;refine At.b 0 (λ_ e=>aQ [] (mU e)) λr8=>?_;refine At.b 2 (λ_ e=>aQ [0,3,2] (eJ e)) λr9=>?_;exact λh=>At.k 2 ⟨_,_,_,h,(aFk 3 2 (by kernel_rfl) jr)⟩
   ·apply rt;exact At.xs 0
 ·apply rt;exact At.zC 0 []
def fA(N:Nat)(a2:(List Int))(a1:Int):Nat->(List Int)->Int->Option (Sum ((List Int)) ((List Int)×Int))
 | 0,_,_=>none
 | k+1,s3,s4=>
  cF (decide (s4 < ((a2.length:Int)))) λx5=>
  cond x5 (
   ae (idx a2 s4) λe6=>
   cF (I64 (64 - (I64 (8*a1)))) λx7=>
   ae (aB3 .i64 e6 x7) λx8=>
   cF (I64 (64 - (I64 (8*a1)))) λx9=>
   ae (yC .i64 x8 x9) λx10=>
   cond (x10 != e6) (
    some (Sum.inr (([],3)))) (
    cF (I64 (64 - (I64 (8*a1)))) λx11=>
    ae (aB3 .u64 (U64 e6) x11) λx12=>
    cF (I64 (64 - (I64 (8*a1)))) λx13=>
    ae (yC .u64 x12 x13) λx14=>
    ae (pQ 8 s3 (([x14]:List Int))) λz15=>
    fA N a2 a1 k z15 (I64 (s4+1)))) (
   some (Sum.inl s3))
def dA(N:Nat)(a0:(List Int))(a1:Int)(a2:(List Int)):Option ((List Int)×Int):=
 cF (cond (decide (a1 < 1)) true (decide (a1 > 8))) λx1=>
 cond x1 (
  some (([],2))) (
  ae (fA N a2 a1 N [] 0) λo=>qK o (λp2=>
   ae (eW N a0 a1 p2) λr16=>
   some ((r16.1,r16.2))) (λr=>some r))
theorem kK{N a0 a1 a2 r}(h:dA N a0 a1 a2=some r):FnM Tryz.prog 15 [] [(eL 1 k8 a0),(j64 a1),(eL 1 j64 a2)] (.tup [(eO 0 1 k8 r.1),(j64 r.2)]) [.tail (r.1.length*1)]:=by
 unfold dA at h;refine At.f eF hT hmo Tryz.func15 rfl h ?_;refine lx ?_;intro x1;refine At.c 8 ?_ ?_
 ·refine At.ownn 2 6 1 ?_;apply rt;exact At.r 0
 ·refine At.ownn 4 8 1 ?_;refine At.LS 0 [0,1] 1 (λp2=>([(8,(eO 0 1 k64 p2))],[(0,.tail (p2.length*1))],[])) (λop2 J k=>∃s3 s4,fA N a2 a1 k s3 s4=some op2/\J [0,1,18,19] 1 [(8,(eO 0 1 k64 s3)),(20,(j64 s4))] [(0,.tail (s3.length*1))] []) N (λ_ h=>⟨_,_,h,jr⟩) (λop2 g2 k s hI=>?_) λp2=>?_
  ·obtain⟨s3,s4,h,hj⟩:=hI;cases k with
   | zero=>cases h
   | succ k=>
    refine At.jr hj ?_ h;refine lx ?_;intro x5;refine At.c 1 ?_ ?_
    ·refine At.b 0 (λ_ e=>iF hT j64 e) λe6=>?_;refine lx ?_;intro x7;refine At.b 6 (λ_ e=>tL hT (k' := .i64) e (by kernel_rfl) (by kernel_rfl)) λx8=>?_;refine lx ?_;intro x9;refine At.b 3 (λ_ e=>pJ hT (k' := .i64) e (by kernel_rfl) (by kernel_rfl)) λx10=>?_;refine At.c 4 ?_ ?_
     ·refine At.ownn 2 6 1 ?_;refine At.sw 0 1 0 ?_;intro e;apply aBL g2 e;exact At.r 0
     ·refine lx ?_;intro x11;refine At.b 6 (λ_ e=>tL hT (k' := .i64) e (by kernel_rfl) (by kernel_rfl)) λx12=>?_;refine lx ?_;intro x13;refine At.b 3 (λ_ e=>pJ hT (k' := .i64) e (by kernel_rfl) (by kernel_rfl)) λx14=>?_;refine At.o 0 (cP hT (x:=(.sl 1 1 [(k64 x14)]))) ?_;refine At.b 0 (λ_ e=>kM hT k64 (id:=0) (k:=1) e) λz15=>?_;exact λh=>At.k 3 ⟨_,_,h,jr⟩
    ·apply rt;exact At.xs 0
  ·refine At.b 3 (λ_ e=>aQ [] (mU e)) λr16=>?_;refine At.sw 4 1 0 ?_;apply rt;exact At.r 0
def cJ(N:Nat)(a1:(List aG)):Nat->(List Int)->Int->Int->Option ((List Int)×Int)
 | 0,_,_,_=>none
 | k+1,s2,s3,s4=>
  cF (decide (s4 < ((a1.length:Int)))) λx5=>
  cond x5 (
   ae (idx a1 s4) λe6=>
   ae (dA N s2 4 ([e6.gX,e6.gY,e6.gZ])) λr7=>
   ae (cD N r7.1 s2 r7.2 s3) λr8=>
   cJ N a1 k r7.1 r8 (I64 (s4+1))) (
   some ((s2,s3)))
def eK(N:Nat)(b1:(List Int))(a1:(List aG))(a2:Int):Option ((List Int)×Int):=
 ae (cJ N a1 N b1 a2 0) λp1=>
 some ((p1.1,p1.2))
theorem nG{N b1 a1 a2 r}(h:eK N b1 a1 a2=some r):FnM Tryz.prog 41 [.var (.st 2 [(eO 1 1 k8 b1),(j64 a2)]),.tail (b1.length*1)] [(.ref 0 [] 0),(eL 3 aG.enc a1)] (.tup []) [.var (.st 2 [(eO 2 1 k8 r.1),(j64 r.2)]),.dead,.tail (r.1.length*1)]:=by
 unfold eK at h;refine At.f eF hT hmo Tryz.func41 rfl h ?_;refine At.mv 0 1 ?_;refine At.L 3 [] 3 (λp1=>([],[(0,.var (.st 2 [(eO 2 1 k8 p1.1),(j64 p1.2)])),(2,.tail (p1.1.length*1))],[])) (λp1 J k=>∃s2 s3 s4,cJ N a1 k s2 s3 s4=some p1/\J [0,6,7] 3 [(8,(j64 s4))] [(0,.var (.st 2 [(eO 2 1 k8 s2),(j64 s3)])),(2,.tail (s2.length*1))] []) N (λ_ h=>⟨_,_,_,h,jr⟩) (λp1 k s hI=>?_) λp1=>?_
 ·obtain⟨s2,s3,s4,h,hj⟩:=hI;cases k with
  | zero=>cases h
  | succ k=>
   refine At.jr hj ?_ h;refine lx ?_;intro x5;refine At.c 1 ?_ ?_
   ·refine At.b 0 (λ_ e=>iF hT aG.enc e) λe6=>?_;refine bi λr7 hr7=>?_;refine bi λr8 hr8=>?_;refine At.d 3 (dE1 11 (λ_=>cP hT (x:=(.sl 1 3 [(j64 e6.gX),(j64 e6.gY),(j64 e6.gZ)]))) dE0) (dF 12 (.tup [(eO 4 1 k8 r7.1),(j64 r7.2)]) [] [.tail (r7.1.length*1)] (bT (aQ [] (kK hr7))) (dF 15 (.tup []) [(0,.var (.st 2 [(eO 4 1 k8 r7.1),(j64 r8)])),(2,.dead)] [] (bT (aQ [0,4,2] (eJ hr8))) dF0)) ?_;exact λh=>At.k 2 ⟨_,_,_,h,(aFk 4 2 (by kernel_rfl) jr)⟩
   ·apply rt;exact At.x 0
 ·apply rt;exact At.z 0
def pA : Nat->Bool:=imL [3]
def dU(N:Nat)(b1:(List Int))(a1:aD)(a2:Int):Option ((List Int)×Int):=
 ae (cond a1.gA6 (some 1) (some 0)) λp1=>
 ae (aI N b1 1 ([a1.gW,a1.gH,a1.gB2,a1.gB1,a1.gA9,p1]) a2) λr2=>
 ae (eW N r2.1 8 ([a1.gA3])) λr3=>
 ae (cD N r3.1 r2.1 r3.2 r2.2) λr4=>
 ae (eK N r3.1 ([a1.gD.gA5,a1.gD.gA2,a1.gD.gUp,a1.gD.gA1]) r4) λr5=>
 ae (aI N r5.1 4 ([a1.gD.gS,a1.gD.gR]) r5.2) λr6=>
 some ((r6.1,r6.2))
theorem oH{N b1 a1 a2 r}(h:dU N b1 a1 a2=some r):FnM Tryz.prog 25 [.var (.st 2 [(eO 1 1 k8 b1),(j64 a2)]),.tail (b1.length*1)] [(.ref 0 [] 0),(aD.enc a1)] (.tup []) [.var (.st 2 [(eO 5 1 k8 r.1),(j64 r.2)]),.dead,.dead,.dead,.dead,.tail (r.1.length*1)]:=by
 unfold dU at h;refine At.f pA hT hmo Tryz.func25 rfl h ?_;refine At.J 2 1 [0,3] 2 (λp1=>([(4,(j64 p1))],[],[])) (λp1=>?_) λp1=>?_
 ·refine At.c 2 ?_ ?_
  ·apply rt;exact At.jn 1
  ·apply rt;exact At.jn 0
 ·refine At.o 12 (cP hT (x:=(.sl 1 6 [(j64 a1.gW),(j64 a1.gH),(j64 a1.gB2),(j64 a1.gB1),(j64 a1.gA9),(j64 p1)]))) ?_;refine At.b 0 (λ_ e=>aQ [0,1] (aZ e)) λr2=>?_;refine bi λr3 hr3=>?_;refine bi λr4 hr4=>?_;refine At.d 0 (dE1 7 (λ_=>cP hT (x:=(.sl 1 1 [(k64 a1.gA3)]))) dE0) (dF 8 (.tup [(eO 3 1 k8 r3.1),(j64 r3.2)]) [] [.tail (r3.1.length*1)] (bT (aQ [] (mU hr3))) (dF 11 (.tup []) [(0,.var (.st 2 [(eO 3 1 k8 r3.1),(j64 r4)])),(2,.dead)] [] (bT (aQ [0,3,2] (eJ hr4))) dF0)) ?_;refine At.o 13 (cP hT (x:=(.sl 3 4 [(aG.enc a1.gD.gA5),(aG.enc a1.gD.gA2),(aG.enc a1.gD.gUp),(aG.enc a1.gD.gA1)]))) ?_;refine At.b 0 (λ_ e=>aQ [0,3] (nG e)) λr5=>?_;refine At.o 7 (cP hT (x:=(.sl 1 2 [(j64 a1.gD.gS),(j64 a1.gD.gR)]))) ?_;refine At.b 0 (λ_ e=>aQ [0,4] (aZ e)) λr6=>?_;apply rt;exact At.z 0
def qH : Nat->Bool:=imL [3]
def cW(N:Nat)(z10:(List Int)):Nat->(List Int)->Int->Int->Option ((List Int)×Int)
 | 0,_,_,_=>none
 | k+1,s12,s13,s14=>
  cF (decide (s14 < ((z10.length:Int)))) λx15=>
  cond x15 (
   ae (idx z10 s14) λe16=>
   ae (dA N s12 8 ([e16])) λr17=>
   ae (cD N r17.1 s12 r17.2 s13) λr18=>
   cW N z10 k r17.1 r18 (I64 (s14+1))) (
   some ((s12,s13)))
def aM(N:Nat)(b1:(List Int))(a1:aF)(a2:Int):Option ((List Int)×Int):=
 ae (aI N b1 1 ([a1.gE]) a2) λr1=>
 cond (a1.gE==1) (
  ae (aI N r1.1 4 ([a1.gQ]) r1.2) λr2=>
  cF ((a1.gL.length:Int)) λx3=>
  ae (aI N r2.1 2 ([x3]) r2.2) λr4=>
  ae (pQ 1 r4.1 a1.gL) λz5=>
  some ((z5,r4.2))) (
  cond (a1.gE==2) (
   ae (aI N r1.1 4 ([a1.gQ]) r1.2) λr6=>
   some ((r6.1,r6.2))) (
   ae (cond (a1.gE==3) (some (a1.gE==3)) (some (a1.gE==4))) λp7=>
   cond p7 (
    ae (aI N r1.1 4 ([a1.gC.gK,a1.gC.gI,a1.gC.gG,a1.gC.gN]) r1.2) λr8=>
    cond (a1.gE==4) (
     some ((r8.1,r8.2))) (
     ae (pQ 8 a1.gC.gT.gM.toList (([a1.gC.gT.gT.gX,a1.gC.gT.gT.gY,a1.gC.gT.gT.gZ]:List Int))) λz10=>
     ae (cW N z10 N r8.1 r8.2 0) λp11=>
     some ((p11.1,p11.2)))) (
    cond (a1.gE==5) (
     ae (aI N r1.1 1 ([a1.gF]) r1.2) λr19=>
     ae (dU N r19.1 a1.gB0 r19.2) λr20=>
     ae (aI N r20.1 2 ([a1.gA7]) r20.2) λr21=>
     some ((r21.1,r21.2))) (
     ae (cond (a1.gE==6) (some (a1.gE==6)) (some (a1.gE==9))) λp22=>
     cond p22 (
      ae (aI N r1.1 1 ([a1.gF]) r1.2) λr23=>
      some ((r23.1,r23.2))) (
      cond (a1.gE==7) (
       ae (aI N r1.1 1 ([a1.gF,a1.gJ]) r1.2) λr24=>
       ae (aI N r24.1 4 ([I64 a1.gA0,a1.gA4]) r24.2) λr25=>
       some ((r25.1,r25.2))) (
       cond (a1.gE==8) (
        ae (aI N r1.1 1 ([a1.gF,a1.gJ]) r1.2) λr26=>
        some ((r26.1,r26.2))) (
        cond (a1.gE==10) (
         ae (aI N r1.1 4 ([a1.gA8]) r1.2) λr27=>
         some ((r27.1,r27.2))) (
         ae (dN N r1.1 2 r1.2) λr28=>
         some (([],r28))))))))))
theorem pY{N b1 a1 a2 r}(h:aM N b1 a1 a2=some r):FnM Tryz.prog 13 [.var (.st 2 [(eO 1 1 k8 b1),(j64 a2)]),.tail (b1.length*1)] [(.ref 0 [] 0),(aF.enc a1)] (.tup []) [.var (.st 2 [(eO 4 1 k8 r.1),(j64 r.2)]),.dead,.dead,.dead,.tail (r.1.length*1)]:=by
 unfold aM at h;refine At.fC qH hT hmo Tryz.func13 rfl h ?_;refine At.o 4 (cP hT (x:=(.sl 1 1 [(j64 a1.gE)]))) ?_;refine At.b 0 (λ_ e=>aQ [0,1] (aZ e)) λr1=>?_;refine At.c 8 ?_ ?_
 ·refine At.o 3 (cP hT (x:=(.sl 1 1 [(j64 a1.gQ)]))) ?_;refine At.b 0 (λ_ e=>aQ [0,2] (aZ e)) λr2=>?_;refine lx ?_;intro x3;refine At.o 4 (cP hT (x:=(.sl 1 1 [(j64 x3)]))) ?_;refine At.b 0 (λ_ e=>aQ [0,4] (aZ e)) λr4=>?_;refine bi λz5 hz5=>?_;refine At.d 0 dE0 (dF 7 (eO 5 1 k8 z5) [(5,.tail (z5.length*1))] [] (bT (kM hT k8 (id:=5) (k:=1) hz5)) dF0) ?_;apply rt;exact At.zC 0 [(5,4)]
 ·refine At.c 2 ?_ ?_
  ·refine At.o 3 (cP hT (x:=(.sl 1 1 [(j64 a1.gQ)]))) ?_;refine At.b 0 (λ_ e=>aQ [0,2] (aZ e)) λr6=>?_;apply rt;exact At.zC 0 []
  ·refine At.J 0 1 [0,3,4,15] 4 (λp7=>([(48,(eB p7))],[],[])) (λp7=>?_) λp7=>?_
   ·refine At.c 2 ?_ ?_
    ·apply rt;exact At.jn 0
    ·apply rt;exact At.jn 2
   ·refine At.c 0 ?_ ?_
    ·refine At.o 9 (cP hT (x:=(.sl 1 4 [(j64 a1.gC.gK),(j64 a1.gC.gI),(j64 a1.gC.gG),(j64 a1.gC.gN)]))) ?_;refine At.b 0 (λ_ e=>aQ [0,2] (aZ e)) λr8=>?_;refine At.c 3 ?_ ?_
     ·apply rt;exact At.rC 0 []
     ·refine At.dr 0 [0,4,64] 5 ?_;refine At.gz 0 3 ((aO.enc a1.gC)) ?_;refine bi λz10 hz10=>?_;refine At.d 0 (dE1 15 (λ_=>cP hT (x:=(.sl 1 3 [(j64 a1.gC.gT.gT.gX),(j64 a1.gC.gT.gT.gY),(j64 a1.gC.gT.gT.gZ)]))) dE0) (dF 2 (eO 5 1 j64 a1.gC.gT.gM.toList) [] [.tail (a1.gC.gT.gM.toList.length*1)] (bT (aGV hT (N:=9) (k:=1) j64 a1.gC.gT.gM (by kernel_rfl) (by kernel_rfl))) (dF 16 (eO 5 1 j64 z10) [(5,.tail (z10.length*1))] [] (bT (kM hT j64 (id:=5) (k:=1) hz10)) dF0)) ?_;refine At.L 0 [] 6 (λp11=>([],[(0,.var (.st 2 [(eO 4 1 k8 p11.1),(j64 p11.2)])),(4,.tail (p11.1.length*1))],[])) (λp11 J k=>∃s12 s13 s14,cW N z10 k s12 s13 s14=some p11/\J [0,81,82] 6 [(83,(j64 s14))] [(0,.var (.st 2 [(eO 4 1 k8 s12),(j64 s13)])),(4,.tail (s12.length*1))] []) N (λ_ h=>⟨_,_,_,h,jr⟩) (λp11 k s hI=>?_) λp11=>?_
      ·obtain⟨s12,s13,s14,h,hj⟩:=hI;cases k with
       | zero=>cases h
       | succ k=>
        refine At.jr hj ?_ h;refine lx ?_;intro x15;refine At.c 1 ?_ ?_
        ·refine At.b 0 (λ_ e=>iF hT j64 e) λe16=>?_;refine At.o 8 (cP hT (x:=(.sl 1 1 [(j64 e16)]))) ?_;refine At.b 0 (λ_ e=>aQ [] (kK e)) λr17=>?_;refine At.b 2 (λ_ e=>aQ [0,6,4] (eJ e)) λr18=>?_;exact λh=>At.k 2 ⟨_,_,_,h,(aFk 6 4 (by kernel_rfl) jr)⟩
        ·apply rt;exact At.x 0
      ·apply rt;exact At.zC 0 []
    ·refine At.c 2 ?_ ?_
     ·refine At.o 3 (cP hT (x:=(.sl 1 1 [(j64 a1.gF)]))) ?_;refine At.b 0 (λ_ e=>aQ [0,2] (aZ e)) λr19=>?_;refine At.b 3 (λ_ e=>aQ [0,4] (oH e)) λr20=>?_;refine At.o 3 (cP hT (x:=(.sl 1 1 [(j64 a1.gA7)]))) ?_;refine At.b 0 (λ_ e=>aQ [0,8] (aZ e)) λr21=>?_;apply rt;exact At.zC 0 [(9,4)]
     ·refine At.J 0 1 [0,3,15] 4 (λp22=>([(115,(eB p22))],[],[])) (λp22=>?_) λp22=>?_
      ·refine At.c 2 ?_ ?_
       ·apply rt;exact At.jn 0
       ·apply rt;exact At.jn 2
      ·refine At.c 0 ?_ ?_
       ·refine At.o 3 (cP hT (x:=(.sl 1 1 [(j64 a1.gF)]))) ?_;refine At.b 0 (λ_ e=>aQ [0,2] (aZ e)) λr23=>?_;apply rt;exact At.zC 0 []
       ·refine At.c 2 ?_ ?_
        ·refine At.o 5 (cP hT (x:=(.sl 1 2 [(j64 a1.gF),(j64 a1.gJ)]))) ?_;refine At.b 0 (λ_ e=>aQ [0,2] (aZ e)) λr24=>?_;refine At.o 6 (cP hT (x:=(.sl 1 2 [(j64 (I64 a1.gA0)),(j64 a1.gA4)]))) ?_;refine At.b 0 (λ_ e=>aQ [0,4] (aZ e)) λr25=>?_;apply rt;exact At.zC 0 [(5,4)]
        ·refine At.c 2 ?_ ?_
         ·refine At.o 5 (cP hT (x:=(.sl 1 2 [(j64 a1.gF),(j64 a1.gJ)]))) ?_;refine At.b 0 (λ_ e=>aQ [0,2] (aZ e)) λr26=>?_;apply rt;exact At.zC 0 []
         ·refine At.c 2 ?_ ?_
          ·refine At.o 3 (cP hT (x:=(.sl 1 1 [(j64 a1.gA8)]))) ?_;refine At.b 0 (λ_ e=>aQ [0,2] (aZ e)) λr27=>?_;apply rt;exact At.zC 0 []
          ·refine At.b 1 (λ_ e=>aQ [0,2] (jZ e)) λr28=>?_;apply rt;exact At.zC 0 [(5,4)]
def cT(N:Nat)(a0:(List aF)):Nat->(List Int)->Int->Option (Sum ((List Int)) ((List Int)×Int))
 | 0,_,_=>none
 | k+1,s3,s4=>
  cF (decide (s4 < ((a0.length:Int)))) λx5=>
  cond x5 (
   ae (idx a0 s4) λe6=>
   ae (aM N [] e6 0) λr7=>
   cond (r7.2 != 0) (
    some (Sum.inr (([],r7.2)))) (
    ae (pQ 1 s3 r7.1) λz8=>
    cT N a0 k z8 (I64 (s4+1)))) (
   some (Sum.inl s3))
def cV(N:Nat)(a0:(List aF)):Option ((List Int)×Int):=
 cF (decide (((a0.length:Int)) > 256)) λx1=>
 cond x1 (
  some (([],3))) (
  ae (cT N a0 N [] 0) λo=>qK o (λp2=>
   cF (decide (((p2.length:Int)) > 65536)) λx9=>
   cond x9 (some (([],3))) (some ((p2,0)))) (λr=>some r))
theorem lU{N a0 r}(h:cV N a0=some r):FnM Tryz.prog 5 [] [(eL 46 aF.enc a0)] (.tup [(eL 1 k8 r.1),(j64 r.2)]) []:=by
 unfold cV at h;refine At.f eF hT hmo Tryz.func5 rfl h ?_;refine lx ?_;intro x1;refine At.c 5 ?_ ?_
 ·apply rt;exact At.r 2
 ·refine At.ownn 4 4 1 ?_;refine At.LS 0 [] 1 (λp2=>([(4,(eO 0 1 k8 p2))],[(0,.tail (p2.length*1))],[])) (λop2 J k=>∃s3 s4,cT N a0 k s3 s4=some op2/\J [11,12] 1 [(4,(eO 0 1 k8 s3)),(13,(j64 s4))] [(0,.tail (s3.length*1))] []) N (λ_ h=>⟨_,_,h,jr⟩) (λop2 g2 k s hI=>?_) λp2=>?_
  ·obtain⟨s3,s4,h,hj⟩:=hI;cases k with
   | zero=>cases h
   | succ k=>
    refine At.jr hj ?_ h;refine lx ?_;intro x5;refine At.c 1 ?_ ?_
    ·refine At.b 0 (λ_ e=>iF hT aF.enc e) λe6=>?_;refine At.ownb 8 2 1 [0] ?_;refine At.b 0 (λ_ e=>aQ [2,3] (pY e)) λr7=>?_;refine At.c 5 ?_ ?_
     ·refine At.d 0 dE0 dF0 ?_;intro e;apply aBL g2 e;exact At.r 0
     ·refine At.b 5 (λ_ e=>kM hT k8 (id:=0) (k:=1) e) λz8=>?_;exact λh=>At.k 3 ⟨_,_,h,jr⟩
    ·apply rt;exact At.xs 0
  ·refine lx ?_;intro x9;refine At.c 3 ?_ ?_
   ·apply rt;exact At.r 2
   ·apply rt;exact At.r 3
def iC(N:Nat)(a0 a1:(List Int)):Option (Bool):=
 cF (ByteArray.toList (aBW a0)==ByteArray.toList (aBW a1)) λx1=>
 some x1
theorem qQ{N a0 a1 r}(h:iC N a0 a1=some r):FnM Tryz.prog 7 [] [(eL 1 k8 a0),(eL 1 k8 a1)] (eB r) []:=by
 unfold iC at h;refine At.f eF hT hmo Tryz.func7 rfl h ?_;refine At.o 2 (aCz hT a0 (v:=(eL 1 k8 a0)) (e:=5) (by kernel_rfl) (by kernel_rfl) (by kernel_rfl)) ?_;refine At.o 1 (aCz hT a1 (v:=(eL 1 k8 a1)) (e:=5) (by kernel_rfl) (by kernel_rfl) (by kernel_rfl)) ?_;refine lx ?_;intro x1;apply rt;exact At.r 2
def wF : Nat->Bool:=imL [1]
def kO(N:Nat)(s2:(List Int)):Nat->(List Int)->Int->Option ((List Int))
 | 0,_,_=>none
 | k+1,s4,s5=>
  cF (decide (s5 < ((s2.length:Int)))) λx6=>
  cond x6 (
   ae (idx s2 s5) λe7=>
   ae (dA N s4 8 ([e7])) λr8=>
   kO N s2 k r8.1 (I64 (s5+1))) (
   some s4)
def kJ(N:Nat)(a0:dC):Option ((List Int)):=
 cF ((a0.gB7.length:Int)) λx1=>
 ae (nN a0.gB7 0 (aAp x1 255)) λs2=>
 ae (kO N s2 N ([U8 a0.gB4,U8 ((s2.length:Int))]) 0) λp3=>
 cF ((a0.gB8.length:Int)) λx9=>
 ae (eW N p3 4 ([U64 x9])) λr10=>
 ae (pQ 1 r10.1 a0.gB8) λz11=>
 some z11
theorem oW{N a0 r}(h:kJ N a0=some r):FnM Tryz.prog 8 [] [(dC.enc a0)] (eL 1 k8 r) []:=by
 unfold kJ at h;refine At.f wF hT hmo Tryz.func8 rfl h ?_;refine lx ?_;intro x1;refine At.b 8 (λ_ e=>pZ hT (k:=1) j64 e) λs2=>?_;refine At.o 7 (cP hT (x:=(.sl 1 2 [(k8 (U8 a0.gB4)),(k8 (U8 ((s2.length:Int))))]))) ?_;refine At.L 4 [1] 0 (λp3=>([(4,(eL 1 k8 p3))],[],[])) (λp3 J k=>∃s4 s5,kO N s2 k s4 s5=some p3/\J [1,21,22] 0 [(4,(eL 1 k8 s4)),(23,(j64 s5))] [] []) N (λ_ h=>⟨_,_,h,jr⟩) (λp3 k s hI=>?_) λp3=>?_
 ·obtain⟨s4,s5,h,hj⟩:=hI;cases k with
  | zero=>cases h
  | succ k=>
   refine At.jr hj ?_ h;refine lx ?_;intro x6;refine At.c 1 ?_ ?_
   ·refine At.b 0 (λ_ e=>iF hT j64 e) λe7=>?_;refine At.o 4 (cP hT (x:=(.sl 1 1 [(j64 e7)]))) ?_;refine At.b 0 (λ_ e=>aQ [] (kK e)) λr8=>?_;exact λh=>At.k 6 ⟨_,_,h,jr⟩
   ·apply rt;exact At.x 0
 ·refine lx ?_;intro x9;refine At.o 5 (cP hT (x:=(.sl 1 1 [(k64 (U64 x9))]))) ?_;refine At.b 0 (λ_ e=>aQ [] (mU e)) λr10=>?_;refine At.b 7 (λ_ e=>kM hT k8 (id:=0) (k:=1) e) λz11=>?_;apply rt;exact At.r 1
def mA(N:Nat)(a0:(List Int)):Option ((List Int)):=
 ae (cX N a0) λr1=>
 some r1
theorem aAq{N a0 r}(h:mA N a0=some r):FnM Tryz.prog 20 [] [(eL 1 k8 a0)] (.ref 1 [] 0) [.tail (r.length*1),.var (.st 3 [(eO 0 1 k8 r),(j64 0),(eB true)])]:=by
 unfold mA at h;refine At.f eF hT hmo Tryz.func20 rfl h ?_;refine At.b 2 (λ_ e=>aQ [] (kA e)) λr1=>?_;apply rt;exact At.r 3
def dK(N:Nat)(a0:aA):Option (Bool):=
 some (!a0.gB3)
theorem iS{N a0 r}(h:dK N a0=some r):FnM Tryz.prog 33 [.var (aA.enc a0)] [(.ref 0 [] 0)] (eB r) [.var (aA.enc a0)]:=by
 unfold dK at h;refine At.f eF hT hmo Tryz.func33 rfl h ?_;refine At.o 2 (pP hT (t:=72) (x:=(.ref 0 [] 0)) (b:=true) (by kernel_rfl) rfl rfl (by kernel_rfl)) ?_;refine At.g [5] 8 ?_;apply rt;exact At.r 0
def eP(N:Nat)(a0:aA):Option (Int):=
 ae (dK N a0) λr1=>
 cF (cond r1 true (a0.ge != 0)) λx2=>
 cond x2 (some 0) (some ((a0.gb.length:Int)))
theorem kZ{N a0 r}(h:eP N a0=some r):FnM Tryz.prog 21 [.var (aA.enc a0)] [(.ref 0 [] 0)] (j64 r) [.var (aA.enc a0)]:=by
 unfold eP at h;refine At.f eF hT hmo Tryz.func21 rfl h ?_;refine At.b 2 (λ_ e=>aQ [0] (iS e)) λr1=>?_;refine lx ?_;intro x2;refine At.c 7 ?_ ?_
 ·apply rt;exact At.r 1
 ·apply rt;exact At.r 6
def bA(N:Nat)(a0:Int)(a1:aA):Option (aA×(List Int)):=
 ae (dK N a1) λr1=>
 cF (cond r1 true (a1.ge != 0)) λx2=>
 cond x2 (
  some ((a1,[]))) (
  cond (decide (a0 < 0)) (
   some ((aA.mk a1.gb 2 a1.gB3,[]))) (
   cF (decide (a0 > ((a1.gb.length:Int)))) λx3=>
   cond x3 (
    some ((aA.mk a1.gb 4 a1.gB3,[]))) (
    ae (aAC a1.gb 0 a0 a0) λs4=>
    ae (nN a1.gb a0 ((a1.gb.length:Int))) λs5=>
    some ((aA.mk s5 a1.ge a1.gB3,s4)))))
theorem kR{N a0 a1 r}(h:bA N a0 a1=some r):FnM Tryz.prog 35 [.var (aA.enc a1)] [(.ref 0 [] 0),(j64 a0)] (eL 1 k8 r.2) [.var (aA.enc r.1)]:=by
 unfold bA at h;refine At.f eF hT hmo Tryz.func35 rfl h ?_;refine At.b 2 (λ_ e=>aQ [0] (iS e)) λr1=>?_;refine lx ?_;intro x2;refine At.c 8 ?_ ?_
 ·apply rt;exact At.r 1
 ·refine At.c 3 ?_ ?_
  ·apply rt;exact At.r 5
  ·refine lx ?_;intro x3;refine At.c 8 ?_ ?_
   ·apply rt;exact At.r 5
   ·refine At.b 6 (λ_ e=>aFF hT (k:=1) k8 e (by kernel_rfl) (by kernel_rfl)) λs4=>?_;refine At.b 7 (λ_ e=>pZ hT (k:=1) k8 e) λs5=>?_;apply rt;exact At.r 5
def bQ(N:Nat)(r3:aA×(List Int)):Nat->Int->Int->Option (Int)
 | 0,_,_=>none
 | k+1,s5,s6=>
  cF (decide (s6 < ((r3.2.length:Int)))) λx7=>
  cond x7 (
   ae (idx r3.2 s6) λe8=>
   ae (aB3 .u64 (U64 e8) (I64 (8*s6))) λx9=>
   bQ N r3 k (bor .u64 s5 x9) (I64 (s6+1))) (
   some s5)
def aX(N:Nat)(a0:Int)(a1:aA):Option (aA×Int):=
 ae (cF (cond (decide (a0 < 1)) true (decide (a0 > 8))) λx2=>
 cond x2 (some (-1)) (some a0)) λp1=>
 ae (bA N p1 a1) λr3=>
 ae (bQ N r3 N 0 0) λp4=>
 some ((r3.1,p4))
theorem fH{N a0 a1 r}(h:aX N a0 a1=some r):FnM Tryz.prog 39 [.var (aA.enc a1)] [(.ref 0 [] 0),(j64 a0)] (k64 r.2) [.var (aA.enc r.1)]:=by
 unfold aX at h;refine At.f eF hT hmo Tryz.func39 rfl h ?_;refine At.J 1 1 [0] 1 (λp1=>([(1,(j64 p1))],[],[])) (λp1=>?_) λp1=>?_
 ·refine lx ?_;intro x2;refine At.c 6 ?_ ?_
  ·apply rt;exact At.jn 1
  ·apply rt;exact At.jn 0
 ·refine At.b 3 (λ_ e=>aQ [0] (kR e)) λr3=>?_;refine At.L 2 [] 1 (λp4=>([(5,(k64 p4))],[],[])) (λp4 J k=>∃s5 s6,bQ N r3 k s5 s6=some p4/\J [16,17] 1 [(5,(k64 s5)),(18,(j64 s6))] [] []) N (λ_ h=>⟨_,_,h,jr⟩) (λp4 k s hI=>?_) λp4=>?_
  ·obtain⟨s5,s6,h,hj⟩:=hI;cases k with
   | zero=>cases h
   | succ k=>
    refine At.jr hj ?_ h;refine lx ?_;intro x7;refine At.c 1 ?_ ?_
    ·refine At.b 1 (λ_ e=>iF hT k8 e) λe8=>?_;refine At.b 8 (λ_ e=>tL hT (k' := .i64) e (by kernel_rfl) (by kernel_rfl)) λx9=>?_;exact λh=>At.k 4 ⟨_,_,h,jr⟩
    ·apply rt;exact At.x 0
  ·apply rt;exact At.r 2
def aB(N:Nat)(a0:Int)(a1:aA):Option (aA×Int):=
 ae (aX N a0 a1) λr1=>
 some ((r1.1,I64 r1.2))
theorem aK{N a0 a1 r}(h:aB N a0 a1=some r):FnM Tryz.prog 34 [.var (aA.enc a1)] [(.st 1 [(.ref 0 [] 0)]),(j64 a0)] (j64 r.2) [.var (aA.enc r.1)]:=by
 unfold aB at h;refine At.f eF hT hmo Tryz.func34 rfl h ?_;refine At.b 5 (λ_ e=>aQ [0] (fH e)) λr1=>?_;apply rt;exact At.r 2
def bD(N:Nat)(a0:aA):Option (aA×aO):=
 ae (aB N 4 a0) λr1=>
 ae (aB N 4 r1.1) λr2=>
 ae (aB N 4 r2.1) λr3=>
 ae (aB N 4 r3.1) λr4=>
 some ((r4.1,aO.mk r1.2 r2.2 r3.2 r4.2 (aY.mk (am 9 0) (bS.mk 0 0 0))))
theorem jP{N a0 r}(h:bD N a0=some r):FnM Tryz.prog 36 [.var (aA.enc a0)] [(.st 1 [(.ref 0 [] 0)])] (aO.enc r.2) [.var (aA.enc r.1)]:=by
 unfold bD at h;refine At.f eF hT hmo Tryz.func36 rfl h ?_;refine bi λr1 hr1=>?_;refine bi λr2 hr2=>?_;refine bi λr3 hr3=>?_;refine bi λr4 hr4=>?_;refine At.d 2 dE0 (dF 1 (j64 r1.2) [(0,.var (aA.enc r1.1))] [] (bT (aQ [0] (aK hr1))) (dF 3 (j64 r2.2) [(0,.var (aA.enc r2.1))] [] (bT (aQ [0] (aK hr2))) (dF 5 (j64 r3.2) [(0,.var (aA.enc r3.1))] [] (bT (aQ [0] (aK hr3))) (dF 7 (j64 r4.2) [(0,.var (aA.enc r4.1))] [] (bT (aQ [0] (aK hr4))) dF0)))) ?_;apply rt;exact At.r 0
def aV(N:Nat)(a0:Int)(a1:aA):Option (aA×Int):=
 ae (aX N a0 a1) λr1=>
 cF (cond (decide (a0 < 1)) true (decide (a0 > 8))) λx2=>
 cond x2 (
  some ((r1.1,0))) (
  cF (I64 (64 - (I64 (8*a0)))) λx3=>
  ae (aB3 .i64 (I64 r1.2) x3) λx4=>
  cF (I64 (64 - (I64 (8*a0)))) λx5=>
  ae (yC .i64 x4 x5) λx6=>
  some ((r1.1,x6)))
theorem fF{N a0 a1 r}(h:aV N a0 a1=some r):FnM Tryz.prog 54 [.var (aA.enc a1)] [(.ref 0 [] 0),(j64 a0)] (j64 r.2) [.var (aA.enc r.1)]:=by
 unfold aV at h;refine At.f eF hT hmo Tryz.func54 rfl h ?_;refine At.b 3 (λ_ e=>aQ [0] (fH e)) λr1=>?_;refine lx ?_;intro x2;refine At.c 7 ?_ ?_
 ·apply rt;exact At.r 1
 ·refine lx ?_;intro x3;refine At.b 5 (λ_ e=>tL hT (k' := .i64) e (by kernel_rfl) (by kernel_rfl)) λx4=>?_;refine lx ?_;intro x5;refine At.b 3 (λ_ e=>pJ hT (k' := .i64) e (by kernel_rfl) (by kernel_rfl)) λx6=>?_;apply rt;exact At.r 1
def aU(N:Nat)(a0:Int):Nat->(List Int)->aA->Int->Option ((List Int)×aA)
 | 0,_,_,_=>none
 | k+1,s2,s3,s4=>
  cond (decide (s4 < a0)) (
   ae (aV N 8 s3) λr5=>
   ae (pQ 8 s2 (([r5.2]:List Int))) λz6=>
   aU N a0 k z6 r5.1 (I64 (s4+1))) (
   some ((s2,s3)))
def bH(N:Nat)(a0:Int)(a1:aA):Option (aA×(List Int)):=
 ae (aU N a0 N [] a1 0) λp1=>
 some ((p1.2,p1.1))
theorem mJ{N a0 a1 r}(h:bH N a0 a1=some r):FnM Tryz.prog 37 [.var (aA.enc a1)] [(.st 1 [(.ref 0 [] 0)]),(j64 a0)] (eL 1 j64 r.2) [.var (aA.enc r.1)]:=by
 unfold bH at h;refine At.f eF hT hmo Tryz.func37 rfl h ?_;refine At.ownn 5 5 1 ?_;refine At.L 0 [] 3 (λp1=>([(5,(eO 2 1 j64 p1.1))],[(0,.var (aA.enc p1.2)),(2,.tail (p1.1.length*1))],[])) (λp1 J k=>∃s2 s3 s4,aU N a0 k s2 s3 s4=some p1/\J [2,6] 3 [(5,(eO 2 1 j64 s2)),(7,(j64 s4))] [(0,.var (aA.enc s3)),(2,.tail (s2.length*1))] []) N (λ_ h=>⟨_,_,_,h,jr⟩) (λp1 k s hI=>?_) λp1=>?_
 ·obtain⟨s2,s3,s4,h,hj⟩:=hI;cases k with
  | zero=>cases h
  | succ k=>
   refine At.jr hj ?_ h;refine At.c 1 ?_ ?_
   ·refine At.b 3 (λ_ e=>aQ [0] (fF e)) λr5=>?_;refine At.o 0 (cP hT (x:=(.sl 1 1 [(j64 r5.2)]))) ?_;refine At.b 0 (λ_ e=>kM hT j64 (id:=2) (k:=1) e) λz6=>?_;exact λh=>At.k 3 ⟨_,_,_,h,jr⟩
   ·apply rt;exact At.x 0
 ·apply rt;exact At.r 2
def aR(N:Nat)(a0:aA):Option (aA×aG):=
 ae (aV N 4 a0) λr1=>
 ae (aV N 4 r1.1) λr2=>
 ae (aV N 4 r2.1) λr3=>
 some ((r3.1,aG.mk r1.2 r2.2 r3.2))
theorem dW{N a0 r}(h:aR N a0=some r):FnM Tryz.prog 55 [.var (aA.enc a0)] [(.st 1 [(.ref 0 [] 0)])] (aG.enc r.2) [.var (aA.enc r.1)]:=by
 unfold aR at h;refine At.f eF hT hmo Tryz.func55 rfl h ?_;refine bi λr1 hr1=>?_;refine bi λr2 hr2=>?_;refine bi λr3 hr3=>?_;refine At.d 2 dE0 (dF 2 (j64 r1.2) [(0,.var (aA.enc r1.1))] [] (bT (aQ [0] (fF hr1))) (dF 5 (j64 r2.2) [(0,.var (aA.enc r2.1))] [] (bT (aQ [0] (fF hr2))) (dF 8 (j64 r3.2) [(0,.var (aA.enc r3.1))] [] (bT (aQ [0] (fF hr3))) dF0))) ?_;apply rt;exact At.r 0
def bN(N:Nat)(a0:aA):Option (aA×aD×Bool):=
 ae (aB N 1 a0) λr1=>
 ae (aB N 1 r1.1) λr2=>
 ae (aB N 1 r2.1) λr3=>
 ae (aB N 1 r3.1) λr4=>
 ae (aB N 1 r4.1) λr5=>
 ae (aB N 1 r5.1) λr6=>
 ae (aX N 8 r6.1) λr7=>
 ae (aR N r7.1) λr8=>
 ae (aR N r8.1) λr9=>
 ae (aR N r9.1) λr10=>
 ae (aR N r10.1) λr11=>
 ae (aB N 4 r11.1) λr12=>
 ae (aB N 4 r12.1) λr13=>
 some ((r13.1,aD.mk r1.2 r2.2 r3.2 r4.2 r5.2 r7.2 (bC.mk r8.2 r9.2 r10.2 r11.2 r12.2 r13.2) (r6.2==1),decide (r6.2<=1)))
theorem nH{N a0 r}(h:bN N a0=some r):FnM Tryz.prog 38 [.var (aA.enc a0)] [(.st 1 [(.ref 0 [] 0)])] (.tup [(aD.enc r.2.1),(eB r.2.2)]) [.var (aA.enc r.1)]:=by
 unfold bN at h;refine At.f eF hT hmo Tryz.func38 rfl h ?_;refine bi λr1 hr1=>?_;refine bi λr2 hr2=>?_;refine bi λr3 hr3=>?_;refine bi λr4 hr4=>?_;refine bi λr5 hr5=>?_;refine At.d2 3 [false] dC0 (dS1 1 ⟨(j64 r1.2),[(0,.var (aA.enc r1.1))]⟩ [[.var (aA.enc a0),.var (.st 1 [(.ref 0 [] 0)]),.var eQ,.dead],[.var (aA.enc a0),.var (.st 1 [(.ref 0 [] 0)]),.var eQ,.var eQ]] ⟨bT (aQ [0] (aK hr1)),bT (aQ [0] (aK hr1)),trivial⟩ (dS1 3 ⟨(j64 r2.2),[(0,.var (aA.enc r2.1))]⟩ [[.var (aA.enc r1.1),.var (.st 1 [(.ref 0 [] 0)]),.var eQ,.dead],[.var (aA.enc r1.1),.var (.st 1 [(.ref 0 [] 0)]),.var eQ,.var eQ]] ⟨bT (aQ [0] (aK hr2)),bT (aQ [0] (aK hr2)),trivial⟩ (dS1 5 ⟨(j64 r3.2),[(0,.var (aA.enc r3.1))]⟩ [[.var (aA.enc r2.1),.var (.st 1 [(.ref 0 [] 0)]),.var eQ,.dead],[.var (aA.enc r2.1),.var (.st 1 [(.ref 0 [] 0)]),.var eQ,.var eQ]] ⟨bT (aQ [0] (aK hr3)),bT (aQ [0] (aK hr3)),trivial⟩ (dS1 7 ⟨(j64 r4.2),[(0,.var (aA.enc r4.1))]⟩ [[.var (aA.enc r3.1),.var (.st 1 [(.ref 0 [] 0)]),.var eQ,.dead],[.var (aA.enc r3.1),.var (.st 1 [(.ref 0 [] 0)]),.var eQ,.var eQ]] ⟨bT (aQ [0] (aK hr4)),bT (aQ [0] (aK hr4)),trivial⟩ (dS1 9 ⟨(j64 r5.2),[(0,.var (aA.enc r5.1))]⟩ [[.var (aA.enc r4.1),.var (.st 1 [(.ref 0 [] 0)]),.var eQ,.dead],[.var (aA.enc r4.1),.var (.st 1 [(.ref 0 [] 0)]),.var eQ,.var eQ]] ⟨bT (aQ [0] (aK hr5)),bT (aQ [0] (aK hr5)),trivial⟩ (dS1 11 ⟨(.ref 3 [] 0),[(3,.var eQ)]⟩ [[.var (aA.enc a0),.var (.st 1 [(.ref 0 [] 0)]),.var eQ,.dead],[.var (aA.enc r5.1),.var (.st 1 [(.ref 0 [] 0)]),.var eQ,.dead],[.var (aA.enc r4.1),.var (.st 1 [(.ref 0 [] 0)]),.var eQ,.dead],[.var (aA.enc r5.1),.var (.st 1 [(.ref 0 [] 0)]),.var eQ,.dead],[.var (aA.enc r3.1),.var (.st 1 [(.ref 0 [] 0)]),.var eQ,.dead],[.var (aA.enc r5.1),.var (.st 1 [(.ref 0 [] 0)]),.var eQ,.dead],[.var (aA.enc r4.1),.var (.st 1 [(.ref 0 [] 0)]),.var eQ,.dead],[.var (aA.enc r5.1),.var (.st 1 [(.ref 0 [] 0)]),.var eQ,.dead],[.var (aA.enc r2.1),.var (.st 1 [(.ref 0 [] 0)]),.var eQ,.dead],[.var (aA.enc r5.1),.var (.st 1 [(.ref 0 [] 0)]),.var eQ,.dead],[.var (aA.enc r4.1),.var (.st 1 [(.ref 0 [] 0)]),.var eQ,.dead],[.var (aA.enc r5.1),.var (.st 1 [(.ref 0 [] 0)]),.var eQ,.dead],[.var (aA.enc r3.1),.var (.st 1 [(.ref 0 [] 0)]),.var eQ,.dead],[.var (aA.enc r5.1),.var (.st 1 [(.ref 0 [] 0)]),.var eQ,.dead],[.var (aA.enc r4.1),.var (.st 1 [(.ref 0 [] 0)]),.var eQ,.dead],[.var (aA.enc r5.1),.var (.st 1 [(.ref 0 [] 0)]),.var eQ,.dead],[.var (aA.enc r1.1),.var (.st 1 [(.ref 0 [] 0)]),.var eQ,.dead],[.var (aA.enc r5.1),.var (.st 1 [(.ref 0 [] 0)]),.var eQ,.dead],[.var (aA.enc r4.1),.var (.st 1 [(.ref 0 [] 0)]),.var eQ,.dead],[.var (aA.enc r5.1),.var (.st 1 [(.ref 0 [] 0)]),.var eQ,.dead],[.var (aA.enc r3.1),.var (.st 1 [(.ref 0 [] 0)]),.var eQ,.dead],[.var (aA.enc r5.1),.var (.st 1 [(.ref 0 [] 0)]),.var eQ,.dead],[.var (aA.enc r4.1),.var (.st 1 [(.ref 0 [] 0)]),.var eQ,.dead],[.var (aA.enc r5.1),.var (.st 1 [(.ref 0 [] 0)]),.var eQ,.dead],[.var (aA.enc r2.1),.var (.st 1 [(.ref 0 [] 0)]),.var eQ,.dead],[.var (aA.enc r5.1),.var (.st 1 [(.ref 0 [] 0)]),.var eQ,.dead],[.var (aA.enc r4.1),.var (.st 1 [(.ref 0 [] 0)]),.var eQ,.dead],[.var (aA.enc r5.1),.var (.st 1 [(.ref 0 [] 0)]),.var eQ,.dead],[.var (aA.enc r3.1),.var (.st 1 [(.ref 0 [] 0)]),.var eQ,.dead],[.var (aA.enc r5.1),.var (.st 1 [(.ref 0 [] 0)]),.var eQ,.dead],[.var (aA.enc r4.1),.var (.st 1 [(.ref 0 [] 0)]),.var eQ,.dead],[.var (aA.enc r5.1),.var (.st 1 [(.ref 0 [] 0)]),.var eQ,.dead]] ⟨bK hT 3 (by kernel_rfl) (by kernel_rfl) (by kernel_rfl),bK hT 3 (by kernel_rfl) (by kernel_rfl) (by kernel_rfl),bK hT 3 (by kernel_rfl) (by kernel_rfl) (by kernel_rfl),bK hT 3 (by kernel_rfl) (by kernel_rfl) (by kernel_rfl),bK hT 3 (by kernel_rfl) (by kernel_rfl) (by kernel_rfl),bK hT 3 (by kernel_rfl) (by kernel_rfl) (by kernel_rfl),bK hT 3 (by kernel_rfl) (by kernel_rfl) (by kernel_rfl),bK hT 3 (by kernel_rfl) (by kernel_rfl) (by kernel_rfl),bK hT 3 (by kernel_rfl) (by kernel_rfl) (by kernel_rfl),bK hT 3 (by kernel_rfl) (by kernel_rfl) (by kernel_rfl),bK hT 3 (by kernel_rfl) (by kernel_rfl) (by kernel_rfl),bK hT 3 (by kernel_rfl) (by kernel_rfl) (by kernel_rfl),bK hT 3 (by kernel_rfl) (by kernel_rfl) (by kernel_rfl),bK hT 3 (by kernel_rfl) (by kernel_rfl) (by kernel_rfl),bK hT 3 (by kernel_rfl) (by kernel_rfl) (by kernel_rfl),bK hT 3 (by kernel_rfl) (by kernel_rfl) (by kernel_rfl),bK hT 3 (by kernel_rfl) (by kernel_rfl) (by kernel_rfl),bK hT 3 (by kernel_rfl) (by kernel_rfl) (by kernel_rfl),bK hT 3 (by kernel_rfl) (by kernel_rfl) (by kernel_rfl),bK hT 3 (by kernel_rfl) (by kernel_rfl) (by kernel_rfl),bK hT 3 (by kernel_rfl) (by kernel_rfl) (by kernel_rfl),bK hT 3 (by kernel_rfl) (by kernel_rfl) (by kernel_rfl),bK hT 3 (by kernel_rfl) (by kernel_rfl) (by kernel_rfl),bK hT 3 (by kernel_rfl) (by kernel_rfl) (by kernel_rfl),bK hT 3 (by kernel_rfl) (by kernel_rfl) (by kernel_rfl),bK hT 3 (by kernel_rfl) (by kernel_rfl) (by kernel_rfl),bK hT 3 (by kernel_rfl) (by kernel_rfl) (by kernel_rfl),bK hT 3 (by kernel_rfl) (by kernel_rfl) (by kernel_rfl),bK hT 3 (by kernel_rfl) (by kernel_rfl) (by kernel_rfl),bK hT 3 (by kernel_rfl) (by kernel_rfl) (by kernel_rfl),bK hT 3 (by kernel_rfl) (by kernel_rfl) (by kernel_rfl),bK hT 3 (by kernel_rfl) (by kernel_rfl) (by kernel_rfl),trivial⟩ dS0)))))) ?_;refine At.b 1 (λ_ e=>aQ [0] (aK e)) λr6=>?_;refine At.b 7 (λ_ e=>aQ [0] (fH e)) λr7=>?_;refine bi λr8 hr8=>?_;refine bi λr9 hr9=>?_;refine bi λr10 hr10=>?_;refine bi λr11 hr11=>?_;refine bi λr12 hr12=>?_;refine bi λr13 hr13=>?_;refine At.d 2 dE0 (dF 1 (aG.enc r8.2) [(0,.var (aA.enc r8.1))] [] (bT (aQ [0] (dW hr8))) (dF 3 (aG.enc r9.2) [(0,.var (aA.enc r9.1))] [] (bT (aQ [0] (dW hr9))) (dF 5 (aG.enc r10.2) [(0,.var (aA.enc r10.1))] [] (bT (aQ [0] (dW hr10))) (dF 7 (aG.enc r11.2) [(0,.var (aA.enc r11.1))] [] (bT (aQ [0] (dW hr11))) (dF 9 (j64 r12.2) [(0,.var (aA.enc r12.1))] [] (bT (aQ [0] (aK hr12))) (dF 11 (j64 r13.2) [(0,.var (aA.enc r13.1))] [] (bT (aQ [0] (aK hr13))) dF0)))))) ?_;apply rt;exact At.r 5
def hJ(N:Nat)(a0:aA):Option (Int):=
 ae (dK N a0) λr1=>
 cond r1 (some 1) (some a0.ge)
theorem qM{N a0 r}(h:hJ N a0=some r):FnM Tryz.prog 40 [.var (aA.enc a0)] [(.ref 0 [] 0)] (j64 r) [.var (aA.enc a0)]:=by
 unfold hJ at h;refine At.f eF hT hmo Tryz.func40 rfl h ?_;refine At.b 2 (λ_ e=>aQ [0] (iS e)) λr1=>?_;refine At.c 0 ?_ ?_
 ·apply rt;exact At.r 1
 ·apply rt;exact At.r 5
def aH(N:Nat)(a0:aA):Option (aA×aF×Int):=
 ae (aB N 1 a0) λr1=>
 ae (cond (r1.2==1) (
  ae (aB N 4 r1.1) λr3=>
  ae (aB N 2 r3.1) λr4=>
  ae (bA N r4.2 r4.1) λr5=>
  some ((r5.1,aF.mk r1.2 r3.2 r5.2 (aO.mk 0 0 0 0 (aY.mk (am 9 0) (bS.mk 0 0 0))) 0 (aD.mk 0 0 0 0 0 0 (bC.mk (aG.mk 0 0 0) (aG.mk 0 0 0) (aG.mk 0 0 0) (aG.mk 0 0 0) 0 0) false) 0 0 0 0 0,true))) (
  cond (r1.2==2) (
   ae (aB N 4 r1.1) λr6=>
   some ((r6.1,aF.mk r1.2 r6.2 [] (aO.mk 0 0 0 0 (aY.mk (am 9 0) (bS.mk 0 0 0))) 0 (aD.mk 0 0 0 0 0 0 (bC.mk (aG.mk 0 0 0) (aG.mk 0 0 0) (aG.mk 0 0 0) (aG.mk 0 0 0) 0 0) false) 0 0 0 0 0,true))) (
   cond (r1.2==3) (
    ae (bD N r1.1) λr7=>
    ae (bH N 12 r7.1) λr8=>
    ae (nN r8.2 0 9) λs9=>
    ae (aDa 9 s9) λv10=>
    ae (idx r8.2 9) λe11=>
    ae (idx r8.2 10) λe12=>
    ae (idx r8.2 11) λe13=>
    some ((r8.1,aF.mk r1.2 0 [] (aO.mk r7.2.gK r7.2.gI r7.2.gG r7.2.gN (aY.mk v10 (bS.mk e11 e12 e13))) 0 (aD.mk 0 0 0 0 0 0 (bC.mk (aG.mk 0 0 0) (aG.mk 0 0 0) (aG.mk 0 0 0) (aG.mk 0 0 0) 0 0) false) 0 0 0 0 0,true))) (
    cond (r1.2==4) (
     ae (bD N r1.1) λr14=>
     some ((r14.1,aF.mk r1.2 0 [] r14.2 0 (aD.mk 0 0 0 0 0 0 (bC.mk (aG.mk 0 0 0) (aG.mk 0 0 0) (aG.mk 0 0 0) (aG.mk 0 0 0) 0 0) false) 0 0 0 0 0,true))) (
     cond (r1.2==5) (
      ae (aB N 1 r1.1) λr15=>
      ae (bN N r15.1) λr16=>
      ae (aB N 2 r16.1) λr17=>
      some ((r17.1,aF.mk r1.2 0 [] (aO.mk 0 0 0 0 (aY.mk (am 9 0) (bS.mk 0 0 0))) r15.2 r16.2.1 r17.2 0 0 0 0,r16.2.2))) (
      ae (cond (r1.2==6) (some (r1.2==6)) (some (r1.2==9))) λp18=>
      cond p18 (
       ae (aB N 1 r1.1) λr19=>
       some ((r19.1,aF.mk r1.2 0 [] (aO.mk 0 0 0 0 (aY.mk (am 9 0) (bS.mk 0 0 0))) r19.2 (aD.mk 0 0 0 0 0 0 (bC.mk (aG.mk 0 0 0) (aG.mk 0 0 0) (aG.mk 0 0 0) (aG.mk 0 0 0) 0 0) false) 0 0 0 0 0,true))) (
       cond (r1.2==7) (
        ae (aB N 1 r1.1) λr20=>
        ae (aB N 1 r20.1) λr21=>
        ae (aX N 4 r21.1) λr22=>
        ae (aB N 4 r22.1) λr23=>
        some ((r23.1,aF.mk r1.2 0 [] (aO.mk 0 0 0 0 (aY.mk (am 9 0) (bS.mk 0 0 0))) r20.2 (aD.mk 0 0 0 0 0 0 (bC.mk (aG.mk 0 0 0) (aG.mk 0 0 0) (aG.mk 0 0 0) (aG.mk 0 0 0) 0 0) false) 0 r21.2 (U32 r22.2) r23.2 0,true))) (
        cond (r1.2==8) (
         ae (aB N 1 r1.1) λr24=>
         ae (aB N 1 r24.1) λr25=>
         some ((r25.1,aF.mk r1.2 0 [] (aO.mk 0 0 0 0 (aY.mk (am 9 0) (bS.mk 0 0 0))) r24.2 (aD.mk 0 0 0 0 0 0 (bC.mk (aG.mk 0 0 0) (aG.mk 0 0 0) (aG.mk 0 0 0) (aG.mk 0 0 0) 0 0) false) 0 r25.2 0 0 0,true))) (
         cond (r1.2==10) (
          ae (aB N 4 r1.1) λr26=>
          some ((r26.1,aF.mk r1.2 0 [] (aO.mk 0 0 0 0 (aY.mk (am 9 0) (bS.mk 0 0 0))) 0 (aD.mk 0 0 0 0 0 0 (bC.mk (aG.mk 0 0 0) (aG.mk 0 0 0) (aG.mk 0 0 0) (aG.mk 0 0 0) 0 0) false) 0 0 0 0 r26.2,true))) (
          some ((r1.1,aF.mk r1.2 0 [] (aO.mk 0 0 0 0 (aY.mk (am 9 0) (bS.mk 0 0 0))) 0 (aD.mk 0 0 0 0 0 0 (bC.mk (aG.mk 0 0 0) (aG.mk 0 0 0) (aG.mk 0 0 0) (aG.mk 0 0 0) 0 0) false) 0 0 0 0 0,false)))))))))))) λp2=>
 ae (hJ N p2.1) λr27=>
 cond (r27 != 0) (
  some ((p2.1,p2.2.1,4))) (
  cond (!p2.2.2) (some ((p2.1,p2.2.1,5))) (some ((p2.1,p2.2.1,0))))
theorem oM{N a0 r}(h:aH N a0=some r):FnM Tryz.prog 22 [.var (aA.enc a0)] [(.st 1 [(.ref 0 [] 0)])] (.tup [(aF.enc r.2.1),(j64 r.2.2)]) [.var (aA.enc r.1)]:=by
 unfold aH at h;refine At.f eF hT hmo Tryz.func22 rfl h ?_;refine At.b 4 (λ_ e=>aQ [0] (aK e)) λr1=>?_;refine At.J 3 1 [1,2] 3 (λp2=>([(4,(eB p2.2.2))],[(0,.var (aA.enc p2.1)),(2,.var (aF.enc p2.2.1))],[])) (λp2=>?_) λp2=>?_
 ·refine At.c 4 ?_ ?_
  ·refine At.b 1 (λ_ e=>aQ [0] (aK e)) λr3=>?_;refine bi λr4 hr4=>?_;refine bi λr5 hr5=>?_;refine At.d 2 dE0 (dF 3 (j64 r4.2) [(0,.var (aA.enc r4.1))] [] (bT (aQ [0] (aK hr4))) (dF 4 (eL 1 k8 r5.2) [(0,.var (aA.enc r5.1))] [] (bT (aQ [0] (kR hr5))) dF0)) ?_;apply rt;exact At.jn 0
  ·refine At.c 2 ?_ ?_
   ·refine At.b 1 (λ_ e=>aQ [0] (aK e)) λr6=>?_;apply rt;exact At.jn 2
   ·refine At.c 2 ?_ ?_
    ·refine At.b 1 (λ_ e=>aQ [0] (jP e)) λr7=>?_;refine At.b 3 (λ_ e=>aQ [0] (mJ e)) λr8=>?_;refine At.b 2 (λ_ e=>pZ hT (k:=1) j64 e) λs9=>?_;refine At.b 0 (λv10 e=>aGf hT j64 s9 v10 e rfl (by kernel_rfl) (by kernel_rfl)) λv10=>?_;refine bi λe11 he11=>?_;refine bi λe12 he12=>?_;refine bi λe13 he13=>?_;refine At.d 5 (dE1 1 (λ_=>iF hT j64 he11) (dE1 4 (λ_=>iF hT j64 he12) (dE1 7 (λ_=>iF hT j64 he13) dE0))) dF0 ?_;apply rt;exact At.jn 0
    ·refine At.c 2 ?_ ?_
     ·refine At.b 1 (λ_ e=>aQ [0] (jP e)) λr14=>?_;apply rt;exact At.jn 2
     ·refine At.c 2 ?_ ?_
      ·refine At.b 1 (λ_ e=>aQ [0] (aK e)) λr15=>?_;refine At.b 3 (λ_ e=>aQ [0] (nH e)) λr16=>?_;refine At.b 7 (λ_ e=>aQ [0] (aK e)) λr17=>?_;apply rt;exact At.jn 2
      ·refine At.J 0 1 [1,2,4,10] 3 (λp18=>([(73,(eB p18))],[],[])) (λp18=>?_) λp18=>?_
       ·refine At.c 2 ?_ ?_
        ·apply rt;exact At.jn 0
        ·apply rt;exact At.jn 2
       ·refine At.c 0 ?_ ?_
        ·refine At.b 1 (λ_ e=>aQ [0] (aK e)) λr19=>?_;apply rt;exact At.jn 2
        ·refine At.c 2 ?_ ?_
         ·refine bi λr20 hr20=>?_;refine bi λr21 hr21=>?_;refine At.d 0 dE0 (dF 1 (j64 r20.2) [(0,.var (aA.enc r20.1))] [] (bT (aQ [0] (aK hr20))) (dF 3 (j64 r21.2) [(0,.var (aA.enc r21.1))] [] (bT (aQ [0] (aK hr21))) dF0)) ?_;refine bi λr22 hr22=>?_;refine bi λr23 hr23=>?_;refine At.d 0 dE0 (dF 2 (k64 r22.2) [(0,.var (aA.enc r22.1))] [] (bT (aQ [0] (fH hr22))) (dF 5 (j64 r23.2) [(0,.var (aA.enc r23.1))] [] (bT (aQ [0] (aK hr23))) dF0)) ?_;apply rt;exact At.jn 0
         ·refine At.c 2 ?_ ?_
          ·refine bi λr24 hr24=>?_;refine bi λr25 hr25=>?_;refine At.d 0 dE0 (dF 1 (j64 r24.2) [(0,.var (aA.enc r24.1))] [] (bT (aQ [0] (aK hr24))) (dF 3 (j64 r25.2) [(0,.var (aA.enc r25.1))] [] (bT (aQ [0] (aK hr25))) dF0)) ?_;apply rt;exact At.jn 0
          ·refine At.c 2 ?_ ?_
           ·refine At.b 1 (λ_ e=>aQ [0] (aK e)) λr26=>?_;apply rt;exact At.jn 2
           ·apply rt;exact At.jn 1
 ·refine At.b 2 (λ_ e=>aQ [0] (qM e)) λr27=>?_;refine At.c 2 ?_ ?_
  ·apply rt;exact At.r 3
  ·refine At.c 3 ?_ ?_
   ·apply rt;exact At.r 3
   ·apply rt;exact At.r 3
def cU(N:Nat)(a0:(List Int)):Nat->(List aF)->(List Int)->Int->Bool->Option (Sum ((List aF)×aA) ((List aF)×Int×Int))
 | 0,_,_,_,_=>none
 | k+1,s4,s5,s6,s7=>
  ae (eP N (aA.mk s5 s6 s7)) λr8=>
  cond (decide (r8 > 0)) (
   ae (eP N (aA.mk s5 s6 s7)) λr9=>
   cF (I64 (((a0.length:Int)) - r9)) λx10=>
   cF (((s4.length:Int))==256) λx11=>
   cond x11 (
    some (Sum.inr ((s4,x10,3)))) (
    ae (aH N (aA.mk s5 s6 s7)) λr12=>
    cond (r12.2.2 != 0) (
     some (Sum.inr ((s4,x10,r12.2.2)))) (
     ae (pQ 384 s4 (([r12.2.1]:List aF))) λz13=>
     cU N a0 k z13 r12.1.gb r12.1.ge r12.1.gB3))) (
   some (Sum.inl ((s4,aA.mk s5 s6 s7))))
def dG(N:Nat)(a0:(List Int)):Option ((List aF)×Int×Int):=
 cF (decide (((a0.length:Int)) > 65536)) λx1=>
 cond x1 (
  some (([],0,3))) (
  ae (mA N a0) λr2=>
  ae (cU N a0 N [] r2 0 true) λo=>qK o (λp3=>
   some ((p3.1,(a0.length:Int),0))) (λr=>some r))
theorem lS{N a0 r}(h:dG N a0=some r):FnM Tryz.prog 12 [] [(eL 1 k8 a0)] (.tup [(eL 46 aF.enc r.1),(j64 r.2.1),(j64 r.2.2)]) []:=by
 unfold dG at h;refine At.f eF hT hmo Tryz.func12 rfl h ?_;refine lx ?_;intro x1;refine At.c 6 ?_ ?_
 ·apply rt;exact At.r 3
 ·refine At.b 1 (λ_ e=>aQ [] (aAq e)) λr2=>?_;refine At.ownn 3 2 46 ?_;refine At.LS 0 [0] 4 (λp3=>([(2,(eO 3 46 aF.enc p3.1))],[(1,.var (aA.enc p3.2)),(3,.tail (p3.1.length*46))],[])) (λop3 J k=>∃s4 s5 s6 s7,cU N a0 k s4 s5 s6 s7=some op3/\J [0,5] 4 [(2,(eO 3 46 aF.enc s4))] [(1,.var (.st 3 [(eL 1 k8 s5),(j64 s6),(eB s7)])),(3,.tail (s4.length*46))] []) N (λ_ h=>⟨_,_,_,_,h,jr⟩) (λop3 g3 k s hI=>?_) λp3=>?_
  ·obtain⟨s4,s5,s6,s7,h,hj⟩:=hI;cases k with
   | zero=>cases h
   | succ k=>
    refine At.jr hj ?_ h;refine At.b 2 (λ_ e=>aQ [1] (kZ e)) λr8=>?_;refine At.c 1 ?_ ?_
    ·refine At.b 4 (λ_ e=>aQ [1] (kZ e)) λr9=>?_;refine lx ?_;intro x10;refine lx ?_;intro x11;refine At.c 5 ?_ ?_
     ·intro e;apply aBL g3 e;exact At.r 5
     ·refine At.b 1 (λ_ e=>aQ [1] (oM e)) λr12=>?_;refine At.c 8 ?_ ?_
      ·intro e;apply aBL g3 e;exact At.r 6
      ·refine At.o 2 (cP hT (x:=(.sl 46 1 [(aF.enc r12.2.1)]))) ?_;refine At.b 0 (λ_ e=>kM hT aF.enc (id:=3) (k:=46) e) λz13=>?_;exact λh=>At.k 1 ⟨_,_,_,_,h,jr⟩
    ·apply rt;exact At.xs 0
  ·apply rt;exact At.r 6
def rA(N:Nat):Option (Unit):=
 some (())
theorem aAn{N r}(h:rA N=some r):FnM Tryz.prog 43 [] [] (.ref 2 [] 0) [.mp (eM .i64 aP.enc []),.mp (.kv []),.var (.st 2 [(.mp 0),(.mp 1)])]:=by
 unfold rA at h;refine At.f eF hT hmo Tryz.func43 rfl h ?_;refine At.o 1 (tA .i64 aP.enc (by kernel_rfl) (by kernel_rfl)) ?_;refine At.o 0 (tA .i64 j64 (by kernel_rfl) (by kernel_rfl)) ?_;apply rt;exact At.r 3
def uY(N:Nat):Option (Unit):=
 some (())
theorem aCU{N r}(h:uY N=some r):FnM Tryz.prog 112 [] [] (.ref 0 [] 0) [.var (.st 73 [(.arr 8 1 [(k32 1779033703),(k32 3144134277),(k32 1013904242),(k32 2773480762),(k32 1359893119),(k32 2600822924),(k32 528734635),(k32 1541459225)]),(eA 64 1 k8 (am 64 0)),(j64 0)])]:=by
 unfold uY at h;refine At.f eF hT hmo Tryz.func112 rfl h ?_;apply rt;exact At.r 5
def jI(N:Nat)(a0:bL):Option (Bool):=
 cF ((eqV (λa b=>a==b)) a0.gh (am 8 0)) λx1=>
 cF (cond x1 (a0.gn==0) false) λx2=>
 some x2
theorem nF{N a0 r}(h:jI N a0=some r):FnM Tryz.prog 159 [.var (bL.enc a0)] [(.ref 0 [] 0)] (eB r) [.var (bL.enc a0)]:=by
 unfold jI at h;refine At.f eF hT hmo Tryz.func159 rfl h ?_;refine At.o 2 (pP hT (t:=229) (x:=(.ref 0 [] 0)) (b:=true) (by kernel_rfl) rfl rfl (by kernel_rfl)) ?_;refine At.g [5] 6 ?_;refine At.o 0 (aGd aF7 (a0.gh:(Vector Int 8)) (am 8 0:(Vector Int 8)) (by kernel_rfl) (by kernel_rfl) (λ_=>rfl) (λ_=>rfl) (by kernel_rfl) (by kernel_rfl)) ?_;refine lx ?_;intro x1;refine lx ?_;intro x2;refine At.g [5] 9 ?_;apply rt;exact At.r 0
def iB(N:Nat)(a0 a1:Int):Option (Int):=
 ae (aB3 .u32 a0 (aCT .u64 (U64 a1) 31)) λx1=>
 cF (U64 (32 - (aCT .u64 (U64 a1) 31))) λx2=>
 ae (yC .u32 a0 x2) λx3=>
 some (bor .u32 x1 x3)
theorem nM{N a0 a1 r}(h:iB N a0 a1=some r):FnM Tryz.prog 281 [] [(k32 a0),(j64 a1)] (k32 r) []:=by
 unfold iB at h;refine At.f eF hT hmo Tryz.func281 rfl h ?_;refine At.b 7 (λ_ e=>tL hT (k' := .u64) e (by kernel_rfl) (by kernel_rfl)) λx1=>?_;refine lx ?_;intro x2;refine At.b 3 (λ_ e=>pJ hT (k' := .u64) e (by kernel_rfl) (by kernel_rfl)) λx3=>?_;apply rt;exact At.r 2
def fW(N:Nat)(a0 a1:Int):Option (Int):=
 ae (iB N a0 (I64 (0 - a1))) λr1=>
 some r1
theorem hU{N a0 a1 r}(h:fW N a0 a1=some r):FnM Tryz.prog 222 [] [(k32 a0),(j64 a1)] (k32 r) []:=by
 unfold fW at h;refine At.f eF hT hmo Tryz.func222 rfl h ?_;refine At.b 4 (λ_ e=>aQ [] (nM e)) λr1=>?_;apply rt;exact At.r 1
def yV : Nat->Bool:=imL [2,3]
def eG : (Vector Int 64):=#v[1116352408,1899447441,3049323471,3921009573,961987163,1508970993,2453635748,2870763221,3624381080,310598401,607225278,1426881987,1925078388,2162078206,2614888103,3248222580,3835390401,4022224774,264347078,604807628,770255983,1249150122,1555081692,1996064986,2554220882,2821834349,2952996808,3210313671,3336571891,3584528711,113926993,338241895,666307205,773529912,1294757372,1396182291,1695183700,1986661051,2177026350,2456956037,2730485921,2820302411,3259730800,3345764771,3516065817,3600352804,4094571909,275423344,430227734,506948616,659060556,883997877,958139571,1322822218,1537002063,1747873779,1955562222,2024104815,2227730452,2361852424,2428436474,2756734187,3204031479,3329325298]
def lI(N:Nat)(a1:(Vector Int 64)):Nat->(Vector Int 64)->Int->Option ((Vector Int 64))
 | 0,_,_=>none
 | k+1,s2,s3=>
  cond (decide (s3 < 64)) (
   ae (cond (decide (s3 < 16)) (
    ae (idx a1.toList (I64 (4*s3))) λe5=>
    cF (I64 ((I64 (4*s3))+1)) λx6=>
    ae (idx a1.toList x6) λe7=>
    cF (bor .u32 (shl .u32 (U32 e5) 24) (shl .u32 (U32 e7) 16)) λx8=>
    cF (I64 ((I64 (4*s3))+2)) λx9=>
    ae (idx a1.toList x9) λe10=>
    cF (bor .u32 x8 (shl .u32 (U32 e10) 8)) λx11=>
    cF (I64 ((I64 (4*s3))+3)) λx12=>
    ae (idx a1.toList x12) λe13=>
    ae (iX s3 64) λ_=>
    ae (s2.toList[s3.toNat]?) λe15=>
    some (s2.setIfInBounds s3.toNat (bor .u32 x11 (U32 e13)))) (
    ae (iX (I64 (s3 - 15)) 64) λ_=>
    ae (s2.toList[(I64 (s3 - 15)).toNat]?) λe17=>
    ae (iX (I64 (s3 - 2)) 64) λ_=>
    ae (s2.toList[(I64 (s3 - 2)).toNat]?) λe19=>
    ae (iX (I64 (s3 - 16)) 64) λ_=>
    ae (s2.toList[(I64 (s3 - 16)).toNat]?) λe21=>
    ae (fW N e17 7) λr22=>
    ae (fW N e17 18) λr23=>
    cF (xB .u32 (xB .u32 r22 r23) (shr .u32 e17 3)) λx24=>
    ae (iX (I64 (s3 - 7)) 64) λ_=>
    ae (s2.toList[(I64 (s3 - 7)).toNat]?) λe26=>
    cF (U32 ((U32 (e21+x24))+e26)) λx27=>
    ae (fW N e19 17) λr28=>
    ae (fW N e19 19) λr29=>
    cF (xB .u32 (xB .u32 r28 r29) (shr .u32 e19 10)) λx30=>
    ae (iX s3 64) λ_=>
    ae (s2.toList[s3.toNat]?) λe32=>
    some (s2.setIfInBounds s3.toNat (U32 (x27+x30))))) λp4=>
   lI N a1 k p4 (I64 (s3+1))) (
   some s2)
def lJ(N:Nat)(p1:(Vector Int 64)):Nat->(Vector Int 8)->Int->Option ((Vector Int 8))
 | 0,_,_=>none
 | k+1,s34,s35=>
  cond (decide (s35 < 64)) (
   ae (iX 0 8) λ_=>
   ae (s34.toList[(bx 0)]?) λe37=>
   ae (iX 4 8) λ_=>
   ae (s34.toList[(bx 4)]?) λe39=>
   ae (iX 7 8) λ_=>
   ae (s34.toList[(bx 7)]?) λe41=>
   ae (fW N e39 6) λr42=>
   ae (fW N e39 11) λr43=>
   ae (fW N e39 25) λr44=>
   cF (xB .u32 (xB .u32 r42 r43) r44) λx45=>
   ae (iX 5 8) λ_=>
   ae (s34.toList[(bx 5)]?) λe47=>
   ae (iX 6 8) λ_=>
   ae (s34.toList[(bx 6)]?) λe49=>
   cF (aCT .u32 (bnot .u32 e39) e49) λx50=>
   cF (xB .u32 (aCT .u32 e39 e47) x50) λx51=>
   cF (U32 ((U32 (e41+x45))+x51)) λx52=>
   ae (iX s35 64) λ_=>
   ae (eG.toList[s35.toNat]?) λe54=>
   ae (iX s35 64) λ_=>
   ae (p1.toList[s35.toNat]?) λe56=>
   cF (U32 ((U32 (x52+e54))+e56)) λx57=>
   ae (fW N e37 2) λr58=>
   ae (fW N e37 13) λr59=>
   ae (fW N e37 22) λr60=>
   cF (xB .u32 (xB .u32 r58 r59) r60) λx61=>
   ae (iX 1 8) λ_=>
   ae (s34.toList[(bx 1)]?) λe63=>
   ae (iX 2 8) λ_=>
   ae (s34.toList[(bx 2)]?) λe65=>
   cF (xB .u32 (aCT .u32 e37 e63) (aCT .u32 e37 e65)) λx66=>
   ae (iX 1 8) λ_=>
   ae (s34.toList[(bx 1)]?) λe68=>
   ae (iX 2 8) λ_=>
   ae (s34.toList[(bx 2)]?) λe70=>
   cF (xB .u32 x66 (aCT .u32 e68 e70)) λx71=>
   cF (U32 (x57+(U32 (x61+x71)))) λx72=>
   ae (iX 0 8) λ_=>
   ae (s34.toList[(bx 0)]?) λe74=>
   ae (iX 1 8) λ_=>
   ae (s34.toList[(bx 1)]?) λe76=>
   ae (iX 2 8) λ_=>
   ae (s34.toList[(bx 2)]?) λe78=>
   ae (iX 3 8) λ_=>
   ae (s34.toList[(bx 3)]?) λe80=>
   ae (iX 4 8) λ_=>
   ae (s34.toList[(bx 4)]?) λe82=>
   ae (iX 5 8) λ_=>
   ae (s34.toList[(bx 5)]?) λe84=>
   ae (iX 6 8) λ_=>
   ae (s34.toList[(bx 6)]?) λe86=>
   lJ N p1 k (#v[x72,e74,e76,e78,U32 (e80+x57),e82,e84,e86]) (I64 (s35+1))) (
   some s34)
def lC(N:Nat)(a0:(Vector Int 8)):Nat->(Vector Int 8)->Int->Option ((Vector Int 8))
 | 0,_,_=>none
 | k+1,s88,s89=>
  cond (decide (s89 < 8)) (
   ae (iX s89 8) λ_=>
   ae (s88.toList[s89.toNat]?) λe91=>
   ae (idx a0.toList s89) λe92=>
   ae (iX s89 8) λ_=>
   ae (s88.toList[s89.toNat]?) λe94=>
   lC N a0 k (s88.setIfInBounds s89.toNat (U32 (e91+e92))) (I64 (s89+1))) (
   some s88)
def nD(N:Nat)(a0:(Vector Int 8))(a1:(Vector Int 64)):Option ((Vector Int 8)):=
 ae (lI N a1 N (am 64 0) 0) λp1=>
 ae (lJ N p1 N a0 0) λp33=>
 ae (lC N a0 N p33 0) λp87=>
 some p87
theorem wD{N a0 a1 r}(h:nD N a0 a1=some r):FnM Tryz.prog 160 [] [(eA 8 1 k32 a0),(eA 64 1 k8 a1)] (eA 8 1 k32 r) []:=by
 unfold nD at h;refine At.f yV hT hmo Tryz.func160 rfl h ?_;refine At.L 8 [2,4,5,6] 3 (λp1=>([],[(2,.var (eA 64 1 k32 p1))],[])) (λp1 J k=>∃s2 s3,lI N a1 k s2 s3=some p1/\J [2,3,4,5,6] 3 [(18,(j64 s3))] [(2,.var (eA 64 1 k32 s2))] []) N (λ_ h=>⟨_,_,h,jr⟩) (λp1 k s hI=>?_) λp1=>?_
 ·obtain⟨s2,s3,h,hj⟩:=hI;cases k with
  | zero=>cases h
  | succ k=>
   refine At.jr hj ?_ h;refine At.c 1 ?_ ?_
   ·refine At.J 0 2 [2,3,4,5,6,18] 3 (λp4=>([],[(2,.var (eA 64 1 k32 p4))],[])) (λp4=>?_) λp4=>?_
    ·refine At.c 4 ?_ ?_
     ·refine bi λe5 he5=>?_;refine lx ?_;intro x6;refine bi λe7 he7=>?_;refine lx ?_;intro x8;refine lx ?_;intro x9;refine bi λe10 he10=>?_;refine lx ?_;intro x11;refine lx ?_;intro x12;refine bi λe13 he13=>?_;refine bi λu14 hu14=>?_;refine bi λe15 he15=>?_;refine At.d 0 (dE1 3 (λ_=>uC hT (N:=64) (k:=1) k8 a1 he5) (dE1 10 (λ_=>uC hT (N:=64) (k:=1) k8 a1 he7) (dE1 18 (λ_=>uC hT (N:=64) (k:=1) k8 a1 he10) (dE1 26 (λ_=>uC hT (N:=64) (k:=1) k8 a1 he13) (dE1 30 (λ_=>cR hT (k:=1) 2 [] 0 hu14) dE0))))) (dF 31 (.v (.bool false)) [(2,.var (eA 64 1 k32 (s2.setIfInBounds s3.toNat (bor .u32 x11 (U32 e13)))))] [] (bT (pO hT k32 0 s2 he15 (bor .u32 x11 (U32 e13)) (by kernel_rfl) (by kernel_rfl) (H':=[.var (eA 8 1 k32 (am 8 0)),.var (eA 64 1 k32 eG),.var (eA 64 1 k32 (s2.setIfInBounds s3.toNat (bor .u32 x11 (U32 e13))))]))) dF0) ?_;apply rt;exact At.jn 0
     ·refine bi λu16 hu16=>?_;refine bi λe17 he17=>?_;refine bi λu18 hu18=>?_;refine bi λe19 he19=>?_;refine At.d 0 (dE1 2 (λ_=>cR hT (k:=1) 2 [] 0 hu16) (dEL hT 3 (k32 e17) k32 0 he17 (dE1 6 (λ_=>cR hT (k:=1) 2 [] 0 hu18) (dEL hT 7 (k32 e19) k32 0 he19 dE0)))) dF0 ?_;refine bi λu20 hu20=>?_;refine bi λe21 he21=>?_;refine bi λr22 hr22=>?_;refine bi λr23 hr23=>?_;refine lx ?_;intro x24;refine bi λu25 hu25=>?_;refine bi λe26 he26=>?_;refine lx ?_;intro x27;refine bi λr28 hr28=>?_;refine bi λr29 hr29=>?_;refine lx ?_;intro x30;refine bi λu31 hu31=>?_;refine bi λe32 he32=>?_;refine At.d 0 (dE1 3 (λ_=>cR hT (k:=1) 2 [] 0 hu20) (dEL hT 4 (k32 e21) k32 0 he21 (dE2 6 (k32 r22) (λ_=>lA (hU hr22)) (dE2 8 (k32 r23) (λ_=>lA (hU hr23)) (dE1 16 (λ_=>cR hT (k:=1) 2 [] 0 hu25) (dEL hT 17 (k32 e26) k32 0 he26 (dE2 20 (k32 r28) (λ_=>lA (hU hr28)) (dE2 22 (k32 r29) (λ_=>lA (hU hr29)) (dE1 28 (λ_=>cR hT (k:=1) 2 [] 0 hu31) dE0))))))))) (dF 29 (.v (.bool false)) [(2,.var (eA 64 1 k32 (s2.setIfInBounds s3.toNat (U32 (x27+x30)))))] [] (bT (pO hT k32 0 s2 he32 (U32 (x27+x30)) (by kernel_rfl) (by kernel_rfl) (H':=[.var (eA 8 1 k32 (am 8 0)),.var (eA 64 1 k32 eG),.var (eA 64 1 k32 (s2.setIfInBounds s3.toNat (U32 (x27+x30))))]))) dF0) ?_;apply rt;exact At.jn 0
    ·exact λh=>At.k 2 ⟨_,_,h,jr⟩
   ·apply rt;exact At.x 0
 ·refine At.L 4 [2,4,10] 4 (λp33=>([],[(3,.var (eA 8 1 k32 p33))],[])) (λp33 J k=>∃s34 s35,lJ N p1 k s34 s35=some p33/\J [2,4,5,6,10] 4 [(93,(j64 s35))] [(3,.var (eA 8 1 k32 s34))] []) N (λ_ h=>⟨_,_,h,jr⟩) (λp33 k s hI=>?_) λp33=>?_
  ·obtain⟨s34,s35,h,hj⟩:=hI;cases k with
   | zero=>cases h
   | succ k=>
    refine At.jr hj ?_ h;refine At.c 1 ?_ ?_
    ·refine bi λu36 hu36=>?_;refine bi λe37 he37=>?_;refine bi λu38 hu38=>?_;refine bi λe39 he39=>?_;refine At.d 2 (dE1 0 (λ_=>cR hT (k:=1) 3 [] 0 hu36) (dEL hT 1 (k32 e37) k32 0 he37 (dE1 2 (λ_=>cR hT (k:=1) 3 [] 0 hu38) (dEL hT 3 (k32 e39) k32 0 he39 dE0)))) dF0 ?_;refine bi λu40 hu40=>?_;refine bi λe41 he41=>?_;refine bi λr42 hr42=>?_;refine bi λr43 hr43=>?_;refine bi λr44 hr44=>?_;refine lx ?_;intro x45;refine bi λu46 hu46=>?_;refine bi λe47 he47=>?_;refine bi λu48 hu48=>?_;refine bi λe49 he49=>?_;refine lx ?_;intro x50;refine lx ?_;intro x51;refine lx ?_;intro x52;refine bi λu53 hu53=>?_;refine bi λe54 he54=>?_;refine bi λu55 hu55=>?_;refine bi λe56 he56=>?_;refine lx ?_;intro x57;refine At.d 0 (dE1 0 (λ_=>cR hT (k:=1) 3 [] 0 hu40) (dEL hT 1 (k32 e41) k32 0 he41 (dE2 3 (k32 r42) (λ_=>lA (hU hr42)) (dE2 5 (k32 r43) (λ_=>lA (hU hr43)) (dE2 8 (k32 r44) (λ_=>lA (hU hr44)) (dE1 12 (λ_=>cR hT (k:=1) 3 [] 0 hu46) (dEL hT 13 (k32 e47) k32 0 he47 (dE1 17 (λ_=>cR hT (k:=1) 3 [] 0 hu48) (dEL hT 18 (k32 e49) k32 0 he49 (dE1 23 (λ_=>cR hT (k:=1) 1 [] 0 hu53) (dEL hT 24 (k32 e54) k32 0 he54 (dE1 27 (λ_=>cR hT (k:=1) 2 [] 0 hu55) (dEL hT 28 (k32 e56) k32 0 he56 dE0))))))))))))) dF0 ?_;refine bi λr58 hr58=>?_;refine bi λr59 hr59=>?_;refine bi λr60 hr60=>?_;refine lx ?_;intro x61;refine bi λu62 hu62=>?_;refine bi λe63 he63=>?_;refine bi λu64 hu64=>?_;refine bi λe65 he65=>?_;refine lx ?_;intro x66;refine bi λu67 hu67=>?_;refine bi λe68 he68=>?_;refine bi λu69 hu69=>?_;refine bi λe70 he70=>?_;refine lx ?_;intro x71;refine At.d 0 (dE2 1 (k32 r58) (λ_=>lA (hU hr58)) (dE2 3 (k32 r59) (λ_=>lA (hU hr59)) (dE2 6 (k32 r60) (λ_=>lA (hU hr60)) (dE1 9 (λ_=>cR hT (k:=1) 3 [] 0 hu62) (dEL hT 10 (k32 e63) k32 0 he63 (dE1 13 (λ_=>cR hT (k:=1) 3 [] 0 hu64) (dEL hT 14 (k32 e65) k32 0 he65 (dE1 17 (λ_=>cR hT (k:=1) 3 [] 0 hu67) (dEL hT 18 (k32 e68) k32 0 he68 (dE1 19 (λ_=>cR hT (k:=1) 3 [] 0 hu69) (dEL hT 20 (k32 e70) k32 0 he70 dE0))))))))))) dF0 ?_;refine lx ?_;intro x72;refine At.b 3 (λ_ e=>cR hT (k:=1) 3 [] 0 e) λu73=>?_;refine At.b 0 (λ_ e=>oA hT k32 0 e) λe74=>?_;refine At.b 0 (λ_ e=>cR hT (k:=1) 3 [] 0 e) λu75=>?_;refine At.b 0 (λ_ e=>oA hT k32 0 e) λe76=>?_;refine At.b 0 (λ_ e=>cR hT (k:=1) 3 [] 0 e) λu77=>?_;refine At.b 0 (λ_ e=>oA hT k32 0 e) λe78=>?_;refine At.b 0 (λ_ e=>cR hT (k:=1) 3 [] 0 e) λu79=>?_;refine At.b 0 (λ_ e=>oA hT k32 0 e) λe80=>?_;refine At.b 2 (λ_ e=>cR hT (k:=1) 3 [] 0 e) λu81=>?_;refine At.b 0 (λ_ e=>oA hT k32 0 e) λe82=>?_;refine At.b 0 (λ_ e=>cR hT (k:=1) 3 [] 0 e) λu83=>?_;refine At.b 0 (λ_ e=>oA hT k32 0 e) λe84=>?_;refine At.b 0 (λ_ e=>cR hT (k:=1) 3 [] 0 e) λu85=>?_;refine At.b 0 (λ_ e=>oA hT k32 0 e) λe86=>?_;exact λh=>At.k 4 ⟨_,_,h,jr⟩
    ·apply rt;exact At.x 0
  ·refine At.L 1 [4,10] 4 (λp87=>([],[(3,.var (eA 8 1 k32 p87))],[])) (λp87 J k=>∃s88 s89,lC N a0 k s88 s89=some p87/\J [2,4,10] 4 [(175,(j64 s89))] [(3,.var (eA 8 1 k32 s88))] []) N (λ_ h=>⟨_,_,h,jr⟩) (λp87 k s hI=>?_) λp87=>?_
   ·obtain⟨s88,s89,h,hj⟩:=hI;cases k with
    | zero=>cases h
    | succ k=>
     refine At.jr hj ?_ h;refine At.c 1 ?_ ?_
     ·refine bi λu90 hu90=>?_;refine bi λe91 he91=>?_;refine bi λe92 he92=>?_;refine bi λu93 hu93=>?_;refine bi λe94 he94=>?_;refine At.d 2 (dE1 1 (λ_=>cR hT (k:=1) 3 [] 0 hu90) (dEL hT 2 (k32 e91) k32 0 he91 (dE1 4 (λ_=>uC hT (N:=8) (k:=1) k32 a0 he92) (dE1 7 (λ_=>cR hT (k:=1) 3 [] 0 hu93) dE0)))) (dF 8 (.v (.bool false)) [(3,.var (eA 8 1 k32 (s88.setIfInBounds s89.toNat (U32 (e91+e92)))))] [] (bT (pO hT k32 0 s88 he94 (U32 (e91+e92)) (by kernel_rfl) (by kernel_rfl) (H':=[.var (eA 8 1 k32 (am 8 0)),.var (eA 64 1 k32 eG),.var (eA 64 1 k32 p1),.var (eA 8 1 k32 (s88.setIfInBounds s89.toNat (U32 (e91+e92))))]))) dF0) ?_;exact λh=>At.k 2 ⟨_,_,h,jr⟩
     ·apply rt;exact At.x 0
   ·apply rt;exact At.r 2
def fD(N:Nat)  : Nat->bL->(List Int)->Option (bL)
 | 0,_,_=>none
 | k+1,s8,s9=>
  cF (decide (((s9.length:Int)) > 0)) λx10=>
  cond x10 (
   ae (slcL 64 (dc s8.gn 64) 64) λ_=>
   ae (cpV s8.gC6 s9 ((dc s8.gn 64).toNat) ((64:Int).toNat - (dc s8.gn 64).toNat)) λv12=>
   cF (((min s9.length ((64:Int).toNat - (dc s8.gn 64).toNat):Nat):Int)) λx13=>
   ae (nN s9 x13 ((s9.length:Int))) λs14=>
   cF (dc (I64 (s8.gn+x13)) 64) λx15=>
   cond (x15==0) (
    ae (nD N s8.gh v12) λr16=>
    fD N k (bL.mk r16 v12 (I64 (s8.gn+x13))) s14) (
    fD N k (bL.mk s8.gh v12 (I64 (s8.gn+x13))) s14)) (
   some s8)
def iU(N:Nat)(a0:(List (List Int))):Nat->bL->Int->Option (bL)
 | 0,_,_=>none
 | k+1,s3,s4=>
  cF (decide (s4 < ((a0.length:Int)))) λx5=>
  cond x5 (
   ae (idx a0 s4) λe6=>
   ae (fD N N s3 e6) λp7=>
   iU N a0 k p7 (I64 (s4+1))) (
   some s3)
def iD(N:Nat)(a0:(List (List Int)))(a1:bL):Option (bL):=
 ae (jI N a1) λr1=>
 cond r1 (
  some a1) (
  ae (iU N a0 N a1 0) λp2=>
  some p2)
theorem mE{N a0 a1 r}(h:iD N a0 a1=some r):FnM Tryz.prog 113 [.var (bL.enc a1)] [(.ref 0 [] 0),(eL 1 (eL 1 k8) a0)] (.tup []) [.var (bL.enc r)]:=by
 unfold iD at h;refine At.f eF hT hmo Tryz.func113 rfl h ?_;refine At.b 1 (λ_ e=>aQ [0] (nF e)) λr1=>?_;refine At.c 0 ?_ ?_
 ·apply rt;exact At.r 0
 ·refine At.L 3 [] 1 (λp2=>([],[(0,.var (bL.enc p2))],[])) (λp2 J k=>∃s3 s4,iU N a0 k s3 s4=some p2/\J [0,9,10] 1 [(11,(j64 s4))] [(0,.var (bL.enc s3))] []) N (λ_ h=>⟨_,_,h,jr⟩) (λp2 k s hI=>?_) λp2=>?_
  ·obtain⟨s3,s4,h,hj⟩:=hI;cases k with
   | zero=>cases h
   | succ k=>
    refine At.jr hj ?_ h;refine lx ?_;intro x5;refine At.c 1 ?_ ?_
    ·refine At.b 0 (λ_ e=>iF hT (eL 1 k8) e) λe6=>?_;refine At.L 2 [0,9,10,11] 1 (λp7=>([],[(0,.var (bL.enc p7))],[])) (λp7 J k=>∃s8 s9,fD N k s8 s9=some p7/\J [0,9,10,11] 1 [(5,(eL 1 k8 s9))] [(0,.var (bL.enc s8))] []) N (λ_ h=>⟨_,_,h,jr⟩) (λp7 k s hI=>?_) λp7=>?_
     ·obtain⟨s8,s9,h,hj⟩:=hI;cases k with
      | zero=>cases h
      | succ k=>
       refine At.jr hj ?_ h;refine lx ?_;intro x10;refine At.c 3 ?_ ?_
       ·refine bi λs11 hs11=>?_;refine bi λv12 hv12=>?_;refine lx ?_;intro x13;refine At.d 0 (dE1 8 (λ_=>aEk hT (k:=1) 0 [1] 8 hs11 (by kernel_rfl) (by kernel_rfl)) dE0) (dF 10 (j64 (((min s9.length ((64:Int).toNat - (dc s8.gn 64).toNat):Nat):Int))) [(0,.var (.st 73 [(eA 8 1 k32 s8.gh),(eA 64 1 k8 v12),(j64 s8.gn)]))] [] (bT (aE9 hT k8 (id:=0) (path:=[1]) (off:=8) (H':=[.var (.st 73 [(eA 8 1 k32 s8.gh),(eA 64 1 k8 v12),(j64 s8.gn)])]) hv12 (by kernel_rfl) (by kernel_rfl) (by kernel_rfl))) dF0) ?_;refine At.b 11 (λ_ e=>pZ hT (k:=1) k8 e) λs14=>?_;refine lx ?_;intro x15;refine At.c 7 ?_ ?_
        ·refine bi λr16 hr16=>?_;refine At.d 0 (dE2 9 (eA 8 1 k32 r16) (λ_=>lA (wD hr16)) dE0) dF0 ?_;exact λh=>At.k 0 ⟨_,_,h,jr⟩
        ·exact λh=>At.k 0 ⟨_,_,h,jr⟩
       ·apply rt;exact At.x 0
     ·exact λh=>At.k 2 ⟨_,_,h,jr⟩
    ·apply rt;exact At.x 0
  ·apply rt;exact At.z 0
def pX(N:Nat)(x3 a0:Int):Nat->(List Int)->Int->Option ((List Int))
 | 0,_,_=>none
 | k+1,s8,s9=>
  cond (decide (s9 < 8)) (
   cF (I64 (((x3.toNat:Int)) - 1)) λx10=>
   cF (shl .u64 (U64 (imax a0 0)) 3) λx11=>
   ae (yC .u64 x11 (I64 (8*s9))) λx12=>
   ae (iX (I64 (x10 - s9)) x3.toNat) λ_=>
   ae (s8[(I64 (x10 - s9)).toNat]?) λe14=>
   pX N x3 a0 k (s8.set ((I64 (x10 - s9)).toNat) (U8 x12)) (I64 (s9+1))) (
   some s8)
def vC(N:Nat)(a0:Int):Option ((List Int)):=
 cF (dc (imax a0 0) 64) λx1=>
 cF (dc (I64 (119 - x1)) 64) λx2=>
 cF (I64 ((I64 (1+x2))+8)) λx3=>
 ae (mkO 1 x3) λ_=>
 ae (iX 0 x3.toNat) λ_=>
 ae ((List.replicate x3.toNat (0:Int))[(bx 0)]?) λe6=>
 ae (pX N x3 a0 N ((List.replicate x3.toNat (0:Int)).set ((bx 0)) 128) 0) λp7=>
 ae (lenO p7 x3.toNat) λ_=>
 some p7
theorem aCE{N a0 r}(h:vC N a0=some r):FnM Tryz.prog 161 [] [(j64 a0)] (eL 1 k8 r) []:=by
 unfold vC at h;refine At.f eF hT hmo Tryz.func161 rfl h ?_;refine lx ?_;intro x1;refine lx ?_;intro x2;refine lx ?_;intro x3;refine At.b 10 (λ_ e=>aH1 hT k8 ((0:Int)) (k:=1) (kd := .int .u8) e (by kernel_rfl) (by kernel_rfl) rfl) λu4=>?_;refine At.b 2 (λ_ e=>aCp hT 0 [] 0 0 x3.toNat (k:=1) e (by kernel_rfl) (by kernel_rfl)) λu5=>?_;refine At.b 0 (λ_ e=>aAN hT k8 0 e 128 (by kernel_rfl) (by kernel_rfl) (by kernel_rfl)) λe6=>?_;refine At.L 1 [3] 1 (λp7=>([],[(0,.var (.arr (x3.toNat*1) 1 (List.map k8 p7)))],[])) (λp7 J k=>∃s8 s9,pX N x3 a0 k s8 s9=some p7/\J [0,3] 1 [(16,(j64 s9))] [(0,.var (.arr (x3.toNat*1) 1 (List.map k8 s8)))] []) N (λ_ h=>⟨_,_,h,jr⟩) (λp7 k s hI=>?_) λp7=>?_
 ·obtain⟨s8,s9,h,hj⟩:=hI;cases k with
  | zero=>cases h
  | succ k=>
   refine At.jr hj ?_ h;refine At.c 1 ?_ ?_
   ·refine lx ?_;intro x10;refine lx ?_;intro x11;refine At.b 13 (λ_ e=>pJ hT (k' := .i64) e (by kernel_rfl) (by kernel_rfl)) λx12=>?_;refine At.b 1 (λ_ e=>aCp hT 0 [] 0 0 x3.toNat (k:=1) e (by kernel_rfl) (by kernel_rfl)) λu13=>?_;refine At.b 0 (λ_ e=>aAN hT k8 0 e (U8 x12) (by kernel_rfl) (by kernel_rfl) (by kernel_rfl)) λe14=>?_;exact λh=>At.k 2 ⟨_,_,h,jr⟩
   ·apply rt;exact At.x 0
 ·refine bi λu15 hu15=>?_;refine At.fz 2 0 1 x3.toNat _ (List.map k8 p7) (List.length_map _) (lenM k8 hu15) ?_;apply rt;exact At.r 0
end Go.UK
