/- A part of the proof: what the functions of the program compute. -/
import Derived.Test.YtfndgielkmppbaaDoorPT
open Option renaming bind→ae,map_eq_some_iff→au
namespace Go.UK
open Go Go.Proofs Go.Sort Go.RowKit
set_option maxRecDepth 20000
set_option maxHeartbeats 40000000
set_option linter.all false
attribute [local irreducible] adv yM xY mP brPt aBJ zY iH nQ bP fT cY aAE yI lPt owp awl aw FnM opS Stab TOK Big
def fM(N:Nat)(a0:aF):Option (aF):=
 bQ ((a0.gL.length:Int)) λx1=>
 ae (qP a0.gL 0 (xJ x1 300)) λs2=>
 some (aF.mk a0.gC a0.gK s2 a0.gA a0.gF a0.gD a0.gA3 a0.gP a0.gA2 a0.gA6 a0.gA7)
theorem qJ{N a0 r}(h:fM N a0=some r):FnM Tryd.prog 5 [] [(aF.enc a0)] (aF.enc r) []:=by
 unfold fM at h;refine At.f hJ hT hmo Tryd.func5 rfl h ?_;refine lx ?_;intro x1;refine At.b 8 (λ_ e=>sV hT (k:=1) k8 e) λs2=>?_;apply rt;exact At.r 4
def cQ(N:Nat)(s2:(List Int)):Nat->(List Int)->Int->Option ((List Int))
 | 0,_,_=>none
 | k+1,s4,s5=>
  bQ (decide (s5 < ((s2.length:Int)))) λx6=>
  cond x6 (
   ae (idx s2 s5) λe7=>
   bQ (imax e7 (-9223372036854775807)) λx8=>
   ae (jM 8 s4 (([x8]:List Int))) λz9=>
   cQ N s2 k z9 (I64 (s5+1))) (
   some s4)
def fA(N:Nat)(a0:(List Int)):Option ((List Int)):=
 bQ (xJ ((a0.length:Int)) 20) λx1=>
 ae (qP a0 0 x1) λs2=>
 ae (cQ N s2 N [] 0) λp3=>
 some p3
theorem oX{N a0 r}(h:fA N a0=some r):FnM Tryd.prog 11 [] [(eL 1 j64 a0)] (eL 1 j64 r) []:=by
 unfold fA at h;refine At.f hJ hT hmo Tryd.func11 rfl h ?_;refine lx ?_;intro x1;refine At.b 6 (λ_ e=>sV hT (k:=1) j64 e) λs2=>?_;refine At.ownn 2 3 1 ?_;refine At.L 0 [] 1 (λp3=>([(3,(eO 0 1 j64 p3))],[(0,.tail (p3.length*1))],[])) (λp3 J k=>∃s4 s5,cQ N s2 k s4 s5=some p3/\J [10,11] 1 [(3,(eO 0 1 j64 s4)),(12,(j64 s5))] [(0,.tail (s4.length*1))] []) N (λ_ h=>⟨_,_,h,jr⟩) (λp3 k s hI=>?_) λp3=>?_
 ·obtain⟨s4,s5,h,hj⟩:=hI;cases k with
  | zero=>cases h
  | succ k=>
   refine At.jr hj ?_ h;refine lx ?_;intro x6;refine At.c 1 ?_ ?_
   ·refine At.b 0 (λ_ e=>cB hT j64 e) λe7=>?_;refine lx ?_;intro x8;refine At.o 5 (aN hT (x:=(.sl 1 1 [(j64 x8)]))) ?_;refine At.b 0 (λ_ e=>dZ hT j64 (id:=0) (k:=1) e) λz9=>?_;exact λh=>At.k 3 ⟨_,_,h,jr⟩
   ·apply rt;exact At.x 0
 ·apply rt;exact At.r 2
def cZ(N:Nat)(b1:(List Int))(a1 a2:Int):Option (Int):=
 ae (bQ (cond (a2==0) (a1 != 0) false) λx2=>
 cond x2 (some 2) (some a2)) λp1=>
 some p1
theorem iF{N b1 a1 a2 r}(h:cZ N b1 a1 a2=some r):FnM Tryd.prog 43 [.var (.st 2 [(eO 1 1 k8 b1),(j64 a2)]),.tail (b1.length*1)] [(.ref 0 [] 0),(.v (.slice none 0 0)),(j64 a1)] (.tup []) [.var (.st 2 [(eO 3 1 k8 []),(j64 r)]),.dead,.dead,.tail 0]:=by
 unfold cZ at h;refine At.f hJ hT hmo Tryd.func43 rfl h ?_;refine At.mv 0 1 ?_;refine At.J 0 1 [0,1] 3 (λp1=>([],[(0,.var (.st 2 [(eO 2 1 k8 b1),(j64 p1)]))],[])) (λp1=>?_) λp1=>?_
 ·refine lx ?_;intro x2;refine At.c 9 ?_ ?_
  ·apply rt;exact At.jn 4
  ·apply rt;exact At.jn 0
 ·refine At.ownn 0 1 1 ?_;apply rt;exact At.z 5
def cX(N:Nat)(a0:(List Int)):Option ((List Int)):=
 ae (jM 1 (([]:List Int)) a0) λz1=>
 some z1
theorem lK{N a0 r}(h:cX N a0=some r):FnM Tryd.prog 69 [] [(eL 1 k8 a0)] (eO 0 1 k8 r) [.tail (r.length*1)]:=by
 unfold cX at h;refine At.f hJ hT hmo Tryd.func69 rfl h ?_;refine At.q hT 2 (d:=4) (t:=22) (e:=5) (z:=1) (x:=(eL 1 k8 a0)) (es:=List.map k8 a0) rfl ?_ (λhe=>?_)
 ·refine At.o 1 (qR hT k8 (k:=1) ([]:List Int) (by kernel_rfl) (by kernel_rfl)) ?_;refine At.b 1 (λ_ e=>dZ hT k8 (id:=0) (k:=1) e) λz1=>?_;apply rt;exact At.r 1
 ·have h0:a0=[]:=List.map_eq_nil_iff.1 he;subst h0;change some []=_->_;refine At.ownn 2 2 1 ?_;apply rt;exact At.r 0
def eY(N:Nat)(a1 e7:Int):Nat->(List Int)->Int->Option ((List Int))
 | 0,_,_=>none
 | k+1,s11,s12=>
  cond (decide (s12 < a1)) (
   ae (yW .u64 e7 (I64 (8*s12))) λx13=>
   ae (jM 1 s11 (([U8 x13]:List Int))) λz14=>
   eY N a1 e7 k z14 (I64 (s12+1))) (
   some s11)
def fN(N:Nat)(a2:(List Int))(a1:Int):Nat->(List Int)->Int->Option (Sum ((List Int)) ((List Int)×Int))
 | 0,_,_=>none
 | k+1,s4,s5=>
  bQ (decide (s5 < ((a2.length:Int)))) λx6=>
  cond x6 (
   ae (idx a2 s5) λe7=>
   ae (cond (decide (a1 < 8)) (
    ae (yW .u64 e7 (I64 (8*a1))) λx9=>
    some (decide (x9 > 0))) (
    some false)) λp8=>
   cond p8 (
    some (Sum.inr (([],3)))) (
    ae (eY N a1 e7 N s4 0) λp10=>
    fN N a2 a1 k p10 (I64 (s5+1)))) (
   some (Sum.inl s4))
def eN(N:Nat)(a0:(List Int))(a1:Int)(a2:(List Int)):Option ((List Int)×Int):=
 bQ (cond (decide (a1 < 1)) true (decide (a1 > 8))) λx1=>
 cond x1 (
  some (([],2))) (
  ae (cX N a0) λr2=>
  ae (fN N a2 a1 N r2 0) λo=>mG o (λp3=>
   some ((p3,0))) (λr=>some r))
theorem nA{N a0 a1 a2 r}(h:eN N a0 a1 a2=some r):FnM Tryd.prog 56 [] [(eL 1 k8 a0),(j64 a1),(eL 1 k64 a2)] (.tup [(eO 0 1 k8 r.1),(j64 r.2)]) [.tail (r.1.length*1)]:=by
 unfold eN at h;refine At.f hJ hT hmo Tryd.func56 rfl h ?_;refine lx ?_;intro x1;refine At.c 8 ?_ ?_
 ·refine At.ownn 2 6 1 ?_;apply rt;exact At.r 0
 ·refine At.b 1 (λ_ e=>aL [] (lK e)) λr2=>?_;refine At.LS 4 [] 1 (λp3=>([(8,(eO 0 1 k8 p3))],[(0,.tail (p3.length*1))],[])) (λop3 J k=>∃s4 s5,fN N a2 a1 k s4 s5=some op3/\J [1,20,21] 1 [(8,(eO 0 1 k8 s4)),(22,(j64 s5))] [(0,.tail (s4.length*1))] []) N (λ_ h=>⟨_,_,h,jr⟩) (λop3 g3 k s hI=>?_) λp3=>?_
  ·obtain⟨s4,s5,h,hj⟩:=hI;cases k with
   | zero=>cases h
   | succ k=>
    refine At.jr hj ?_ h;refine lx ?_;intro x6;refine At.c 1 ?_ ?_
    ·refine At.b 0 (λ_ e=>cB hT k64 e) λe7=>?_;refine At.J 2 0 [1,8,10,20,21,22] 1 (λp8=>([(34,(eB p8))],[],[])) (λp8=>?_) λp8=>?_
     ·refine At.s 28 3 ?_ ?_
      ·refine At.g [28] 3 ?_;refine At.b 0 (λ_ e=>sQ hT (k' := .i64) e (by kernel_rfl) (by kernel_rfl)) λx9=>?_;refine At.g [28] 2 ?_;apply rt;exact At.jn 0
      ·refine At.g [28] 6 ?_;apply rt;exact At.jn 0
     ·refine At.c 0 ?_ ?_
      ·refine At.ownn 2 6 1 ?_;refine At.sw 0 1 0 ?_;intro e;apply vN g3 e;exact At.r 0
      ·refine At.L 2 [1,20,21,22] 1 (λp10=>([(8,(eO 0 1 k8 p10))],[(0,.tail (p10.length*1))],[])) (λp10 J k=>∃s11 s12,eY N a1 e7 k s11 s12=some p10/\J [1,10,20,21,22,35] 1 [(8,(eO 0 1 k8 s11)),(36,(j64 s12))] [(0,.tail (s11.length*1))] []) N (λ_ h=>⟨_,_,h,jr⟩) (λp10 k s hI=>?_) λp10=>?_
       ·obtain⟨s11,s12,h,hj⟩:=hI;cases k with
        | zero=>cases h
        | succ k=>
         refine At.jr hj ?_ h;refine At.c 1 ?_ ?_
         ·refine At.b 6 (λ_ e=>sQ hT (k' := .i64) e (by kernel_rfl) (by kernel_rfl)) λx13=>?_;refine At.o 1 (aN hT (x:=(.sl 1 1 [(k8 (U8 x13))]))) ?_;refine At.b 0 (λ_ e=>dZ hT k8 (id:=0) (k:=1) e) λz14=>?_;exact λh=>At.k 3 ⟨_,_,h,jr⟩
         ·apply rt;exact At.x 0
       ·exact λh=>At.k 2 ⟨_,_,h,jr⟩
    ·apply rt;exact At.xs 0
  ·apply rt;exact At.r 3
def bN(N:Nat)(b1 b2:(List Int))(a2 a3:Int):Option (Int):=
 ae (bQ (cond (a3==0) (a2 != 0) false) λx2=>
 cond x2 (some 2) (some a3)) λp1=>
 some p1
theorem dQ{N b1 b2 a2 a3 r}(h:bN N b1 b2 a2 a3=some r):FnM Tryd.prog 43 [.var (.st 2 [(eO 2 1 k8 b2),(j64 a3)]),.tail (b1.length*1),.tail (b2.length*1)] [(.ref 0 [] 0),(eO 1 1 k8 b1),(j64 a2)] (.tup []) [.var (.st 2 [(eO 1 1 k8 b1),(j64 r)]),.tail (b1.length*1),.dead]:=by
 unfold bN at h;refine At.f hJ hT hmo Tryd.func43 rfl h ?_;refine At.mv 0 2 ?_;refine At.J 0 1 [0,1] 4 (λp1=>([],[(0,.var (.st 2 [(eO 3 1 k8 b2),(j64 p1)]))],[])) (λp1=>?_) λp1=>?_
 ·refine lx ?_;intro x2;refine At.c 9 ?_ ?_
  ·apply rt;exact At.jn 4
  ·apply rt;exact At.jn 0
 ·apply rt;exact At.z 5
def bX(N:Nat)(a2:(List Int))(a1:Int):Nat->(List Int)->Int->Int->Option (Sum ((List Int)×Int) ((List Int)×Int))
 | 0,_,_,_=>none
 | k+1,s2,s3,s4=>
  bQ (decide (s4 < ((a2.length:Int)))) λx5=>
  cond x5 (
   ae (idx a2 s4) λe6=>
   cond (decide (e6 < 0)) (
    ae (cZ N s2 2 s3) λr7=>
    some (Sum.inr (([],r7)))) (
    ae (eN N s2 a1 ([U64 e6])) λr8=>
    ae (bN N r8.1 s2 r8.2 s3) λr9=>
    bX N a2 a1 k r8.1 r9 (I64 (s4+1)))) (
   some (Sum.inl ((s2,s3))))
def aB(N:Nat)(b1:(List Int))(a1:Int)(a2:(List Int))(a3:Int):Option ((List Int)×Int):=
 ae (bX N a2 a1 N b1 a3 0) λo=>mG o (λp1=>
  some ((p1.1,p1.2))) (λr=>some r)
theorem aM{N b1 a1 a2 a3 r}(h:aB N b1 a1 a2 a3=some r):FnM Tryd.prog 42 [.var (.st 2 [(eO 1 1 k8 b1),(j64 a3)]),.tail (b1.length*1)] [(.ref 0 [] 0),(j64 a1),(eL 1 j64 a2)] (.tup []) [.var (.st 2 [(eO 2 1 k8 r.1),(j64 r.2)]),.dead,.tail (r.1.length*1)]:=by
 unfold aB at h;refine At.fC hJ hT hmo Tryd.func42 rfl h ?_;refine At.mv 0 1 ?_;refine At.LS 3 [] 3 (λp1=>([],[(0,.var (.st 2 [(eO 2 1 k8 p1.1),(j64 p1.2)])),(2,.tail (p1.1.length*1))],[])) (λop1 J k=>∃s2 s3 s4,bX N a2 a1 k s2 s3 s4=some op1/\J [0,1,8,9] 3 [(10,(j64 s4))] [(0,.var (.st 2 [(eO 2 1 k8 s2),(j64 s3)])),(2,.tail (s2.length*1))] []) N (λ_ h=>⟨_,_,_,h,jr⟩) (λop1 g1 k s hI=>?_) λp1=>?_
 ·obtain⟨s2,s3,s4,h,hj⟩:=hI;cases k with
  | zero=>cases h
  | succ k=>
   refine At.jr hj ?_ h;refine lx ?_;intro x5;refine At.c 1 ?_ ?_
   ·refine At.b 0 (λ_ e=>cB hT j64 e) λe6=>?_;refine At.c 4 ?_ ?_
    ·refine At.b 1 (λ_ e=>aL [0,2] (iF e)) λr7=>?_;intro e;apply vN g1 e;exact At.rC 0 [(4,2)]
    ·refine At.o 8 (aN hT (x:=(.sl 1 1 [(k64 (U64 e6))]))) ?_;refine At.b 0 (λ_ e=>aL [] (nA e)) λr8=>?_;refine At.b 2 (λ_ e=>aL [0,3,2] (dQ e)) λr9=>?_;exact λh=>At.k 2 ⟨_,_,_,h,(zW 3 2 (by kernel_rfl) jr)⟩
   ·apply rt;exact At.xs 0
 ·apply rt;exact At.zC 0 []
def eE(N:Nat)(a2:(List Int))(a1:Int):Nat->(List Int)->Int->Option (Sum ((List Int)) ((List Int)×Int))
 | 0,_,_=>none
 | k+1,s3,s4=>
  bQ (decide (s4 < ((a2.length:Int)))) λx5=>
  cond x5 (
   ae (idx a2 s4) λe6=>
   bQ (I64 (64 - (I64 (8*a1)))) λx7=>
   ae (aDO .i64 e6 x7) λx8=>
   bQ (I64 (64 - (I64 (8*a1)))) λx9=>
   ae (yW .i64 x8 x9) λx10=>
   cond (x10 != e6) (
    some (Sum.inr (([],3)))) (
    bQ (I64 (64 - (I64 (8*a1)))) λx11=>
    ae (aDO .u64 (U64 e6) x11) λx12=>
    bQ (I64 (64 - (I64 (8*a1)))) λx13=>
    ae (yW .u64 x12 x13) λx14=>
    ae (jM 8 s3 (([x14]:List Int))) λz15=>
    eE N a2 a1 k z15 (I64 (s4+1)))) (
   some (Sum.inl s3))
def dM(N:Nat)(a0:(List Int))(a1:Int)(a2:(List Int)):Option ((List Int)×Int):=
 bQ (cond (decide (a1 < 1)) true (decide (a1 > 8))) λx1=>
 cond x1 (
  some (([],2))) (
  ae (eE N a2 a1 N [] 0) λo=>mG o (λp2=>
   ae (eN N a0 a1 p2) λr16=>
   some ((r16.1,r16.2))) (λr=>some r))
theorem nL{N a0 a1 a2 r}(h:dM N a0 a1 a2=some r):FnM Tryd.prog 44 [] [(eL 1 k8 a0),(j64 a1),(eL 1 j64 a2)] (.tup [(eO 0 1 k8 r.1),(j64 r.2)]) [.tail (r.1.length*1)]:=by
 unfold dM at h;refine At.f hJ hT hmo Tryd.func44 rfl h ?_;refine lx ?_;intro x1;refine At.c 8 ?_ ?_
 ·refine At.ownn 2 6 1 ?_;apply rt;exact At.r 0
 ·refine At.ownn 4 8 1 ?_;refine At.LS 0 [0,1] 1 (λp2=>([(8,(eO 0 1 k64 p2))],[(0,.tail (p2.length*1))],[])) (λop2 J k=>∃s3 s4,eE N a2 a1 k s3 s4=some op2/\J [0,1,18,19] 1 [(8,(eO 0 1 k64 s3)),(20,(j64 s4))] [(0,.tail (s3.length*1))] []) N (λ_ h=>⟨_,_,h,jr⟩) (λop2 g2 k s hI=>?_) λp2=>?_
  ·obtain⟨s3,s4,h,hj⟩:=hI;cases k with
   | zero=>cases h
   | succ k=>
    refine At.jr hj ?_ h;refine lx ?_;intro x5;refine At.c 1 ?_ ?_
    ·refine At.b 0 (λ_ e=>cB hT j64 e) λe6=>?_;refine lx ?_;intro x7;refine At.b 6 (λ_ e=>aBI hT (k' := .i64) e (by kernel_rfl) (by kernel_rfl)) λx8=>?_;refine lx ?_;intro x9;refine At.b 3 (λ_ e=>sQ hT (k' := .i64) e (by kernel_rfl) (by kernel_rfl)) λx10=>?_;refine At.c 4 ?_ ?_
     ·refine At.ownn 2 6 1 ?_;refine At.sw 0 1 0 ?_;intro e;apply vN g2 e;exact At.r 0
     ·refine lx ?_;intro x11;refine At.b 6 (λ_ e=>aBI hT (k' := .i64) e (by kernel_rfl) (by kernel_rfl)) λx12=>?_;refine lx ?_;intro x13;refine At.b 3 (λ_ e=>sQ hT (k' := .i64) e (by kernel_rfl) (by kernel_rfl)) λx14=>?_;refine At.o 0 (aN hT (x:=(.sl 1 1 [(k64 x14)]))) ?_;refine At.b 0 (λ_ e=>dZ hT k64 (id:=0) (k:=1) e) λz15=>?_;exact λh=>At.k 3 ⟨_,_,h,jr⟩
    ·apply rt;exact At.xs 0
  ·refine At.b 3 (λ_ e=>aL [] (nA e)) λr16=>?_;refine At.sw 4 1 0 ?_;apply rt;exact At.r 0
def bU(N:Nat)(a1:(List aC)):Nat->(List Int)->Int->Int->Option ((List Int)×Int)
 | 0,_,_,_=>none
 | k+1,s2,s3,s4=>
  bQ (decide (s4 < ((a1.length:Int)))) λx5=>
  cond x5 (
   ae (idx a1 s4) λe6=>
   ae (dM N s2 4 ([e6.gX,e6.gY,e6.gZ])) λr7=>
   ae (bN N r7.1 s2 r7.2 s3) λr8=>
   bU N a1 k r7.1 r8 (I64 (s4+1))) (
   some ((s2,s3)))
def dT(N:Nat)(b1:(List Int))(a1:(List aC))(a2:Int):Option ((List Int)×Int):=
 ae (bU N a1 N b1 a2 0) λp1=>
 some ((p1.1,p1.2))
theorem lD{N b1 a1 a2 r}(h:dT N b1 a1 a2=some r):FnM Tryd.prog 57 [.var (.st 2 [(eO 1 1 k8 b1),(j64 a2)]),.tail (b1.length*1)] [(.ref 0 [] 0),(eL 3 aC.enc a1)] (.tup []) [.var (.st 2 [(eO 2 1 k8 r.1),(j64 r.2)]),.dead,.tail (r.1.length*1)]:=by
 unfold dT at h;refine At.f hJ hT hmo Tryd.func57 rfl h ?_;refine At.mv 0 1 ?_;refine At.L 3 [] 3 (λp1=>([],[(0,.var (.st 2 [(eO 2 1 k8 p1.1),(j64 p1.2)])),(2,.tail (p1.1.length*1))],[])) (λp1 J k=>∃s2 s3 s4,bU N a1 k s2 s3 s4=some p1/\J [0,6,7] 3 [(8,(j64 s4))] [(0,.var (.st 2 [(eO 2 1 k8 s2),(j64 s3)])),(2,.tail (s2.length*1))] []) N (λ_ h=>⟨_,_,_,h,jr⟩) (λp1 k s hI=>?_) λp1=>?_
 ·obtain⟨s2,s3,s4,h,hj⟩:=hI;cases k with
  | zero=>cases h
  | succ k=>
   refine At.jr hj ?_ h;refine lx ?_;intro x5;refine At.c 1 ?_ ?_
   ·refine At.b 0 (λ_ e=>cB hT aC.enc e) λe6=>?_;refine bi λr7 hr7=>?_;refine bi λr8 hr8=>?_;refine At.d 3 (dE1 11 (λ_=>aN hT (x:=(.sl 1 3 [(j64 e6.gX),(j64 e6.gY),(j64 e6.gZ)]))) dE0) (dF 12 (.tup [(eO 4 1 k8 r7.1),(j64 r7.2)]) [] [.tail (r7.1.length*1)] (jB (aL [] (nL hr7))) (dF 15 (.tup []) [(0,.var (.st 2 [(eO 4 1 k8 r7.1),(j64 r8)])),(2,.dead)] [] (jB (aL [0,4,2] (dQ hr8))) dF0)) ?_;exact λh=>At.k 2 ⟨_,_,_,h,(zW 4 2 (by kernel_rfl) jr)⟩
   ·apply rt;exact At.x 0
 ·apply rt;exact At.z 0
def mH : Nat->Bool:=imL [3]
def dD(N:Nat)(b1:(List Int))(a1:aY)(a2:Int):Option ((List Int)×Int):=
 ae (cond a1.gA5 (some 1) (some 0)) λp1=>
 ae (aB N b1 1 ([a1.gW,a1.gH,a1.gV,a1.gA0,a1.gA1,p1]) a2) λr2=>
 ae (eN N r2.1 8 ([a1.gO])) λr3=>
 ae (bN N r3.1 r2.1 r3.2 r2.2) λr4=>
 ae (dT N r3.1 ([a1.gE.gR,a1.gE.gS,a1.gE.gUp,a1.gE.gU]) r4) λr5=>
 ae (aB N r5.1 4 ([a1.gE.gA4,a1.gE.gA8]) r5.2) λr6=>
 some ((r6.1,r6.2))
theorem mC{N b1 a1 a2 r}(h:dD N b1 a1 a2=some r):FnM Tryd.prog 45 [.var (.st 2 [(eO 1 1 k8 b1),(j64 a2)]),.tail (b1.length*1)] [(.ref 0 [] 0),(aY.enc a1)] (.tup []) [.var (.st 2 [(eO 5 1 k8 r.1),(j64 r.2)]),.dead,.dead,.dead,.dead,.tail (r.1.length*1)]:=by
 unfold dD at h;refine At.f mH hT hmo Tryd.func45 rfl h ?_;refine At.J 2 1 [0,3] 2 (λp1=>([(4,(j64 p1))],[],[])) (λp1=>?_) λp1=>?_
 ·refine At.c 2 ?_ ?_
  ·apply rt;exact At.jn 1
  ·apply rt;exact At.jn 0
 ·refine At.o 12 (aN hT (x:=(.sl 1 6 [(j64 a1.gW),(j64 a1.gH),(j64 a1.gV),(j64 a1.gA0),(j64 a1.gA1),(j64 p1)]))) ?_;refine At.b 0 (λ_ e=>aL [0,1] (aM e)) λr2=>?_;refine bi λr3 hr3=>?_;refine bi λr4 hr4=>?_;refine At.d 0 (dE1 7 (λ_=>aN hT (x:=(.sl 1 1 [(k64 a1.gO)]))) dE0) (dF 8 (.tup [(eO 3 1 k8 r3.1),(j64 r3.2)]) [] [.tail (r3.1.length*1)] (jB (aL [] (nA hr3))) (dF 11 (.tup []) [(0,.var (.st 2 [(eO 3 1 k8 r3.1),(j64 r4)])),(2,.dead)] [] (jB (aL [0,3,2] (dQ hr4))) dF0)) ?_;refine At.o 13 (aN hT (x:=(.sl 3 4 [(aC.enc a1.gE.gR),(aC.enc a1.gE.gS),(aC.enc a1.gE.gUp),(aC.enc a1.gE.gU)]))) ?_;refine At.b 0 (λ_ e=>aL [0,3] (lD e)) λr5=>?_;refine At.o 7 (aN hT (x:=(.sl 1 2 [(j64 a1.gE.gA4),(j64 a1.gE.gA8)]))) ?_;refine At.b 0 (λ_ e=>aL [0,4] (aM e)) λr6=>?_;apply rt;exact At.z 0
def nP : Nat->Bool:=imL [3]
def cC(N:Nat)(z10:(List Int)):Nat->(List Int)->Int->Int->Option ((List Int)×Int)
 | 0,_,_,_=>none
 | k+1,s12,s13,s14=>
  bQ (decide (s14 < ((z10.length:Int)))) λx15=>
  cond x15 (
   ae (idx z10 s14) λe16=>
   ae (dM N s12 8 ([e16])) λr17=>
   ae (bN N r17.1 s12 r17.2 s13) λr18=>
   cC N z10 k r17.1 r18 (I64 (s14+1))) (
   some ((s12,s13)))
def aH(N:Nat)(b1:(List Int))(a1:aF)(a2:Int):Option ((List Int)×Int):=
 ae (aB N b1 1 ([a1.gC]) a2) λr1=>
 cond (a1.gC==1) (
  ae (aB N r1.1 4 ([a1.gK]) r1.2) λr2=>
  bQ ((a1.gL.length:Int)) λx3=>
  ae (aB N r2.1 2 ([x3]) r2.2) λr4=>
  ae (jM 1 r4.1 a1.gL) λz5=>
  some ((z5,r4.2))) (
  cond (a1.gC==2) (
   ae (aB N r1.1 4 ([a1.gK]) r1.2) λr6=>
   some ((r6.1,r6.2))) (
   ae (cond (a1.gC==3) (some (a1.gC==3)) (some (a1.gC==4))) λp7=>
   cond p7 (
    ae (aB N r1.1 4 ([a1.gA.gG,a1.gA.gI,a1.gA.gJ,a1.gA.gN]) r1.2) λr8=>
    cond (a1.gC==4) (
     some ((r8.1,r8.2))) (
     ae (jM 8 a1.gA.gT.gM.toList (([a1.gA.gT.gT.gX,a1.gA.gT.gT.gY,a1.gA.gT.gT.gZ]:List Int))) λz10=>
     ae (cC N z10 N r8.1 r8.2 0) λp11=>
     some ((p11.1,p11.2)))) (
    cond (a1.gC==5) (
     ae (aB N r1.1 1 ([a1.gF]) r1.2) λr19=>
     ae (dD N r19.1 a1.gD r19.2) λr20=>
     ae (aB N r20.1 2 ([a1.gA3]) r20.2) λr21=>
     some ((r21.1,r21.2))) (
     ae (cond (a1.gC==6) (some (a1.gC==6)) (some (a1.gC==9))) λp22=>
     cond p22 (
      ae (aB N r1.1 1 ([a1.gF]) r1.2) λr23=>
      some ((r23.1,r23.2))) (
      cond (a1.gC==7) (
       ae (aB N r1.1 1 ([a1.gF,a1.gP]) r1.2) λr24=>
       ae (aB N r24.1 4 ([I64 a1.gA2,a1.gA6]) r24.2) λr25=>
       some ((r25.1,r25.2))) (
       cond (a1.gC==8) (
        ae (aB N r1.1 1 ([a1.gF,a1.gP]) r1.2) λr26=>
        some ((r26.1,r26.2))) (
        cond (a1.gC==10) (
         ae (aB N r1.1 4 ([a1.gA7]) r1.2) λr27=>
         some ((r27.1,r27.2))) (
         ae (cZ N r1.1 2 r1.2) λr28=>
         some (([],r28))))))))))
theorem nE{N b1 a1 a2 r}(h:aH N b1 a1 a2=some r):FnM Tryd.prog 29 [.var (.st 2 [(eO 1 1 k8 b1),(j64 a2)]),.tail (b1.length*1)] [(.ref 0 [] 0),(aF.enc a1)] (.tup []) [.var (.st 2 [(eO 4 1 k8 r.1),(j64 r.2)]),.dead,.dead,.dead,.tail (r.1.length*1)]:=by
 unfold aH at h;refine At.fC nP hT hmo Tryd.func29 rfl h ?_;refine At.o 4 (aN hT (x:=(.sl 1 1 [(j64 a1.gC)]))) ?_;refine At.b 0 (λ_ e=>aL [0,1] (aM e)) λr1=>?_;refine At.c 8 ?_ ?_
 ·refine At.o 3 (aN hT (x:=(.sl 1 1 [(j64 a1.gK)]))) ?_;refine At.b 0 (λ_ e=>aL [0,2] (aM e)) λr2=>?_;refine lx ?_;intro x3;refine At.o 4 (aN hT (x:=(.sl 1 1 [(j64 x3)]))) ?_;refine At.b 0 (λ_ e=>aL [0,4] (aM e)) λr4=>?_;refine bi λz5 hz5=>?_;refine At.d 0 dE0 (dF 7 (eO 5 1 k8 z5) [(5,.tail (z5.length*1))] [] (jB (dZ hT k8 (id:=5) (k:=1) hz5)) dF0) ?_;apply rt;exact At.zC 0 [(5,4)]
 ·refine At.c 2 ?_ ?_
  ·refine At.o 3 (aN hT (x:=(.sl 1 1 [(j64 a1.gK)]))) ?_;refine At.b 0 (λ_ e=>aL [0,2] (aM e)) λr6=>?_;apply rt;exact At.zC 0 []
  ·refine At.J 0 1 [0,3,4,15] 4 (λp7=>([(48,(eB p7))],[],[])) (λp7=>?_) λp7=>?_
   ·refine At.c 2 ?_ ?_
    ·apply rt;exact At.jn 0
    ·apply rt;exact At.jn 2
   ·refine At.c 0 ?_ ?_
    ·refine At.o 9 (aN hT (x:=(.sl 1 4 [(j64 a1.gA.gG),(j64 a1.gA.gI),(j64 a1.gA.gJ),(j64 a1.gA.gN)]))) ?_;refine At.b 0 (λ_ e=>aL [0,2] (aM e)) λr8=>?_;refine At.c 3 ?_ ?_
     ·apply rt;exact At.rC 0 []
     ·refine At.dr 0 [0,4,64] 5 ?_;refine At.gz 0 3 ((bW.enc a1.gA)) ?_;refine bi λz10 hz10=>?_;refine At.d 0 (dE1 15 (λ_=>aN hT (x:=(.sl 1 3 [(j64 a1.gA.gT.gT.gX),(j64 a1.gA.gT.gT.gY),(j64 a1.gA.gT.gT.gZ)]))) dE0) (dF 2 (eO 5 1 j64 a1.gA.gT.gM.toList) [] [.tail (a1.gA.gT.gM.toList.length*1)] (jB (aBf hT (N:=9) (k:=1) j64 a1.gA.gT.gM (by kernel_rfl) (by kernel_rfl))) (dF 16 (eO 5 1 j64 z10) [(5,.tail (z10.length*1))] [] (jB (dZ hT j64 (id:=5) (k:=1) hz10)) dF0)) ?_;refine At.L 0 [] 6 (λp11=>([],[(0,.var (.st 2 [(eO 4 1 k8 p11.1),(j64 p11.2)])),(4,.tail (p11.1.length*1))],[])) (λp11 J k=>∃s12 s13 s14,cC N z10 k s12 s13 s14=some p11/\J [0,81,82] 6 [(83,(j64 s14))] [(0,.var (.st 2 [(eO 4 1 k8 s12),(j64 s13)])),(4,.tail (s12.length*1))] []) N (λ_ h=>⟨_,_,_,h,jr⟩) (λp11 k s hI=>?_) λp11=>?_
      ·obtain⟨s12,s13,s14,h,hj⟩:=hI;cases k with
       | zero=>cases h
       | succ k=>
        refine At.jr hj ?_ h;refine lx ?_;intro x15;refine At.c 1 ?_ ?_
        ·refine At.b 0 (λ_ e=>cB hT j64 e) λe16=>?_;refine At.o 8 (aN hT (x:=(.sl 1 1 [(j64 e16)]))) ?_;refine At.b 0 (λ_ e=>aL [] (nL e)) λr17=>?_;refine At.b 2 (λ_ e=>aL [0,6,4] (dQ e)) λr18=>?_;exact λh=>At.k 2 ⟨_,_,_,h,(zW 6 4 (by kernel_rfl) jr)⟩
        ·apply rt;exact At.x 0
      ·apply rt;exact At.zC 0 []
    ·refine At.c 2 ?_ ?_
     ·refine At.o 3 (aN hT (x:=(.sl 1 1 [(j64 a1.gF)]))) ?_;refine At.b 0 (λ_ e=>aL [0,2] (aM e)) λr19=>?_;refine At.b 3 (λ_ e=>aL [0,4] (mC e)) λr20=>?_;refine At.o 3 (aN hT (x:=(.sl 1 1 [(j64 a1.gA3)]))) ?_;refine At.b 0 (λ_ e=>aL [0,8] (aM e)) λr21=>?_;apply rt;exact At.zC 0 [(9,4)]
     ·refine At.J 0 1 [0,3,15] 4 (λp22=>([(115,(eB p22))],[],[])) (λp22=>?_) λp22=>?_
      ·refine At.c 2 ?_ ?_
       ·apply rt;exact At.jn 0
       ·apply rt;exact At.jn 2
      ·refine At.c 0 ?_ ?_
       ·refine At.o 3 (aN hT (x:=(.sl 1 1 [(j64 a1.gF)]))) ?_;refine At.b 0 (λ_ e=>aL [0,2] (aM e)) λr23=>?_;apply rt;exact At.zC 0 []
       ·refine At.c 2 ?_ ?_
        ·refine At.o 5 (aN hT (x:=(.sl 1 2 [(j64 a1.gF),(j64 a1.gP)]))) ?_;refine At.b 0 (λ_ e=>aL [0,2] (aM e)) λr24=>?_;refine At.o 6 (aN hT (x:=(.sl 1 2 [(j64 (I64 a1.gA2)),(j64 a1.gA6)]))) ?_;refine At.b 0 (λ_ e=>aL [0,4] (aM e)) λr25=>?_;apply rt;exact At.zC 0 [(5,4)]
        ·refine At.c 2 ?_ ?_
         ·refine At.o 5 (aN hT (x:=(.sl 1 2 [(j64 a1.gF),(j64 a1.gP)]))) ?_;refine At.b 0 (λ_ e=>aL [0,2] (aM e)) λr26=>?_;apply rt;exact At.zC 0 []
         ·refine At.c 2 ?_ ?_
          ·refine At.o 3 (aN hT (x:=(.sl 1 1 [(j64 a1.gA7)]))) ?_;refine At.b 0 (λ_ e=>aL [0,2] (aM e)) λr27=>?_;apply rt;exact At.zC 0 []
          ·refine At.b 1 (λ_ e=>aL [0,2] (iF e)) λr28=>?_;apply rt;exact At.zC 0 [(5,4)]
def dC(N:Nat)(a0:(List aF)):Nat->(List Int)->Int->Option (Sum ((List Int)) ((List Int)×Int))
 | 0,_,_=>none
 | k+1,s3,s4=>
  bQ (decide (s4 < ((a0.length:Int)))) λx5=>
  cond x5 (
   ae (idx a0 s4) λe6=>
   ae (aH N [] e6 0) λr7=>
   cond (r7.2 != 0) (
    some (Sum.inr (([],r7.2)))) (
    ae (jM 1 s3 r7.1) λz8=>
    dC N a0 k z8 (I64 (s4+1)))) (
   some (Sum.inl s3))
def bH(N:Nat)(a0:(List aF)):Option ((List Int)×Int):=
 bQ (decide (((a0.length:Int)) > 256)) λx1=>
 cond x1 (
  some (([],3))) (
  ae (dC N a0 N [] 0) λo=>mG o (λp2=>
   bQ (decide (((p2.length:Int)) > 65536)) λx9=>
   cond x9 (some (([],3))) (some ((p2,0)))) (λr=>some r))
theorem rG{N a0 r}(h:bH N a0=some r):FnM Tryd.prog 8 [] [(eL 46 aF.enc a0)] (.tup [(eL 1 k8 r.1),(j64 r.2)]) []:=by
 unfold bH at h;refine At.f hJ hT hmo Tryd.func8 rfl h ?_;refine lx ?_;intro x1;refine At.c 5 ?_ ?_
 ·apply rt;exact At.r 2
 ·refine At.ownn 4 4 1 ?_;refine At.LS 0 [] 1 (λp2=>([(4,(eO 0 1 k8 p2))],[(0,.tail (p2.length*1))],[])) (λop2 J k=>∃s3 s4,dC N a0 k s3 s4=some op2/\J [11,12] 1 [(4,(eO 0 1 k8 s3)),(13,(j64 s4))] [(0,.tail (s3.length*1))] []) N (λ_ h=>⟨_,_,h,jr⟩) (λop2 g2 k s hI=>?_) λp2=>?_
  ·obtain⟨s3,s4,h,hj⟩:=hI;cases k with
   | zero=>cases h
   | succ k=>
    refine At.jr hj ?_ h;refine lx ?_;intro x5;refine At.c 1 ?_ ?_
    ·refine At.b 0 (λ_ e=>cB hT aF.enc e) λe6=>?_;refine At.ownb 8 2 1 [0] ?_;refine At.b 0 (λ_ e=>aL [2,3] (nE e)) λr7=>?_;refine At.c 5 ?_ ?_
     ·refine At.d 0 dE0 dF0 ?_;intro e;apply vN g2 e;exact At.r 0
     ·refine At.b 5 (λ_ e=>dZ hT k8 (id:=0) (k:=1) e) λz8=>?_;exact λh=>At.k 3 ⟨_,_,h,jr⟩
    ·apply rt;exact At.xs 0
  ·refine lx ?_;intro x9;refine At.c 3 ?_ ?_
   ·apply rt;exact At.r 2
   ·apply rt;exact At.r 3
def iI(N:Nat):Option ((List ByteArray)):=
 some ([ByteArray.mk #[],ByteArray.mk #[108,111,97,100],yR,ByteArray.mk #[112,117,116],ByteArray.mk #[116,97,107,101],qG,yU,zJ,aAP,aAF,ByteArray.mk #[116,105,99,107]])
theorem oB{N r}(h:iI N=some r):FnM Tryd.prog 15 [] [] (eL 1 eS r) []:=by
 unfold iI at h;refine At.f hJ hT hmo Tryd.func15 rfl h ?_;refine At.o 1 (aN hT (x:=(.sl 1 11 [(eS (ByteArray.mk #[])),(eS (ByteArray.mk #[108,111,97,100])),(eS yR),(eS (ByteArray.mk #[112,117,116])),(eS (ByteArray.mk #[116,97,107,101])),(eS qG),(eS yU),(eS zJ),(eS aAP),(eS aAF),(eS (ByteArray.mk #[116,105,99,107]))]))) ?_;apply rt;exact At.r 1
def aDA : Go.Shelf.Ren:=⟨λ | 171=>35 | 243=>49 | 246=>62 | 283=>73 | 284=>74 | 285=>75 | 286=>76 | 129=>89 | 317=>88 | 318=>90 | 319=>91 | 320=>92 | 337=>99 | 338=>100 | n=>n,λ | 3=>3 | 9=>9 | 2=>2 | 4=>4 | 171=>131 | 0=>0 | 53=>31 | 37=>22 | 5=>5 | 173=>134 | 212=>145 | 51=>38 | 20=>20 | 213=>146 | 46=>66 | 232=>165 | 233=>166 | n=>n,λ | 17=>1 | 18=>6 | 19=>7 | n=>n⟩
theorem itoa : LaysM.n171 Tryd.prog aDA where
 mixed:=by kernel_rfl
 f129:=Tryd.func89.trans (congrArg some (by kernel_rfl))
 f171:=Tryd.func35.trans (congrArg some (by kernel_rfl))
 f243:=Tryd.func49.trans (congrArg some (by kernel_rfl))
 f246:=Tryd.func62.trans (congrArg some (by kernel_rfl))
 f283:=Tryd.func73.trans (congrArg some (by kernel_rfl))
 f284:=Tryd.func74.trans (congrArg some (by kernel_rfl))
 f285:=Tryd.func75.trans (congrArg some (by kernel_rfl))
 f286:=Tryd.func76.trans (congrArg some (by kernel_rfl))
 f317:=Tryd.func88.trans (congrArg some (by kernel_rfl))
 f318:=Tryd.func90.trans (congrArg some (by kernel_rfl))
 f319:=Tryd.func91.trans (congrArg some (by kernel_rfl))
 f320:=Tryd.func92.trans (congrArg some (by kernel_rfl))
 f337:=Tryd.func99.trans (congrArg some (by kernel_rfl))
 f338:=Tryd.func100.trans (congrArg some (by kernel_rfl))
 t0:=Tryd.underlying0
 a0:=Tryd.isAgg0
 z0:=Tryd.sizeOf0
 v0:=Tryd.zeroValue0
 t2:=Tryd.underlying2
 a2:=Tryd.isAgg2
 z2:=Tryd.sizeOf2
 v2:=Tryd.zeroValue2
 t3:=Tryd.underlying3
 a3:=Tryd.isAgg3
 z3:=Tryd.sizeOf3
 v3:=Tryd.zeroValue3
 t4:=Tryd.underlying4
 a4:=Tryd.isAgg4
 z4:=Tryd.sizeOf4
 v4:=Tryd.zeroValue4
 t5:=Tryd.underlying5
 a5:=Tryd.isAgg5
 z5:=Tryd.sizeOf5
 v5:=Tryd.zeroValue5
 t9:=Tryd.underlying9
 a9:=Tryd.isAgg9
 z9:=Tryd.sizeOf9
 v9:=Tryd.zeroValue9
 t20:=Tryd.underlying20
 a20:=Tryd.isAgg20
 z20:=Tryd.sizeOf20
 v20:=Tryd.zeroValue20
 t37:=Tryd.underlying22
 a37:=Tryd.isAgg22
 z37:=Tryd.sizeOf22
 v37:=Tryd.zeroValue22
 t46:=Tryd.underlying66
 a46:=Tryd.isAgg66
 z46:=Tryd.sizeOf66
 v46:=Tryd.zeroValue66
 t51:=Tryd.underlying38
 a51:=Tryd.isAgg38
 z51:=Tryd.sizeOf38
 v51:=Tryd.zeroValue38
 t53:=Tryd.underlying31
 a53:=Tryd.isAgg31
 z53:=Tryd.sizeOf31
 v53:=Tryd.zeroValue31
 t171:=Tryd.underlying131
 a171:=Tryd.isAgg131
 z171:=Tryd.sizeOf131
 v171:=Tryd.zeroValue131
 t173:=Tryd.underlying134
 a173:=Tryd.isAgg134
 z173:=Tryd.sizeOf134
 v173:=Tryd.zeroValue134
 t212:=Tryd.underlying145
 a212:=Tryd.isAgg145
 z212:=Tryd.sizeOf145
 v212:=Tryd.zeroValue145
 t213:=Tryd.underlying146
 a213:=Tryd.isAgg146
 z213:=Tryd.sizeOf146
 t232:=Tryd.underlying165
 a232:=Tryd.isAgg165
 z232:=Tryd.sizeOf165
 v232:=Tryd.zeroValue165
 t233:=Tryd.underlying166
 a233:=Tryd.isAgg166
 z233:=Tryd.sizeOf166
 v233:=Tryd.zeroValue166
 g17:=by kernel_rfl
 g18:=by kernel_rfl
 g19:=by kernel_rfl
 i0:=by kernel_rfl
 i2:=by kernel_rfl
 i3:=by kernel_rfl
 i4:=by kernel_rfl
 i5:=by kernel_rfl
 i9:=by kernel_rfl
 i20:=by kernel_rfl
 i37:=by kernel_rfl
 i46:=by kernel_rfl
 i51:=by kernel_rfl
 i53:=by kernel_rfl
 i171:=by kernel_rfl
 i173:=by kernel_rfl
 i212:=by kernel_rfl
 i232:=by kernel_rfl
 i233:=by kernel_rfl
 m17:=by kernel_rfl
 m18:=by kernel_rfl
 m19:=by kernel_rfl
theorem aBL : (Tryd.prog.info? 90).map (·.size)=some 2:=by kernel_rfl
theorem aEJ : liesAt Tryd.prog Tryd.prog.depth 90 (2 / Tryd.prog.cellsOf 90) 0 90 1=true:=by kernel_rfl
theorem nT : Tryd.prog.follows .mixedOrders=true:=by kernel_rfl
theorem aDz(b:Nat)(w:World)(h0:w.cell? ⟨b,0,none⟩=some (.pointer (some ⟨b,0,none⟩))) :
  Calls Tryd.prog 48 #[.pointer (some ⟨b,0,none⟩)] w λe w'=>e = .returned (.tuple #[])/\w'=w:=by
 obtain⟨j,hj,_⟩:=au.1 aBL;have mixed:=nT
 go_enter Tryd.func48,Tryd.ntmps48
 go_wp2
 rw[Lib.run_neq_ptr_same w _ Tryd.underlying88 hj]
 go_wp2
 go_end0
 exact⟨rfl,rfl⟩
theorem aCd(b:Nat)(w:World)(h0:w.cell? ⟨b,0,none⟩=some (.pointer none))(hs:w.shape? b=some (90,2))(hf:w.frozen? ⟨b,0,none⟩=false) :
  Calls Tryd.prog 48 #[.pointer (some ⟨b,0,none⟩)] w λe w'=>e = .returned (.tuple #[])/\w'=w.setCell ⟨b,0,none⟩ (.pointer (some ⟨b,0,none⟩)):=by
 obtain⟨j,hj,hz⟩:=au.1 aBL;have mixed:=nT
 go_enter Tryd.func48,Tryd.ntmps48
 go_wp2
 rw[Lib.run_to_unsafe w ⟨b,0,none⟩ Tryd.underlying88 Tryd.underlying120 hj (by rw[hz];decide) hs (by show 0 < 2;omega)]
 simp only[Result.andThen]
 rw[Oper.upon_value]
 go_wp2
 rw[run_callFunc_extern Tryd.func61 (by kernel_rfl) (by kernel_rfl) (by kernel_rfl) (e:=Extern.AbiNoEscape.same) (by kernel_rfl),Lib.run_noEscape]
 simp only[Result.andThen]
 rw[Oper.upon_value]
 go_wp2
 rw[Lib.run_from_unsafe w ⟨b,0,none⟩ Tryd.underlying120 Tryd.underlying88 hj hs aEJ]
 simp only[Result.andThen]
 rw[Oper.upon_value]
 go_wp2
 go_end0
 exact⟨rfl,rfl⟩
theorem aCp(B b:Nat)(bs:List Value)(w:World)(h:Lib.IsBuilder 90 5 B b bs w) :
  Calls Tryd.prog 48 #[.pointer (some ⟨b,0,none⟩)] w λe w'=>e = .returned (.tuple #[])/\Lib.BuilderAt 90 5 B b (.pointer (some ⟨b,0,none⟩)) bs w'/\Below B w w':=by
 rcases h with h | h
 ·refine(aCd b w h.cell0 h.shape h.frozen0).mono ?_;rintro e w' ⟨he,rfl⟩
  exact⟨he,h.used _,(Below.refl B w).setCell (p:=⟨b,0,none⟩) h.1 _⟩
 ·refine(aDz b w h.cell0).mono ?_;rintro e w' ⟨he,rfl⟩
  exact⟨he,h,Below.refl B _⟩
theorem aEH : (Tryd.prog.info? 5).map (λi=>(i.zero,i.size,i.bytes))=some (some (.int .u8 0),1,1):=by kernel_rfl
theorem aCn : Tryd.prog.cellsOf 5=1:=by kernel_rfl
theorem aA9(args:Array Value)(w:World):(callFunc 48 args).run Tryd.prog w = .ok (.enter 48 args) w:=enters_of Tryd.func48 (by kernel_rfl) rfl args w
theorem zQ(B b:Nat)(bs:List Value)(s:ByteArray)(w:World)(h:Lib.IsBuilder 90 5 B b bs w)(hl:bs.length+s.size<=140737488355328)(hB:B<=w.heap.size) :
  Calls Tryd.prog 34 #[.pointer (some ⟨b,0,none⟩),.string s] w λe w'=>e = .returned (.tuple #[.int .i64 s.size,.nilIface])/\Lib.BuilderAt 90 5 B b (.pointer (some ⟨b,0,none⟩)) (bs++Lib.strCells s) w'/\Below B w w':=by
 obtain⟨i0,hi,z0,z1,z2⟩:=info_parts aEH;have mixed:=nT;have e48:=aA9
 go_enter Tryd.func34,Tryd.ntmps34
 go_wp2_with (go_at_fn 48;refine(aCp B b bs _ h).mono ?_)
 rintro e w1 ⟨rfl,⟨hb0,v,hbk,hown,hne⟩,hb1⟩
 have c0:w1.cell? ⟨b,0,none⟩=some (.pointer (some ⟨b,0,none⟩)):=by rw[Lib.cell_of_heap hbk];rfl
 have c1:w1.cell? ⟨b,1,none⟩=some v:=by rw[Lib.cell_of_heap hbk];rfl
 go_wp2_with (at_builtin;refine Lib.wpList_append_own_string _ rfl _ _ 22 9 rfl B 5 i0 Tryd.underlying22 Tryd.underlying9 hi z0 z1 z2 _ _ _ rfl hown s rfl ?q3 ?q4 ?q5 ?_)
 case q3=>unfold maxLen;omega
 case q4=>omega
 case q5=>have:=hb1.size;omega
 intro v' w2 hown' hgrow _;have lt:b < w1.heap.size:=by
  refine Nat.lt_of_not_le λq=>?_;rw[Array.getElem?_eq_none q] at hbk;cases hbk
 have hb2:w2.heap[b]? = some (.cells #[.pointer (some ⟨b,0,none⟩),v] 90 (0,0)):=by rw[hgrow.block b lt (λe=>hne e.symm),hbk]
 have d0:w2.cell? ⟨b,0,none⟩=some (.pointer (some ⟨b,0,none⟩)):=by rw[Lib.cell_of_heap hb2];rfl
 have d1:w2.cell? ⟨b,1,none⟩=some v:=by rw[Lib.cell_of_heap hb2];rfl
 have f1:w2.frozen? ⟨b,1,none⟩=false:=Lib.frozen_of_heap hb2 1;obtain⟨ao,n',cap,rfl⟩:∃ao n' cap,v' = .slice ao n' cap:=by
  rcases hown'.2 with ⟨hv,_⟩ | ⟨g,cap,cur,hv,_⟩ <;> exact⟨_,_,_,hv⟩
 go_wp2
 go_ret2
 refine⟨rfl,Lib.BuilderAt.put hb0 hb2 (by simpa[Lib.strCells_length] using hown') (by decide),?_⟩
 exact(hb1.grown hgrow (by have:=hb1.size;omega) (λk hk=>(hown.lt k hk).1)).setCell (p:=⟨b,1,none⟩) hb0 _
theorem aBw(B b:Nat)(l:List UInt8)(w:World)(h:Lib.BuilderAt 90 5 B b (.pointer (some ⟨b,0,none⟩)) (Lib.byteCells l) w)(h0:l≠[]) :
  Calls Tryd.prog 36 #[.pointer (some ⟨b,0,none⟩)] w λe w'=>e = .returned (.string ⟨l.toArray⟩)/\Below B w w':=by
 obtain⟨hB,v,hbk,hown,hne⟩:=h;have hl0:l.length≠0:=by simpa using h0
 rw[Lib.byteCells_length] at hown;obtain⟨g,cap,cur,rfl,hbg,hg,hnc,hcm,hcs,htk⟩:∃g cap cur,v = .slice (some ⟨g,0,none⟩) l.length cap/\B<=g/\w.heap[g]? = some (.cells cur 5 (0,0))/\l.length<=cap/\cap<=maxLen/\cur.size=cap*1/\cur.toList.take (l.length*1)=Lib.byteCells l:=by
  rcases hown.2 with ⟨_,hz⟩ | ⟨g,cap,cur,hv,r⟩
  ·exact absurd hz hl0
  ·exact⟨g,cap,cur,hv,r⟩
 have c1:w.drew.cell? ⟨b,1,none⟩=some (.slice (some ⟨g,0,none⟩) l.length cap):=by
  rw[Lib.cell_of_heap (w:=w.drew) (b:=b) hbk];rfl
 have hSD:(Builtin.unsafeSliceData_ #[22] 110 #[.slice (some ⟨g,0,none⟩) l.length cap]).run Tryd.prog w.drew = .ok (.pointer (some ⟨g,0,none⟩)) w.drew:=Lib.run_unsafeSliceData_row _ _ _ _ _ _ (by omega)
 have hUS:(Builtin.unsafeString_ #[110,3] 9 #[.pointer (some ⟨g,0,none⟩),.int .i64 l.length]).run Tryd.prog w.drew = .ok (.string ⟨l.toArray⟩) (w.drew.freeze ⟨g,0,none⟩ l.length):=by
  refine Lib.run_unsafeString_row w.drew 110 3 9 5 Tryd.underlying110 aCn g cur.size (by have q:w.drew.heap[g]? = some (.cells cur 5 (0,0)):=hg;simp[World.shape?,q]) l h0 (by omega) (by unfold maxLen at hcm;omega) λj x hx=>?_;exact hown.cells (g:=g) rfl j (.int .u8 x.toNat) (by simp[Lib.byteCells,hx])
 have mixed:=nT
 go_enter Tryd.func36,Tryd.ntmps36
 go_wp2
 go_region_o
 all_goals (go_wp2;go_ret;exact⟨rfl,Lib.below_freeze (Below.drew (Below.refl B w)) (p:=⟨g,0,none⟩) hbg _⟩)
def tC(w:World):Prop:=Lib.TabIs Tryd.prog w "internal/strconv.uint64pow10" .u64 Lib.pow10Tab
theorem aAq(args:Array Value)(w:World):(callFunc 34 args).run Tryd.prog w = .ok (.enter 34 args) w:=enters_of Tryd.func34 (by kernel_rfl) rfl args w
theorem aA5(args:Array Value)(w:World):(callFunc 35 args).run Tryd.prog w = .ok (.enter 35 args) w:=enters_of Tryd.func35 (by kernel_rfl) rfl args w
theorem aA2(args:Array Value)(w:World):(callFunc 36 args).run Tryd.prog w = .ok (.enter 36 args) w:=enters_of Tryd.func36 (by kernel_rfl) rfl args w
theorem aEN{B b:Nat}{p:Value}{bs:List Value}{w:World}(k:Nat)(os:Array Obj)(h:Lib.BuilderAt 90 5 B b p bs w):Lib.BuilderAt 90 5 B b p bs (grow (w.drewN k) os):=by
 obtain⟨h1,v,h2,h3,h4⟩:=h;exact⟨h1,v,(heap_grow_old _ _ (sS h2)).trans h2,aCu k os h3,h4⟩
theorem aER(hI:∀(i:Int) (w:World),-9223372036854775808<=i->i<=9223372036854775807->tC w->Calls Tryd.prog 35 #[.int .i64 i] w λe w'=>e = .returned (.string ⟨(Lib.itoa i).toArray⟩)/\∃k os,w'=grow (w.drewN k) os)
  (hT:∀w w':World,tC w->Below w.heap.size w w'->tC w')
  (first:ByteArray) (l:List Int) (ao:Option Addr) (cap:Nat) (w:World) (tab:tC w) (h0:first.size≠0) (hf:first.size<=1000000) (hl:l.length<=100000) (h64:∀x∈l,-9223372036854775808<=x/\x<=9223372036854775807)
  (hc:∀(i:Nat) (x:Int),l[i]? = some x->∃b off,ao=some ⟨b,off,none⟩/\b < w.heap.size/\w.cell? ⟨b,off+i,none⟩=some (.int .i64 x)) :
  Calls Tryd.prog 16 #[.string first,.slice ao l.length cap] w λe w'=>e = .returned (.string ⟨(mN first l).toArray⟩)/\Below w.heap.size w w':=by
 have mixed:=nT;have e34:=aAq;have e35:=aA5;have e36:=aA2;have fresh:=Lib.fresh_isBuilder 90 5 w;have bl0:Below w.heap.size w (w.alloc (.cells #[.pointer none,.slice none 0 0] 90)):=(Below.refl _ w).alloc (Nat.le_refl _) _;have sz0:w.heap.size<=(w.alloc (.cells #[.pointer none,.slice none 0 0] 90)).heap.size:=bl0.size
 go_enter Tryd.func16,Tryd.ntmps16
 go_wp2_with (go_at_fn 34;refine(zQ w.heap.size w.heap.size [] first _ fresh ?q1 sz0).mono ?_)
 case q1=>simp;omega
 rintro e w1 ⟨rfl,hb1,bl1⟩
 rw[List.nil_append] at hb1;have bl2:=bl0.trans bl1
 go_wp2
 go_loopw [12] (λi wr=>∃k:Nat,k<=l.length/\i = .int .i64 k/\Lib.BuilderAt 90 5 w.heap.size w.heap.size (.pointer (some ⟨w.heap.size,0,none⟩)) (Lib.byteCells (mN first (l.take k))) wr/\Below w.heap.size w wr) (λi _=>match i with | .int _ m=>l.length - m.toNat | _=>0)
 case atStart=>exact⟨0,Nat.zero_le _,rfl,by rw[List.take_zero];simpa[mN,eW,Lib.strCells_eq] using hb1,bl2⟩
 case round=>
  obtain⟨k,hk,rfl,hbr,blr⟩:=hrel;by_cases hlt:k < l.length
  ·have hx:l[k]? = some l[k]:=List.getElem?_eq_getElem hlt;obtain⟨b,off,rfl,hbl,hcell⟩:=hc k _ hx;have r64:=h64 _ (List.getElem_mem hlt)
   have hcr:wr.cell? ⟨b,off+k,none⟩=some (.int .i64 l[k]):=(blr.cell hbl).trans hcell;have tabr:=hT _ _ tab blr;have hln:=aCC first l h64 k
   have iln:=tX _ r64.1 r64.2;have hcat:(Op.stringOp .add (⟨#[32]⟩:ByteArray) ⟨(Lib.itoa l[k]).toArray⟩).run Tryd.prog=λW => .ok (.string ⟨(32 :: Lib.itoa l[k]).toArray⟩) W:=by
    funext W;rw[run_string_add_sum W _ _ (by show 1+(Lib.itoa l[k]).toArray.size<=_;simp;omega),aCI]
   go_wp2_with (go_at_fn 35;refine(hI l[k] _ r64.1 r64.2 tabr).mono ?_)
   rintro e w2 ⟨rfl,kk,os,rfl⟩
   have hb2:=aEN kk os hbr;have szr:=blr.size;have bl2:=blr.trans (aAh wr kk os szr)
   have hln2:(Lib.byteCells (mN first (l.take k))).length+(⟨(32 :: Lib.itoa l[k]).toArray⟩:ByteArray).size<=140737488355328:=by
    rw[Lib.byteCells_length]
    show _+(32 :: Lib.itoa l[k]).toArray.size<=_;rw[List.size_toArray,List.length_cons]
    omega
   go_wp2_with (go_at_fn 34;refine(zQ w.heap.size w.heap.size _ _ _ (.inr hb2) hln2 (by simp;omega)).mono ?_)
   rintro e w3 ⟨rfl,hb3,bl3⟩
   have e3:Lib.byteCells (mN first (l.take k))++Lib.strCells ⟨(32 :: Lib.itoa l[k]).toArray⟩=Lib.byteCells (mN first (l.take (k+1))):=by
    rw[Lib.strCells_eq,<- Lib.byteCells_append]
    congr 1;unfold mN;rw[List.append_assoc,List.take_succ_eq_append_getElem hlt,aA1]
   rw[e3] at hb3;have bl4:=bl2.trans bl3;clear hcat hb2 bl3 bl2 hbr blr hcr tabr
   go_wp2
   have ek:((k:Int)+1+9223372036854775808) % 18446744073709551616 - 9223372036854775808=((k+1:Nat):Int):=by omega
   exact⟨⟨k+1,hlt,rfl,hb3,bl4⟩,by show l.length - ((k:Int)+1).toNat < l.length - (k:Int).toNat;omega⟩
  ·have hk2:k=l.length:=by omega
   subst hk2;rw[List.take_length] at hbr;have hne:mN first l≠[]:=by
    unfold mN;intro h;have:=congrArg List.length h;rw[List.length_append] at this;apply h0;have e:first.size=first.data.toList.length:=rfl
    simp only[List.length_nil] at this;omega
   go_wp2_with (go_at_fn 36;refine(aBw w.heap.size w.heap.size _ _ hbr hne).mono ?_)
   rintro e w2 ⟨rfl,bl2⟩
   have bl3:=blr.trans bl2
   go_wp2
   go_ret
   exact⟨rfl,bl3⟩
theorem aCA{g:Nat}(hn:Tryd.prog.globalNamed "internal/strconv.uint64pow10" = some g)(w w':World)(h:tC w)(bl:RowKit.Below w.heap.size w w'):tC w':=by
 unfold tC Lib.TabIs World.var? at *;rw[hn,Option.bind_some] at *;cases hg:w.heap[g]? with
 | none=>rw[hg] at h;cases h
 | some o=>rw[bl.block g (sS hg)];exact h
theorem aEE{ρ:Shelf.Ren}(L:LaysM.n171 Tryd.prog ρ)(hf:ρ.f 171=35){g:Nat}(hm:(g,rW .u64 Lib.pow10Tab)∈aV.l)(hn:Tryd.prog.globalNamed "internal/strconv.uint64pow10" = some g){first r:ByteArray}{l:List Int}(h:jE first l=some r):FnM Tryd.prog 16 [] [eS first,eL 1 j64 l] (eS r) []:=by
 obtain⟨rfl,h0,h1,h2,h3⟩:=aEX h;unfold FnM;rintro w G bs vs ok ⟨y0,r0,rfl,g0,y1,r1,rfl,g1,rfl⟩
 have e0:=bF (kO g0)
 subst e0;obtain⟨a,cap,rfl,hcap,hn1,hcs⟩:=tT (kO g1)
 rw[List.length_map]
 refine Calls.mono (aER (λi w h0 h1 tab=>hf▸Any.strconv_Itoa L i h0 h1 w tab) (λw w'=>aCA hn w w') first l a cap w (aF9 ok hm hn) h0 h1 h2 h3 λi x hx=>?_) ?_
 ·rcases hcs with hcs | ⟨b,off,zs,rfl,hrd,hat⟩
  ·rw[List.map_eq_nil_iff] at hcs;subst hcs;cases hx
  ·have hz:=zZ l hrd;have hc:=(hat i (.int .i64 x) (by rw[hz,List.getElem?_map,hx];rfl)).1;refine⟨b,off,rfl,?_,hc⟩
   have:w.heap[b]? ≠ none:=λq=>by
    unfold World.cell? at hc;simp[q] at hc
   cases hb:w.heap[b]? with
   | none=>exact absurd hb this
   | some o=>exact sS hb
 ·rintro e w' ⟨rfl,bl⟩
  have later:bV w w':=⟨bl.size,λb hb=>bl.block b hb,bl.os,bl.tape,bl.output⟩
  exact⟨_,bs,rfl,Ext.later later,OK.later later ok,mV rfl⟩
theorem mL{first r:ByteArray}{l:List Int}(h:jE first l=some r):FnM Tryd.prog 16 [] [eS first,eL 1 j64 l] (eS r) []:=aEE itoa rfl (g:=1) aEl (by kernel_rfl) h
theorem iE : fV Tryd.prog 16:=fR (by kernel_rfl)
def fQ(N:Nat)(a0:(List Int)):Nat->(List Int)->Int->Option ((List Int))
 | 0,_,_=>none
 | k+1,s3,s4=>
  bQ (decide (s4 < ((a0.length:Int)))) λx5=>
  cond x5 (
   ae (idx a0 s4) λe6=>
   ae (idx vD.data.toList (shr .u8 e6 4)) λc7=>
   ae (idx vD.data.toList (aCH .u8 e6 15)) λc8=>
   ae (jM 1 s3 (([(UInt8.toNat c7:Int),(UInt8.toNat c8:Int)]:List Int))) λz9=>
   fQ N a0 k z9 (I64 (s4+1))) (
   some s3)
def iZ(N:Nat)(a0:(List Int)):Option (ByteArray):=
 bQ (((a0.length:Int))==0) λx1=>
 cond x1 (
  some (ByteArray.mk #[45])) (
  ae (fQ N a0 N [] 0) λp2=>
  some (zE p2))
theorem qE{N a0 r}(h:iZ N a0=some r):FnM Tryd.prog 17 [] [(eL 1 k8 a0)] (eS r) []:=by
 unfold iZ at h;refine At.f hJ hT hmo Tryd.func17 rfl h ?_;refine lx ?_;intro x1;refine At.c 4 ?_ ?_
 ·apply rt;exact At.r 1
 ·refine At.ownn 4 3 1 ?_;refine At.L 0 [] 1 (λp2=>([(3,(eO 0 1 k8 p2))],[(0,.tail (p2.length*1))],[])) (λp2 J k=>∃s3 s4,fQ N a0 k s3 s4=some p2/\J [9,10] 1 [(3,(eO 0 1 k8 s3)),(11,(j64 s4))] [(0,.tail (s3.length*1))] []) N (λ_ h=>⟨_,_,h,jr⟩) (λp2 k s hI=>?_) λp2=>?_
  ·obtain⟨s3,s4,h,hj⟩:=hI;cases k with
   | zero=>cases h
   | succ k=>
    refine At.jr hj ?_ h;refine lx ?_;intro x5;refine At.c 1 ?_ ?_
    ·refine At.b 0 (λ_ e=>cB hT k8 e) λe6=>?_;refine bi λc7 hc7=>?_;refine bi λc8 hc8=>?_;refine bi λz9 hz9=>?_;refine At.d 2 (dE1 3 (λ_=>sZ hT hc7 (by kernel_rfl) (by kernel_rfl)) (dE1 6 (λ_=>sZ hT hc8 (by kernel_rfl) (by kernel_rfl)) (dE1 7 (λ_=>aN hT (x:=(.sl 1 2 [(k8 ((UInt8.toNat c7:Int))),(k8 ((UInt8.toNat c8:Int)))]))) dE0))) (dF 8 (eO 0 1 k8 z9) [(0,.tail (z9.length*1))] [] (jB (dZ hT k8 (id:=0) (k:=1) hz9)) dF0) ?_;exact λh=>At.k 2 ⟨_,_,h,jr⟩
    ·apply rt;exact At.x 0
  ·refine At.o 1 (aBZ hT p2 (v:=(eO 0 1 k8 p2)) (e:=5) (by kernel_rfl) (by kernel_rfl) (by kernel_rfl)) ?_;apply rt;exact At.r 1
def eR(N:Nat)(z2:(List Int)):Nat->(List Int)->Int->Option (Sum ((List Int)) ((List Int)×Bool))
 | 0,_,_=>none
 | k+1,s4,s5=>
  bQ (decide (s5 < ((z2.length:Int)))) λx6=>
  cond x6 (
   ae (idx z2 s5) λe7=>
   bQ (decide (e7 > 4611686018427387904)) λx8=>
   bQ (decide (e7 < (-4611686018427387904))) λx9=>
   cond (cond x8 true x9) (
    some (Sum.inr (([],false)))) (
    ae (jM 8 s4 (([e7]:List Int))) λz10=>
    eR N z2 k z10 (I64 (s5+1)))) (
   some (Sum.inl s4))
def iK(N:Nat)(a0:aZ):Option ((List Int)×Bool):=
 ae (jM 8 a0.gM.toList (([a0.gT.gX,a0.gT.gY,a0.gT.gZ]:List Int))) λz2=>
 ae (eR N z2 N [] 0) λo=>mG o (λp3=>
  some ((p3,true))) (λr=>some r)
theorem tW{N a0 r}(h:iK N a0=some r):FnM Tryd.prog 18 [] [(aZ.enc a0)] (.tup [(eL 1 j64 r.1),(eB r.2)]) []:=by
 unfold iK at h;refine At.f hJ hT hmo Tryd.func18 rfl h ?_;refine At.gz 4 0 ((aZ.enc a0)) ?_;refine bi λz2 hz2=>?_;refine At.d 0 (dE1 11 (λ_=>aN hT (x:=(.sl 1 3 [(j64 a0.gT.gX),(j64 a0.gT.gY),(j64 a0.gT.gZ)]))) dE0) (dF 1 (eO 1 1 j64 a0.gM.toList) [] [.tail (a0.gM.toList.length*1)] (jB (aBf hT (N:=9) (k:=1) j64 a0.gM (by kernel_rfl) (by kernel_rfl))) (dF 12 (eO 1 1 j64 z2) [(1,.tail (z2.length*1))] [] (jB (dZ hT j64 (id:=1) (k:=1) hz2)) dF0)) ?_;refine At.ownn 0 4 1 ?_;refine At.LS 0 [] 3 (λp3=>([(4,(eO 2 1 j64 p3))],[(2,.tail (p3.length*1))],[])) (λop3 J k=>∃s4 s5,eR N z2 k s4 s5=some op3/\J [19,20] 3 [(4,(eO 2 1 j64 s4)),(21,(j64 s5))] [(2,.tail (s4.length*1))] []) N (λ_ h=>⟨_,_,h,jr⟩) (λop3 g3 k s hI=>?_) λp3=>?_
 ·obtain⟨s4,s5,h,hj⟩:=hI;cases k with
  | zero=>cases h
  | succ k=>
   refine At.jr hj ?_ h;refine lx ?_;intro x6;refine At.c 1 ?_ ?_
   ·refine At.b 0 (λ_ e=>cB hT j64 e) λe7=>?_;refine lx ?_;intro x8;refine lx ?_;intro x9;refine At.c 8 ?_ ?_
    ·intro e;apply vN g3 e;exact At.r 2
    ·refine At.o 2 (aN hT (x:=(.sl 1 1 [(j64 e7)]))) ?_;refine At.b 0 (λ_ e=>dZ hT j64 (id:=2) (k:=1) e) λz10=>?_;exact λh=>At.k 3 ⟨_,_,h,jr⟩
   ·apply rt;exact At.xs 0
 ·apply rt;exact At.r 3
def eF(N:Nat)(a0:(List aC)):Nat->(List Int)->Int->Option ((List Int))
 | 0,_,_=>none
 | k+1,s2,s3=>
  bQ (decide (s3 < ((a0.length:Int)))) λx4=>
  cond x4 (
   ae (idx a0 s3) λe5=>
   ae (jM 8 s2 (([e5.gX,e5.gY,e5.gZ]:List Int))) λz6=>
   eF N a0 k z6 (I64 (s3+1))) (
   some s2)
def hK(N:Nat)(a0:(List aC)):Option ((List Int)):=
 ae (eF N a0 N [] 0) λp1=>
 some p1
theorem sF{N a0 r}(h:hK N a0=some r):FnM Tryd.prog 19 [] [(eL 3 aC.enc a0)] (eL 1 j64 r) []:=by
 unfold hK at h;refine At.f hJ hT hmo Tryd.func19 rfl h ?_;refine At.ownn 5 3 1 ?_;refine At.L 0 [] 1 (λp1=>([(3,(eO 0 1 j64 p1))],[(0,.tail (p1.length*1))],[])) (λp1 J k=>∃s2 s3,eF N a0 k s2 s3=some p1/\J [6,7] 1 [(3,(eO 0 1 j64 s2)),(8,(j64 s3))] [(0,.tail (s2.length*1))] []) N (λ_ h=>⟨_,_,h,jr⟩) (λp1 k s hI=>?_) λp1=>?_
 ·obtain⟨s2,s3,h,hj⟩:=hI;cases k with
  | zero=>cases h
  | succ k=>
   refine At.jr hj ?_ h;refine lx ?_;intro x4;refine At.c 1 ?_ ?_
   ·refine At.b 0 (λ_ e=>cB hT aC.enc e) λe5=>?_;refine At.o 10 (aN hT (x:=(.sl 1 3 [(j64 e5.gX),(j64 e5.gY),(j64 e5.gZ)]))) ?_;refine At.b 0 (λ_ e=>dZ hT j64 (id:=0) (k:=1) e) λz6=>?_;exact λh=>At.k 3 ⟨_,_,h,jr⟩
   ·apply rt;exact At.x 0
 ·apply rt;exact At.r 2
def vU : Nat->Bool:=imL [1]
def aP(N:Nat)(a0:aF):Option (ByteArray×Int):=
 ae (bH N ([a0])) λr1=>
 cond (r1.2 != 0) (
  some ((ByteArray.mk #[],2))) (
  ae (iI N ) λr2=>
  ae (idx r2 a0.gC) λe3=>
  cond (a0.gC==1) (
   ae (jE e3 (([a0.gK]:List Int))) λr4=>
   ae (nB r4 (ByteArray.mk #[32])) λx5=>
   ae (iZ N a0.gL) λr6=>
   ae (nB x5 r6) λx7=>
   some ((x7,0))) (
   cond (a0.gC==2) (
    ae (jE e3 (([a0.gK]:List Int))) λr8=>
    some ((r8,0))) (
    cond (a0.gC==3) (
     ae (iK N a0.gA.gT) λr9=>
     cond (!r9.2) (
      some ((ByteArray.mk #[],2))) (
      ae (jE e3 (([a0.gA.gG,a0.gA.gI,a0.gA.gJ,a0.gA.gN]:List Int))) λr10=>
      ae (jE r10 r9.1) λr11=>
      some ((r11,0)))) (
     cond (a0.gC==4) (
      ae (jE e3 (([a0.gA.gG,a0.gA.gI,a0.gA.gJ,a0.gA.gN]:List Int))) λr12=>
      some ((r12,0))) (
      cond (a0.gC==5) (
       ae (cond a0.gD.gA5 (some 1) (some 0)) λp13=>
       bQ (shr .u64 a0.gD.gO 32) λx14=>
       bQ (aCH .u64 a0.gD.gO 4294967295) λx15=>
       ae (jE e3 (([a0.gF,a0.gD.gW,a0.gD.gH,a0.gD.gV,a0.gD.gA0,a0.gD.gA1,p13,I64 x14,I64 x15]:List Int))) λr16=>
       ae (hK N ([a0.gD.gE.gR,a0.gD.gE.gS,a0.gD.gE.gUp,a0.gD.gE.gU])) λr17=>
       ae (jE r16 r17) λr18=>
       bQ a0.gD.gE.gA8 λx19=>
       ae (jE r18 (([a0.gD.gE.gA4,x19,a0.gA3]:List Int))) λr20=>
       some ((r20,0))) (
       cond (a0.gC==7) (
        ae (jE e3 (([a0.gF,a0.gP,I64 a0.gA2,a0.gA6]:List Int))) λr21=>
        some ((r21,0))) (
        cond (a0.gC==8) (
         ae (jE e3 (([a0.gF,a0.gP]:List Int))) λr22=>
         some ((r22,0))) (
         cond (a0.gC==10) (
          ae (jE e3 (([a0.gA7]:List Int))) λr23=>
          some ((r23,0))) (
          ae (jE e3 (([a0.gF]:List Int))) λr24=>
          some ((r24,0)))))))))))
theorem uK{N a0 r}(h:aP N a0=some r):FnM Tryd.prog 6 [] [(aF.enc a0)] (.tup [(eS r.1),(j64 r.2)]) []:=by
 unfold aP at h;refine At.f vU hT hmo Tryd.func6 rfl h ?_;refine At.o 4 (aN hT (x:=(.sl 46 1 [(aF.enc a0)]))) ?_;refine At.b 0 (λ_ e=>aL [] (rG e)) λr1=>?_;refine At.c 7 ?_ ?_
 ·apply rt;exact At.r 2
 ·refine At.d2 0 [false,false,false] dC0 (dS1 7 ⟨(.ref 0 [] 0),0,.var vW,.dead⟩ [[.dead,.dead,.dead],[.dead,.dead,.var aCT],[.dead,.var vL,.dead],[.dead,.var vL,.var aCT]] ⟨cL hT 0 (by kernel_rfl) (by kernel_rfl) (by kernel_rfl),cL hT 0 (by kernel_rfl) (by kernel_rfl) (by kernel_rfl),cL hT 0 (by kernel_rfl) (by kernel_rfl) (by kernel_rfl),cL hT 0 (by kernel_rfl) (by kernel_rfl) (by kernel_rfl),trivial⟩ (dS1 8 ⟨(.ref 1 [] 0),1,.var vL,.dead⟩ [[.dead,.dead,.dead],[.dead,.dead,.var aCT],[.var vW,.dead,.dead],[.var vW,.dead,.var aCT]] ⟨cL hT 1 (by kernel_rfl) (by kernel_rfl) (by kernel_rfl),cL hT 1 (by kernel_rfl) (by kernel_rfl) (by kernel_rfl),cL hT 1 (by kernel_rfl) (by kernel_rfl) (by kernel_rfl),cL hT 1 (by kernel_rfl) (by kernel_rfl) (by kernel_rfl),trivial⟩ (dS1 9 ⟨(.ref 2 [] 0),2,.var aCT,.dead⟩ [[.dead,.dead,.dead],[.dead,.var vL,.dead],[.var vW,.dead,.dead],[.var vW,.var vL,.dead]] ⟨cL hT 2 (by kernel_rfl) (by kernel_rfl) (by kernel_rfl),cL hT 2 (by kernel_rfl) (by kernel_rfl) (by kernel_rfl),cL hT 2 (by kernel_rfl) (by kernel_rfl) (by kernel_rfl),cL hT 2 (by kernel_rfl) (by kernel_rfl) (by kernel_rfl),trivial⟩ dS0))) ?_;refine bi λr2 hr2=>?_;refine bi λe3 he3=>?_;refine At.d 0 (dE2 0 (eL 1 eS r2) (λ_=>iS (oB hr2)) (dE1 3 (λ_=>cB hT eS he3) dE0)) dF0 ?_;refine At.c 4 ?_ ?_
  ·refine bi λr4 hr4=>?_;refine bi λx5 hx5=>?_;refine bi λr6 hr6=>?_;refine bi λx7 hx7=>?_;refine At.d 0 (dE1 3 (λ_=>aN hT (x:=(.sl 1 1 [(j64 a0.gK)]))) (dE2 4 (eS r4) (λ_=>mM (mL hr4) iE (by kernel_rfl) (by kernel_rfl) (by kernel_rfl)) (dE1 5 (λ_=>iO hx5 (by kernel_rfl) (by kernel_rfl)) (dE2 8 (eS r6) (λ_=>iS (qE hr6)) (dE1 9 (λ_=>iO hx7 (by kernel_rfl) (by kernel_rfl)) dE0))))) dF0 ?_;apply rt;exact At.r 0
  ·refine At.c 2 ?_ ?_
   ·refine At.o 3 (aN hT (x:=(.sl 1 1 [(j64 a0.gK)]))) ?_;refine At.b 0 (λ_ e=>fG [] (mL e) iE) λr8=>?_;apply rt;exact At.r 2
   ·refine At.c 2 ?_ ?_
    ·refine At.b 2 (λ_ e=>aL [] (tW e)) λr9=>?_;refine At.c 7 ?_ ?_
     ·apply rt;exact At.r 2
     ·refine At.o 9 (aN hT (x:=(.sl 1 4 [(j64 a0.gA.gG),(j64 a0.gA.gI),(j64 a0.gA.gJ),(j64 a0.gA.gN)]))) ?_;refine At.b 0 (λ_ e=>fG [] (mL e) iE) λr10=>?_;refine At.b 1 (λ_ e=>fG [] (mL e) iE) λr11=>?_;apply rt;exact At.r 2
    ·refine At.c 2 ?_ ?_
     ·refine At.o 9 (aN hT (x:=(.sl 1 4 [(j64 a0.gA.gG),(j64 a0.gA.gI),(j64 a0.gA.gJ),(j64 a0.gA.gN)]))) ?_;refine At.b 0 (λ_ e=>fG [] (mL e) iE) λr12=>?_;apply rt;exact At.r 2
     ·refine At.c 2 ?_ ?_
      ·refine At.J 1 1 [1,7,8,9] 3 (λp13=>([(12,(j64 p13))],[],[])) (λp13=>?_) λp13=>?_
       ·refine At.c 2 ?_ ?_
        ·apply rt;exact At.jn 1
        ·apply rt;exact At.jn 0
       ·refine lx ?_;intro x14;refine lx ?_;intro x15;refine At.o 22 (aN hT (x:=(.sl 1 9 [(j64 a0.gF),(j64 a0.gD.gW),(j64 a0.gD.gH),(j64 a0.gD.gV),(j64 a0.gD.gA0),(j64 a0.gD.gA1),(j64 p13),(j64 (I64 x14)),(j64 (I64 x15))]))) ?_;refine At.b 0 (λ_ e=>fG [] (mL e) iE) λr16=>?_;refine bi λr17 hr17=>?_;refine bi λr18 hr18=>?_;refine lx ?_;intro x19;refine bi λr20 hr20=>?_;refine At.d 1 (dE1 9 (λ_=>aN hT (x:=(.sl 3 4 [(aC.enc a0.gD.gE.gR),(aC.enc a0.gD.gE.gS),(aC.enc a0.gD.gE.gUp),(aC.enc a0.gD.gE.gU)]))) (dE2 10 (eL 1 j64 r17) (λ_=>iS (sF hr17)) (dE2 11 (eS r18) (λ_=>mM (mL hr18) iE (by kernel_rfl) (by kernel_rfl) (by kernel_rfl)) (dE1 18 (λ_=>aN hT (x:=(.sl 1 3 [(j64 a0.gD.gE.gA4),(j64 x19),(j64 a0.gA3)]))) (dE2 19 (eS r20) (λ_=>mM (mL hr20) iE (by kernel_rfl) (by kernel_rfl) (by kernel_rfl)) dE0))))) dF0 ?_;apply rt;exact At.r 0
      ·refine At.c 2 ?_ ?_
       ·refine At.o 10 (aN hT (x:=(.sl 1 4 [(j64 a0.gF),(j64 a0.gP),(j64 (I64 a0.gA2)),(j64 a0.gA6)]))) ?_;refine At.b 0 (λ_ e=>fG [] (mL e) iE) λr21=>?_;apply rt;exact At.r 2
       ·refine At.c 2 ?_ ?_
        ·refine At.o 5 (aN hT (x:=(.sl 1 2 [(j64 a0.gF),(j64 a0.gP)]))) ?_;refine At.b 0 (λ_ e=>fG [] (mL e) iE) λr22=>?_;apply rt;exact At.r 2
        ·refine At.c 2 ?_ ?_
         ·refine At.o 3 (aN hT (x:=(.sl 1 1 [(j64 a0.gA7)]))) ?_;refine At.b 0 (λ_ e=>fG [] (mL e) iE) λr23=>?_;apply rt;exact At.r 2
         ·refine At.o 3 (aN hT (x:=(.sl 1 1 [(j64 a0.gF)]))) ?_;refine At.b 0 (λ_ e=>fG [] (mL e) iE) λr24=>?_;apply rt;exact At.r 2
def eC(N:Nat)(a0:Int):Nat->Int->Int->Option (Int)
 | 0,_,_=>none
 | k+1,s2,s3=>
  cond (decide (s3 < a0)) (
   bQ (U64 ((U64 (s2*256))+255)) λx4=>
   eC N a0 k x4 (I64 (s3+1))) (
   some s2)
def cM(N:Nat)(a0:Int):Option (Int):=
 ae (eC N a0 N 0 0) λp1=>
 some p1
theorem iR{N a0 r}(h:cM N a0=some r):FnM Tryd.prog 87 [] [(j64 a0)] (k64 r) []:=by
 unfold cM at h;refine At.f hJ hT hmo Tryd.func87 rfl h ?_;refine At.L 3 [] 0 (λp1=>([(3,(k64 p1))],[],[])) (λp1 J k=>∃s2 s3,eC N a0 k s2 s3=some p1/\J [0] 0 [(3,(k64 s2)),(4,(j64 s3))] [] []) N (λ_ h=>⟨_,_,h,jr⟩) (λp1 k s hI=>?_) λp1=>?_
 ·obtain⟨s2,s3,h,hj⟩:=hI;cases k with
  | zero=>cases h
  | succ k=>
   refine At.jr hj ?_ h;refine At.c 3 ?_ ?_
   ·refine lx ?_;intro x4;exact λh=>At.k 7 ⟨_,_,h,jr⟩
   ·apply rt;exact At.x 0
 ·apply rt;exact At.r 2
def eH(N:Nat)(a1:Int):Nat->(List Int)->Int->Int->Option ((List Int))
 | 0,_,_,_=>none
 | k+1,s11,s12,s13=>
  cond (decide (s13 < a1)) (
   ae (jM 1 s11 (([U8 (Int.tmod s12 256)]:List Int))) λz14=>
   eH N a1 k z14 (U64 (Int.tdiv s12 256)) (I64 (s13+1))) (
   some s11)
def dO(N:Nat)(a2:(List Int))(a1:Int):Nat->(List Int)->Int->Option (Sum ((List Int)) ((List Int)×Int))
 | 0,_,_=>none
 | k+1,s4,s5=>
  bQ (decide (s5 < ((a2.length:Int)))) λx6=>
  cond x6 (
   ae (idx a2 s5) λe7=>
   ae (cM N a1) λr8=>
   cond (decide (e7 > r8)) (
    some (Sum.inr (([],3)))) (
    ae (idx a2 s5) λe9=>
    ae (eH N a1 N s4 e9 0) λp10=>
    dO N a2 a1 k p10 (I64 (s5+1)))) (
   some (Sum.inl s4))
def cK(N:Nat)(a0:(List Int))(a1:Int)(a2:(List Int)):Option ((List Int)×Int):=
 bQ (cond (decide (a1 < 1)) true (decide (a1 > 8))) λx1=>
 cond x1 (
  some (([],2))) (
  ae (jM 1 (([]:List Int)) a0) λz2=>
  ae (dO N a2 a1 N z2 0) λo=>mG o (λp3=>
   some ((p3,0))) (λr=>some r))
theorem jD{N a0 a1 a2 r}(h:cK N a0 a1 a2=some r):FnM Tryd.prog 70 [] [(eL 1 k8 a0),(j64 a1),(eL 1 k64 a2)] (.tup [(eO 0 1 k8 r.1),(j64 r.2)]) [.tail (r.1.length*1)]:=by
 unfold cK at h;refine At.f hJ hT hmo Tryd.func70 rfl h ?_;refine lx ?_;intro x1;refine At.c 8 ?_ ?_
 ·refine At.ownn 2 6 1 ?_;apply rt;exact At.r 0
 ·refine At.o 0 (qR hT k8 (k:=1) ([]:List Int) (by kernel_rfl) (by kernel_rfl)) ?_;refine At.b 1 (λ_ e=>dZ hT k8 (id:=0) (k:=1) e) λz2=>?_;refine At.LS 2 [] 1 (λp3=>([(8,(eO 0 1 k8 p3))],[(0,.tail (p3.length*1))],[])) (λop3 J k=>∃s4 s5,dO N a2 a1 k s4 s5=some op3/\J [1,2] 1 [(8,(eO 0 1 k8 s4)),(9,(j64 s5))] [(0,.tail (s4.length*1))] []) N (λ_ h=>⟨_,_,h,jr⟩) (λop3 g3 k s hI=>?_) λp3=>?_
  ·obtain⟨s4,s5,h,hj⟩:=hI;cases k with
   | zero=>cases h
   | succ k=>
    refine At.jr hj ?_ h;refine lx ?_;intro x6;refine At.c 4 ?_ ?_
    ·refine bi λe7 he7=>?_;refine bi λr8 hr8=>?_;refine At.d 0 (dE1 2 (λ_=>cB hT k64 he7) (dE2 5 (k64 r8) (λ_=>iS (iR hr8)) dE0)) dF0 ?_;refine At.c 0 ?_ ?_
     ·refine At.ownn 2 6 1 ?_;refine At.sw 0 1 0 ?_;intro e;apply vN g3 e;exact At.r 0
     ·refine At.b 2 (λ_ e=>cB hT k64 e) λe9=>?_;refine At.L 3 [1,2,9] 1 (λp10=>([(8,(eO 0 1 k8 p10))],[(0,.tail (p10.length*1))],[])) (λp10 J k=>∃s11 s12 s13,eH N a1 k s11 s12 s13=some p10/\J [1,2,9] 1 [(8,(eO 0 1 k8 s11)),(10,(k64 s12)),(11,(j64 s13))] [(0,.tail (s11.length*1))] []) N (λ_ h=>⟨_,_,_,h,jr⟩) (λp10 k s hI=>?_) λp10=>?_
      ·obtain⟨s11,s12,s13,h,hj⟩:=hI;cases k with
       | zero=>cases h
       | succ k=>
        refine At.jr hj ?_ h;refine At.c 3 ?_ ?_
        ·refine At.o 4 (aN hT (x:=(.sl 1 1 [(k8 (U8 (Int.tmod s12 256)))]))) ?_;refine At.b 0 (λ_ e=>dZ hT k8 (id:=0) (k:=1) e) λz14=>?_;exact λh=>At.k 7 ⟨_,_,_,h,jr⟩
        ·apply rt;exact At.x 0
      ·exact λh=>At.k 3 ⟨_,_,h,jr⟩
    ·apply rt;exact At.xs 0
  ·apply rt;exact At.r 3
def aA(N:Nat)(b1:(List Int))(a1 a2:Int)(a3:Bool):Option ((List Int)×Bool):=
 ae (cK N b1 a1 ([U64 a2])) λr1=>
 bQ (cond (decide (a2 < 0)) true (r1.2 != 0)) λx2=>
 cond x2 (some ((b1,true))) (some ((r1.1,a3)))
theorem aD{N b1 a1 a2 a3 r}(h:aA N b1 a1 a2 a3=some r):FnM Tryd.prog 58 [.var (.st 2 [(eO 1 1 k8 b1),(eB a3)]),.tail (b1.length*1)] [(.ref 0 [] 0),(j64 a1),(j64 a2)] (.tup []) [.var (.st 2 [(eO 2 1 k8 r.1),(eB r.2)]),.dead,.tail (r.1.length*1)]:=by
 unfold aA at h;refine At.fC hJ hT hmo Tryd.func58 rfl h ?_;refine At.mv 0 1 ?_;refine At.o 7 (aN hT (x:=(.sl 1 1 [(k64 (U64 a2))]))) ?_;refine At.b 0 (λ_ e=>aL [] (jD e)) λr1=>?_;refine lx ?_;intro x2;refine At.c 11 ?_ ?_
 ·apply rt;exact At.rC 4 []
 ·apply rt;exact At.zC 5 [(3,2)]
def cJ(N:Nat)(a2:(List Int))(x3 a1:Int):Nat->(List Int)->Int->Option (Sum ((List Int)) ((List Int)×Int))
 | 0,_,_=>none
 | k+1,s5,s6=>
  bQ (decide (s6 < ((a2.length:Int)))) λx7=>
  cond x7 (
   ae (ae (idx a2 s6) λe9=>
   cond (decide (e9 > x3)) (
    some true) (
    ae (idx a2 s6) λe10=>
    bQ (I64 ((I64 (0 - x3)) - 1)) λx11=>
    some (decide (e10 < x11)))) λp8=>
   cond p8 (
    some (Sum.inr (([],3)))) (
    ae (idx a2 s6) λe12=>
    ae (ae (idx a2 s6) λe14=>
    cond (decide (e14 < 0)) (
     ae (cM N a1) λr15=>
     ae (idx a2 s6) λe16=>
     bQ (I64 (0 - (I64 (e16+1)))) λx17=>
     some (U64 (r15 - (U64 x17)))) (
     some (U64 e12))) λp13=>
    ae (jM 8 s5 (([p13]:List Int))) λz18=>
    cJ N a2 x3 a1 k z18 (I64 (s6+1)))) (
   some (Sum.inl s5))
def eJ(N:Nat)(a0:(List Int))(a1:Int)(a2:(List Int)):Option ((List Int)×Int):=
 bQ (cond (decide (a1 < 1)) true (decide (a1 > 8))) λx1=>
 cond x1 (
  some (([],2))) (
  ae (cM N a1) λr2=>
  bQ (I64 (U64 (Int.tdiv r2 2))) λx3=>
  ae (cJ N a2 x3 a1 N [] 0) λo=>mG o (λp4=>
   ae (cK N a0 a1 p4) λr19=>
   some ((r19.1,r19.2))) (λr=>some r))
theorem nW{N a0 a1 a2 r}(h:eJ N a0 a1 a2=some r):FnM Tryd.prog 71 [] [(eL 1 k8 a0),(j64 a1),(eL 1 j64 a2)] (.tup [(eO 0 1 k8 r.1),(j64 r.2)]) [.tail (r.1.length*1)]:=by
 unfold eJ at h;refine At.f hJ hT hmo Tryd.func71 rfl h ?_;refine lx ?_;intro x1;refine At.c 8 ?_ ?_
 ·refine At.ownn 2 6 1 ?_;apply rt;exact At.r 0
 ·refine At.b 1 (λ_ e=>aL [] (iR e)) λr2=>?_;refine lx ?_;intro x3;refine At.ownn 5 9 1 ?_;refine At.LS 0 [0,1] 1 (λp4=>([(9,(eO 0 1 k64 p4))],[(0,.tail (p4.length*1))],[])) (λop4 J k=>∃s5 s6,cJ N a2 x3 a1 k s5 s6=some op4/\J [0,1,2,8] 1 [(9,(eO 0 1 k64 s5)),(10,(j64 s6))] [(0,.tail (s5.length*1))] []) N (λ_ h=>⟨_,_,h,jr⟩) (λop4 g4 k s hI=>?_) λp4=>?_
  ·obtain⟨s5,s6,h,hj⟩:=hI;cases k with
   | zero=>cases h
   | succ k=>
    refine At.jr hj ?_ h;refine lx ?_;intro x7;refine At.c 4 ?_ ?_
    ·refine At.J 0 0 [0,1,2,8,9,10] 1 (λp8=>([(43,(eB p8))],[],[])) (λp8=>?_) λp8=>?_
     ·refine At.b 2 (λ_ e=>cB hT j64 e) λe9=>?_;refine At.s 34 4 ?_ ?_
      ·refine At.g [34] 9 ?_;apply rt;exact At.jn 0
      ·refine At.g [34] 2 ?_;refine At.b 0 (λ_ e=>cB hT j64 e) λe10=>?_;refine lx ?_;intro x11;refine At.g [34] 6 ?_;apply rt;exact At.jn 0
     ·refine At.c 0 ?_ ?_
      ·refine At.ownn 2 6 1 ?_;refine At.sw 0 1 0 ?_;intro e;apply vN g4 e;exact At.r 0
      ·refine At.b 2 (λ_ e=>cB hT j64 e) λe12=>?_;refine At.J 3 1 [0,1,2,8,9,10] 1 (λp13=>([(11,(k64 p13))],[],[])) (λp13=>?_) λp13=>?_
       ·refine At.b 2 (λ_ e=>cB hT j64 e) λe14=>?_;refine At.c 2 ?_ ?_
        ·refine bi λr15 hr15=>?_;refine bi λe16 he16=>?_;refine lx ?_;intro x17;refine At.d 0 (dE2 1 (k64 r15) (λ_=>iS (iR hr15)) (dE1 4 (λ_=>cB hT j64 he16) dE0)) dF0 ?_;apply rt;exact At.jn 0
        ·apply rt;exact At.jn 0
       ·refine At.o 2 (aN hT (x:=(.sl 1 1 [(k64 p13)]))) ?_;refine At.b 0 (λ_ e=>dZ hT k64 (id:=0) (k:=1) e) λz18=>?_;exact λh=>At.k 4 ⟨_,_,h,jr⟩
    ·apply rt;exact At.xs 0
  ·refine At.b 3 (λ_ e=>aL [] (jD e)) λr19=>?_;refine At.sw 4 1 0 ?_;apply rt;exact At.r 0
def aG(N:Nat)(b1:(List Int))(a1 a2:Int)(a3:Bool):Option ((List Int)×Bool):=
 ae (eJ N b1 a1 ([a2])) λr1=>
 cond (r1.2 != 0) (some ((b1,true))) (some ((r1.1,a3)))
theorem bE{N b1 a1 a2 a3 r}(h:aG N b1 a1 a2 a3=some r):FnM Tryd.prog 59 [.var (.st 2 [(eO 1 1 k8 b1),(eB a3)]),.tail (b1.length*1)] [(.ref 0 [] 0),(j64 a1),(j64 a2)] (.tup []) [.var (.st 2 [(eO 2 1 k8 r.1),(eB r.2)]),.dead,.tail (r.1.length*1)]:=by
 unfold aG at h;refine At.fC hJ hT hmo Tryd.func59 rfl h ?_;refine At.mv 0 1 ?_;refine At.o 6 (aN hT (x:=(.sl 1 1 [(j64 a2)]))) ?_;refine At.b 0 (λ_ e=>aL [] (nW e)) λr1=>?_;refine At.c 7 ?_ ?_
 ·apply rt;exact At.rC 4 []
 ·apply rt;exact At.zC 5 [(3,2)]
def kL : Nat->Bool:=imL [3]
def bD(N:Nat)(b1:(List Int))(a1:aC)(a2:Bool):Option ((List Int)×Bool):=
 ae (aG N b1 4 a1.gX a2) λr1=>
 ae (aG N r1.1 4 a1.gY r1.2) λr2=>
 ae (aG N r2.1 4 a1.gZ r2.2) λr3=>
 some ((r3.1,r3.2))
theorem cN{N b1 a1 a2 r}(h:bD N b1 a1 a2=some r):FnM Tryd.prog 72 [.var (.st 2 [(eO 1 1 k8 b1),(eB a2)]),.tail (b1.length*1)] [(.ref 0 [] 0),(aC.enc a1)] (.tup []) [.var (.st 2 [(eO 5 1 k8 r.1),(eB r.2)]),.dead,.dead,.dead,.dead,.tail (r.1.length*1)]:=by
 unfold bD at h;refine At.f kL hT hmo Tryd.func72 rfl h ?_;refine At.mv 0 1 ?_;refine At.b 4 (λ_ e=>aL [0,2] (bE e)) λr1=>?_;refine At.b 3 (λ_ e=>aL [0,3] (bE e)) λr2=>?_;refine At.b 3 (λ_ e=>aL [0,4] (bE e)) λr3=>?_;apply rt;exact At.z 0
def kZ : Nat->Bool:=imL [3]
def cF(N:Nat)(b1:(List Int))(a1:aY)(a2:Bool):Option ((List Int)×Bool):=
 ae (aA N b1 1 a1.gW a2) λr1=>
 ae (aA N r1.1 1 a1.gH r1.2) λr2=>
 ae (aA N r2.1 1 a1.gV r2.2) λr3=>
 ae (aA N r3.1 1 a1.gA0 r3.2) λr4=>
 ae (aA N r4.1 1 a1.gA1 r4.2) λr5=>
 ae (cond a1.gA5 (
  ae (aA N r5.1 1 1 r5.2) λr7=>
  some ((r7.1,r7.2))) (
  ae (aA N r5.1 1 0 r5.2) λr8=>
  some ((r8.1,r8.2)))) λp6=>
 ae (cK N p6.1 8 ([a1.gO])) λr9=>
 ae (bD N r9.1 a1.gE.gR p6.2) λr10=>
 ae (bD N r10.1 a1.gE.gS r10.2) λr11=>
 ae (bD N r11.1 a1.gE.gUp r11.2) λr12=>
 ae (bD N r12.1 a1.gE.gU r12.2) λr13=>
 ae (aA N r13.1 4 a1.gE.gA4 r13.2) λr14=>
 ae (aA N r14.1 4 a1.gE.gA8 r14.2) λr15=>
 some ((r15.1,r15.2))
theorem kN{N b1 a1 a2 r}(h:cF N b1 a1 a2=some r):FnM Tryd.prog 60 [.var (.st 2 [(eO 1 1 k8 b1),(eB a2)]),.tail (b1.length*1)] [(.ref 0 [] 0),(aY.enc a1)] (.tup []) [.var (.st 2 [(eO 26 1 k8 r.1),(eB r.2)]),.dead,.dead,.dead,.dead,.dead,.dead,.dead,.dead,.dead,.dead,.dead,.dead,.dead,.dead,.dead,.dead,.dead,.dead,.dead,.dead,.dead,.dead,.dead,.dead,.dead,.tail (r.1.length*1)]:=by
 unfold cF at h;refine At.f kZ hT hmo Tryd.func60 rfl h ?_;refine At.b 4 (λ_ e=>aL [0,1] (aD e)) λr1=>?_;refine At.b 3 (λ_ e=>aL [0,2] (aD e)) λr2=>?_;refine At.b 3 (λ_ e=>aL [0,3] (aD e)) λr3=>?_;refine At.b 3 (λ_ e=>aL [0,4] (aD e)) λr4=>?_;refine At.b 3 (λ_ e=>aL [0,5] (aD e)) λr5=>?_;refine At.J 0 1 [0,3] 7 (λp6=>([],[(0,.var (.st 2 [(eO 7 1 k8 p6.1),(eB p6.2)])),(6,.dead)],[.tail (p6.1.length*1)])) (λp6=>?_) λp6=>?_
 ·refine At.c 2 ?_ ?_
  ·refine At.b 1 (λ_ e=>aL [0,6] (aD e)) λr7=>?_;apply rt;exact At.jn 0
  ·refine At.b 1 (λ_ e=>aL [0,6] (aD e)) λr8=>?_;apply rt;exact At.jn 0
 ·refine bi λr9 hr9=>?_;refine At.d 0 (dE1 6 (λ_=>aN hT (x:=(.sl 1 1 [(k64 a1.gO)]))) dE0) (dF 7 (.tup [(eO 8 1 k8 r9.1),(j64 r9.2)]) [] [.tail (r9.1.length*1)] (jB (aL [] (jD hr9))) dF0) ?_;refine At.b 9 (λ_ e=>aL [0,8] (cN e)) λr10=>?_;refine At.b 4 (λ_ e=>aL [0,12] (cN e)) λr11=>?_;refine At.b 4 (λ_ e=>aL [0,16] (cN e)) λr12=>?_;refine At.b 4 (λ_ e=>aL [0,20] (cN e)) λr13=>?_;refine At.b 4 (λ_ e=>aL [0,24] (aD e)) λr14=>?_;refine At.b 4 (λ_ e=>aL [0,25] (aD e)) λr15=>?_;apply rt;exact At.z 0
def lL : Nat->Bool:=imL [3]
def bC(N:Nat)(a1:aF):Nat->(List Int)->Bool->Int->Option ((List Int)×Bool)
 | 0,_,_,_=>none
 | k+1,s14,s15,s16=>
  bQ (cond (decide (s16 < 9)) (a1.gC==3) false) λx17=>
  cond x17 (
   ae (idx a1.gA.gT.gM.toList s16) λe18=>
   ae (aG N s14 8 e18 s15) λr19=>
   bC N a1 k r19.1 r19.2 (I64 (s16+1))) (
   some ((s14,s15)))
def aE(N:Nat)(b1:(List Int))(a1:aF)(a2:Bool):Option (Sum (Unit) ((List Int)×Bool)):=
 bQ (cond (decide (a1.gC < 1)) true (decide (a1.gC > 10))) λx1=>
 cond x1 (
  some (Sum.inl (()))) (
  ae (aA N b1 1 a1.gC a2) λr2=>
  cond (a1.gC==1) (
   ae (aA N r2.1 4 a1.gK r2.2) λr3=>
   bQ ((a1.gL.length:Int)) λx4=>
   ae (aA N r3.1 2 x4 r3.2) λr5=>
   ae (jM 1 r5.1 a1.gL) λz6=>
   some (Sum.inr ((z6,r5.2)))) (
   cond (a1.gC==2) (
    ae (aA N r2.1 4 a1.gK r2.2) λr7=>
    some (Sum.inr ((r7.1,r7.2)))) (
    ae (cond (a1.gC==3) (some (a1.gC==3)) (some (a1.gC==4))) λp8=>
    cond p8 (
     ae (aA N r2.1 4 a1.gA.gG r2.2) λr9=>
     ae (aA N r9.1 4 a1.gA.gI r9.2) λr10=>
     ae (aA N r10.1 4 a1.gA.gJ r10.2) λr11=>
     ae (aA N r11.1 4 a1.gA.gN r11.2) λr12=>
     ae (bC N a1 N r12.1 r12.2 0) λp13=>
     cond (a1.gC==3) (
      ae (aG N p13.1 8 a1.gA.gT.gT.gX p13.2) λr20=>
      ae (aG N r20.1 8 a1.gA.gT.gT.gY r20.2) λr21=>
      ae (aG N r21.1 8 a1.gA.gT.gT.gZ r21.2) λr22=>
      some (Sum.inr ((r22.1,r22.2)))) (
      some (Sum.inr ((p13.1,p13.2))))) (
     cond (a1.gC==5) (
      ae (aA N r2.1 1 a1.gF r2.2) λr23=>
      ae (cF N r23.1 a1.gD r23.2) λr24=>
      ae (aA N r24.1 2 a1.gA3 r24.2) λr25=>
      some (Sum.inr ((r25.1,r25.2)))) (
      ae (cond (a1.gC==6) (some (a1.gC==6)) (some (a1.gC==9))) λp26=>
      cond p26 (
       ae (aA N r2.1 1 a1.gF r2.2) λr27=>
       some (Sum.inr ((r27.1,r27.2)))) (
       cond (a1.gC==7) (
        ae (aA N r2.1 1 a1.gF r2.2) λr28=>
        ae (aA N r28.1 1 a1.gP r28.2) λr29=>
        ae (aA N r29.1 4 (I64 a1.gA2) r29.2) λr30=>
        ae (aA N r30.1 4 a1.gA6 r30.2) λr31=>
        some (Sum.inr ((r31.1,r31.2)))) (
        cond (a1.gC==8) (
         ae (aA N r2.1 1 a1.gF r2.2) λr32=>
         ae (aA N r32.1 1 a1.gP r32.2) λr33=>
         some (Sum.inr ((r33.1,r33.2)))) (
         cond (a1.gC==10) (
          ae (aA N r2.1 4 a1.gA7 r2.2) λr34=>
          some (Sum.inr ((r34.1,r34.2)))) (
          some (Sum.inr ((r2.1,r2.2))))))))))))
theorem hQ{N b1 a1 a2 r}(h:aE N b1 a1 a2=some r):FnM Tryd.prog 46 [.var (.st 2 [(eO 1 1 k8 b1),(eB a2)]),.tail (b1.length*1)] [(.ref 0 [] 0),(aF.enc a1)] (selS r (λr=>(.tup [])) (λr=>(.tup []))) (selS r (λr=>[.var (.st 2 [(eO 1 1 k8 b1),(eB true)]),.tail (b1.length*1)]) (λr=>[.var (.st 2 [(eO 2 1 k8 r.1),(eB r.2)]),.dead,.tail (r.1.length*1)])):=by
 unfold aE at h;refine At.fC lL hT hmo Tryd.func46 rfl h ?_;refine lx ?_;intro x1;refine At.c 9 ?_ ?_
 ·apply rt;exact At.rC 4 []
 ·refine At.b 3 (λ_ e=>aL [0,1] (aD e)) λr2=>?_;refine At.c 4 ?_ ?_
  ·refine At.b 3 (λ_ e=>aL [0,2] (aD e)) λr3=>?_;refine lx ?_;intro x4;refine At.b 4 (λ_ e=>aL [0,3] (aD e)) λr5=>?_;refine bi λz6 hz6=>?_;refine At.d 0 dE0 (dF 7 (eO 4 1 k8 z6) [(4,.tail (z6.length*1))] [] (jB (dZ hT k8 (id:=4) (k:=1) hz6)) dF0) ?_;apply rt;exact At.zC 0 [(4,2)]
  ·refine At.c 2 ?_ ?_
   ·refine At.b 3 (λ_ e=>aL [0,2] (aD e)) λr7=>?_;apply rt;exact At.zC 0 [(3,2)]
   ·refine At.J 0 1 [0,3,21] 3 (λp8=>([(49,(eB p8))],[],[])) (λp8=>?_) λp8=>?_
    ·refine At.c 2 ?_ ?_
     ·apply rt;exact At.jn 0
     ·apply rt;exact At.jn 2
    ·refine At.c 0 ?_ ?_
     ·refine At.b 4 (λ_ e=>aL [0,2] (aD e)) λr9=>?_;refine At.b 4 (λ_ e=>aL [0,3] (aD e)) λr10=>?_;refine At.b 4 (λ_ e=>aL [0,4] (aD e)) λr11=>?_;refine At.b 4 (λ_ e=>aL [0,5] (aD e)) λr12=>?_;refine At.L 1 [0,3] 7 (λp13=>([],[(0,.var (.st 2 [(eO 6 1 k8 p13.1),(eB p13.2)])),(6,.tail (p13.1.length*1))],[])) (λp13 J k=>∃s14 s15 s16,bC N a1 k s14 s15 s16=some p13/\J [0,3] 7 [(4,(j64 s16))] [(0,.var (.st 2 [(eO 6 1 k8 s14),(eB s15)])),(6,.tail (s14.length*1))] []) N (λ_ h=>⟨_,_,_,h,jr⟩) (λp13 k s hI=>?_) λp13=>?_
      ·obtain⟨s14,s15,s16,h,hj⟩:=hI;cases k with
       | zero=>cases h
       | succ k=>
        refine At.jr hj ?_ h;refine lx ?_;intro x17;refine At.c 7 ?_ ?_
        ·refine At.b 5 (λ_ e=>aED hT (N:=9) (k:=1) j64 a1.gA.gT.gM e) λe18=>?_;refine At.b 1 (λ_ e=>aL [0,6] (bE e)) λr19=>?_;exact λh=>At.k 3 ⟨_,_,_,h,(zW 7 6 (by kernel_rfl) jr)⟩
        ·apply rt;exact At.x 0
      ·refine At.c 3 ?_ ?_
       ·refine At.b 6 (λ_ e=>aL [0,6] (bE e)) λr20=>?_;refine At.b 6 (λ_ e=>aL [0,7] (bE e)) λr21=>?_;refine At.b 6 (λ_ e=>aL [0,8] (bE e)) λr22=>?_;apply rt;exact At.zC 0 [(9,2)]
       ·apply rt;exact At.zC 0 [(6,2)]
     ·refine At.c 2 ?_ ?_
      ·refine At.b 3 (λ_ e=>aL [0,2] (aD e)) λr23=>?_;refine At.b 3 (λ_ e=>aL [0,3] (kN e)) λr24=>?_;refine At.b 3 (λ_ e=>aL [0,28] (aD e)) λr25=>?_;apply rt;exact At.zC 0 [(29,2)]
      ·refine At.J 0 1 [0,3,21] 3 (λp26=>([(127,(eB p26))],[],[])) (λp26=>?_) λp26=>?_
       ·refine At.c 2 ?_ ?_
        ·apply rt;exact At.jn 0
        ·apply rt;exact At.jn 2
       ·refine At.c 0 ?_ ?_
        ·refine At.b 3 (λ_ e=>aL [0,2] (aD e)) λr27=>?_;apply rt;exact At.zC 0 [(3,2)]
        ·refine At.c 2 ?_ ?_
         ·refine At.b 3 (λ_ e=>aL [0,2] (aD e)) λr28=>?_;refine At.b 3 (λ_ e=>aL [0,3] (aD e)) λr29=>?_;refine At.b 4 (λ_ e=>aL [0,4] (aD e)) λr30=>?_;refine At.b 3 (λ_ e=>aL [0,5] (aD e)) λr31=>?_;apply rt;exact At.zC 0 [(6,2)]
         ·refine At.c 2 ?_ ?_
          ·refine At.b 3 (λ_ e=>aL [0,2] (aD e)) λr32=>?_;refine At.b 3 (λ_ e=>aL [0,3] (aD e)) λr33=>?_;apply rt;exact At.zC 0 [(4,2)]
          ·refine At.c 2 ?_ ?_
           ·refine At.b 3 (λ_ e=>aL [0,2] (aD e)) λr34=>?_;apply rt;exact At.zC 0 [(3,2)]
           ·apply rt;exact At.zC 0 []
theorem kP{N b1 a1 a2 r}(h:aE N b1 a1 a2=some (Sum.inl r)):FnM Tryd.prog 46 [.var (.st 2 [(eO 1 1 k8 b1),(eB a2)]),.tail (b1.length*1)] [(.ref 0 [] 0),(aF.enc a1)] (.tup []) [.var (.st 2 [(eO 1 1 k8 b1),(eB true)]),.tail (b1.length*1)]:=hQ h
theorem kM{N b1 a1 a2 r}(h:aE N b1 a1 a2=some (Sum.inr r)):FnM Tryd.prog 46 [.var (.st 2 [(eO 1 1 k8 b1),(eB a2)]),.tail (b1.length*1)] [(.ref 0 [] 0),(aF.enc a1)] (.tup []) [.var (.st 2 [(eO 2 1 k8 r.1),(eB r.2)]),.dead,.tail (r.1.length*1)]:=hQ h
end Go.UK
