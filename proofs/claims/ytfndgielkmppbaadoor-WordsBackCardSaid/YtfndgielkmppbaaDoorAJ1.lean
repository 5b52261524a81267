/- A part of the proof: what the functions of the program compute. -/
import Derived.Test.YtfndgielkmppbaaDoorPT
open Option renaming bind→ae,map_eq_some_iff→ay
namespace Go.UK
open Go Go.Proofs Go.Sort Go.RowKit
set_option maxRecDepth 20000
set_option maxHeartbeats 40000000
set_option linter.all false
attribute [local irreducible] adv zN wG lL brPt aBh sH eY lJ aAu bS fE cN zK xO lPt owp awl aw FnM opS Stab TOK Big
def eX(N:Nat)(a0:aD):Option (aD):=
 cG ((a0.gL.length:Int)) λx1=>
 ae (qH a0.gL 0 (wD x1 300)) λs2=>
 some (aD.mk a0.gD a0.gS s2 a0.gC a0.gF a0.gI a0.gA4 a0.gU a0.gA1 a0.gA3 a0.gA8)
theorem pO{N a0 r}(h:eX N a0=some r):FnM Tryd.prog 5 [] [(aD.enc a0)] (aD.enc r) []:=by
 unfold eX at h;refine At.f iD hT hmo Tryd.func5 rfl h ?_;refine lx ?_;intro x1;refine At.b 8 (λ_ e=>aBP hT (k:=1) k8 e) λs2=>?_;apply rt;exact At.r 4
def cO(N:Nat)(b1:(List Int))(a1 a2:Int):Option (Int):=
 ae (cG (cond (a2==0) (a1 != 0) false) λx2=>
 cond x2 (some 2) (some a2)) λp1=>
 some p1
theorem hJ{N b1 a1 a2 r}(h:cO N b1 a1 a2=some r):FnM Tryd.prog 43 [.var (.st 2 [(eO 1 1 k8 b1),(j64 a2)]),.tail (b1.length*1)] [(.ref 0 [] 0),(.v (.slice none 0 0)),(j64 a1)] (.tup []) [.var (.st 2 [(eO 3 1 k8 []),(j64 r)]),.dead,.dead,.tail 0]:=by
 unfold cO at h;refine At.f iD hT hmo Tryd.func43 rfl h ?_;refine At.mv 0 1 ?_;refine At.J 0 1 [0,1] 3 (λp1=>([],[(0,.var (.st 2 [(eO 2 1 k8 b1),(j64 p1)]))],[])) (λp1=>?_) λp1=>?_
 ·refine lx ?_;intro x2;refine At.c 9 ?_ ?_
  ·apply rt;exact At.jn 4
  ·apply rt;exact At.jn 0
 ·refine At.ownn 0 1 1 ?_;apply rt;exact At.z 5
def cP(N:Nat)(a0:(List Int)):Option ((List Int)):=
 ae (oD 1 (([]:List Int)) a0) λz1=>
 some z1
theorem kO{N a0 r}(h:cP N a0=some r):FnM Tryd.prog 69 [] [(eL 1 k8 a0)] (eO 0 1 k8 r) [.tail (r.length*1)]:=by
 unfold cP at h;refine At.f iD hT hmo Tryd.func69 rfl h ?_;refine At.q hT 2 (d:=4) (t:=22) (e:=5) (z:=1) (x:=(eL 1 k8 a0)) (es:=List.map k8 a0) rfl ?_ (λhe=>?_)
 ·refine At.o 1 (aDN hT k8 (k:=1) ([]:List Int) (by kernel_rfl) (by kernel_rfl)) ?_;refine At.b 1 (λ_ e=>iW hT k8 (id:=0) (k:=1) e) λz1=>?_;apply rt;exact At.r 1
 ·have h0:a0=[]:=List.map_eq_nil_iff.1 he;subst h0;change some []=_->_;refine At.ownn 2 2 1 ?_;apply rt;exact At.r 0
def eJ(N:Nat)(a1 e7:Int):Nat->(List Int)->Int->Option ((List Int))
 | 0,_,_=>none
 | k+1,s11,s12=>
  cond (decide (s12 < a1)) (
   ae (yK .u64 e7 (I64 (8*s12))) λx13=>
   ae (oD 1 s11 (([U8 x13]:List Int))) λz14=>
   eJ N a1 e7 k z14 (I64 (s12+1))) (
   some s11)
def fA(N:Nat)(a2:(List Int))(a1:Int):Nat->(List Int)->Int->Option (Sum ((List Int)) ((List Int)×Int))
 | 0,_,_=>none
 | k+1,s4,s5=>
  cG (decide (s5 < ((a2.length:Int)))) λx6=>
  cond x6 (
   ae (idx a2 s5) λe7=>
   ae (cond (decide (a1 < 8)) (
    ae (yK .u64 e7 (I64 (8*a1))) λx9=>
    some (decide (x9 > 0))) (
    some false)) λp8=>
   cond p8 (
    some (Sum.inr (([],3)))) (
    ae (eJ N a1 e7 N s4 0) λp10=>
    fA N a2 a1 k p10 (I64 (s5+1)))) (
   some (Sum.inl s4))
def eC(N:Nat)(a0:(List Int))(a1:Int)(a2:(List Int)):Option ((List Int)×Int):=
 cG (cond (decide (a1 < 1)) true (decide (a1 > 8))) λx1=>
 cond x1 (
  some (([],2))) (
  ae (cP N a0) λr2=>
  ae (fA N a2 a1 N r2 0) λo=>lM o (λp3=>
   some ((p3,0))) (λr=>some r))
theorem mD{N a0 a1 a2 r}(h:eC N a0 a1 a2=some r):FnM Tryd.prog 56 [] [(eL 1 k8 a0),(j64 a1),(eL 1 k64 a2)] (.tup [(eO 0 1 k8 r.1),(j64 r.2)]) [.tail (r.1.length*1)]:=by
 unfold eC at h;refine At.f iD hT hmo Tryd.func56 rfl h ?_;refine lx ?_;intro x1;refine At.c 8 ?_ ?_
 ·refine At.ownn 2 6 1 ?_;apply rt;exact At.r 0
 ·refine At.b 1 (λ_ e=>aZ [] (kO e)) λr2=>?_;refine At.LS 4 [] 1 (λp3=>([(8,(eO 0 1 k8 p3))],[(0,.tail (p3.length*1))],[])) (λop3 J k=>∃s4 s5,fA N a2 a1 k s4 s5=some op3/\J [1,20,21] 1 [(8,(eO 0 1 k8 s4)),(22,(j64 s5))] [(0,.tail (s4.length*1))] []) N (λ_ h=>⟨_,_,h,jr⟩) (λop3 g3 k s hI=>?_) λp3=>?_
  ·obtain⟨s4,s5,h,hj⟩:=hI;cases k with
   | zero=>cases h
   | succ k=>
    refine At.jr hj ?_ h;refine lx ?_;intro x6;refine At.c 1 ?_ ?_
    ·refine At.b 0 (λ_ e=>iC hT k64 e) λe7=>?_;refine At.J 2 0 [1,8,10,20,21,22] 1 (λp8=>([(34,(eB p8))],[],[])) (λp8=>?_) λp8=>?_
     ·refine At.s 28 3 ?_ ?_
      ·refine At.g [28] 3 ?_;refine At.b 0 (λ_ e=>rX hT (k' := .i64) e (by kernel_rfl) (by kernel_rfl)) λx9=>?_;refine At.g [28] 2 ?_;apply rt;exact At.jn 0
      ·refine At.g [28] 6 ?_;apply rt;exact At.jn 0
     ·refine At.c 0 ?_ ?_
      ·refine At.ownn 2 6 1 ?_;refine At.sw 0 1 0 ?_;intro e;apply aAN g3 e;exact At.r 0
      ·refine At.L 2 [1,20,21,22] 1 (λp10=>([(8,(eO 0 1 k8 p10))],[(0,.tail (p10.length*1))],[])) (λp10 J k=>∃s11 s12,eJ N a1 e7 k s11 s12=some p10/\J [1,10,20,21,22,35] 1 [(8,(eO 0 1 k8 s11)),(36,(j64 s12))] [(0,.tail (s11.length*1))] []) N (λ_ h=>⟨_,_,h,jr⟩) (λp10 k s hI=>?_) λp10=>?_
       ·obtain⟨s11,s12,h,hj⟩:=hI;cases k with
        | zero=>cases h
        | succ k=>
         refine At.jr hj ?_ h;refine At.c 1 ?_ ?_
         ·refine At.b 6 (λ_ e=>rX hT (k' := .i64) e (by kernel_rfl) (by kernel_rfl)) λx13=>?_;refine At.o 1 (bO hT (x:=(.sl 1 1 [(k8 (U8 x13))]))) ?_;refine At.b 0 (λ_ e=>iW hT k8 (id:=0) (k:=1) e) λz14=>?_;exact λh=>At.k 3 ⟨_,_,h,jr⟩
         ·apply rt;exact At.x 0
       ·exact λh=>At.k 2 ⟨_,_,h,jr⟩
    ·apply rt;exact At.xs 0
  ·apply rt;exact At.r 3
def bT(N:Nat)(b1 b2:(List Int))(a2 a3:Int):Option (Int):=
 ae (cG (cond (a3==0) (a2 != 0) false) λx2=>
 cond x2 (some 2) (some a3)) λp1=>
 some p1
theorem dG{N b1 b2 a2 a3 r}(h:bT N b1 b2 a2 a3=some r):FnM Tryd.prog 43 [.var (.st 2 [(eO 2 1 k8 b2),(j64 a3)]),.tail (b1.length*1),.tail (b2.length*1)] [(.ref 0 [] 0),(eO 1 1 k8 b1),(j64 a2)] (.tup []) [.var (.st 2 [(eO 1 1 k8 b1),(j64 r)]),.tail (b1.length*1),.dead]:=by
 unfold bT at h;refine At.f iD hT hmo Tryd.func43 rfl h ?_;refine At.mv 0 2 ?_;refine At.J 0 1 [0,1] 4 (λp1=>([],[(0,.var (.st 2 [(eO 3 1 k8 b2),(j64 p1)]))],[])) (λp1=>?_) λp1=>?_
 ·refine lx ?_;intro x2;refine At.c 9 ?_ ?_
  ·apply rt;exact At.jn 4
  ·apply rt;exact At.jn 0
 ·apply rt;exact At.z 5
def cA(N:Nat)(a2:(List Int))(a1:Int):Nat->(List Int)->Int->Int->Option (Sum ((List Int)×Int) ((List Int)×Int))
 | 0,_,_,_=>none
 | k+1,s2,s3,s4=>
  cG (decide (s4 < ((a2.length:Int)))) λx5=>
  cond x5 (
   ae (idx a2 s4) λe6=>
   cond (decide (e6 < 0)) (
    ae (cO N s2 2 s3) λr7=>
    some (Sum.inr (([],r7)))) (
    ae (eC N s2 a1 ([U64 e6])) λr8=>
    ae (bT N r8.1 s2 r8.2 s3) λr9=>
    cA N a2 a1 k r8.1 r9 (I64 (s4+1)))) (
   some (Sum.inl ((s2,s3))))
def aB(N:Nat)(b1:(List Int))(a1:Int)(a2:(List Int))(a3:Int):Option ((List Int)×Int):=
 ae (cA N a2 a1 N b1 a3 0) λo=>lM o (λp1=>
  some ((p1.1,p1.2))) (λr=>some r)
theorem aT{N b1 a1 a2 a3 r}(h:aB N b1 a1 a2 a3=some r):FnM Tryd.prog 42 [.var (.st 2 [(eO 1 1 k8 b1),(j64 a3)]),.tail (b1.length*1)] [(.ref 0 [] 0),(j64 a1),(eL 1 j64 a2)] (.tup []) [.var (.st 2 [(eO 2 1 k8 r.1),(j64 r.2)]),.dead,.tail (r.1.length*1)]:=by
 unfold aB at h;refine At.fC iD hT hmo Tryd.func42 rfl h ?_;refine At.mv 0 1 ?_;refine At.LS 3 [] 3 (λp1=>([],[(0,.var (.st 2 [(eO 2 1 k8 p1.1),(j64 p1.2)])),(2,.tail (p1.1.length*1))],[])) (λop1 J k=>∃s2 s3 s4,cA N a2 a1 k s2 s3 s4=some op1/\J [0,1,8,9] 3 [(10,(j64 s4))] [(0,.var (.st 2 [(eO 2 1 k8 s2),(j64 s3)])),(2,.tail (s2.length*1))] []) N (λ_ h=>⟨_,_,_,h,jr⟩) (λop1 g1 k s hI=>?_) λp1=>?_
 ·obtain⟨s2,s3,s4,h,hj⟩:=hI;cases k with
  | zero=>cases h
  | succ k=>
   refine At.jr hj ?_ h;refine lx ?_;intro x5;refine At.c 1 ?_ ?_
   ·refine At.b 0 (λ_ e=>iC hT j64 e) λe6=>?_;refine At.c 4 ?_ ?_
    ·refine At.b 1 (λ_ e=>aZ [0,2] (hJ e)) λr7=>?_;intro e;apply aAN g1 e;exact At.rC 0 [(4,2)]
    ·refine At.o 8 (bO hT (x:=(.sl 1 1 [(k64 (U64 e6))]))) ?_;refine At.b 0 (λ_ e=>aZ [] (mD e)) λr8=>?_;refine At.b 2 (λ_ e=>aZ [0,3,2] (dG e)) λr9=>?_;exact λh=>At.k 2 ⟨_,_,_,h,(aD4 3 2 (by kernel_rfl) jr)⟩
   ·apply rt;exact At.xs 0
 ·apply rt;exact At.zC 0 []
def dP(N:Nat)(a2:(List Int))(a1:Int):Nat->(List Int)->Int->Option (Sum ((List Int)) ((List Int)×Int))
 | 0,_,_=>none
 | k+1,s3,s4=>
  cG (decide (s4 < ((a2.length:Int)))) λx5=>
  cond x5 (
   ae (idx a2 s4) λe6=>
   cG (I64 (64 - (I64 (8*a1)))) λx7=>
   ae (aDI .i64 e6 x7) λx8=>
   cG (I64 (64 - (I64 (8*a1)))) λx9=>
   ae (yK .i64 x8 x9) λx10=>
   cond (x10 != e6) (
    some (Sum.inr (([],3)))) (
    cG (I64 (64 - (I64 (8*a1)))) λx11=>
    ae (aDI .u64 (U64 e6) x11) λx12=>
    cG (I64 (64 - (I64 (8*a1)))) λx13=>
    ae (yK .u64 x12 x13) λx14=>
    ae (oD 8 s3 (([x14]:List Int))) λz15=>
    dP N a2 a1 k z15 (I64 (s4+1)))) (
   some (Sum.inl s3))
def dC(N:Nat)(a0:(List Int))(a1:Int)(a2:(List Int)):Option ((List Int)×Int):=
 cG (cond (decide (a1 < 1)) true (decide (a1 > 8))) λx1=>
 cond x1 (
  some (([],2))) (
  ae (dP N a2 a1 N [] 0) λo=>lM o (λp2=>
   ae (eC N a0 a1 p2) λr16=>
   some ((r16.1,r16.2))) (λr=>some r))
theorem mT{N a0 a1 a2 r}(h:dC N a0 a1 a2=some r):FnM Tryd.prog 44 [] [(eL 1 k8 a0),(j64 a1),(eL 1 j64 a2)] (.tup [(eO 0 1 k8 r.1),(j64 r.2)]) [.tail (r.1.length*1)]:=by
 unfold dC at h;refine At.f iD hT hmo Tryd.func44 rfl h ?_;refine lx ?_;intro x1;refine At.c 8 ?_ ?_
 ·refine At.ownn 2 6 1 ?_;apply rt;exact At.r 0
 ·refine At.ownn 4 8 1 ?_;refine At.LS 0 [0,1] 1 (λp2=>([(8,(eO 0 1 k64 p2))],[(0,.tail (p2.length*1))],[])) (λop2 J k=>∃s3 s4,dP N a2 a1 k s3 s4=some op2/\J [0,1,18,19] 1 [(8,(eO 0 1 k64 s3)),(20,(j64 s4))] [(0,.tail (s3.length*1))] []) N (λ_ h=>⟨_,_,h,jr⟩) (λop2 g2 k s hI=>?_) λp2=>?_
  ·obtain⟨s3,s4,h,hj⟩:=hI;cases k with
   | zero=>cases h
   | succ k=>
    refine At.jr hj ?_ h;refine lx ?_;intro x5;refine At.c 1 ?_ ?_
    ·refine At.b 0 (λ_ e=>iC hT j64 e) λe6=>?_;refine lx ?_;intro x7;refine At.b 6 (λ_ e=>aBX hT (k' := .i64) e (by kernel_rfl) (by kernel_rfl)) λx8=>?_;refine lx ?_;intro x9;refine At.b 3 (λ_ e=>rX hT (k' := .i64) e (by kernel_rfl) (by kernel_rfl)) λx10=>?_;refine At.c 4 ?_ ?_
     ·refine At.ownn 2 6 1 ?_;refine At.sw 0 1 0 ?_;intro e;apply aAN g2 e;exact At.r 0
     ·refine lx ?_;intro x11;refine At.b 6 (λ_ e=>aBX hT (k' := .i64) e (by kernel_rfl) (by kernel_rfl)) λx12=>?_;refine lx ?_;intro x13;refine At.b 3 (λ_ e=>rX hT (k' := .i64) e (by kernel_rfl) (by kernel_rfl)) λx14=>?_;refine At.o 0 (bO hT (x:=(.sl 1 1 [(k64 x14)]))) ?_;refine At.b 0 (λ_ e=>iW hT k64 (id:=0) (k:=1) e) λz15=>?_;exact λh=>At.k 3 ⟨_,_,h,jr⟩
    ·apply rt;exact At.xs 0
  ·refine At.b 3 (λ_ e=>aZ [] (mD e)) λr16=>?_;refine At.sw 4 1 0 ?_;apply rt;exact At.r 0
def bW(N:Nat)(a1:(List aA)):Nat->(List Int)->Int->Int->Option ((List Int)×Int)
 | 0,_,_,_=>none
 | k+1,s2,s3,s4=>
  cG (decide (s4 < ((a1.length:Int)))) λx5=>
  cond x5 (
   ae (idx a1 s4) λe6=>
   ae (dC N s2 4 ([e6.gX,e6.gY,e6.gZ])) λr7=>
   ae (bT N r7.1 s2 r7.2 s3) λr8=>
   bW N a1 k r7.1 r8 (I64 (s4+1))) (
   some ((s2,s3)))
def dE(N:Nat)(b1:(List Int))(a1:(List aA))(a2:Int):Option ((List Int)×Int):=
 ae (bW N a1 N b1 a2 0) λp1=>
 some ((p1.1,p1.2))
theorem kE{N b1 a1 a2 r}(h:dE N b1 a1 a2=some r):FnM Tryd.prog 57 [.var (.st 2 [(eO 1 1 k8 b1),(j64 a2)]),.tail (b1.length*1)] [(.ref 0 [] 0),(eL 3 aA.enc a1)] (.tup []) [.var (.st 2 [(eO 2 1 k8 r.1),(j64 r.2)]),.dead,.tail (r.1.length*1)]:=by
 unfold dE at h;refine At.f iD hT hmo Tryd.func57 rfl h ?_;refine At.mv 0 1 ?_;refine At.L 3 [] 3 (λp1=>([],[(0,.var (.st 2 [(eO 2 1 k8 p1.1),(j64 p1.2)])),(2,.tail (p1.1.length*1))],[])) (λp1 J k=>∃s2 s3 s4,bW N a1 k s2 s3 s4=some p1/\J [0,6,7] 3 [(8,(j64 s4))] [(0,.var (.st 2 [(eO 2 1 k8 s2),(j64 s3)])),(2,.tail (s2.length*1))] []) N (λ_ h=>⟨_,_,_,h,jr⟩) (λp1 k s hI=>?_) λp1=>?_
 ·obtain⟨s2,s3,s4,h,hj⟩:=hI;cases k with
  | zero=>cases h
  | succ k=>
   refine At.jr hj ?_ h;refine lx ?_;intro x5;refine At.c 1 ?_ ?_
   ·refine At.b 0 (λ_ e=>iC hT aA.enc e) λe6=>?_;refine bi λr7 hr7=>?_;refine bi λr8 hr8=>?_;refine At.d 3 (dE1 11 (λ_=>bO hT (x:=(.sl 1 3 [(j64 e6.gX),(j64 e6.gY),(j64 e6.gZ)]))) dE0) (dF 12 (.tup [(eO 4 1 k8 r7.1),(j64 r7.2)]) [] [.tail (r7.1.length*1)] (lD (aZ [] (mT hr7))) (dF 15 (.tup []) [(0,.var (.st 2 [(eO 4 1 k8 r7.1),(j64 r8)])),(2,.dead)] [] (lD (aZ [0,4,2] (dG hr8))) dF0)) ?_;exact λh=>At.k 2 ⟨_,_,_,h,(aD4 4 2 (by kernel_rfl) jr)⟩
   ·apply rt;exact At.x 0
 ·apply rt;exact At.z 0
def lH : Nat->Bool:=imL [3]
def cW(N:Nat)(b1:(List Int))(a1:aP)(a2:Int):Option ((List Int)×Int):=
 ae (cond a1.gA2 (some 1) (some 0)) λp1=>
 ae (aB N b1 1 ([a1.gW,a1.gH,a1.gA7,a1.gA6,a1.gA5,p1]) a2) λr2=>
 ae (eC N r2.1 8 ([a1.gK])) λr3=>
 ae (bT N r3.1 r2.1 r3.2 r2.2) λr4=>
 ae (dE N r3.1 ([a1.gA.gJ,a1.gA.gG,a1.gA.gUp,a1.gA.gE]) r4) λr5=>
 ae (aB N r5.1 4 ([a1.gA.gQ,a1.gA.gP]) r5.2) λr6=>
 some ((r6.1,r6.2))
theorem lA{N b1 a1 a2 r}(h:cW N b1 a1 a2=some r):FnM Tryd.prog 45 [.var (.st 2 [(eO 1 1 k8 b1),(j64 a2)]),.tail (b1.length*1)] [(.ref 0 [] 0),(aP.enc a1)] (.tup []) [.var (.st 2 [(eO 5 1 k8 r.1),(j64 r.2)]),.dead,.dead,.dead,.dead,.tail (r.1.length*1)]:=by
 unfold cW at h;refine At.f lH hT hmo Tryd.func45 rfl h ?_;refine At.J 2 1 [0,3] 2 (λp1=>([(4,(j64 p1))],[],[])) (λp1=>?_) λp1=>?_
 ·refine At.c 2 ?_ ?_
  ·apply rt;exact At.jn 1
  ·apply rt;exact At.jn 0
 ·refine At.o 12 (bO hT (x:=(.sl 1 6 [(j64 a1.gW),(j64 a1.gH),(j64 a1.gA7),(j64 a1.gA6),(j64 a1.gA5),(j64 p1)]))) ?_;refine At.b 0 (λ_ e=>aZ [0,1] (aT e)) λr2=>?_;refine bi λr3 hr3=>?_;refine bi λr4 hr4=>?_;refine At.d 0 (dE1 7 (λ_=>bO hT (x:=(.sl 1 1 [(k64 a1.gK)]))) dE0) (dF 8 (.tup [(eO 3 1 k8 r3.1),(j64 r3.2)]) [] [.tail (r3.1.length*1)] (lD (aZ [] (mD hr3))) (dF 11 (.tup []) [(0,.var (.st 2 [(eO 3 1 k8 r3.1),(j64 r4)])),(2,.dead)] [] (lD (aZ [0,3,2] (dG hr4))) dF0)) ?_;refine At.o 13 (bO hT (x:=(.sl 3 4 [(aA.enc a1.gA.gJ),(aA.enc a1.gA.gG),(aA.enc a1.gA.gUp),(aA.enc a1.gA.gE)]))) ?_;refine At.b 0 (λ_ e=>aZ [0,3] (kE e)) λr5=>?_;refine At.o 7 (bO hT (x:=(.sl 1 2 [(j64 a1.gA.gQ),(j64 a1.gA.gP)]))) ?_;refine At.b 0 (λ_ e=>aZ [0,4] (aT e)) λr6=>?_;apply rt;exact At.z 0
def mV : Nat->Bool:=imL [3]
def cD(N:Nat)(z10:(List Int)):Nat->(List Int)->Int->Int->Option ((List Int)×Int)
 | 0,_,_,_=>none
 | k+1,s12,s13,s14=>
  cG (decide (s14 < ((z10.length:Int)))) λx15=>
  cond x15 (
   ae (idx z10 s14) λe16=>
   ae (dC N s12 8 ([e16])) λr17=>
   ae (bT N r17.1 s12 r17.2 s13) λr18=>
   cD N z10 k r17.1 r18 (I64 (s14+1))) (
   some ((s12,s13)))
def aH(N:Nat)(b1:(List Int))(a1:aD)(a2:Int):Option ((List Int)×Int):=
 ae (aB N b1 1 ([a1.gD]) a2) λr1=>
 cond (a1.gD==1) (
  ae (aB N r1.1 4 ([a1.gS]) r1.2) λr2=>
  cG ((a1.gL.length:Int)) λx3=>
  ae (aB N r2.1 2 ([x3]) r2.2) λr4=>
  ae (oD 1 r4.1 a1.gL) λz5=>
  some ((z5,r4.2))) (
  cond (a1.gD==2) (
   ae (aB N r1.1 4 ([a1.gS]) r1.2) λr6=>
   some ((r6.1,r6.2))) (
   ae (cond (a1.gD==3) (some (a1.gD==3)) (some (a1.gD==4))) λp7=>
   cond p7 (
    ae (aB N r1.1 4 ([a1.gC.gA0,a1.gC.gV,a1.gC.gR,a1.gC.gN]) r1.2) λr8=>
    cond (a1.gD==4) (
     some ((r8.1,r8.2))) (
     ae (oD 8 a1.gC.gT.gM.toList (([a1.gC.gT.gT.gX,a1.gC.gT.gT.gY,a1.gC.gT.gT.gZ]:List Int))) λz10=>
     ae (cD N z10 N r8.1 r8.2 0) λp11=>
     some ((p11.1,p11.2)))) (
    cond (a1.gD==5) (
     ae (aB N r1.1 1 ([a1.gF]) r1.2) λr19=>
     ae (cW N r19.1 a1.gI r19.2) λr20=>
     ae (aB N r20.1 2 ([a1.gA4]) r20.2) λr21=>
     some ((r21.1,r21.2))) (
     ae (cond (a1.gD==6) (some (a1.gD==6)) (some (a1.gD==9))) λp22=>
     cond p22 (
      ae (aB N r1.1 1 ([a1.gF]) r1.2) λr23=>
      some ((r23.1,r23.2))) (
      cond (a1.gD==7) (
       ae (aB N r1.1 1 ([a1.gF,a1.gU]) r1.2) λr24=>
       ae (aB N r24.1 4 ([I64 a1.gA1,a1.gA3]) r24.2) λr25=>
       some ((r25.1,r25.2))) (
       cond (a1.gD==8) (
        ae (aB N r1.1 1 ([a1.gF,a1.gU]) r1.2) λr26=>
        some ((r26.1,r26.2))) (
        cond (a1.gD==10) (
         ae (aB N r1.1 4 ([a1.gA8]) r1.2) λr27=>
         some ((r27.1,r27.2))) (
         ae (cO N r1.1 2 r1.2) λr28=>
         some (([],r28))))))))))
theorem mE{N b1 a1 a2 r}(h:aH N b1 a1 a2=some r):FnM Tryd.prog 29 [.var (.st 2 [(eO 1 1 k8 b1),(j64 a2)]),.tail (b1.length*1)] [(.ref 0 [] 0),(aD.enc a1)] (.tup []) [.var (.st 2 [(eO 4 1 k8 r.1),(j64 r.2)]),.dead,.dead,.dead,.tail (r.1.length*1)]:=by
 unfold aH at h;refine At.fC mV hT hmo Tryd.func29 rfl h ?_;refine At.o 4 (bO hT (x:=(.sl 1 1 [(j64 a1.gD)]))) ?_;refine At.b 0 (λ_ e=>aZ [0,1] (aT e)) λr1=>?_;refine At.c 8 ?_ ?_
 ·refine At.o 3 (bO hT (x:=(.sl 1 1 [(j64 a1.gS)]))) ?_;refine At.b 0 (λ_ e=>aZ [0,2] (aT e)) λr2=>?_;refine lx ?_;intro x3;refine At.o 4 (bO hT (x:=(.sl 1 1 [(j64 x3)]))) ?_;refine At.b 0 (λ_ e=>aZ [0,4] (aT e)) λr4=>?_;refine bi λz5 hz5=>?_;refine At.d 0 dE0 (dF 7 (eO 5 1 k8 z5) [(5,.tail (z5.length*1))] [] (lD (iW hT k8 (id:=5) (k:=1) hz5)) dF0) ?_;apply rt;exact At.zC 0 [(5,4)]
 ·refine At.c 2 ?_ ?_
  ·refine At.o 3 (bO hT (x:=(.sl 1 1 [(j64 a1.gS)]))) ?_;refine At.b 0 (λ_ e=>aZ [0,2] (aT e)) λr6=>?_;apply rt;exact At.zC 0 []
  ·refine At.J 0 1 [0,3,4,15] 4 (λp7=>([(48,(eB p7))],[],[])) (λp7=>?_) λp7=>?_
   ·refine At.c 2 ?_ ?_
    ·apply rt;exact At.jn 0
    ·apply rt;exact At.jn 2
   ·refine At.c 0 ?_ ?_
    ·refine At.o 9 (bO hT (x:=(.sl 1 4 [(j64 a1.gC.gA0),(j64 a1.gC.gV),(j64 a1.gC.gR),(j64 a1.gC.gN)]))) ?_;refine At.b 0 (λ_ e=>aZ [0,2] (aT e)) λr8=>?_;refine At.c 3 ?_ ?_
     ·apply rt;exact At.rC 0 []
     ·refine At.dr 0 [0,4,64] 5 ?_;refine At.gz 0 3 ((aL.enc a1.gC)) ?_;refine bi λz10 hz10=>?_;refine At.d 0 (dE1 15 (λ_=>bO hT (x:=(.sl 1 3 [(j64 a1.gC.gT.gT.gX),(j64 a1.gC.gT.gT.gY),(j64 a1.gC.gT.gT.gZ)]))) dE0) (dF 2 (eO 5 1 j64 a1.gC.gT.gM.toList) [] [.tail (a1.gC.gT.gM.toList.length*1)] (lD (aBk hT (N:=9) (k:=1) j64 a1.gC.gT.gM (by kernel_rfl) (by kernel_rfl))) (dF 16 (eO 5 1 j64 z10) [(5,.tail (z10.length*1))] [] (lD (iW hT j64 (id:=5) (k:=1) hz10)) dF0)) ?_;refine At.L 0 [] 6 (λp11=>([],[(0,.var (.st 2 [(eO 4 1 k8 p11.1),(j64 p11.2)])),(4,.tail (p11.1.length*1))],[])) (λp11 J k=>∃s12 s13 s14,cD N z10 k s12 s13 s14=some p11/\J [0,81,82] 6 [(83,(j64 s14))] [(0,.var (.st 2 [(eO 4 1 k8 s12),(j64 s13)])),(4,.tail (s12.length*1))] []) N (λ_ h=>⟨_,_,_,h,jr⟩) (λp11 k s hI=>?_) λp11=>?_
      ·obtain⟨s12,s13,s14,h,hj⟩:=hI;cases k with
       | zero=>cases h
       | succ k=>
        refine At.jr hj ?_ h;refine lx ?_;intro x15;refine At.c 1 ?_ ?_
        ·refine At.b 0 (λ_ e=>iC hT j64 e) λe16=>?_;refine At.o 8 (bO hT (x:=(.sl 1 1 [(j64 e16)]))) ?_;refine At.b 0 (λ_ e=>aZ [] (mT e)) λr17=>?_;refine At.b 2 (λ_ e=>aZ [0,6,4] (dG e)) λr18=>?_;exact λh=>At.k 2 ⟨_,_,_,h,(aD4 6 4 (by kernel_rfl) jr)⟩
        ·apply rt;exact At.x 0
      ·apply rt;exact At.zC 0 []
    ·refine At.c 2 ?_ ?_
     ·refine At.o 3 (bO hT (x:=(.sl 1 1 [(j64 a1.gF)]))) ?_;refine At.b 0 (λ_ e=>aZ [0,2] (aT e)) λr19=>?_;refine At.b 3 (λ_ e=>aZ [0,4] (lA e)) λr20=>?_;refine At.o 3 (bO hT (x:=(.sl 1 1 [(j64 a1.gA4)]))) ?_;refine At.b 0 (λ_ e=>aZ [0,8] (aT e)) λr21=>?_;apply rt;exact At.zC 0 [(9,4)]
     ·refine At.J 0 1 [0,3,15] 4 (λp22=>([(115,(eB p22))],[],[])) (λp22=>?_) λp22=>?_
      ·refine At.c 2 ?_ ?_
       ·apply rt;exact At.jn 0
       ·apply rt;exact At.jn 2
      ·refine At.c 0 ?_ ?_
       ·refine At.o 3 (bO hT (x:=(.sl 1 1 [(j64 a1.gF)]))) ?_;refine At.b 0 (λ_ e=>aZ [0,2] (aT e)) λr23=>?_;apply rt;exact At.zC 0 []
       ·refine At.c 2 ?_ ?_
        ·refine At.o 5 (bO hT (x:=(.sl 1 2 [(j64 a1.gF),(j64 a1.gU)]))) ?_;refine At.b 0 (λ_ e=>aZ [0,2] (aT e)) λr24=>?_;refine At.o 6 (bO hT (x:=(.sl 1 2 [(j64 (I64 a1.gA1)),(j64 a1.gA3)]))) ?_;refine At.b 0 (λ_ e=>aZ [0,4] (aT e)) λr25=>?_;apply rt;exact At.zC 0 [(5,4)]
        ·refine At.c 2 ?_ ?_
         ·refine At.o 5 (bO hT (x:=(.sl 1 2 [(j64 a1.gF),(j64 a1.gU)]))) ?_;refine At.b 0 (λ_ e=>aZ [0,2] (aT e)) λr26=>?_;apply rt;exact At.zC 0 []
         ·refine At.c 2 ?_ ?_
          ·refine At.o 3 (bO hT (x:=(.sl 1 1 [(j64 a1.gA8)]))) ?_;refine At.b 0 (λ_ e=>aZ [0,2] (aT e)) λr27=>?_;apply rt;exact At.zC 0 []
          ·refine At.b 1 (λ_ e=>aZ [0,2] (hJ e)) λr28=>?_;apply rt;exact At.zC 0 [(5,4)]
def cT(N:Nat)(a0:(List aD)):Nat->(List Int)->Int->Option (Sum ((List Int)) ((List Int)×Int))
 | 0,_,_=>none
 | k+1,s3,s4=>
  cG (decide (s4 < ((a0.length:Int)))) λx5=>
  cond x5 (
   ae (idx a0 s4) λe6=>
   ae (aH N [] e6 0) λr7=>
   cond (r7.2 != 0) (
    some (Sum.inr (([],r7.2)))) (
    ae (oD 1 s3 r7.1) λz8=>
    cT N a0 k z8 (I64 (s4+1)))) (
   some (Sum.inl s3))
def aS(N:Nat)(a0:(List aD)):Option ((List Int)×Int):=
 cG (decide (((a0.length:Int)) > 256)) λx1=>
 cond x1 (
  some (([],3))) (
  ae (cT N a0 N [] 0) λo=>lM o (λp2=>
   cG (decide (((p2.length:Int)) > 65536)) λx9=>
   cond x9 (some (([],3))) (some ((p2,0)))) (λr=>some r))
theorem jC{N a0 r}(h:aS N a0=some r):FnM Tryd.prog 8 [] [(eL 46 aD.enc a0)] (.tup [(eL 1 k8 r.1),(j64 r.2)]) []:=by
 unfold aS at h;refine At.f iD hT hmo Tryd.func8 rfl h ?_;refine lx ?_;intro x1;refine At.c 5 ?_ ?_
 ·apply rt;exact At.r 2
 ·refine At.ownn 4 4 1 ?_;refine At.LS 0 [] 1 (λp2=>([(4,(eO 0 1 k8 p2))],[(0,.tail (p2.length*1))],[])) (λop2 J k=>∃s3 s4,cT N a0 k s3 s4=some op2/\J [11,12] 1 [(4,(eO 0 1 k8 s3)),(13,(j64 s4))] [(0,.tail (s3.length*1))] []) N (λ_ h=>⟨_,_,h,jr⟩) (λop2 g2 k s hI=>?_) λp2=>?_
  ·obtain⟨s3,s4,h,hj⟩:=hI;cases k with
   | zero=>cases h
   | succ k=>
    refine At.jr hj ?_ h;refine lx ?_;intro x5;refine At.c 1 ?_ ?_
    ·refine At.b 0 (λ_ e=>iC hT aD.enc e) λe6=>?_;refine At.ownb 8 2 1 [0] ?_;refine At.b 0 (λ_ e=>aZ [2,3] (mE e)) λr7=>?_;refine At.c 5 ?_ ?_
     ·refine At.d 0 dE0 dF0 ?_;intro e;apply aAN g2 e;exact At.r 0
     ·refine At.b 5 (λ_ e=>iW hT k8 (id:=0) (k:=1) e) λz8=>?_;exact λh=>At.k 3 ⟨_,_,h,jr⟩
    ·apply rt;exact At.xs 0
  ·refine lx ?_;intro x9;refine At.c 3 ?_ ?_
   ·apply rt;exact At.r 2
   ·apply rt;exact At.r 3
def hY(N:Nat):Option ((List ByteArray)):=
 some ([ByteArray.mk #[],ByteArray.mk #[108,111,97,100],aD8,ByteArray.mk #[112,117,116],ByteArray.mk #[116,97,107,101],aD9,aCi,aCw,aDE,aEB,ByteArray.mk #[116,105,99,107]])
theorem nI{N r}(h:hY N=some r):FnM Tryd.prog 15 [] [] (eL 1 eS r) []:=by
 unfold hY at h;refine At.f iD hT hmo Tryd.func15 rfl h ?_;refine At.o 1 (bO hT (x:=(.sl 1 11 [(eS (ByteArray.mk #[])),(eS (ByteArray.mk #[108,111,97,100])),(eS aD8),(eS (ByteArray.mk #[112,117,116])),(eS (ByteArray.mk #[116,97,107,101])),(eS aD9),(eS aCi),(eS aCw),(eS aDE),(eS aEB),(eS (ByteArray.mk #[116,105,99,107]))]))) ?_;apply rt;exact At.r 1
def aDU : Go.Shelf.Ren:=⟨λ | 171=>35 | 243=>49 | 246=>62 | 283=>73 | 284=>74 | 285=>75 | 286=>76 | 129=>89 | 317=>88 | 318=>90 | 319=>91 | 320=>92 | 337=>99 | 338=>100 | n=>n,λ | 3=>3 | 9=>9 | 2=>2 | 4=>4 | 171=>131 | 0=>0 | 53=>31 | 37=>22 | 5=>5 | 173=>134 | 212=>145 | 51=>38 | 20=>20 | 213=>146 | 46=>66 | 232=>165 | 233=>166 | n=>n,λ | 17=>1 | 18=>6 | 19=>7 | n=>n⟩
theorem itoa : LaysM.n171 Tryd.prog aDU where
 mixed:=by kernel_rfl
 f129:=Tryd.func89.trans (congrArg some (by kernel_rfl))
 f171:=Tryd.func35.trans (congrArg some (by kernel_rfl))
 f243:=Tryd.func49.trans (congrArg some (by kernel_rfl))
 f246:=Tryd.func62.trans (congrArg some (by kernel_rfl))
 f283:=Tryd.func73.trans (congrArg some (by kernel_rfl))
 f284:=Tryd.func74.trans (congrArg some (by kernel_rfl))
 f285:=Tryd.func75.trans (congrArg some (by kernel_rfl))
 f286:=Tryd.func76.trans (congrArg some (by kernel_rfl))
 f317:=Tryd.func88.trans (congrArg some (by kernel_rfl))
 f318:=Tryd.func90.trans (congrArg some (by kernel_rfl))
 f319:=Tryd.func91.trans (congrArg some (by kernel_rfl))
 f320:=Tryd.func92.trans (congrArg some (by kernel_rfl))
 f337:=Tryd.func99.trans (congrArg some (by kernel_rfl))
 f338:=Tryd.func100.trans (congrArg some (by kernel_rfl))
 t0:=Tryd.underlying0
 a0:=Tryd.isAgg0
 z0:=Tryd.sizeOf0
 v0:=Tryd.zeroValue0
 t2:=Tryd.underlying2
 a2:=Tryd.isAgg2
 z2:=Tryd.sizeOf2
 v2:=Tryd.zeroValue2
 t3:=Tryd.underlying3
 a3:=Tryd.isAgg3
 z3:=Tryd.sizeOf3
 v3:=Tryd.zeroValue3
 t4:=Tryd.underlying4
 a4:=Tryd.isAgg4
 z4:=Tryd.sizeOf4
 v4:=Tryd.zeroValue4
 t5:=Tryd.underlying5
 a5:=Tryd.isAgg5
 z5:=Tryd.sizeOf5
 v5:=Tryd.zeroValue5
 t9:=Tryd.underlying9
 a9:=Tryd.isAgg9
 z9:=Tryd.sizeOf9
 v9:=Tryd.zeroValue9
 t20:=Tryd.underlying20
 a20:=Tryd.isAgg20
 z20:=Tryd.sizeOf20
 v20:=Tryd.zeroValue20
 t37:=Tryd.underlying22
 a37:=Tryd.isAgg22
 z37:=Tryd.sizeOf22
 v37:=Tryd.zeroValue22
 t46:=Tryd.underlying66
 a46:=Tryd.isAgg66
 z46:=Tryd.sizeOf66
 v46:=Tryd.zeroValue66
 t51:=Tryd.underlying38
 a51:=Tryd.isAgg38
 z51:=Tryd.sizeOf38
 v51:=Tryd.zeroValue38
 t53:=Tryd.underlying31
 a53:=Tryd.isAgg31
 z53:=Tryd.sizeOf31
 v53:=Tryd.zeroValue31
 t171:=Tryd.underlying131
 a171:=Tryd.isAgg131
 z171:=Tryd.sizeOf131
 v171:=Tryd.zeroValue131
 t173:=Tryd.underlying134
 a173:=Tryd.isAgg134
 z173:=Tryd.sizeOf134
 v173:=Tryd.zeroValue134
 t212:=Tryd.underlying145
 a212:=Tryd.isAgg145
 z212:=Tryd.sizeOf145
 v212:=Tryd.zeroValue145
 t213:=Tryd.underlying146
 a213:=Tryd.isAgg146
 z213:=Tryd.sizeOf146
 t232:=Tryd.underlying165
 a232:=Tryd.isAgg165
 z232:=Tryd.sizeOf165
 v232:=Tryd.zeroValue165
 t233:=Tryd.underlying166
 a233:=Tryd.isAgg166
 z233:=Tryd.sizeOf166
 v233:=Tryd.zeroValue166
 g17:=by kernel_rfl
 g18:=by kernel_rfl
 g19:=by kernel_rfl
 i0:=by kernel_rfl
 i2:=by kernel_rfl
 i3:=by kernel_rfl
 i4:=by kernel_rfl
 i5:=by kernel_rfl
 i9:=by kernel_rfl
 i20:=by kernel_rfl
 i37:=by kernel_rfl
 i46:=by kernel_rfl
 i51:=by kernel_rfl
 i53:=by kernel_rfl
 i171:=by kernel_rfl
 i173:=by kernel_rfl
 i212:=by kernel_rfl
 i232:=by kernel_rfl
 i233:=by kernel_rfl
 m17:=by kernel_rfl
 m18:=by kernel_rfl
 m19:=by kernel_rfl
theorem aBO : (Tryd.prog.info? 90).map (·.size)=some 2:=by kernel_rfl
theorem aFI : liesAt Tryd.prog Tryd.prog.depth 90 (2 / Tryd.prog.cellsOf 90) 0 90 1=true:=by kernel_rfl
theorem nA : Tryd.prog.follows .mixedOrders=true:=by kernel_rfl
theorem aEx(b:Nat)(w:World)(h0:w.cell? ⟨b,0,none⟩=some (.pointer (some ⟨b,0,none⟩))) :
  Calls Tryd.prog 48 #[.pointer (some ⟨b,0,none⟩)] w λe w'=>e = .returned (.tuple #[])/\w'=w:=by
 obtain⟨j,hj,_⟩:=ay.1 aBO;have mixed:=nA
 go_enter Tryd.func48,Tryd.ntmps48
 go_wp2
 rw[Lib.run_neq_ptr_same w _ Tryd.underlying88 hj]
 go_wp2
 go_end0
 exact⟨rfl,rfl⟩
theorem aDa(b:Nat)(w:World)(h0:w.cell? ⟨b,0,none⟩=some (.pointer none))(hs:w.shape? b=some (90,2))(hf:w.frozen? ⟨b,0,none⟩=false) :
  Calls Tryd.prog 48 #[.pointer (some ⟨b,0,none⟩)] w λe w'=>e = .returned (.tuple #[])/\w'=w.setCell ⟨b,0,none⟩ (.pointer (some ⟨b,0,none⟩)):=by
 obtain⟨j,hj,hz⟩:=ay.1 aBO;have mixed:=nA
 go_enter Tryd.func48,Tryd.ntmps48
 go_wp2
 rw[Lib.run_to_unsafe w ⟨b,0,none⟩ Tryd.underlying88 Tryd.underlying120 hj (by rw[hz];decide) hs (by show 0 < 2;omega)]
 simp only[Result.andThen]
 rw[Oper.upon_value]
 go_wp2
 rw[run_callFunc_extern Tryd.func61 (by kernel_rfl) (by kernel_rfl) (by kernel_rfl) (e:=Extern.AbiNoEscape.same) (by kernel_rfl),Lib.run_noEscape]
 simp only[Result.andThen]
 rw[Oper.upon_value]
 go_wp2
 rw[Lib.run_from_unsafe w ⟨b,0,none⟩ Tryd.underlying120 Tryd.underlying88 hj hs aFI]
 simp only[Result.andThen]
 rw[Oper.upon_value]
 go_wp2
 go_end0
 exact⟨rfl,rfl⟩
theorem aD3(B b:Nat)(bs:List Value)(w:World)(h:Lib.IsBuilder 90 5 B b bs w) :
  Calls Tryd.prog 48 #[.pointer (some ⟨b,0,none⟩)] w λe w'=>e = .returned (.tuple #[])/\Lib.BuilderAt 90 5 B b (.pointer (some ⟨b,0,none⟩)) bs w'/\Below B w w':=by
 rcases h with h | h
 ·refine(aDa b w h.cell0 h.shape h.frozen0).mono ?_;rintro e w' ⟨he,rfl⟩
  exact⟨he,h.used _,(Below.refl B w).setCell (p:=⟨b,0,none⟩) h.1 _⟩
 ·refine(aEx b w h.cell0).mono ?_;rintro e w' ⟨he,rfl⟩
  exact⟨he,h,Below.refl B _⟩
theorem aEU : (Tryd.prog.info? 5).map (λi=>(i.zero,i.size,i.bytes))=some (some (.int .u8 0),1,1):=by kernel_rfl
theorem aCq : Tryd.prog.cellsOf 5=1:=by kernel_rfl
theorem aAJ(args:Array Value)(w:World):(callFunc 48 args).run Tryd.prog w = .ok (.enter 48 args) w:=enters_of Tryd.func48 (by kernel_rfl) rfl args w
theorem yT(B b:Nat)(bs:List Value)(s:ByteArray)(w:World)(h:Lib.IsBuilder 90 5 B b bs w)(hl:bs.length+s.size<=140737488355328)(hB:B<=w.heap.size) :
  Calls Tryd.prog 34 #[.pointer (some ⟨b,0,none⟩),.string s] w λe w'=>e = .returned (.tuple #[.int .i64 s.size,.nilIface])/\Lib.BuilderAt 90 5 B b (.pointer (some ⟨b,0,none⟩)) (bs++Lib.strCells s) w'/\Below B w w':=by
 obtain⟨i0,hi,z0,z1,z2⟩:=info_parts aEU;have mixed:=nA;have e48:=aAJ
 go_enter Tryd.func34,Tryd.ntmps34
 go_wp2_with (go_at_fn 48;refine(aD3 B b bs _ h).mono ?_)
 rintro e w1 ⟨rfl,⟨hb0,v,hbk,hown,hne⟩,hb1⟩
 have c0:w1.cell? ⟨b,0,none⟩=some (.pointer (some ⟨b,0,none⟩)):=by rw[Lib.cell_of_heap hbk];rfl
 have c1:w1.cell? ⟨b,1,none⟩=some v:=by rw[Lib.cell_of_heap hbk];rfl
 go_wp2_with (at_builtin;refine Lib.wpList_append_own_string _ rfl _ _ 22 9 rfl B 5 i0 Tryd.underlying22 Tryd.underlying9 hi z0 z1 z2 _ _ _ rfl hown s rfl ?q3 ?q4 ?q5 ?_)
 case q3=>unfold maxLen;omega
 case q4=>omega
 case q5=>have:=hb1.size;omega
 intro v' w2 hown' hgrow _;have lt:b < w1.heap.size:=by
  refine Nat.lt_of_not_le λq=>?_;rw[Array.getElem?_eq_none q] at hbk;cases hbk
 have hb2:w2.heap[b]? = some (.cells #[.pointer (some ⟨b,0,none⟩),v] 90 (0,0)):=by rw[hgrow.block b lt (λe=>hne e.symm),hbk]
 have d0:w2.cell? ⟨b,0,none⟩=some (.pointer (some ⟨b,0,none⟩)):=by rw[Lib.cell_of_heap hb2];rfl
 have d1:w2.cell? ⟨b,1,none⟩=some v:=by rw[Lib.cell_of_heap hb2];rfl
 have f1:w2.frozen? ⟨b,1,none⟩=false:=Lib.frozen_of_heap hb2 1;obtain⟨ao,n',cap,rfl⟩:∃ao n' cap,v' = .slice ao n' cap:=by
  rcases hown'.2 with ⟨hv,_⟩ | ⟨g,cap,cur,hv,_⟩ <;> exact⟨_,_,_,hv⟩
 go_wp2
 go_ret2
 refine⟨rfl,Lib.BuilderAt.put hb0 hb2 (by simpa[Lib.strCells_length] using hown') (by decide),?_⟩
 exact(hb1.grown hgrow (by have:=hb1.size;omega) (λk hk=>(hown.lt k hk).1)).setCell (p:=⟨b,1,none⟩) hb0 _
theorem aBl(B b:Nat)(l:List UInt8)(w:World)(h:Lib.BuilderAt 90 5 B b (.pointer (some ⟨b,0,none⟩)) (Lib.byteCells l) w)(h0:l≠[]) :
  Calls Tryd.prog 36 #[.pointer (some ⟨b,0,none⟩)] w λe w'=>e = .returned (.string ⟨l.toArray⟩)/\Below B w w':=by
 obtain⟨hB,v,hbk,hown,hne⟩:=h;have hl0:l.length≠0:=by simpa using h0
 rw[Lib.byteCells_length] at hown;obtain⟨g,cap,cur,rfl,hbg,hg,hnc,hcm,hcs,htk⟩:∃g cap cur,v = .slice (some ⟨g,0,none⟩) l.length cap/\B<=g/\w.heap[g]? = some (.cells cur 5 (0,0))/\l.length<=cap/\cap<=maxLen/\cur.size=cap*1/\cur.toList.take (l.length*1)=Lib.byteCells l:=by
  rcases hown.2 with ⟨_,hz⟩ | ⟨g,cap,cur,hv,r⟩
  ·exact absurd hz hl0
  ·exact⟨g,cap,cur,hv,r⟩
 have c1:w.drew.cell? ⟨b,1,none⟩=some (.slice (some ⟨g,0,none⟩) l.length cap):=by
  rw[Lib.cell_of_heap (w:=w.drew) (b:=b) hbk];rfl
 have hSD:(Builtin.unsafeSliceData_ #[22] 110 #[.slice (some ⟨g,0,none⟩) l.length cap]).run Tryd.prog w.drew = .ok (.pointer (some ⟨g,0,none⟩)) w.drew:=Lib.run_unsafeSliceData_row _ _ _ _ _ _ (by omega)
 have hUS:(Builtin.unsafeString_ #[110,3] 9 #[.pointer (some ⟨g,0,none⟩),.int .i64 l.length]).run Tryd.prog w.drew = .ok (.string ⟨l.toArray⟩) (w.drew.freeze ⟨g,0,none⟩ l.length):=by
  refine Lib.run_unsafeString_row w.drew 110 3 9 5 Tryd.underlying110 aCq g cur.size (by have q:w.drew.heap[g]? = some (.cells cur 5 (0,0)):=hg;simp[World.shape?,q]) l h0 (by omega) (by unfold maxLen at hcm;omega) λj x hx=>?_;exact hown.cells (g:=g) rfl j (.int .u8 x.toNat) (by simp[Lib.byteCells,hx])
 have mixed:=nA
 go_enter Tryd.func36,Tryd.ntmps36
 go_wp2
 go_region_o
 all_goals (go_wp2;go_ret;exact⟨rfl,Lib.below_freeze (Below.drew (Below.refl B w)) (p:=⟨g,0,none⟩) hbg _⟩)
def tG(w:World):Prop:=Lib.TabIs Tryd.prog w "internal/strconv.uint64pow10" .u64 Lib.pow10Tab
theorem aAE(args:Array Value)(w:World):(callFunc 34 args).run Tryd.prog w = .ok (.enter 34 args) w:=enters_of Tryd.func34 (by kernel_rfl) rfl args w
theorem aAq(args:Array Value)(w:World):(callFunc 35 args).run Tryd.prog w = .ok (.enter 35 args) w:=enters_of Tryd.func35 (by kernel_rfl) rfl args w
theorem aAe(args:Array Value)(w:World):(callFunc 36 args).run Tryd.prog w = .ok (.enter 36 args) w:=enters_of Tryd.func36 (by kernel_rfl) rfl args w
theorem aE5{B b:Nat}{p:Value}{bs:List Value}{w:World}(k:Nat)(os:Array Obj)(h:Lib.BuilderAt 90 5 B b p bs w):Lib.BuilderAt 90 5 B b p bs (grow (w.drewN k) os):=by
 obtain⟨h1,v,h2,h3,h4⟩:=h;exact⟨h1,v,(heap_grow_old _ _ (rT h2)).trans h2,aDQ k os h3,h4⟩
theorem aET(hI:∀(i:Int) (w:World),-9223372036854775808<=i->i<=9223372036854775807->tG w->Calls Tryd.prog 35 #[.int .i64 i] w λe w'=>e = .returned (.string ⟨(Lib.itoa i).toArray⟩)/\∃k os,w'=grow (w.drewN k) os)
  (hT:∀w w':World,tG w->Below w.heap.size w w'->tG w')
  (first:ByteArray) (l:List Int) (ao:Option Addr) (cap:Nat) (w:World) (tab:tG w) (h0:first.size≠0) (hf:first.size<=1000000) (hl:l.length<=100000) (h64:∀x∈l,-9223372036854775808<=x/\x<=9223372036854775807)
  (hc:∀(i:Nat) (x:Int),l[i]? = some x->∃b off,ao=some ⟨b,off,none⟩/\b < w.heap.size/\w.cell? ⟨b,off+i,none⟩=some (.int .i64 x)) :
  Calls Tryd.prog 16 #[.string first,.slice ao l.length cap] w λe w'=>e = .returned (.string ⟨(lS first l).toArray⟩)/\Below w.heap.size w w':=by
 have mixed:=nA;have e34:=aAE;have e35:=aAq;have e36:=aAe;have fresh:=Lib.fresh_isBuilder 90 5 w;have bl0:Below w.heap.size w (w.alloc (.cells #[.pointer none,.slice none 0 0] 90)):=(Below.refl _ w).alloc (Nat.le_refl _) _;have sz0:w.heap.size<=(w.alloc (.cells #[.pointer none,.slice none 0 0] 90)).heap.size:=bl0.size
 go_enter Tryd.func16,Tryd.ntmps16
 go_wp2_with (go_at_fn 34;refine(yT w.heap.size w.heap.size [] first _ fresh ?q1 sz0).mono ?_)
 case q1=>simp;omega
 rintro e w1 ⟨rfl,hb1,bl1⟩
 rw[List.nil_append] at hb1;have bl2:=bl0.trans bl1
 go_wp2
 go_loopw [12] (λi wr=>∃k:Nat,k<=l.length/\i = .int .i64 k/\Lib.BuilderAt 90 5 w.heap.size w.heap.size (.pointer (some ⟨w.heap.size,0,none⟩)) (Lib.byteCells (lS first (l.take k))) wr/\Below w.heap.size w wr) (λi _=>match i with | .int _ m=>l.length - m.toNat | _=>0)
 case atStart=>exact⟨0,Nat.zero_le _,rfl,by rw[List.take_zero];simpa[lS,dZ,Lib.strCells_eq] using hb1,bl2⟩
 case round=>
  obtain⟨k,hk,rfl,hbr,blr⟩:=hrel;by_cases hlt:k < l.length
  ·have hx:l[k]? = some l[k]:=List.getElem?_eq_getElem hlt;obtain⟨b,off,rfl,hbl,hcell⟩:=hc k _ hx;have r64:=h64 _ (List.getElem_mem hlt)
   have hcr:wr.cell? ⟨b,off+k,none⟩=some (.int .i64 l[k]):=(blr.cell hbl).trans hcell;have tabr:=hT _ _ tab blr;have hln:=aCY first l h64 k
   have iln:=pC _ r64.1 r64.2;have hcat:(Op.stringOp .add (⟨#[32]⟩:ByteArray) ⟨(Lib.itoa l[k]).toArray⟩).run Tryd.prog=λW => .ok (.string ⟨(32 :: Lib.itoa l[k]).toArray⟩) W:=by
    funext W;rw[run_string_add_sum W _ _ (by show 1+(Lib.itoa l[k]).toArray.size<=_;simp;omega),aBs]
   go_wp2_with (go_at_fn 35;refine(hI l[k] _ r64.1 r64.2 tabr).mono ?_)
   rintro e w2 ⟨rfl,kk,os,rfl⟩
   have hb2:=aE5 kk os hbr;have szr:=blr.size;have bl2:=blr.trans (aAB wr kk os szr)
   have hln2:(Lib.byteCells (lS first (l.take k))).length+(⟨(32 :: Lib.itoa l[k]).toArray⟩:ByteArray).size<=140737488355328:=by
    rw[Lib.byteCells_length]
    show _+(32 :: Lib.itoa l[k]).toArray.size<=_;rw[List.size_toArray,List.length_cons]
    omega
   go_wp2_with (go_at_fn 34;refine(yT w.heap.size w.heap.size _ _ _ (.inr hb2) hln2 (by simp;omega)).mono ?_)
   rintro e w3 ⟨rfl,hb3,bl3⟩
   have e3:Lib.byteCells (lS first (l.take k))++Lib.strCells ⟨(32 :: Lib.itoa l[k]).toArray⟩=Lib.byteCells (lS first (l.take (k+1))):=by
    rw[Lib.strCells_eq,<- Lib.byteCells_append]
    congr 1;unfold lS;rw[List.append_assoc,List.take_succ_eq_append_getElem hlt,aAc]
   rw[e3] at hb3;have bl4:=bl2.trans bl3;clear hcat hb2 bl3 bl2 hbr blr hcr tabr
   go_wp2
   have ek:((k:Int)+1+9223372036854775808) % 18446744073709551616 - 9223372036854775808=((k+1:Nat):Int):=by omega
   exact⟨⟨k+1,hlt,rfl,hb3,bl4⟩,by show l.length - ((k:Int)+1).toNat < l.length - (k:Int).toNat;omega⟩
  ·have hk2:k=l.length:=by omega
   subst hk2;rw[List.take_length] at hbr;have hne:lS first l≠[]:=by
    unfold lS;intro h;have:=congrArg List.length h;rw[List.length_append] at this;apply h0;have e:first.size=first.data.toList.length:=rfl
    simp only[List.length_nil] at this;omega
   go_wp2_with (go_at_fn 36;refine(aBl w.heap.size w.heap.size _ _ hbr hne).mono ?_)
   rintro e w2 ⟨rfl,bl2⟩
   have bl3:=blr.trans bl2
   go_wp2
   go_ret
   exact⟨rfl,bl3⟩
theorem aBo{g:Nat}(hn:Tryd.prog.globalNamed "internal/strconv.uint64pow10" = some g)(w w':World)(h:tG w)(bl:RowKit.Below w.heap.size w w'):tG w':=by
 unfold tG Lib.TabIs World.var? at *;rw[hn,Option.bind_some] at *;cases hg:w.heap[g]? with
 | none=>rw[hg] at h;cases h
 | some o=>rw[bl.block g (rT hg)];exact h
theorem aEN{ρ:Shelf.Ren}(L:LaysM.n171 Tryd.prog ρ)(hf:ρ.f 171=35){g:Nat}(hm:(g,pU .u64 Lib.pow10Tab)∈bA.l)(hn:Tryd.prog.globalNamed "internal/strconv.uint64pow10" = some g){first r:ByteArray}{l:List Int}(h:jA first l=some r):FnM Tryd.prog 16 [] [eS first,eL 1 j64 l] (eS r) []:=by
 obtain⟨rfl,h0,h1,h2,h3⟩:=aEm h;unfold FnM;rintro w G bs vs ok ⟨y0,r0,rfl,g0,y1,r1,rfl,g1,rfl⟩
 have e0:=bH (iE g0)
 subst e0;obtain⟨a,cap,rfl,hcap,hn1,hcs⟩:=sL (iE g1)
 rw[List.length_map]
 refine Calls.mono (aET (λi w h0 h1 tab=>hf▸Any.strconv_Itoa L i h0 h1 w tab) (λw w'=>aBo hn w w') first l a cap w (aDr ok hm hn) h0 h1 h2 h3 λi x hx=>?_) ?_
 ·rcases hcs with hcs | ⟨b,off,zs,rfl,hrd,hat⟩
  ·rw[List.map_eq_nil_iff] at hcs;subst hcs;cases hx
  ·have hz:=yC l hrd;have hc:=(hat i (.int .i64 x) (by rw[hz,List.getElem?_map,hx];rfl)).1;refine⟨b,off,rfl,?_,hc⟩
   have:w.heap[b]? ≠ none:=λq=>by
    unfold World.cell? at hc;simp[q] at hc
   cases hb:w.heap[b]? with
   | none=>exact absurd hb this
   | some o=>exact rT hb
 ·rintro e w' ⟨rfl,bl⟩
  have later:bV w w':=⟨bl.size,λb hb=>bl.block b hb,bl.os,bl.tape,bl.output⟩
  exact⟨_,bs,rfl,Ext.later later,OK.later later ok,lN rfl⟩
theorem mN{first r:ByteArray}{l:List Int}(h:jA first l=some r):FnM Tryd.prog 16 [] [eS first,eL 1 j64 l] (eS r) []:=aEN itoa rfl (g:=1) aA7 (by kernel_rfl) h
theorem iB : fH Tryd.prog 16:=fB (by kernel_rfl)
end Go.UK
