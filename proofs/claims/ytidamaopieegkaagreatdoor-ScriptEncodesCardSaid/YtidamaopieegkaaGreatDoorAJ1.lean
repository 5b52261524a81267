/- A part of the proof: what the functions of the program compute. -/
import Derived.Test.YtidamaopieegkaaGreatDoorST
open Int renaming tmod→cy,toNat→bq
open Option renaming bind→aa
open Vector renaming replicate→al
namespace Go.UK
open Go Go.Proofs
set_option maxRecDepth 20000
set_option maxHeartbeats 40000000
set_option linter.all false
attribute [local irreducible] adv aBj vA oD brPt aDJ aBb lA rE aDE bT iC cT wZ aBi aAc lPt owp awl aw FnM opS Stab TOK Big
def dK(N:Nat)(b1:(List Int))(a1 a2:Int):Option (Int):=
 aa (bS (cond (a2==0) (a1 != 0) false) λx2=>
 cond x2 (some 2) (some a2)) λp1=>
 some p1
theorem kW{N b1 a1 a2 r}(h:dK N b1 a1 a2=some r):FnM Tryz.prog 24 [.var (.st 2 [(eO 1 1 k8 b1),(j64 a2)]),.tail (b1.length*1)] [(.ref 0 [] 0),(.v (.slice none 0 0)),(j64 a1)] (.tup []) [.var (.st 2 [(eO 3 1 k8 []),(j64 r)]),.dead,.dead,.tail 0]:=by
 unfold dK at h;refine At.f dQ hT hmo Tryz.func24 rfl h ?_;refine At.mv 0 1 ?_;refine At.J 0 1 [0,1] 3 (λp1=>([],[(0,.var (.st 2 [(eO 2 1 k8 b1),(j64 p1)]))],[])) (λp1=>?_) λp1=>?_
 ·refine lx ?_;intro x2;refine At.c 9 ?_ ?_
  ·apply rt;exact At.jn 4
  ·apply rt;exact At.jn 0
 ·refine At.ownn 0 1 1 ?_;apply rt;exact At.z 5
def cQ(N:Nat)(a0:(List Int)):Option ((List Int)):=
 aa (nR 1 (([]:List Int)) a0) λz1=>
 some z1
theorem kV{N a0 r}(h:cQ N a0=some r):FnM Tryz.prog 29 [] [(eL 1 k8 a0)] (eO 0 1 k8 r) [.tail (r.length*1)]:=by
 unfold cQ at h;refine At.f dQ hT hmo Tryz.func29 rfl h ?_;refine At.q hT 2 (d:=4) (t:=25) (e:=5) (z:=1) (x:=(eL 1 k8 a0)) (es:=List.map k8 a0) rfl ?_ (λhe=>?_)
 ·refine At.o 1 (xQ hT k8 (k:=1) ([]:List Int) (by kernel_rfl) (by kernel_rfl)) ?_;refine At.b 1 (λ_ e=>iH hT k8 (id:=0) (k:=1) e) λz1=>?_;apply rt;exact At.r 1
 ·have h0:a0=[]:=List.map_eq_nil_iff.1 he;subst h0;change some []=_->_;refine At.ownn 2 2 1 ?_;apply rt;exact At.r 0
def fY(N:Nat)(a1 e7:Int):Nat->(List Int)->Int->Option ((List Int))
 | 0,_,_=>none
 | k+1,s11,s12=>
  cond (decide (s12 < a1)) (
   aa (yC .u64 e7 (I64 (8*s12))) λx13=>
   aa (nR 1 s11 (([U8 x13]:List Int))) λz14=>
   fY N a1 e7 k z14 (I64 (s12+1))) (
   some s11)
def iU(N:Nat)(a2:(List Int))(a1:Int):Nat->(List Int)->Int->Option (Sum ((List Int)) ((List Int)×Int))
 | 0,_,_=>none
 | k+1,s4,s5=>
  bS (decide (s5 < ((a2.length:Int)))) λx6=>
  cond x6 (
   aa (idx a2 s5) λe7=>
   aa (cond (decide (a1 < 8)) (
    aa (yC .u64 e7 (I64 (8*a1))) λx9=>
    some (decide (x9 > 0))) (
    some false)) λp8=>
   cond p8 (
    some (Sum.inr (([],3)))) (
    aa (fY N a1 e7 N s4 0) λp10=>
    iU N a2 a1 k p10 (I64 (s5+1)))) (
   some (Sum.inl s4))
def eG(N:Nat)(a0:(List Int))(a1:Int)(a2:(List Int)):Option ((List Int)×Int):=
 bS (cond (decide (a1 < 1)) true (decide (a1 > 8))) λx1=>
 cond x1 (
  some (([],2))) (
  aa (cQ N a0) λr2=>
  aa (iU N a2 a1 N r2 0) λo=>rH o (λp3=>
   some ((p3,0))) (λr=>some r))
theorem nQ{N a0 a1 a2 r}(h:eG N a0 a1 a2=some r):FnM Tryz.prog 16 [] [(eL 1 k8 a0),(j64 a1),(eL 1 k64 a2)] (.tup [(eO 0 1 k8 r.1),(j64 r.2)]) [.tail (r.1.length*1)]:=by
 unfold eG at h;refine At.f dQ hT hmo Tryz.func16 rfl h ?_;refine lx ?_;intro x1;refine At.c 8 ?_ ?_
 ·refine At.ownn 2 6 1 ?_;apply rt;exact At.r 0
 ·refine At.b 1 (λ_ e=>aM [] (kV e)) λr2=>?_;refine At.LS 4 [] 1 (λp3=>([(8,(eO 0 1 k8 p3))],[(0,.tail (p3.length*1))],[])) (λop3 J k=>∃s4 s5,iU N a2 a1 k s4 s5=some op3/\J [1,20,21] 1 [(8,(eO 0 1 k8 s4)),(22,(j64 s5))] [(0,.tail (s4.length*1))] []) N (λ_ h=>⟨_,_,h,jr⟩) (λop3 g3 k s hI=>?_) λp3=>?_
  ·obtain⟨s4,s5,h,hj⟩:=hI;cases k with
   | zero=>cases h
   | succ k=>
    refine At.jr hj ?_ h;refine lx ?_;intro x6;refine At.c 1 ?_ ?_
    ·refine At.b 0 (λ_ e=>dW hT k64 e) λe7=>?_;refine At.J 2 0 [1,8,10,20,21,22] 1 (λp8=>([(34,(eB p8))],[],[])) (λp8=>?_) λp8=>?_
     ·refine At.s 28 3 ?_ ?_
      ·refine At.g [28] 3 ?_;refine At.b 0 (λ_ e=>pZ hT (k' := .i64) e (by kernel_rfl) (by kernel_rfl)) λx9=>?_;refine At.g [28] 2 ?_;apply rt;exact At.jn 0
      ·refine At.g [28] 6 ?_;apply rt;exact At.jn 0
     ·refine At.c 0 ?_ ?_
      ·refine At.ownn 2 6 1 ?_;refine At.sw 0 1 0 ?_;intro e;apply zV g3 e;exact At.r 0
      ·refine At.L 2 [1,20,21,22] 1 (λp10=>([(8,(eO 0 1 k8 p10))],[(0,.tail (p10.length*1))],[])) (λp10 J k=>∃s11 s12,fY N a1 e7 k s11 s12=some p10/\J [1,10,20,21,22,35] 1 [(8,(eO 0 1 k8 s11)),(36,(j64 s12))] [(0,.tail (s11.length*1))] []) N (λ_ h=>⟨_,_,h,jr⟩) (λp10 k s hI=>?_) λp10=>?_
       ·obtain⟨s11,s12,h,hj⟩:=hI;cases k with
        | zero=>cases h
        | succ k=>
         refine At.jr hj ?_ h;refine At.c 1 ?_ ?_
         ·refine At.b 6 (λ_ e=>pZ hT (k' := .i64) e (by kernel_rfl) (by kernel_rfl)) λx13=>?_;refine At.o 1 (bV hT (x:=(.sl 1 1 [(k8 (U8 x13))]))) ?_;refine At.b 0 (λ_ e=>iH hT k8 (id:=0) (k:=1) e) λz14=>?_;exact λh=>At.k 3 ⟨_,_,h,jr⟩
         ·apply rt;exact At.x 0
       ·exact λh=>At.k 2 ⟨_,_,h,jr⟩
    ·apply rt;exact At.xs 0
  ·apply rt;exact At.r 3
def bY(N:Nat)(b1 b2:(List Int))(a2 a3:Int):Option (Int):=
 aa (bS (cond (a3==0) (a2 != 0) false) λx2=>
 cond x2 (some 2) (some a3)) λp1=>
 some p1
theorem eQ{N b1 b2 a2 a3 r}(h:bY N b1 b2 a2 a3=some r):FnM Tryz.prog 24 [.var (.st 2 [(eO 2 1 k8 b2),(j64 a3)]),.tail (b1.length*1),.tail (b2.length*1)] [(.ref 0 [] 0),(eO 1 1 k8 b1),(j64 a2)] (.tup []) [.var (.st 2 [(eO 1 1 k8 b1),(j64 r)]),.tail (b1.length*1),.dead]:=by
 unfold bY at h;refine At.f dQ hT hmo Tryz.func24 rfl h ?_;refine At.mv 0 2 ?_;refine At.J 0 1 [0,1] 4 (λp1=>([],[(0,.var (.st 2 [(eO 3 1 k8 b2),(j64 p1)]))],[])) (λp1=>?_) λp1=>?_
 ·refine lx ?_;intro x2;refine At.c 9 ?_ ?_
  ·apply rt;exact At.jn 4
  ·apply rt;exact At.jn 0
 ·apply rt;exact At.z 5
def cH(N:Nat)(a2:(List Int))(a1:Int):Nat->(List Int)->Int->Int->Option (Sum ((List Int)×Int) ((List Int)×Int))
 | 0,_,_,_=>none
 | k+1,s2,s3,s4=>
  bS (decide (s4 < ((a2.length:Int)))) λx5=>
  cond x5 (
   aa (idx a2 s4) λe6=>
   cond (decide (e6 < 0)) (
    aa (dK N s2 2 s3) λr7=>
    some (Sum.inr (([],r7)))) (
    aa (eG N s2 a1 ([U64 e6])) λr8=>
    aa (bY N r8.1 s2 r8.2 s3) λr9=>
    cH N a2 a1 k r8.1 r9 (I64 (s4+1)))) (
   some (Sum.inl ((s2,s3))))
def aG(N:Nat)(b1:(List Int))(a1:Int)(a2:(List Int))(a3:Int):Option ((List Int)×Int):=
 aa (cH N a2 a1 N b1 a3 0) λo=>rH o (λp1=>
  some ((p1.1,p1.2))) (λr=>some r)
theorem aT{N b1 a1 a2 a3 r}(h:aG N b1 a1 a2 a3=some r):FnM Tryz.prog 23 [.var (.st 2 [(eO 1 1 k8 b1),(j64 a3)]),.tail (b1.length*1)] [(.ref 0 [] 0),(j64 a1),(eL 1 j64 a2)] (.tup []) [.var (.st 2 [(eO 2 1 k8 r.1),(j64 r.2)]),.dead,.tail (r.1.length*1)]:=by
 unfold aG at h;refine At.fC dQ hT hmo Tryz.func23 rfl h ?_;refine At.mv 0 1 ?_;refine At.LS 3 [] 3 (λp1=>([],[(0,.var (.st 2 [(eO 2 1 k8 p1.1),(j64 p1.2)])),(2,.tail (p1.1.length*1))],[])) (λop1 J k=>∃s2 s3 s4,cH N a2 a1 k s2 s3 s4=some op1/\J [0,1,8,9] 3 [(10,(j64 s4))] [(0,.var (.st 2 [(eO 2 1 k8 s2),(j64 s3)])),(2,.tail (s2.length*1))] []) N (λ_ h=>⟨_,_,_,h,jr⟩) (λop1 g1 k s hI=>?_) λp1=>?_
 ·obtain⟨s2,s3,s4,h,hj⟩:=hI;cases k with
  | zero=>cases h
  | succ k=>
   refine At.jr hj ?_ h;refine lx ?_;intro x5;refine At.c 1 ?_ ?_
   ·refine At.b 0 (λ_ e=>dW hT j64 e) λe6=>?_;refine At.c 4 ?_ ?_
    ·refine At.b 1 (λ_ e=>aM [0,2] (kW e)) λr7=>?_;intro e;apply zV g1 e;exact At.rC 0 [(4,2)]
    ·refine At.o 8 (bV hT (x:=(.sl 1 1 [(k64 (U64 e6))]))) ?_;refine At.b 0 (λ_ e=>aM [] (nQ e)) λr8=>?_;refine At.b 2 (λ_ e=>aM [0,3,2] (eQ e)) λr9=>?_;exact λh=>At.k 2 ⟨_,_,_,h,(aBd 3 2 (by kernel_rfl) jr)⟩
   ·apply rt;exact At.xs 0
 ·apply rt;exact At.zC 0 []
def fE(N:Nat)(a2:(List Int))(a1:Int):Nat->(List Int)->Int->Option (Sum ((List Int)) ((List Int)×Int))
 | 0,_,_=>none
 | k+1,s3,s4=>
  bS (decide (s4 < ((a2.length:Int)))) λx5=>
  cond x5 (
   aa (idx a2 s4) λe6=>
   bS (I64 (64 - (I64 (8*a1)))) λx7=>
   aa (aBU .i64 e6 x7) λx8=>
   bS (I64 (64 - (I64 (8*a1)))) λx9=>
   aa (yC .i64 x8 x9) λx10=>
   cond (x10 != e6) (
    some (Sum.inr (([],3)))) (
    bS (I64 (64 - (I64 (8*a1)))) λx11=>
    aa (aBU .u64 (U64 e6) x11) λx12=>
    bS (I64 (64 - (I64 (8*a1)))) λx13=>
    aa (yC .u64 x12 x13) λx14=>
    aa (nR 8 s3 (([x14]:List Int))) λz15=>
    fE N a2 a1 k z15 (I64 (s4+1)))) (
   some (Sum.inl s3))
def cN(N:Nat)(a0:(List Int))(a1:Int)(a2:(List Int)):Option ((List Int)×Int):=
 bS (cond (decide (a1 < 1)) true (decide (a1 > 8))) λx1=>
 cond x1 (
  some (([],2))) (
  aa (fE N a2 a1 N [] 0) λo=>rH o (λp2=>
   aa (eG N a0 a1 p2) λr16=>
   some ((r16.1,r16.2))) (λr=>some r))
theorem lI{N a0 a1 a2 r}(h:cN N a0 a1 a2=some r):FnM Tryz.prog 15 [] [(eL 1 k8 a0),(j64 a1),(eL 1 j64 a2)] (.tup [(eO 0 1 k8 r.1),(j64 r.2)]) [.tail (r.1.length*1)]:=by
 unfold cN at h;refine At.f dQ hT hmo Tryz.func15 rfl h ?_;refine lx ?_;intro x1;refine At.c 8 ?_ ?_
 ·refine At.ownn 2 6 1 ?_;apply rt;exact At.r 0
 ·refine At.ownn 4 8 1 ?_;refine At.LS 0 [0,1] 1 (λp2=>([(8,(eO 0 1 k64 p2))],[(0,.tail (p2.length*1))],[])) (λop2 J k=>∃s3 s4,fE N a2 a1 k s3 s4=some op2/\J [0,1,18,19] 1 [(8,(eO 0 1 k64 s3)),(20,(j64 s4))] [(0,.tail (s3.length*1))] []) N (λ_ h=>⟨_,_,h,jr⟩) (λop2 g2 k s hI=>?_) λp2=>?_
  ·obtain⟨s3,s4,h,hj⟩:=hI;cases k with
   | zero=>cases h
   | succ k=>
    refine At.jr hj ?_ h;refine lx ?_;intro x5;refine At.c 1 ?_ ?_
    ·refine At.b 0 (λ_ e=>dW hT j64 e) λe6=>?_;refine lx ?_;intro x7;refine At.b 6 (λ_ e=>uA hT (k' := .i64) e (by kernel_rfl) (by kernel_rfl)) λx8=>?_;refine lx ?_;intro x9;refine At.b 3 (λ_ e=>pZ hT (k' := .i64) e (by kernel_rfl) (by kernel_rfl)) λx10=>?_;refine At.c 4 ?_ ?_
     ·refine At.ownn 2 6 1 ?_;refine At.sw 0 1 0 ?_;intro e;apply zV g2 e;exact At.r 0
     ·refine lx ?_;intro x11;refine At.b 6 (λ_ e=>uA hT (k' := .i64) e (by kernel_rfl) (by kernel_rfl)) λx12=>?_;refine lx ?_;intro x13;refine At.b 3 (λ_ e=>pZ hT (k' := .i64) e (by kernel_rfl) (by kernel_rfl)) λx14=>?_;refine At.o 0 (bV hT (x:=(.sl 1 1 [(k64 x14)]))) ?_;refine At.b 0 (λ_ e=>iH hT k64 (id:=0) (k:=1) e) λz15=>?_;exact λh=>At.k 3 ⟨_,_,h,jr⟩
    ·apply rt;exact At.xs 0
  ·refine At.b 3 (λ_ e=>aM [] (nQ e)) λr16=>?_;refine At.sw 4 1 0 ?_;apply rt;exact At.r 0
def cD(N:Nat)(a1:(List aF)):Nat->(List Int)->Int->Int->Option ((List Int)×Int)
 | 0,_,_,_=>none
 | k+1,s2,s3,s4=>
  bS (decide (s4 < ((a1.length:Int)))) λx5=>
  cond x5 (
   aa (idx a1 s4) λe6=>
   aa (cN N s2 4 ([e6.gX,e6.gY,e6.gZ])) λr7=>
   aa (bY N r7.1 s2 r7.2 s3) λr8=>
   cD N a1 k r7.1 r8 (I64 (s4+1))) (
   some ((s2,s3)))
def eR(N:Nat)(b1:(List Int))(a1:(List aF))(a2:Int):Option ((List Int)×Int):=
 aa (cD N a1 N b1 a2 0) λp1=>
 some ((p1.1,p1.2))
theorem oB{N b1 a1 a2 r}(h:eR N b1 a1 a2=some r):FnM Tryz.prog 41 [.var (.st 2 [(eO 1 1 k8 b1),(j64 a2)]),.tail (b1.length*1)] [(.ref 0 [] 0),(eL 3 aF.enc a1)] (.tup []) [.var (.st 2 [(eO 2 1 k8 r.1),(j64 r.2)]),.dead,.tail (r.1.length*1)]:=by
 unfold eR at h;refine At.f dQ hT hmo Tryz.func41 rfl h ?_;refine At.mv 0 1 ?_;refine At.L 3 [] 3 (λp1=>([],[(0,.var (.st 2 [(eO 2 1 k8 p1.1),(j64 p1.2)])),(2,.tail (p1.1.length*1))],[])) (λp1 J k=>∃s2 s3 s4,cD N a1 k s2 s3 s4=some p1/\J [0,6,7] 3 [(8,(j64 s4))] [(0,.var (.st 2 [(eO 2 1 k8 s2),(j64 s3)])),(2,.tail (s2.length*1))] []) N (λ_ h=>⟨_,_,_,h,jr⟩) (λp1 k s hI=>?_) λp1=>?_
 ·obtain⟨s2,s3,s4,h,hj⟩:=hI;cases k with
  | zero=>cases h
  | succ k=>
   refine At.jr hj ?_ h;refine lx ?_;intro x5;refine At.c 1 ?_ ?_
   ·refine At.b 0 (λ_ e=>dW hT aF.enc e) λe6=>?_;refine bi λr7 hr7=>?_;refine bi λr8 hr8=>?_;refine At.d 3 (dE1 11 (λ_=>bV hT (x:=(.sl 1 3 [(j64 e6.gX),(j64 e6.gY),(j64 e6.gZ)]))) dE0) (dF 12 (.tup [(eO 4 1 k8 r7.1),(j64 r7.2)]) [] [.tail (r7.1.length*1)] (bK (aM [] (lI hr7))) (dF 15 (.tup []) [(0,.var (.st 2 [(eO 4 1 k8 r7.1),(j64 r8)])),(2,.dead)] [] (bK (aM [0,4,2] (eQ hr8))) dF0)) ?_;exact λh=>At.k 2 ⟨_,_,_,h,(aBd 4 2 (by kernel_rfl) jr)⟩
   ·apply rt;exact At.x 0
 ·apply rt;exact At.z 0
def pU : Nat->Bool:=imL [3]
def dU(N:Nat)(b1:(List Int))(a1:aB)(a2:Int):Option ((List Int)×Int):=
 aa (cond a1.gA9 (some 1) (some 0)) λp1=>
 aa (aG N b1 1 ([a1.gW,a1.gH,a1.gA6,a1.gA7,a1.gA8,p1]) a2) λr2=>
 aa (eG N r2.1 8 ([a1.gS])) λr3=>
 aa (bY N r3.1 r2.1 r3.2 r2.2) λr4=>
 aa (eR N r3.1 ([a1.gE.gB2,a1.gE.gB3,a1.gE.gUp,a1.gE.gB4]) r4) λr5=>
 aa (aG N r5.1 4 ([a1.gE.gA4,a1.gE.gA5]) r5.2) λr6=>
 some ((r6.1,r6.2))
theorem pK{N b1 a1 a2 r}(h:dU N b1 a1 a2=some r):FnM Tryz.prog 25 [.var (.st 2 [(eO 1 1 k8 b1),(j64 a2)]),.tail (b1.length*1)] [(.ref 0 [] 0),(aB.enc a1)] (.tup []) [.var (.st 2 [(eO 5 1 k8 r.1),(j64 r.2)]),.dead,.dead,.dead,.dead,.tail (r.1.length*1)]:=by
 unfold dU at h;refine At.f pU hT hmo Tryz.func25 rfl h ?_;refine At.J 2 1 [0,3] 2 (λp1=>([(4,(j64 p1))],[],[])) (λp1=>?_) λp1=>?_
 ·refine At.c 2 ?_ ?_
  ·apply rt;exact At.jn 1
  ·apply rt;exact At.jn 0
 ·refine At.o 12 (bV hT (x:=(.sl 1 6 [(j64 a1.gW),(j64 a1.gH),(j64 a1.gA6),(j64 a1.gA7),(j64 a1.gA8),(j64 p1)]))) ?_;refine At.b 0 (λ_ e=>aM [0,1] (aT e)) λr2=>?_;refine bi λr3 hr3=>?_;refine bi λr4 hr4=>?_;refine At.d 0 (dE1 7 (λ_=>bV hT (x:=(.sl 1 1 [(k64 a1.gS)]))) dE0) (dF 8 (.tup [(eO 3 1 k8 r3.1),(j64 r3.2)]) [] [.tail (r3.1.length*1)] (bK (aM [] (nQ hr3))) (dF 11 (.tup []) [(0,.var (.st 2 [(eO 3 1 k8 r3.1),(j64 r4)])),(2,.dead)] [] (bK (aM [0,3,2] (eQ hr4))) dF0)) ?_;refine At.o 13 (bV hT (x:=(.sl 3 4 [(aF.enc a1.gE.gB2),(aF.enc a1.gE.gB3),(aF.enc a1.gE.gUp),(aF.enc a1.gE.gB4)]))) ?_;refine At.b 0 (λ_ e=>aM [0,3] (oB e)) λr5=>?_;refine At.o 7 (bV hT (x:=(.sl 1 2 [(j64 a1.gE.gA4),(j64 a1.gE.gA5)]))) ?_;refine At.b 0 (λ_ e=>aM [0,4] (aT e)) λr6=>?_;apply rt;exact At.z 0
def rF : Nat->Bool:=imL [3]
def cO(N:Nat)(z10:(List Int)):Nat->(List Int)->Int->Int->Option ((List Int)×Int)
 | 0,_,_,_=>none
 | k+1,s12,s13,s14=>
  bS (decide (s14 < ((z10.length:Int)))) λx15=>
  cond x15 (
   aa (idx z10 s14) λe16=>
   aa (cN N s12 8 ([e16])) λr17=>
   aa (bY N r17.1 s12 r17.2 s13) λr18=>
   cO N z10 k r17.1 r18 (I64 (s14+1))) (
   some ((s12,s13)))
def aN(N:Nat)(b1:(List Int))(a1:aL)(a2:Int):Option ((List Int)×Int):=
 aa (aG N b1 1 ([a1.gC]) a2) λr1=>
 cond (a1.gC==1) (
  aa (aG N r1.1 4 ([a1.gK]) r1.2) λr2=>
  bS ((a1.gA1.length:Int)) λx3=>
  aa (aG N r2.1 2 ([x3]) r2.2) λr4=>
  aa (nR 1 r4.1 a1.gA1) λz5=>
  some ((z5,r4.2))) (
  cond (a1.gC==2) (
   aa (aG N r1.1 4 ([a1.gK]) r1.2) λr6=>
   some ((r6.1,r6.2))) (
   aa (cond (a1.gC==3) (some (a1.gC==3)) (some (a1.gC==4))) λp7=>
   cond p7 (
    aa (aG N r1.1 4 ([a1.gD.gL,a1.gD.gQ,a1.gD.gR,a1.gD.gN]) r1.2) λr8=>
    cond (a1.gC==4) (
     some ((r8.1,r8.2))) (
     aa (nR 8 a1.gD.gT.gM.toList (([a1.gD.gT.gT.gX,a1.gD.gT.gT.gY,a1.gD.gT.gT.gZ]:List Int))) λz10=>
     aa (cO N z10 N r8.1 r8.2 0) λp11=>
     some ((p11.1,p11.2)))) (
    cond (a1.gC==5) (
     aa (aG N r1.1 1 ([a1.gF]) r1.2) λr19=>
     aa (dU N r19.1 a1.gB6 r19.2) λr20=>
     aa (aG N r20.1 2 ([a1.gB0]) r20.2) λr21=>
     some ((r21.1,r21.2))) (
     aa (cond (a1.gC==6) (some (a1.gC==6)) (some (a1.gC==9))) λp22=>
     cond p22 (
      aa (aG N r1.1 1 ([a1.gF]) r1.2) λr23=>
      some ((r23.1,r23.2))) (
      cond (a1.gC==7) (
       aa (aG N r1.1 1 ([a1.gF,a1.gI]) r1.2) λr24=>
       aa (aG N r24.1 4 ([I64 a1.gA0,a1.gB1]) r24.2) λr25=>
       some ((r25.1,r25.2))) (
       cond (a1.gC==8) (
        aa (aG N r1.1 1 ([a1.gF,a1.gI]) r1.2) λr26=>
        some ((r26.1,r26.2))) (
        cond (a1.gC==10) (
         aa (aG N r1.1 4 ([a1.gA2]) r1.2) λr27=>
         some ((r27.1,r27.2))) (
         aa (dK N r1.1 2 r1.2) λr28=>
         some (([],r28))))))))))
theorem qD{N b1 a1 a2 r}(h:aN N b1 a1 a2=some r):FnM Tryz.prog 13 [.var (.st 2 [(eO 1 1 k8 b1),(j64 a2)]),.tail (b1.length*1)] [(.ref 0 [] 0),(aL.enc a1)] (.tup []) [.var (.st 2 [(eO 4 1 k8 r.1),(j64 r.2)]),.dead,.dead,.dead,.tail (r.1.length*1)]:=by
 unfold aN at h;refine At.fC rF hT hmo Tryz.func13 rfl h ?_;refine At.o 4 (bV hT (x:=(.sl 1 1 [(j64 a1.gC)]))) ?_;refine At.b 0 (λ_ e=>aM [0,1] (aT e)) λr1=>?_;refine At.c 8 ?_ ?_
 ·refine At.o 3 (bV hT (x:=(.sl 1 1 [(j64 a1.gK)]))) ?_;refine At.b 0 (λ_ e=>aM [0,2] (aT e)) λr2=>?_;refine lx ?_;intro x3;refine At.o 4 (bV hT (x:=(.sl 1 1 [(j64 x3)]))) ?_;refine At.b 0 (λ_ e=>aM [0,4] (aT e)) λr4=>?_;refine bi λz5 hz5=>?_;refine At.d 0 dE0 (dF 7 (eO 5 1 k8 z5) [(5,.tail (z5.length*1))] [] (bK (iH hT k8 (id:=5) (k:=1) hz5)) dF0) ?_;apply rt;exact At.zC 0 [(5,4)]
 ·refine At.c 2 ?_ ?_
  ·refine At.o 3 (bV hT (x:=(.sl 1 1 [(j64 a1.gK)]))) ?_;refine At.b 0 (λ_ e=>aM [0,2] (aT e)) λr6=>?_;apply rt;exact At.zC 0 []
  ·refine At.J 0 1 [0,3,4,15] 4 (λp7=>([(48,(eB p7))],[],[])) (λp7=>?_) λp7=>?_
   ·refine At.c 2 ?_ ?_
    ·apply rt;exact At.jn 0
    ·apply rt;exact At.jn 2
   ·refine At.c 0 ?_ ?_
    ·refine At.o 9 (bV hT (x:=(.sl 1 4 [(j64 a1.gD.gL),(j64 a1.gD.gQ),(j64 a1.gD.gR),(j64 a1.gD.gN)]))) ?_;refine At.b 0 (λ_ e=>aM [0,2] (aT e)) λr8=>?_;refine At.c 3 ?_ ?_
     ·apply rt;exact At.rC 0 []
     ·refine At.dr 0 [0,4,64] 5 ?_;refine At.gz 0 3 ((bI.enc a1.gD)) ?_;refine bi λz10 hz10=>?_;refine At.d 0 (dE1 15 (λ_=>bV hT (x:=(.sl 1 3 [(j64 a1.gD.gT.gT.gX),(j64 a1.gD.gT.gT.gY),(j64 a1.gD.gT.gT.gZ)]))) dE0) (dF 2 (eO 5 1 j64 a1.gD.gT.gM.toList) [] [.tail (a1.gD.gT.gM.toList.length*1)] (bK (aF9 hT (N:=9) (k:=1) j64 a1.gD.gT.gM (by kernel_rfl) (by kernel_rfl))) (dF 16 (eO 5 1 j64 z10) [(5,.tail (z10.length*1))] [] (bK (iH hT j64 (id:=5) (k:=1) hz10)) dF0)) ?_;refine At.L 0 [] 6 (λp11=>([],[(0,.var (.st 2 [(eO 4 1 k8 p11.1),(j64 p11.2)])),(4,.tail (p11.1.length*1))],[])) (λp11 J k=>∃s12 s13 s14,cO N z10 k s12 s13 s14=some p11/\J [0,81,82] 6 [(83,(j64 s14))] [(0,.var (.st 2 [(eO 4 1 k8 s12),(j64 s13)])),(4,.tail (s12.length*1))] []) N (λ_ h=>⟨_,_,_,h,jr⟩) (λp11 k s hI=>?_) λp11=>?_
      ·obtain⟨s12,s13,s14,h,hj⟩:=hI;cases k with
       | zero=>cases h
       | succ k=>
        refine At.jr hj ?_ h;refine lx ?_;intro x15;refine At.c 1 ?_ ?_
        ·refine At.b 0 (λ_ e=>dW hT j64 e) λe16=>?_;refine At.o 8 (bV hT (x:=(.sl 1 1 [(j64 e16)]))) ?_;refine At.b 0 (λ_ e=>aM [] (lI e)) λr17=>?_;refine At.b 2 (λ_ e=>aM [0,6,4] (eQ e)) λr18=>?_;exact λh=>At.k 2 ⟨_,_,_,h,(aBd 6 4 (by kernel_rfl) jr)⟩
        ·apply rt;exact At.x 0
      ·apply rt;exact At.zC 0 []
    ·refine At.c 2 ?_ ?_
     ·refine At.o 3 (bV hT (x:=(.sl 1 1 [(j64 a1.gF)]))) ?_;refine At.b 0 (λ_ e=>aM [0,2] (aT e)) λr19=>?_;refine At.b 3 (λ_ e=>aM [0,4] (pK e)) λr20=>?_;refine At.o 3 (bV hT (x:=(.sl 1 1 [(j64 a1.gB0)]))) ?_;refine At.b 0 (λ_ e=>aM [0,8] (aT e)) λr21=>?_;apply rt;exact At.zC 0 [(9,4)]
     ·refine At.J 0 1 [0,3,15] 4 (λp22=>([(115,(eB p22))],[],[])) (λp22=>?_) λp22=>?_
      ·refine At.c 2 ?_ ?_
       ·apply rt;exact At.jn 0
       ·apply rt;exact At.jn 2
      ·refine At.c 0 ?_ ?_
       ·refine At.o 3 (bV hT (x:=(.sl 1 1 [(j64 a1.gF)]))) ?_;refine At.b 0 (λ_ e=>aM [0,2] (aT e)) λr23=>?_;apply rt;exact At.zC 0 []
       ·refine At.c 2 ?_ ?_
        ·refine At.o 5 (bV hT (x:=(.sl 1 2 [(j64 a1.gF),(j64 a1.gI)]))) ?_;refine At.b 0 (λ_ e=>aM [0,2] (aT e)) λr24=>?_;refine At.o 6 (bV hT (x:=(.sl 1 2 [(j64 (I64 a1.gA0)),(j64 a1.gB1)]))) ?_;refine At.b 0 (λ_ e=>aM [0,4] (aT e)) λr25=>?_;apply rt;exact At.zC 0 [(5,4)]
        ·refine At.c 2 ?_ ?_
         ·refine At.o 5 (bV hT (x:=(.sl 1 2 [(j64 a1.gF),(j64 a1.gI)]))) ?_;refine At.b 0 (λ_ e=>aM [0,2] (aT e)) λr26=>?_;apply rt;exact At.zC 0 []
         ·refine At.c 2 ?_ ?_
          ·refine At.o 3 (bV hT (x:=(.sl 1 1 [(j64 a1.gA2)]))) ?_;refine At.b 0 (λ_ e=>aM [0,2] (aT e)) λr27=>?_;apply rt;exact At.zC 0 []
          ·refine At.b 1 (λ_ e=>aM [0,2] (kW e)) λr28=>?_;apply rt;exact At.zC 0 [(5,4)]
def cV(N:Nat)(a0:(List aL)):Nat->(List Int)->Int->Option (Sum ((List Int)) ((List Int)×Int))
 | 0,_,_=>none
 | k+1,s3,s4=>
  bS (decide (s4 < ((a0.length:Int)))) λx5=>
  cond x5 (
   aa (idx a0 s4) λe6=>
   aa (aN N [] e6 0) λr7=>
   cond (r7.2 != 0) (
    some (Sum.inr (([],r7.2)))) (
    aa (nR 1 s3 r7.1) λz8=>
    cV N a0 k z8 (I64 (s4+1)))) (
   some (Sum.inl s3))
def jK(N:Nat)(a0:(List aL)):Option ((List Int)×Int):=
 bS (decide (((a0.length:Int)) > 256)) λx1=>
 cond x1 (
  some (([],3))) (
  aa (cV N a0 N [] 0) λo=>rH o (λp2=>
   bS (decide (((p2.length:Int)) > 65536)) λx9=>
   cond x9 (some (([],3))) (some ((p2,0)))) (λr=>some r))
theorem vB{N a0 r}(h:jK N a0=some r):FnM Tryz.prog 5 [] [(eL 46 aL.enc a0)] (.tup [(eL 1 k8 r.1),(j64 r.2)]) []:=by
 unfold jK at h;refine At.f dQ hT hmo Tryz.func5 rfl h ?_;refine lx ?_;intro x1;refine At.c 5 ?_ ?_
 ·apply rt;exact At.r 2
 ·refine At.ownn 4 4 1 ?_;refine At.LS 0 [] 1 (λp2=>([(4,(eO 0 1 k8 p2))],[(0,.tail (p2.length*1))],[])) (λop2 J k=>∃s3 s4,cV N a0 k s3 s4=some op2/\J [11,12] 1 [(4,(eO 0 1 k8 s3)),(13,(j64 s4))] [(0,.tail (s3.length*1))] []) N (λ_ h=>⟨_,_,h,jr⟩) (λop2 g2 k s hI=>?_) λp2=>?_
  ·obtain⟨s3,s4,h,hj⟩:=hI;cases k with
   | zero=>cases h
   | succ k=>
    refine At.jr hj ?_ h;refine lx ?_;intro x5;refine At.c 1 ?_ ?_
    ·refine At.b 0 (λ_ e=>dW hT aL.enc e) λe6=>?_;refine At.ownb 8 2 1 [0] ?_;refine At.b 0 (λ_ e=>aM [2,3] (qD e)) λr7=>?_;refine At.c 5 ?_ ?_
     ·refine At.d 0 dE0 dF0 ?_;intro e;apply zV g2 e;exact At.r 0
     ·refine At.b 5 (λ_ e=>iH hT k8 (id:=0) (k:=1) e) λz8=>?_;exact λh=>At.k 3 ⟨_,_,h,jr⟩
    ·apply rt;exact At.xs 0
  ·refine lx ?_;intro x9;refine At.c 3 ?_ ?_
   ·apply rt;exact At.r 2
   ·apply rt;exact At.r 3
def fB(N:Nat)(a0:Int):Nat->Int->Int->Option (Int)
 | 0,_,_=>none
 | k+1,s2,s3=>
  cond (decide (s3 < a0)) (
   bS (U64 ((U64 (s2*256))+255)) λx4=>
   fB N a0 k x4 (I64 (s3+1))) (
   some s2)
def dC(N:Nat)(a0:Int):Option (Int):=
 aa (fB N a0 N 0 0) λp1=>
 some p1
theorem lK{N a0 r}(h:dC N a0=some r):FnM Tryz.prog 30 [] [(j64 a0)] (k64 r) []:=by
 unfold dC at h;refine At.f dQ hT hmo Tryz.func30 rfl h ?_;refine At.L 3 [] 0 (λp1=>([(3,(k64 p1))],[],[])) (λp1 J k=>∃s2 s3,fB N a0 k s2 s3=some p1/\J [0] 0 [(3,(k64 s2)),(4,(j64 s3))] [] []) N (λ_ h=>⟨_,_,h,jr⟩) (λp1 k s hI=>?_) λp1=>?_
 ·obtain⟨s2,s3,h,hj⟩:=hI;cases k with
  | zero=>cases h
  | succ k=>
   refine At.jr hj ?_ h;refine At.c 3 ?_ ?_
   ·refine lx ?_;intro x4;exact λh=>At.k 7 ⟨_,_,h,jr⟩
   ·apply rt;exact At.x 0
 ·apply rt;exact At.r 2
def fJ(N:Nat)(a1:Int):Nat->(List Int)->Int->Int->Option ((List Int))
 | 0,_,_,_=>none
 | k+1,s11,s12,s13=>
  cond (decide (s13 < a1)) (
   aa (nR 1 s11 (([U8 (cy s12 256)]:List Int))) λz14=>
   fJ N a1 k z14 (U64 (Int.tdiv s12 256)) (I64 (s13+1))) (
   some s11)
def eD(N:Nat)(a2:(List Int))(a1:Int):Nat->(List Int)->Int->Option (Sum ((List Int)) ((List Int)×Int))
 | 0,_,_=>none
 | k+1,s4,s5=>
  bS (decide (s5 < ((a2.length:Int)))) λx6=>
  cond x6 (
   aa (idx a2 s5) λe7=>
   aa (dC N a1) λr8=>
   cond (decide (e7 > r8)) (
    some (Sum.inr (([],3)))) (
    aa (idx a2 s5) λe9=>
    aa (fJ N a1 N s4 e9 0) λp10=>
    eD N a2 a1 k p10 (I64 (s5+1)))) (
   some (Sum.inl s4))
def cK(N:Nat)(a0:(List Int))(a1:Int)(a2:(List Int)):Option ((List Int)×Int):=
 bS (cond (decide (a1 < 1)) true (decide (a1 > 8))) λx1=>
 cond x1 (
  some (([],2))) (
  aa (nR 1 (([]:List Int)) a0) λz2=>
  aa (eD N a2 a1 N z2 0) λo=>rH o (λp3=>
   some ((p3,0))) (λr=>some r))
theorem jY{N a0 a1 a2 r}(h:cK N a0 a1 a2=some r):FnM Tryz.prog 18 [] [(eL 1 k8 a0),(j64 a1),(eL 1 k64 a2)] (.tup [(eO 0 1 k8 r.1),(j64 r.2)]) [.tail (r.1.length*1)]:=by
 unfold cK at h;refine At.f dQ hT hmo Tryz.func18 rfl h ?_;refine lx ?_;intro x1;refine At.c 8 ?_ ?_
 ·refine At.ownn 2 6 1 ?_;apply rt;exact At.r 0
 ·refine At.o 0 (xQ hT k8 (k:=1) ([]:List Int) (by kernel_rfl) (by kernel_rfl)) ?_;refine At.b 1 (λ_ e=>iH hT k8 (id:=0) (k:=1) e) λz2=>?_;refine At.LS 2 [] 1 (λp3=>([(8,(eO 0 1 k8 p3))],[(0,.tail (p3.length*1))],[])) (λop3 J k=>∃s4 s5,eD N a2 a1 k s4 s5=some op3/\J [1,2] 1 [(8,(eO 0 1 k8 s4)),(9,(j64 s5))] [(0,.tail (s4.length*1))] []) N (λ_ h=>⟨_,_,h,jr⟩) (λop3 g3 k s hI=>?_) λp3=>?_
  ·obtain⟨s4,s5,h,hj⟩:=hI;cases k with
   | zero=>cases h
   | succ k=>
    refine At.jr hj ?_ h;refine lx ?_;intro x6;refine At.c 4 ?_ ?_
    ·refine bi λe7 he7=>?_;refine bi λr8 hr8=>?_;refine At.d 0 (dE1 2 (λ_=>dW hT k64 he7) (dE2 5 (k64 r8) (λ_=>eZ (lK hr8)) dE0)) dF0 ?_;refine At.c 0 ?_ ?_
     ·refine At.ownn 2 6 1 ?_;refine At.sw 0 1 0 ?_;intro e;apply zV g3 e;exact At.r 0
     ·refine At.b 2 (λ_ e=>dW hT k64 e) λe9=>?_;refine At.L 3 [1,2,9] 1 (λp10=>([(8,(eO 0 1 k8 p10))],[(0,.tail (p10.length*1))],[])) (λp10 J k=>∃s11 s12 s13,fJ N a1 k s11 s12 s13=some p10/\J [1,2,9] 1 [(8,(eO 0 1 k8 s11)),(10,(k64 s12)),(11,(j64 s13))] [(0,.tail (s11.length*1))] []) N (λ_ h=>⟨_,_,_,h,jr⟩) (λp10 k s hI=>?_) λp10=>?_
      ·obtain⟨s11,s12,s13,h,hj⟩:=hI;cases k with
       | zero=>cases h
       | succ k=>
        refine At.jr hj ?_ h;refine At.c 3 ?_ ?_
        ·refine At.o 4 (bV hT (x:=(.sl 1 1 [(k8 (U8 (cy s12 256)))]))) ?_;refine At.b 0 (λ_ e=>iH hT k8 (id:=0) (k:=1) e) λz14=>?_;exact λh=>At.k 7 ⟨_,_,_,h,jr⟩
        ·apply rt;exact At.x 0
      ·exact λh=>At.k 3 ⟨_,_,h,jr⟩
    ·apply rt;exact At.xs 0
  ·apply rt;exact At.r 3
def aC(N:Nat)(b1:(List Int))(a1 a2:Int)(a3:Bool):Option ((List Int)×Bool):=
 aa (cK N b1 a1 ([U64 a2])) λr1=>
 bS (cond (decide (a2 < 0)) true (r1.2 != 0)) λx2=>
 cond x2 (some ((b1,true))) (some ((r1.1,a3)))
theorem aI{N b1 a1 a2 a3 r}(h:aC N b1 a1 a2 a3=some r):FnM Tryz.prog 26 [.var (.st 2 [(eO 1 1 k8 b1),(eB a3)]),.tail (b1.length*1)] [(.ref 0 [] 0),(j64 a1),(j64 a2)] (.tup []) [.var (.st 2 [(eO 2 1 k8 r.1),(eB r.2)]),.dead,.tail (r.1.length*1)]:=by
 unfold aC at h;refine At.fC dQ hT hmo Tryz.func26 rfl h ?_;refine At.mv 0 1 ?_;refine At.o 7 (bV hT (x:=(.sl 1 1 [(k64 (U64 a2))]))) ?_;refine At.b 0 (λ_ e=>aM [] (jY e)) λr1=>?_;refine lx ?_;intro x2;refine At.c 11 ?_ ?_
 ·apply rt;exact At.rC 4 []
 ·apply rt;exact At.zC 5 [(3,2)]
def cY(N:Nat)(a2:(List Int))(x3 a1:Int):Nat->(List Int)->Int->Option (Sum ((List Int)) ((List Int)×Int))
 | 0,_,_=>none
 | k+1,s5,s6=>
  bS (decide (s6 < ((a2.length:Int)))) λx7=>
  cond x7 (
   aa (aa (idx a2 s6) λe9=>
   cond (decide (e9 > x3)) (
    some true) (
    aa (idx a2 s6) λe10=>
    bS (I64 ((I64 (0 - x3)) - 1)) λx11=>
    some (decide (e10 < x11)))) λp8=>
   cond p8 (
    some (Sum.inr (([],3)))) (
    aa (idx a2 s6) λe12=>
    aa (aa (idx a2 s6) λe14=>
    cond (decide (e14 < 0)) (
     aa (dC N a1) λr15=>
     aa (idx a2 s6) λe16=>
     bS (I64 (0 - (I64 (e16+1)))) λx17=>
     some (U64 (r15 - (U64 x17)))) (
     some (U64 e12))) λp13=>
    aa (nR 8 s5 (([p13]:List Int))) λz18=>
    cY N a2 x3 a1 k z18 (I64 (s6+1)))) (
   some (Sum.inl s5))
def dA(N:Nat)(a0:(List Int))(a1:Int)(a2:(List Int)):Option ((List Int)×Int):=
 bS (cond (decide (a1 < 1)) true (decide (a1 > 8))) λx1=>
 cond x1 (
  some (([],2))) (
  aa (dC N a1) λr2=>
  bS (I64 (U64 (Int.tdiv r2 2))) λx3=>
  aa (cY N a2 x3 a1 N [] 0) λo=>rH o (λp4=>
   aa (cK N a0 a1 p4) λr19=>
   some ((r19.1,r19.2))) (λr=>some r))
theorem mW{N a0 a1 a2 r}(h:dA N a0 a1 a2=some r):FnM Tryz.prog 17 [] [(eL 1 k8 a0),(j64 a1),(eL 1 j64 a2)] (.tup [(eO 0 1 k8 r.1),(j64 r.2)]) [.tail (r.1.length*1)]:=by
 unfold dA at h;refine At.f dQ hT hmo Tryz.func17 rfl h ?_;refine lx ?_;intro x1;refine At.c 8 ?_ ?_
 ·refine At.ownn 2 6 1 ?_;apply rt;exact At.r 0
 ·refine At.b 1 (λ_ e=>aM [] (lK e)) λr2=>?_;refine lx ?_;intro x3;refine At.ownn 5 9 1 ?_;refine At.LS 0 [0,1] 1 (λp4=>([(9,(eO 0 1 k64 p4))],[(0,.tail (p4.length*1))],[])) (λop4 J k=>∃s5 s6,cY N a2 x3 a1 k s5 s6=some op4/\J [0,1,2,8] 1 [(9,(eO 0 1 k64 s5)),(10,(j64 s6))] [(0,.tail (s5.length*1))] []) N (λ_ h=>⟨_,_,h,jr⟩) (λop4 g4 k s hI=>?_) λp4=>?_
  ·obtain⟨s5,s6,h,hj⟩:=hI;cases k with
   | zero=>cases h
   | succ k=>
    refine At.jr hj ?_ h;refine lx ?_;intro x7;refine At.c 4 ?_ ?_
    ·refine At.J 0 0 [0,1,2,8,9,10] 1 (λp8=>([(43,(eB p8))],[],[])) (λp8=>?_) λp8=>?_
     ·refine At.b 2 (λ_ e=>dW hT j64 e) λe9=>?_;refine At.s 34 4 ?_ ?_
      ·refine At.g [34] 9 ?_;apply rt;exact At.jn 0
      ·refine At.g [34] 2 ?_;refine At.b 0 (λ_ e=>dW hT j64 e) λe10=>?_;refine lx ?_;intro x11;refine At.g [34] 6 ?_;apply rt;exact At.jn 0
     ·refine At.c 0 ?_ ?_
      ·refine At.ownn 2 6 1 ?_;refine At.sw 0 1 0 ?_;intro e;apply zV g4 e;exact At.r 0
      ·refine At.b 2 (λ_ e=>dW hT j64 e) λe12=>?_;refine At.J 3 1 [0,1,2,8,9,10] 1 (λp13=>([(11,(k64 p13))],[],[])) (λp13=>?_) λp13=>?_
       ·refine At.b 2 (λ_ e=>dW hT j64 e) λe14=>?_;refine At.c 2 ?_ ?_
        ·refine bi λr15 hr15=>?_;refine bi λe16 he16=>?_;refine lx ?_;intro x17;refine At.d 0 (dE2 1 (k64 r15) (λ_=>eZ (lK hr15)) (dE1 4 (λ_=>dW hT j64 he16) dE0)) dF0 ?_;apply rt;exact At.jn 0
        ·apply rt;exact At.jn 0
       ·refine At.o 2 (bV hT (x:=(.sl 1 1 [(k64 p13)]))) ?_;refine At.b 0 (λ_ e=>iH hT k64 (id:=0) (k:=1) e) λz18=>?_;exact λh=>At.k 4 ⟨_,_,h,jr⟩
    ·apply rt;exact At.xs 0
  ·refine At.b 3 (λ_ e=>aM [] (jY e)) λr19=>?_;refine At.sw 4 1 0 ?_;apply rt;exact At.r 0
def aP(N:Nat)(b1:(List Int))(a1 a2:Int)(a3:Bool):Option ((List Int)×Bool):=
 aa (dA N b1 a1 ([a2])) λr1=>
 cond (r1.2 != 0) (some ((b1,true))) (some ((r1.1,a3)))
theorem bJ{N b1 a1 a2 a3 r}(h:aP N b1 a1 a2 a3=some r):FnM Tryz.prog 27 [.var (.st 2 [(eO 1 1 k8 b1),(eB a3)]),.tail (b1.length*1)] [(.ref 0 [] 0),(j64 a1),(j64 a2)] (.tup []) [.var (.st 2 [(eO 2 1 k8 r.1),(eB r.2)]),.dead,.tail (r.1.length*1)]:=by
 unfold aP at h;refine At.fC dQ hT hmo Tryz.func27 rfl h ?_;refine At.mv 0 1 ?_;refine At.o 6 (bV hT (x:=(.sl 1 1 [(j64 a2)]))) ?_;refine At.b 0 (λ_ e=>aM [] (mW e)) λr1=>?_;refine At.c 7 ?_ ?_
 ·apply rt;exact At.rC 4 []
 ·apply rt;exact At.zC 5 [(3,2)]
def nE : Nat->Bool:=imL [3]
def bH(N:Nat)(b1:(List Int))(a1:aF)(a2:Bool):Option ((List Int)×Bool):=
 aa (aP N b1 4 a1.gX a2) λr1=>
 aa (aP N r1.1 4 a1.gY r1.2) λr2=>
 aa (aP N r2.1 4 a1.gZ r2.2) λr3=>
 some ((r3.1,r3.2))
theorem dE{N b1 a1 a2 r}(h:bH N b1 a1 a2=some r):FnM Tryz.prog 42 [.var (.st 2 [(eO 1 1 k8 b1),(eB a2)]),.tail (b1.length*1)] [(.ref 0 [] 0),(aF.enc a1)] (.tup []) [.var (.st 2 [(eO 5 1 k8 r.1),(eB r.2)]),.dead,.dead,.dead,.dead,.tail (r.1.length*1)]:=by
 unfold bH at h;refine At.f nE hT hmo Tryz.func42 rfl h ?_;refine At.mv 0 1 ?_;refine At.b 4 (λ_ e=>aM [0,2] (bJ e)) λr1=>?_;refine At.b 3 (λ_ e=>aM [0,3] (bJ e)) λr2=>?_;refine At.b 3 (λ_ e=>aM [0,4] (bJ e)) λr3=>?_;apply rt;exact At.z 0
def nN : Nat->Bool:=imL [3]
def cU(N:Nat)(b1:(List Int))(a1:aB)(a2:Bool):Option ((List Int)×Bool):=
 aa (aC N b1 1 a1.gW a2) λr1=>
 aa (aC N r1.1 1 a1.gH r1.2) λr2=>
 aa (aC N r2.1 1 a1.gA6 r2.2) λr3=>
 aa (aC N r3.1 1 a1.gA7 r3.2) λr4=>
 aa (aC N r4.1 1 a1.gA8 r4.2) λr5=>
 aa (cond a1.gA9 (
  aa (aC N r5.1 1 1 r5.2) λr7=>
  some ((r7.1,r7.2))) (
  aa (aC N r5.1 1 0 r5.2) λr8=>
  some ((r8.1,r8.2)))) λp6=>
 aa (cK N p6.1 8 ([a1.gS])) λr9=>
 aa (bH N r9.1 a1.gE.gB2 p6.2) λr10=>
 aa (bH N r10.1 a1.gE.gB3 r10.2) λr11=>
 aa (bH N r11.1 a1.gE.gUp r11.2) λr12=>
 aa (bH N r12.1 a1.gE.gB4 r12.2) λr13=>
 aa (aC N r13.1 4 a1.gE.gA4 r13.2) λr14=>
 aa (aC N r14.1 4 a1.gE.gA5 r14.2) λr15=>
 some ((r15.1,r15.2))
theorem nC{N b1 a1 a2 r}(h:cU N b1 a1 a2=some r):FnM Tryz.prog 28 [.var (.st 2 [(eO 1 1 k8 b1),(eB a2)]),.tail (b1.length*1)] [(.ref 0 [] 0),(aB.enc a1)] (.tup []) [.var (.st 2 [(eO 26 1 k8 r.1),(eB r.2)]),.dead,.dead,.dead,.dead,.dead,.dead,.dead,.dead,.dead,.dead,.dead,.dead,.dead,.dead,.dead,.dead,.dead,.dead,.dead,.dead,.dead,.dead,.dead,.dead,.dead,.tail (r.1.length*1)]:=by
 unfold cU at h;refine At.f nN hT hmo Tryz.func28 rfl h ?_;refine At.b 4 (λ_ e=>aM [0,1] (aI e)) λr1=>?_;refine At.b 3 (λ_ e=>aM [0,2] (aI e)) λr2=>?_;refine At.b 3 (λ_ e=>aM [0,3] (aI e)) λr3=>?_;refine At.b 3 (λ_ e=>aM [0,4] (aI e)) λr4=>?_;refine At.b 3 (λ_ e=>aM [0,5] (aI e)) λr5=>?_;refine At.J 0 1 [0,3] 7 (λp6=>([],[(0,.var (.st 2 [(eO 7 1 k8 p6.1),(eB p6.2)])),(6,.dead)],[.tail (p6.1.length*1)])) (λp6=>?_) λp6=>?_
 ·refine At.c 2 ?_ ?_
  ·refine At.b 1 (λ_ e=>aM [0,6] (aI e)) λr7=>?_;apply rt;exact At.jn 0
  ·refine At.b 1 (λ_ e=>aM [0,6] (aI e)) λr8=>?_;apply rt;exact At.jn 0
 ·refine bi λr9 hr9=>?_;refine At.d 0 (dE1 6 (λ_=>bV hT (x:=(.sl 1 1 [(k64 a1.gS)]))) dE0) (dF 7 (.tup [(eO 8 1 k8 r9.1),(j64 r9.2)]) [] [.tail (r9.1.length*1)] (bK (aM [] (jY hr9))) dF0) ?_;refine At.b 9 (λ_ e=>aM [0,8] (dE e)) λr10=>?_;refine At.b 4 (λ_ e=>aM [0,12] (dE e)) λr11=>?_;refine At.b 4 (λ_ e=>aM [0,16] (dE e)) λr12=>?_;refine At.b 4 (λ_ e=>aM [0,20] (dE e)) λr13=>?_;refine At.b 4 (λ_ e=>aM [0,24] (aI e)) λr14=>?_;refine At.b 4 (λ_ e=>aM [0,25] (aI e)) λr15=>?_;apply rt;exact At.z 0
def oM : Nat->Bool:=imL [3]
def bG(N:Nat)(a1:aL):Nat->(List Int)->Bool->Int->Option ((List Int)×Bool)
 | 0,_,_,_=>none
 | k+1,s14,s15,s16=>
  bS (cond (decide (s16 < 9)) (a1.gC==3) false) λx17=>
  cond x17 (
   aa (idx a1.gD.gT.gM.toList s16) λe18=>
   aa (aP N s14 8 e18 s15) λr19=>
   bG N a1 k r19.1 r19.2 (I64 (s16+1))) (
   some ((s14,s15)))
def aJ(N:Nat)(b1:(List Int))(a1:aL)(a2:Bool):Option (Sum (Unit) ((List Int)×Bool)):=
 bS (cond (decide (a1.gC < 1)) true (decide (a1.gC > 10))) λx1=>
 cond x1 (
  some (Sum.inl (()))) (
  aa (aC N b1 1 a1.gC a2) λr2=>
  cond (a1.gC==1) (
   aa (aC N r2.1 4 a1.gK r2.2) λr3=>
   bS ((a1.gA1.length:Int)) λx4=>
   aa (aC N r3.1 2 x4 r3.2) λr5=>
   aa (nR 1 r5.1 a1.gA1) λz6=>
   some (Sum.inr ((z6,r5.2)))) (
   cond (a1.gC==2) (
    aa (aC N r2.1 4 a1.gK r2.2) λr7=>
    some (Sum.inr ((r7.1,r7.2)))) (
    aa (cond (a1.gC==3) (some (a1.gC==3)) (some (a1.gC==4))) λp8=>
    cond p8 (
     aa (aC N r2.1 4 a1.gD.gL r2.2) λr9=>
     aa (aC N r9.1 4 a1.gD.gQ r9.2) λr10=>
     aa (aC N r10.1 4 a1.gD.gR r10.2) λr11=>
     aa (aC N r11.1 4 a1.gD.gN r11.2) λr12=>
     aa (bG N a1 N r12.1 r12.2 0) λp13=>
     cond (a1.gC==3) (
      aa (aP N p13.1 8 a1.gD.gT.gT.gX p13.2) λr20=>
      aa (aP N r20.1 8 a1.gD.gT.gT.gY r20.2) λr21=>
      aa (aP N r21.1 8 a1.gD.gT.gT.gZ r21.2) λr22=>
      some (Sum.inr ((r22.1,r22.2)))) (
      some (Sum.inr ((p13.1,p13.2))))) (
     cond (a1.gC==5) (
      aa (aC N r2.1 1 a1.gF r2.2) λr23=>
      aa (cU N r23.1 a1.gB6 r23.2) λr24=>
      aa (aC N r24.1 2 a1.gB0 r24.2) λr25=>
      some (Sum.inr ((r25.1,r25.2)))) (
      aa (cond (a1.gC==6) (some (a1.gC==6)) (some (a1.gC==9))) λp26=>
      cond p26 (
       aa (aC N r2.1 1 a1.gF r2.2) λr27=>
       some (Sum.inr ((r27.1,r27.2)))) (
       cond (a1.gC==7) (
        aa (aC N r2.1 1 a1.gF r2.2) λr28=>
        aa (aC N r28.1 1 a1.gI r28.2) λr29=>
        aa (aC N r29.1 4 (I64 a1.gA0) r29.2) λr30=>
        aa (aC N r30.1 4 a1.gB1 r30.2) λr31=>
        some (Sum.inr ((r31.1,r31.2)))) (
        cond (a1.gC==8) (
         aa (aC N r2.1 1 a1.gF r2.2) λr32=>
         aa (aC N r32.1 1 a1.gI r32.2) λr33=>
         some (Sum.inr ((r33.1,r33.2)))) (
         cond (a1.gC==10) (
          aa (aC N r2.1 4 a1.gA2 r2.2) λr34=>
          some (Sum.inr ((r34.1,r34.2)))) (
          some (Sum.inr ((r2.1,r2.2))))))))))))
theorem kK{N b1 a1 a2 r}(h:aJ N b1 a1 a2=some r):FnM Tryz.prog 14 [.var (.st 2 [(eO 1 1 k8 b1),(eB a2)]),.tail (b1.length*1)] [(.ref 0 [] 0),(aL.enc a1)] (selS r (λr=>(.tup [])) (λr=>(.tup []))) (selS r (λr=>[.var (.st 2 [(eO 1 1 k8 b1),(eB true)]),.tail (b1.length*1)]) (λr=>[.var (.st 2 [(eO 2 1 k8 r.1),(eB r.2)]),.dead,.tail (r.1.length*1)])):=by
 unfold aJ at h;refine At.fC oM hT hmo Tryz.func14 rfl h ?_;refine lx ?_;intro x1;refine At.c 9 ?_ ?_
 ·apply rt;exact At.rC 4 []
 ·refine At.b 3 (λ_ e=>aM [0,1] (aI e)) λr2=>?_;refine At.c 4 ?_ ?_
  ·refine At.b 3 (λ_ e=>aM [0,2] (aI e)) λr3=>?_;refine lx ?_;intro x4;refine At.b 4 (λ_ e=>aM [0,3] (aI e)) λr5=>?_;refine bi λz6 hz6=>?_;refine At.d 0 dE0 (dF 7 (eO 4 1 k8 z6) [(4,.tail (z6.length*1))] [] (bK (iH hT k8 (id:=4) (k:=1) hz6)) dF0) ?_;apply rt;exact At.zC 0 [(4,2)]
  ·refine At.c 2 ?_ ?_
   ·refine At.b 3 (λ_ e=>aM [0,2] (aI e)) λr7=>?_;apply rt;exact At.zC 0 [(3,2)]
   ·refine At.J 0 1 [0,3,21] 3 (λp8=>([(49,(eB p8))],[],[])) (λp8=>?_) λp8=>?_
    ·refine At.c 2 ?_ ?_
     ·apply rt;exact At.jn 0
     ·apply rt;exact At.jn 2
    ·refine At.c 0 ?_ ?_
     ·refine At.b 4 (λ_ e=>aM [0,2] (aI e)) λr9=>?_;refine At.b 4 (λ_ e=>aM [0,3] (aI e)) λr10=>?_;refine At.b 4 (λ_ e=>aM [0,4] (aI e)) λr11=>?_;refine At.b 4 (λ_ e=>aM [0,5] (aI e)) λr12=>?_;refine At.L 1 [0,3] 7 (λp13=>([],[(0,.var (.st 2 [(eO 6 1 k8 p13.1),(eB p13.2)])),(6,.tail (p13.1.length*1))],[])) (λp13 J k=>∃s14 s15 s16,bG N a1 k s14 s15 s16=some p13/\J [0,3] 7 [(4,(j64 s16))] [(0,.var (.st 2 [(eO 6 1 k8 s14),(eB s15)])),(6,.tail (s14.length*1))] []) N (λ_ h=>⟨_,_,_,h,jr⟩) (λp13 k s hI=>?_) λp13=>?_
      ·obtain⟨s14,s15,s16,h,hj⟩:=hI;cases k with
       | zero=>cases h
       | succ k=>
        refine At.jr hj ?_ h;refine lx ?_;intro x17;refine At.c 7 ?_ ?_
        ·refine At.b 5 (λ_ e=>sJ hT (N:=9) (k:=1) j64 a1.gD.gT.gM e) λe18=>?_;refine At.b 1 (λ_ e=>aM [0,6] (bJ e)) λr19=>?_;exact λh=>At.k 3 ⟨_,_,_,h,(aBd 7 6 (by kernel_rfl) jr)⟩
        ·apply rt;exact At.x 0
      ·refine At.c 3 ?_ ?_
       ·refine At.b 6 (λ_ e=>aM [0,6] (bJ e)) λr20=>?_;refine At.b 6 (λ_ e=>aM [0,7] (bJ e)) λr21=>?_;refine At.b 6 (λ_ e=>aM [0,8] (bJ e)) λr22=>?_;apply rt;exact At.zC 0 [(9,2)]
       ·apply rt;exact At.zC 0 [(6,2)]
     ·refine At.c 2 ?_ ?_
      ·refine At.b 3 (λ_ e=>aM [0,2] (aI e)) λr23=>?_;refine At.b 3 (λ_ e=>aM [0,3] (nC e)) λr24=>?_;refine At.b 3 (λ_ e=>aM [0,28] (aI e)) λr25=>?_;apply rt;exact At.zC 0 [(29,2)]
      ·refine At.J 0 1 [0,3,21] 3 (λp26=>([(127,(eB p26))],[],[])) (λp26=>?_) λp26=>?_
       ·refine At.c 2 ?_ ?_
        ·apply rt;exact At.jn 0
        ·apply rt;exact At.jn 2
       ·refine At.c 0 ?_ ?_
        ·refine At.b 3 (λ_ e=>aM [0,2] (aI e)) λr27=>?_;apply rt;exact At.zC 0 [(3,2)]
        ·refine At.c 2 ?_ ?_
         ·refine At.b 3 (λ_ e=>aM [0,2] (aI e)) λr28=>?_;refine At.b 3 (λ_ e=>aM [0,3] (aI e)) λr29=>?_;refine At.b 4 (λ_ e=>aM [0,4] (aI e)) λr30=>?_;refine At.b 3 (λ_ e=>aM [0,5] (aI e)) λr31=>?_;apply rt;exact At.zC 0 [(6,2)]
         ·refine At.c 2 ?_ ?_
          ·refine At.b 3 (λ_ e=>aM [0,2] (aI e)) λr32=>?_;refine At.b 3 (λ_ e=>aM [0,3] (aI e)) λr33=>?_;apply rt;exact At.zC 0 [(4,2)]
          ·refine At.c 2 ?_ ?_
           ·refine At.b 3 (λ_ e=>aM [0,2] (aI e)) λr34=>?_;apply rt;exact At.zC 0 [(3,2)]
           ·apply rt;exact At.zC 0 []
theorem mZ{N b1 a1 a2 r}(h:aJ N b1 a1 a2=some (Sum.inl r)):FnM Tryz.prog 14 [.var (.st 2 [(eO 1 1 k8 b1),(eB a2)]),.tail (b1.length*1)] [(.ref 0 [] 0),(aL.enc a1)] (.tup []) [.var (.st 2 [(eO 1 1 k8 b1),(eB true)]),.tail (b1.length*1)]:=kK h
theorem nD{N b1 a1 a2 r}(h:aJ N b1 a1 a2=some (Sum.inr r)):FnM Tryz.prog 14 [.var (.st 2 [(eO 1 1 k8 b1),(eB a2)]),.tail (b1.length*1)] [(.ref 0 [] 0),(aL.enc a1)] (.tup []) [.var (.st 2 [(eO 2 1 k8 r.1),(eB r.2)]),.dead,.tail (r.1.length*1)]:=kK h
def cF(N:Nat)(a0:(List aL)):Nat->(List Int)->Bool->Int->Option (Sum ((List Int)×Bool) ((List Int)×Int))
 | 0,_,_,_=>none
 | k+1,s3,s4,s5=>
  bS (decide (s5 < ((a0.length:Int)))) λx6=>
  cond x6 (
   aa (aa (idx a0 s5) λe8=>
   aa (aJ N s3 e8 s4) λq=>
   rH q (λr9=>
    some ((s3,true))) (λr10=>
    some ((r10.1,r10.2)))) λp7=>
   cond p7.2 (
    some (Sum.inr (([],2)))) (
    cF N a0 k p7.1 p7.2 (I64 (s5+1)))) (
   some (Sum.inl ((s3,s4))))
def fH(N:Nat)(a0:(List aL)):Option ((List Int)×Int):=
 bS (decide (((a0.length:Int)) > 256)) λx1=>
 cond x1 (
  some (([],3))) (
  aa (cF N a0 N [] false 0) λo=>rH o (λp2=>
   bS (decide (((p2.1.length:Int)) > 65536)) λx11=>
   cond x11 (some (([],3))) (some ((p2.1,0)))) (λr=>some r))
theorem sD{N a0 r}(h:fH N a0=some r):FnM Tryz.prog 6 [] [(eL 46 aL.enc a0)] (.tup [(eL 1 k8 r.1),(j64 r.2)]) []:=by
 unfold fH at h;refine At.f dQ hT hmo Tryz.func6 rfl h ?_;refine lx ?_;intro x1;refine At.c 5 ?_ ?_
 ·apply rt;exact At.r 2
 ·refine At.ownb 4 0 1 [0] ?_;refine At.LS 0 [4] 2 (λp2=>([],[(0,.var (.st 2 [(eO 1 1 k8 p2.1),(eB p2.2)])),(1,.tail (p2.1.length*1))],[])) (λop2 J k=>∃s3 s4 s5,cF N a0 k s3 s4 s5=some op2/\J [0,4] 2 [(5,(j64 s5))] [(0,.var (.st 2 [(eO 1 1 k8 s3),(eB s4)])),(1,.tail (s3.length*1))] []) N (λ_ h=>⟨_,_,_,h,jr⟩) (λop2 g2 k s hI=>?_) λp2=>?_
  ·obtain⟨s3,s4,s5,h,hj⟩:=hI;cases k with
   | zero=>cases h
   | succ k=>
    refine At.jr hj ?_ h;refine lx ?_;intro x6;refine At.c 4 ?_ ?_
    ·refine At.J 0 0 [0,4,5] 2 (λp7=>([],[(0,.var (.st 2 [(eO 1 1 k8 p7.1),(eB p7.2)])),(1,.tail (p7.1.length*1))],[])) (λp7=>?_) λp7=>?_
     ·refine At.b 3 (λ_ e=>dW hT aL.enc e) λe8=>?_;refine sumI (λr9 hr9=>?_) (λr10 hr10=>?_)
      ·refine At.o 1 (aM [0,1] (mZ hr9)) ?_;apply rt;exact At.jn 0
      ·refine At.o 1 (aM [0,1] (nD hr10)) ?_;apply rt;exact At.jw 0 (aBd 2 1 (by kernel_rfl) jr)
     ·refine At.c 4 ?_ ?_
      ·intro e;apply zV g2 e;exact At.r 2
      ·exact λh=>At.k 3 ⟨_,_,_,h,jr⟩
    ·apply rt;exact At.xs 0
  ·refine lx ?_;intro x11;refine At.c 6 ?_ ?_
   ·apply rt;exact At.r 2
   ·apply rt;exact At.r 6
def jQ(N:Nat)(a0 a1:(List Int)):Option (Bool):=
 bS (ByteArray.toList (aBc a0)==ByteArray.toList (aBc a1)) λx1=>
 some x1
theorem jA{N a0 a1 r}(h:jQ N a0 a1=some r):FnM Tryz.prog 7 [] [(eL 1 k8 a0),(eL 1 k8 a1)] (eB r) []:=by
 unfold jQ at h;refine At.f dQ hT hmo Tryz.func7 rfl h ?_;refine At.o 2 (aDP hT a0 (v:=(eL 1 k8 a0)) (e:=5) (by kernel_rfl) (by kernel_rfl) (by kernel_rfl)) ?_;refine At.o 1 (aDP hT a1 (v:=(eL 1 k8 a1)) (e:=5) (by kernel_rfl) (by kernel_rfl) (by kernel_rfl)) ?_;refine lx ?_;intro x1;apply rt;exact At.r 2
def wY : Nat->Bool:=imL [1]
def dO(N:Nat)(s2:(List Int)):Nat->(List Int)->Int->Option ((List Int))
 | 0,_,_=>none
 | k+1,s4,s5=>
  bS (decide (s5 < ((s2.length:Int)))) λx6=>
  cond x6 (
   aa (idx s2 s5) λe7=>
   aa (cN N s4 8 ([e7])) λr8=>
   dO N s2 k r8.1 (I64 (s5+1))) (
   some s4)
def fF(N:Nat)(a0:aU):Option ((List Int)):=
 bS ((a0.gG.length:Int)) λx1=>
 aa (pM a0.gG 0 (rW x1 255)) λs2=>
 aa (dO N s2 N ([U8 a0.gA3,U8 ((s2.length:Int))]) 0) λp3=>
 bS ((a0.gJ.length:Int)) λx9=>
 aa (eG N p3 4 ([U64 x9])) λr10=>
 aa (nR 1 r10.1 a0.gJ) λz11=>
 some z11
theorem kU{N a0 r}(h:fF N a0=some r):FnM Tryz.prog 8 [] [(aU.enc a0)] (eL 1 k8 r) []:=by
 unfold fF at h;refine At.f wY hT hmo Tryz.func8 rfl h ?_;refine lx ?_;intro x1;refine At.b 8 (λ_ e=>oQ hT (k:=1) j64 e) λs2=>?_;refine At.o 7 (bV hT (x:=(.sl 1 2 [(k8 (U8 a0.gA3)),(k8 (U8 ((s2.length:Int))))]))) ?_;refine At.L 4 [1] 0 (λp3=>([(4,(eL 1 k8 p3))],[],[])) (λp3 J k=>∃s4 s5,dO N s2 k s4 s5=some p3/\J [1,21,22] 0 [(4,(eL 1 k8 s4)),(23,(j64 s5))] [] []) N (λ_ h=>⟨_,_,h,jr⟩) (λp3 k s hI=>?_) λp3=>?_
 ·obtain⟨s4,s5,h,hj⟩:=hI;cases k with
  | zero=>cases h
  | succ k=>
   refine At.jr hj ?_ h;refine lx ?_;intro x6;refine At.c 1 ?_ ?_
   ·refine At.b 0 (λ_ e=>dW hT j64 e) λe7=>?_;refine At.o 4 (bV hT (x:=(.sl 1 1 [(j64 e7)]))) ?_;refine At.b 0 (λ_ e=>aM [] (lI e)) λr8=>?_;exact λh=>At.k 6 ⟨_,_,h,jr⟩
   ·apply rt;exact At.x 0
 ·refine lx ?_;intro x9;refine At.o 5 (bV hT (x:=(.sl 1 1 [(k64 (U64 x9))]))) ?_;refine At.b 0 (λ_ e=>aM [] (nQ e)) λr10=>?_;refine At.b 7 (λ_ e=>iH hT k8 (id:=0) (k:=1) e) λz11=>?_;apply rt;exact At.r 1
def sS : Nat->Bool:=imL [1]
def fI(N:Nat)(a0:aU):Option ((List Int)):=
 bS ((a0.gG.length:Int)) λx1=>
 aa (pM a0.gG 0 (rW x1 255)) λs2=>
 aa (dA N ([U8 a0.gA3,U8 (rW x1 255)]) 8 s2) λr3=>
 bS ((a0.gJ.length:Int)) λx4=>
 aa (cK N r3.1 4 ([U64 x4])) λr5=>
 aa (nR 1 r5.1 a0.gJ) λz6=>
 some z6
theorem mQ{N a0 r}(h:fI N a0=some r):FnM Tryz.prog 9 [] [(aU.enc a0)] (eL 1 k8 r) []:=by
 unfold fI at h;refine At.f sS hT hmo Tryz.func9 rfl h ?_;refine lx ?_;intro x1;refine At.o 12 (bV hT (x:=(.sl 1 2 [(k8 (U8 a0.gA3)),(k8 (U8 (rW x1 255)))]))) ?_;refine At.b 5 (λ_ e=>oQ hT (k:=1) j64 e) λs2=>?_;refine At.b 0 (λ_ e=>aM [] (mW e)) λr3=>?_;refine lx ?_;intro x4;refine At.o 9 (bV hT (x:=(.sl 1 1 [(k64 (U64 x4))]))) ?_;refine At.b 0 (λ_ e=>aM [] (jY e)) λr5=>?_;refine At.b 7 (λ_ e=>iH hT k8 (id:=1) (k:=1) e) λz6=>?_;apply rt;exact At.r 1
def rO(N:Nat)(a0:(List Int)):Option ((List Int)):=
 aa (cQ N a0) λr1=>
 some r1
theorem aAf{N a0 r}(h:rO N a0=some r):FnM Tryz.prog 20 [] [(eL 1 k8 a0)] (.ref 1 [] 0) [.tail (r.length*1),.var (.st 3 [(eO 0 1 k8 r),(j64 0),(eB true)])]:=by
 unfold rO at h;refine At.f dQ hT hmo Tryz.func20 rfl h ?_;refine At.b 2 (λ_ e=>aM [] (kV e)) λr1=>?_;apply rt;exact At.r 3
def eU(N:Nat)(a0:aE):Option (Bool):=
 some (!a0.gB5)
theorem jI{N a0 r}(h:eU N a0=some r):FnM Tryz.prog 33 [.var (aE.enc a0)] [(.ref 0 [] 0)] (eB r) [.var (aE.enc a0)]:=by
 unfold eU at h;refine At.f dQ hT hmo Tryz.func33 rfl h ?_;refine At.o 2 (qC hT (t:=72) (x:=(.ref 0 [] 0)) (b:=true) (by kernel_rfl) rfl rfl (by kernel_rfl)) ?_;refine At.g [5] 8 ?_;apply rt;exact At.r 0
def hZ(N:Nat)(a0:aE):Option (Int):=
 aa (eU N a0) λr1=>
 bS (cond r1 true (a0.ge != 0)) λx2=>
 cond x2 (some 0) (some ((a0.gb.length:Int)))
theorem mC{N a0 r}(h:hZ N a0=some r):FnM Tryz.prog 21 [.var (aE.enc a0)] [(.ref 0 [] 0)] (j64 r) [.var (aE.enc a0)]:=by
 unfold hZ at h;refine At.f dQ hT hmo Tryz.func21 rfl h ?_;refine At.b 2 (λ_ e=>aM [0] (jI e)) λr1=>?_;refine lx ?_;intro x2;refine At.c 7 ?_ ?_
 ·apply rt;exact At.r 1
 ·apply rt;exact At.r 6
def fT(N:Nat)(a0:Int)(a1:aE):Option (aE×(List Int)):=
 aa (eU N a1) λr1=>
 bS (cond r1 true (a1.ge != 0)) λx2=>
 cond x2 (
  some ((a1,[]))) (
  cond (decide (a0 < 0)) (
   some ((aE.mk a1.gb 2 a1.gB5,[]))) (
   bS (decide (a0 > ((a1.gb.length:Int)))) λx3=>
   cond x3 (
    some ((aE.mk a1.gb 4 a1.gB5,[]))) (
    aa (aCq a1.gb 0 a0 a0) λs4=>
    aa (pM a1.gb a0 ((a1.gb.length:Int))) λs5=>
    some ((aE.mk s5 a1.ge a1.gB5,s4)))))
theorem lN{N a0 a1 r}(h:fT N a0 a1=some r):FnM Tryz.prog 35 [.var (aE.enc a1)] [(.ref 0 [] 0),(j64 a0)] (eL 1 k8 r.2) [.var (aE.enc r.1)]:=by
 unfold fT at h;refine At.f dQ hT hmo Tryz.func35 rfl h ?_;refine At.b 2 (λ_ e=>aM [0] (jI e)) λr1=>?_;refine lx ?_;intro x2;refine At.c 8 ?_ ?_
 ·apply rt;exact At.r 1
 ·refine At.c 3 ?_ ?_
  ·apply rt;exact At.r 5
  ·refine lx ?_;intro x3;refine At.c 8 ?_ ?_
   ·apply rt;exact At.r 5
   ·refine At.b 6 (λ_ e=>aFX hT (k:=1) k8 e (by kernel_rfl) (by kernel_rfl)) λs4=>?_;refine At.b 7 (λ_ e=>oQ hT (k:=1) k8 e) λs5=>?_;apply rt;exact At.r 5
def iL(N:Nat)(r3:aE×(List Int)):Nat->Int->Int->Option (Int)
 | 0,_,_=>none
 | k+1,s5,s6=>
  bS (decide (s6 < ((r3.2.length:Int)))) λx7=>
  cond x7 (
   aa (idx r3.2 s6) λe8=>
   aa (aBU .u64 (U64 e8) (I64 (8*s6))) λx9=>
   iL N r3 k (bor .u64 s5 x9) (I64 (s6+1))) (
   some s5)
def dI(N:Nat)(a0:Int)(a1:aE):Option (aE×Int):=
 aa (bS (cond (decide (a0 < 1)) true (decide (a0 > 8))) λx2=>
 cond x2 (some (-1)) (some a0)) λp1=>
 aa (fT N p1 a1) λr3=>
 aa (iL N r3 N 0 0) λp4=>
 some ((r3.1,p4))
theorem fM{N a0 a1 r}(h:dI N a0 a1=some r):FnM Tryz.prog 39 [.var (aE.enc a1)] [(.ref 0 [] 0),(j64 a0)] (k64 r.2) [.var (aE.enc r.1)]:=by
 unfold dI at h;refine At.f dQ hT hmo Tryz.func39 rfl h ?_;refine At.J 1 1 [0] 1 (λp1=>([(1,(j64 p1))],[],[])) (λp1=>?_) λp1=>?_
 ·refine lx ?_;intro x2;refine At.c 6 ?_ ?_
  ·apply rt;exact At.jn 1
  ·apply rt;exact At.jn 0
 ·refine At.b 3 (λ_ e=>aM [0] (lN e)) λr3=>?_;refine At.L 2 [] 1 (λp4=>([(5,(k64 p4))],[],[])) (λp4 J k=>∃s5 s6,iL N r3 k s5 s6=some p4/\J [16,17] 1 [(5,(k64 s5)),(18,(j64 s6))] [] []) N (λ_ h=>⟨_,_,h,jr⟩) (λp4 k s hI=>?_) λp4=>?_
  ·obtain⟨s5,s6,h,hj⟩:=hI;cases k with
   | zero=>cases h
   | succ k=>
    refine At.jr hj ?_ h;refine lx ?_;intro x7;refine At.c 1 ?_ ?_
    ·refine At.b 1 (λ_ e=>dW hT k8 e) λe8=>?_;refine At.b 8 (λ_ e=>uA hT (k' := .i64) e (by kernel_rfl) (by kernel_rfl)) λx9=>?_;exact λh=>At.k 4 ⟨_,_,h,jr⟩
    ·apply rt;exact At.x 0
  ·apply rt;exact At.r 2
def aK(N:Nat)(a0:Int)(a1:aE):Option (aE×Int):=
 aa (dI N a0 a1) λr1=>
 some ((r1.1,I64 r1.2))
theorem aH{N a0 a1 r}(h:aK N a0 a1=some r):FnM Tryz.prog 34 [.var (aE.enc a1)] [(.st 1 [(.ref 0 [] 0)]),(j64 a0)] (j64 r.2) [.var (aE.enc r.1)]:=by
 unfold aK at h;refine At.f dQ hT hmo Tryz.func34 rfl h ?_;refine At.b 5 (λ_ e=>aM [0] (fM e)) λr1=>?_;apply rt;exact At.r 2
def eP(N:Nat)(a0:aE):Option (aE×bI):=
 aa (aK N 4 a0) λr1=>
 aa (aK N 4 r1.1) λr2=>
 aa (aK N 4 r2.1) λr3=>
 aa (aK N 4 r3.1) λr4=>
 some ((r4.1,bI.mk r1.2 r2.2 r3.2 r4.2 (bN.mk (al 9 0) (cP.mk 0 0 0))))
theorem kC{N a0 r}(h:eP N a0=some r):FnM Tryz.prog 36 [.var (aE.enc a0)] [(.st 1 [(.ref 0 [] 0)])] (bI.enc r.2) [.var (aE.enc r.1)]:=by
 unfold eP at h;refine At.f dQ hT hmo Tryz.func36 rfl h ?_;refine bi λr1 hr1=>?_;refine bi λr2 hr2=>?_;refine bi λr3 hr3=>?_;refine bi λr4 hr4=>?_;refine At.d 2 dE0 (dF 1 (j64 r1.2) [(0,.var (aE.enc r1.1))] [] (bK (aM [0] (aH hr1))) (dF 3 (j64 r2.2) [(0,.var (aE.enc r2.1))] [] (bK (aM [0] (aH hr2))) (dF 5 (j64 r3.2) [(0,.var (aE.enc r3.1))] [] (bK (aM [0] (aH hr3))) (dF 7 (j64 r4.2) [(0,.var (aE.enc r4.1))] [] (bK (aM [0] (aH hr4))) dF0)))) ?_;apply rt;exact At.r 0
def dH(N:Nat)(a0:Int)(a1:aE):Option (aE×Int):=
 aa (dI N a0 a1) λr1=>
 bS (cond (decide (a0 < 1)) true (decide (a0 > 8))) λx2=>
 cond x2 (
  some ((r1.1,0))) (
  bS (I64 (64 - (I64 (8*a0)))) λx3=>
  aa (aBU .i64 (I64 r1.2) x3) λx4=>
  bS (I64 (64 - (I64 (8*a0)))) λx5=>
  aa (yC .i64 x4 x5) λx6=>
  some ((r1.1,x6)))
theorem fN{N a0 a1 r}(h:dH N a0 a1=some r):FnM Tryz.prog 54 [.var (aE.enc a1)] [(.ref 0 [] 0),(j64 a0)] (j64 r.2) [.var (aE.enc r.1)]:=by
 unfold dH at h;refine At.f dQ hT hmo Tryz.func54 rfl h ?_;refine At.b 3 (λ_ e=>aM [0] (fM e)) λr1=>?_;refine lx ?_;intro x2;refine At.c 7 ?_ ?_
 ·apply rt;exact At.r 1
 ·refine lx ?_;intro x3;refine At.b 5 (λ_ e=>uA hT (k' := .i64) e (by kernel_rfl) (by kernel_rfl)) λx4=>?_;refine lx ?_;intro x5;refine At.b 3 (λ_ e=>pZ hT (k' := .i64) e (by kernel_rfl) (by kernel_rfl)) λx6=>?_;apply rt;exact At.r 1
def eW(N:Nat)(a0:Int):Nat->(List Int)->aE->Int->Option ((List Int)×aE)
 | 0,_,_,_=>none
 | k+1,s2,s3,s4=>
  cond (decide (s4 < a0)) (
   aa (dH N 8 s3) λr5=>
   aa (nR 8 s2 (([r5.2]:List Int))) λz6=>
   eW N a0 k z6 r5.1 (I64 (s4+1))) (
   some ((s2,s3)))
def fL(N:Nat)(a0:Int)(a1:aE):Option (aE×(List Int)):=
 aa (eW N a0 N [] a1 0) λp1=>
 some ((p1.2,p1.1))
theorem nH{N a0 a1 r}(h:fL N a0 a1=some r):FnM Tryz.prog 37 [.var (aE.enc a1)] [(.st 1 [(.ref 0 [] 0)]),(j64 a0)] (eL 1 j64 r.2) [.var (aE.enc r.1)]:=by
 unfold fL at h;refine At.f dQ hT hmo Tryz.func37 rfl h ?_;refine At.ownn 5 5 1 ?_;refine At.L 0 [] 3 (λp1=>([(5,(eO 2 1 j64 p1.1))],[(0,.var (aE.enc p1.2)),(2,.tail (p1.1.length*1))],[])) (λp1 J k=>∃s2 s3 s4,eW N a0 k s2 s3 s4=some p1/\J [2,6] 3 [(5,(eO 2 1 j64 s2)),(7,(j64 s4))] [(0,.var (aE.enc s3)),(2,.tail (s2.length*1))] []) N (λ_ h=>⟨_,_,_,h,jr⟩) (λp1 k s hI=>?_) λp1=>?_
 ·obtain⟨s2,s3,s4,h,hj⟩:=hI;cases k with
  | zero=>cases h
  | succ k=>
   refine At.jr hj ?_ h;refine At.c 1 ?_ ?_
   ·refine At.b 3 (λ_ e=>aM [0] (fN e)) λr5=>?_;refine At.o 0 (bV hT (x:=(.sl 1 1 [(j64 r5.2)]))) ?_;refine At.b 0 (λ_ e=>iH hT j64 (id:=2) (k:=1) e) λz6=>?_;exact λh=>At.k 3 ⟨_,_,_,h,jr⟩
   ·apply rt;exact At.x 0
 ·apply rt;exact At.r 2
def cI(N:Nat)(a0:aE):Option (aE×aF):=
 aa (dH N 4 a0) λr1=>
 aa (dH N 4 r1.1) λr2=>
 aa (dH N 4 r2.1) λr3=>
 some ((r3.1,aF.mk r1.2 r2.2 r3.2))
theorem dV{N a0 r}(h:cI N a0=some r):FnM Tryz.prog 55 [.var (aE.enc a0)] [(.st 1 [(.ref 0 [] 0)])] (aF.enc r.2) [.var (aE.enc r.1)]:=by
 unfold cI at h;refine At.f dQ hT hmo Tryz.func55 rfl h ?_;refine bi λr1 hr1=>?_;refine bi λr2 hr2=>?_;refine bi λr3 hr3=>?_;refine At.d 2 dE0 (dF 2 (j64 r1.2) [(0,.var (aE.enc r1.1))] [] (bK (aM [0] (fN hr1))) (dF 5 (j64 r2.2) [(0,.var (aE.enc r2.1))] [] (bK (aM [0] (fN hr2))) (dF 8 (j64 r3.2) [(0,.var (aE.enc r3.1))] [] (bK (aM [0] (fN hr3))) dF0))) ?_;apply rt;exact At.r 0
def iD(N:Nat)(a0:aE):Option (aE×aB×Bool):=
 aa (aK N 1 a0) λr1=>
 aa (aK N 1 r1.1) λr2=>
 aa (aK N 1 r2.1) λr3=>
 aa (aK N 1 r3.1) λr4=>
 aa (aK N 1 r4.1) λr5=>
 aa (aK N 1 r5.1) λr6=>
 aa (dI N 8 r6.1) λr7=>
 aa (cI N r7.1) λr8=>
 aa (cI N r8.1) λr9=>
 aa (cI N r9.1) λr10=>
 aa (cI N r10.1) λr11=>
 aa (aK N 4 r11.1) λr12=>
 aa (aK N 4 r12.1) λr13=>
 some ((r13.1,aB.mk r1.2 r2.2 r3.2 r4.2 r5.2 r7.2 (aV.mk r8.2 r9.2 r10.2 r11.2 r12.2 r13.2) (r6.2==1),decide (r6.2<=1)))
theorem nY{N a0 r}(h:iD N a0=some r):FnM Tryz.prog 38 [.var (aE.enc a0)] [(.st 1 [(.ref 0 [] 0)])] (.tup [(aB.enc r.2.1),(eB r.2.2)]) [.var (aE.enc r.1)]:=by
 unfold iD at h;refine At.f dQ hT hmo Tryz.func38 rfl h ?_;refine bi λr1 hr1=>?_;refine bi λr2 hr2=>?_;refine bi λr3 hr3=>?_;refine bi λr4 hr4=>?_;refine bi λr5 hr5=>?_;refine At.d2 3 [false] dC0 (dS1 1 ⟨(j64 r1.2),0,.var (aE.enc r1.1),.var (aE.enc a0)⟩ [[.var (aE.enc a0),.var (.st 1 [(.ref 0 [] 0)]),.var eT,.dead],[.var (aE.enc a0),.var (.st 1 [(.ref 0 [] 0)]),.var eT,.var eT]] ⟨bK (aM [0] (aH hr1)),bK (aM [0] (aH hr1)),trivial⟩ (dS1 3 ⟨(j64 r2.2),0,.var (aE.enc r2.1),.var (aE.enc r1.1)⟩ [[.var (aE.enc r1.1),.var (.st 1 [(.ref 0 [] 0)]),.var eT,.dead],[.var (aE.enc r1.1),.var (.st 1 [(.ref 0 [] 0)]),.var eT,.var eT]] ⟨bK (aM [0] (aH hr2)),bK (aM [0] (aH hr2)),trivial⟩ (dS1 5 ⟨(j64 r3.2),0,.var (aE.enc r3.1),.var (aE.enc r2.1)⟩ [[.var (aE.enc r2.1),.var (.st 1 [(.ref 0 [] 0)]),.var eT,.dead],[.var (aE.enc r2.1),.var (.st 1 [(.ref 0 [] 0)]),.var eT,.var eT]] ⟨bK (aM [0] (aH hr3)),bK (aM [0] (aH hr3)),trivial⟩ (dS1 7 ⟨(j64 r4.2),0,.var (aE.enc r4.1),.var (aE.enc r3.1)⟩ [[.var (aE.enc r3.1),.var (.st 1 [(.ref 0 [] 0)]),.var eT,.dead],[.var (aE.enc r3.1),.var (.st 1 [(.ref 0 [] 0)]),.var eT,.var eT]] ⟨bK (aM [0] (aH hr4)),bK (aM [0] (aH hr4)),trivial⟩ (dS1 9 ⟨(j64 r5.2),0,.var (aE.enc r5.1),.var (aE.enc r4.1)⟩ [[.var (aE.enc r4.1),.var (.st 1 [(.ref 0 [] 0)]),.var eT,.dead],[.var (aE.enc r4.1),.var (.st 1 [(.ref 0 [] 0)]),.var eT,.var eT]] ⟨bK (aM [0] (aH hr5)),bK (aM [0] (aH hr5)),trivial⟩ (dS1 11 ⟨(.ref 3 [] 0),3,.var eT,.dead⟩ [[.var (aE.enc a0),.var (.st 1 [(.ref 0 [] 0)]),.var eT,.dead],[.var (aE.enc r5.1),.var (.st 1 [(.ref 0 [] 0)]),.var eT,.dead],[.var (aE.enc r4.1),.var (.st 1 [(.ref 0 [] 0)]),.var eT,.dead],[.var (aE.enc r5.1),.var (.st 1 [(.ref 0 [] 0)]),.var eT,.dead],[.var (aE.enc r3.1),.var (.st 1 [(.ref 0 [] 0)]),.var eT,.dead],[.var (aE.enc r5.1),.var (.st 1 [(.ref 0 [] 0)]),.var eT,.dead],[.var (aE.enc r4.1),.var (.st 1 [(.ref 0 [] 0)]),.var eT,.dead],[.var (aE.enc r5.1),.var (.st 1 [(.ref 0 [] 0)]),.var eT,.dead],[.var (aE.enc r2.1),.var (.st 1 [(.ref 0 [] 0)]),.var eT,.dead],[.var (aE.enc r5.1),.var (.st 1 [(.ref 0 [] 0)]),.var eT,.dead],[.var (aE.enc r4.1),.var (.st 1 [(.ref 0 [] 0)]),.var eT,.dead],[.var (aE.enc r5.1),.var (.st 1 [(.ref 0 [] 0)]),.var eT,.dead],[.var (aE.enc r3.1),.var (.st 1 [(.ref 0 [] 0)]),.var eT,.dead],[.var (aE.enc r5.1),.var (.st 1 [(.ref 0 [] 0)]),.var eT,.dead],[.var (aE.enc r4.1),.var (.st 1 [(.ref 0 [] 0)]),.var eT,.dead],[.var (aE.enc r5.1),.var (.st 1 [(.ref 0 [] 0)]),.var eT,.dead],[.var (aE.enc r1.1),.var (.st 1 [(.ref 0 [] 0)]),.var eT,.dead],[.var (aE.enc r5.1),.var (.st 1 [(.ref 0 [] 0)]),.var eT,.dead],[.var (aE.enc r4.1),.var (.st 1 [(.ref 0 [] 0)]),.var eT,.dead],[.var (aE.enc r5.1),.var (.st 1 [(.ref 0 [] 0)]),.var eT,.dead],[.var (aE.enc r3.1),.var (.st 1 [(.ref 0 [] 0)]),.var eT,.dead],[.var (aE.enc r5.1),.var (.st 1 [(.ref 0 [] 0)]),.var eT,.dead],[.var (aE.enc r4.1),.var (.st 1 [(.ref 0 [] 0)]),.var eT,.dead],[.var (aE.enc r5.1),.var (.st 1 [(.ref 0 [] 0)]),.var eT,.dead],[.var (aE.enc r2.1),.var (.st 1 [(.ref 0 [] 0)]),.var eT,.dead],[.var (aE.enc r5.1),.var (.st 1 [(.ref 0 [] 0)]),.var eT,.dead],[.var (aE.enc r4.1),.var (.st 1 [(.ref 0 [] 0)]),.var eT,.dead],[.var (aE.enc r5.1),.var (.st 1 [(.ref 0 [] 0)]),.var eT,.dead],[.var (aE.enc r3.1),.var (.st 1 [(.ref 0 [] 0)]),.var eT,.dead],[.var (aE.enc r5.1),.var (.st 1 [(.ref 0 [] 0)]),.var eT,.dead],[.var (aE.enc r4.1),.var (.st 1 [(.ref 0 [] 0)]),.var eT,.dead],[.var (aE.enc r5.1),.var (.st 1 [(.ref 0 [] 0)]),.var eT,.dead]] ⟨bC hT 3 (by kernel_rfl) (by kernel_rfl) (by kernel_rfl),bC hT 3 (by kernel_rfl) (by kernel_rfl) (by kernel_rfl),bC hT 3 (by kernel_rfl) (by kernel_rfl) (by kernel_rfl),bC hT 3 (by kernel_rfl) (by kernel_rfl) (by kernel_rfl),bC hT 3 (by kernel_rfl) (by kernel_rfl) (by kernel_rfl),bC hT 3 (by kernel_rfl) (by kernel_rfl) (by kernel_rfl),bC hT 3 (by kernel_rfl) (by kernel_rfl) (by kernel_rfl),bC hT 3 (by kernel_rfl) (by kernel_rfl) (by kernel_rfl),bC hT 3 (by kernel_rfl) (by kernel_rfl) (by kernel_rfl),bC hT 3 (by kernel_rfl) (by kernel_rfl) (by kernel_rfl),bC hT 3 (by kernel_rfl) (by kernel_rfl) (by kernel_rfl),bC hT 3 (by kernel_rfl) (by kernel_rfl) (by kernel_rfl),bC hT 3 (by kernel_rfl) (by kernel_rfl) (by kernel_rfl),bC hT 3 (by kernel_rfl) (by kernel_rfl) (by kernel_rfl),bC hT 3 (by kernel_rfl) (by kernel_rfl) (by kernel_rfl),bC hT 3 (by kernel_rfl) (by kernel_rfl) (by kernel_rfl),bC hT 3 (by kernel_rfl) (by kernel_rfl) (by kernel_rfl),bC hT 3 (by kernel_rfl) (by kernel_rfl) (by kernel_rfl),bC hT 3 (by kernel_rfl) (by kernel_rfl) (by kernel_rfl),bC hT 3 (by kernel_rfl) (by kernel_rfl) (by kernel_rfl),bC hT 3 (by kernel_rfl) (by kernel_rfl) (by kernel_rfl),bC hT 3 (by kernel_rfl) (by kernel_rfl) (by kernel_rfl),bC hT 3 (by kernel_rfl) (by kernel_rfl) (by kernel_rfl),bC hT 3 (by kernel_rfl) (by kernel_rfl) (by kernel_rfl),bC hT 3 (by kernel_rfl) (by kernel_rfl) (by kernel_rfl),bC hT 3 (by kernel_rfl) (by kernel_rfl) (by kernel_rfl),bC hT 3 (by kernel_rfl) (by kernel_rfl) (by kernel_rfl),bC hT 3 (by kernel_rfl) (by kernel_rfl) (by kernel_rfl),bC hT 3 (by kernel_rfl) (by kernel_rfl) (by kernel_rfl),bC hT 3 (by kernel_rfl) (by kernel_rfl) (by kernel_rfl),bC hT 3 (by kernel_rfl) (by kernel_rfl) (by kernel_rfl),bC hT 3 (by kernel_rfl) (by kernel_rfl) (by kernel_rfl),trivial⟩ dS0)))))) ?_;refine At.b 1 (λ_ e=>aM [0] (aH e)) λr6=>?_;refine At.b 7 (λ_ e=>aM [0] (fM e)) λr7=>?_;refine bi λr8 hr8=>?_;refine bi λr9 hr9=>?_;refine bi λr10 hr10=>?_;refine bi λr11 hr11=>?_;refine bi λr12 hr12=>?_;refine bi λr13 hr13=>?_;refine At.d 2 dE0 (dF 1 (aF.enc r8.2) [(0,.var (aE.enc r8.1))] [] (bK (aM [0] (dV hr8))) (dF 3 (aF.enc r9.2) [(0,.var (aE.enc r9.1))] [] (bK (aM [0] (dV hr9))) (dF 5 (aF.enc r10.2) [(0,.var (aE.enc r10.1))] [] (bK (aM [0] (dV hr10))) (dF 7 (aF.enc r11.2) [(0,.var (aE.enc r11.1))] [] (bK (aM [0] (dV hr11))) (dF 9 (j64 r12.2) [(0,.var (aE.enc r12.1))] [] (bK (aM [0] (aH hr12))) (dF 11 (j64 r13.2) [(0,.var (aE.enc r13.1))] [] (bK (aM [0] (aH hr13))) dF0)))))) ?_;apply rt;exact At.r 5
def kG(N:Nat)(a0:aE):Option (Int):=
 aa (eU N a0) λr1=>
 cond r1 (some 1) (some a0.ge)
theorem rD{N a0 r}(h:kG N a0=some r):FnM Tryz.prog 40 [.var (aE.enc a0)] [(.ref 0 [] 0)] (j64 r) [.var (aE.enc a0)]:=by
 unfold kG at h;refine At.f dQ hT hmo Tryz.func40 rfl h ?_;refine At.b 2 (λ_ e=>aM [0] (jI e)) λr1=>?_;refine At.c 0 ?_ ?_
 ·apply rt;exact At.r 1
 ·apply rt;exact At.r 5
def iX(N:Nat)(a0:aE):Option (aE×aL×Int):=
 aa (aK N 1 a0) λr1=>
 aa (cond (r1.2==1) (
  aa (aK N 4 r1.1) λr3=>
  aa (aK N 2 r3.1) λr4=>
  aa (fT N r4.2 r4.1) λr5=>
  some ((r5.1,aL.mk r1.2 r3.2 r5.2 (bI.mk 0 0 0 0 (bN.mk (al 9 0) (cP.mk 0 0 0))) 0 (aB.mk 0 0 0 0 0 0 (aV.mk (aF.mk 0 0 0) (aF.mk 0 0 0) (aF.mk 0 0 0) (aF.mk 0 0 0) 0 0) false) 0 0 0 0 0,true))) (
  cond (r1.2==2) (
   aa (aK N 4 r1.1) λr6=>
   some ((r6.1,aL.mk r1.2 r6.2 [] (bI.mk 0 0 0 0 (bN.mk (al 9 0) (cP.mk 0 0 0))) 0 (aB.mk 0 0 0 0 0 0 (aV.mk (aF.mk 0 0 0) (aF.mk 0 0 0) (aF.mk 0 0 0) (aF.mk 0 0 0) 0 0) false) 0 0 0 0 0,true))) (
   cond (r1.2==3) (
    aa (eP N r1.1) λr7=>
    aa (fL N 12 r7.1) λr8=>
    aa (pM r8.2 0 9) λs9=>
    aa (vecO 9 s9) λv10=>
    aa (idx r8.2 9) λe11=>
    aa (idx r8.2 10) λe12=>
    aa (idx r8.2 11) λe13=>
    some ((r8.1,aL.mk r1.2 0 [] (bI.mk r7.2.gL r7.2.gQ r7.2.gR r7.2.gN (bN.mk v10 (cP.mk e11 e12 e13))) 0 (aB.mk 0 0 0 0 0 0 (aV.mk (aF.mk 0 0 0) (aF.mk 0 0 0) (aF.mk 0 0 0) (aF.mk 0 0 0) 0 0) false) 0 0 0 0 0,true))) (
    cond (r1.2==4) (
     aa (eP N r1.1) λr14=>
     some ((r14.1,aL.mk r1.2 0 [] r14.2 0 (aB.mk 0 0 0 0 0 0 (aV.mk (aF.mk 0 0 0) (aF.mk 0 0 0) (aF.mk 0 0 0) (aF.mk 0 0 0) 0 0) false) 0 0 0 0 0,true))) (
     cond (r1.2==5) (
      aa (aK N 1 r1.1) λr15=>
      aa (iD N r15.1) λr16=>
      aa (aK N 2 r16.1) λr17=>
      some ((r17.1,aL.mk r1.2 0 [] (bI.mk 0 0 0 0 (bN.mk (al 9 0) (cP.mk 0 0 0))) r15.2 r16.2.1 r17.2 0 0 0 0,r16.2.2))) (
      aa (cond (r1.2==6) (some (r1.2==6)) (some (r1.2==9))) λp18=>
      cond p18 (
       aa (aK N 1 r1.1) λr19=>
       some ((r19.1,aL.mk r1.2 0 [] (bI.mk 0 0 0 0 (bN.mk (al 9 0) (cP.mk 0 0 0))) r19.2 (aB.mk 0 0 0 0 0 0 (aV.mk (aF.mk 0 0 0) (aF.mk 0 0 0) (aF.mk 0 0 0) (aF.mk 0 0 0) 0 0) false) 0 0 0 0 0,true))) (
       cond (r1.2==7) (
        aa (aK N 1 r1.1) λr20=>
        aa (aK N 1 r20.1) λr21=>
        aa (dI N 4 r21.1) λr22=>
        aa (aK N 4 r22.1) λr23=>
        some ((r23.1,aL.mk r1.2 0 [] (bI.mk 0 0 0 0 (bN.mk (al 9 0) (cP.mk 0 0 0))) r20.2 (aB.mk 0 0 0 0 0 0 (aV.mk (aF.mk 0 0 0) (aF.mk 0 0 0) (aF.mk 0 0 0) (aF.mk 0 0 0) 0 0) false) 0 r21.2 (U32 r22.2) r23.2 0,true))) (
        cond (r1.2==8) (
         aa (aK N 1 r1.1) λr24=>
         aa (aK N 1 r24.1) λr25=>
         some ((r25.1,aL.mk r1.2 0 [] (bI.mk 0 0 0 0 (bN.mk (al 9 0) (cP.mk 0 0 0))) r24.2 (aB.mk 0 0 0 0 0 0 (aV.mk (aF.mk 0 0 0) (aF.mk 0 0 0) (aF.mk 0 0 0) (aF.mk 0 0 0) 0 0) false) 0 r25.2 0 0 0,true))) (
         cond (r1.2==10) (
          aa (aK N 4 r1.1) λr26=>
          some ((r26.1,aL.mk r1.2 0 [] (bI.mk 0 0 0 0 (bN.mk (al 9 0) (cP.mk 0 0 0))) 0 (aB.mk 0 0 0 0 0 0 (aV.mk (aF.mk 0 0 0) (aF.mk 0 0 0) (aF.mk 0 0 0) (aF.mk 0 0 0) 0 0) false) 0 0 0 0 r26.2,true))) (
          some ((r1.1,aL.mk r1.2 0 [] (bI.mk 0 0 0 0 (bN.mk (al 9 0) (cP.mk 0 0 0))) 0 (aB.mk 0 0 0 0 0 0 (aV.mk (aF.mk 0 0 0) (aF.mk 0 0 0) (aF.mk 0 0 0) (aF.mk 0 0 0) 0 0) false) 0 0 0 0 0,false)))))))))))) λp2=>
 aa (kG N p2.1) λr27=>
 cond (r27 != 0) (
  some ((p2.1,p2.2.1,4))) (
  cond (!p2.2.2) (some ((p2.1,p2.2.1,5))) (some ((p2.1,p2.2.1,0))))
theorem pJ{N a0 r}(h:iX N a0=some r):FnM Tryz.prog 22 [.var (aE.enc a0)] [(.st 1 [(.ref 0 [] 0)])] (.tup [(aL.enc r.2.1),(j64 r.2.2)]) [.var (aE.enc r.1)]:=by
 unfold iX at h;refine At.f dQ hT hmo Tryz.func22 rfl h ?_;refine At.b 4 (λ_ e=>aM [0] (aH e)) λr1=>?_;refine At.J 3 1 [1,2] 3 (λp2=>([(4,(eB p2.2.2))],[(0,.var (aE.enc p2.1)),(2,.var (aL.enc p2.2.1))],[])) (λp2=>?_) λp2=>?_
 ·refine At.c 4 ?_ ?_
  ·refine At.b 1 (λ_ e=>aM [0] (aH e)) λr3=>?_;refine bi λr4 hr4=>?_;refine bi λr5 hr5=>?_;refine At.d 2 dE0 (dF 3 (j64 r4.2) [(0,.var (aE.enc r4.1))] [] (bK (aM [0] (aH hr4))) (dF 4 (eL 1 k8 r5.2) [(0,.var (aE.enc r5.1))] [] (bK (aM [0] (lN hr5))) dF0)) ?_;apply rt;exact At.jn 0
  ·refine At.c 2 ?_ ?_
   ·refine At.b 1 (λ_ e=>aM [0] (aH e)) λr6=>?_;apply rt;exact At.jn 2
   ·refine At.c 2 ?_ ?_
    ·refine At.b 1 (λ_ e=>aM [0] (kC e)) λr7=>?_;refine At.b 3 (λ_ e=>aM [0] (nH e)) λr8=>?_;refine At.b 2 (λ_ e=>oQ hT (k:=1) j64 e) λs9=>?_;refine At.b 0 (λv10 e=>aGG hT j64 s9 v10 e rfl (by kernel_rfl) (by kernel_rfl)) λv10=>?_;refine bi λe11 he11=>?_;refine bi λe12 he12=>?_;refine bi λe13 he13=>?_;refine At.d 5 (dE1 1 (λ_=>dW hT j64 he11) (dE1 4 (λ_=>dW hT j64 he12) (dE1 7 (λ_=>dW hT j64 he13) dE0))) dF0 ?_;apply rt;exact At.jn 0
    ·refine At.c 2 ?_ ?_
     ·refine At.b 1 (λ_ e=>aM [0] (kC e)) λr14=>?_;apply rt;exact At.jn 2
     ·refine At.c 2 ?_ ?_
      ·refine At.b 1 (λ_ e=>aM [0] (aH e)) λr15=>?_;refine At.b 3 (λ_ e=>aM [0] (nY e)) λr16=>?_;refine At.b 7 (λ_ e=>aM [0] (aH e)) λr17=>?_;apply rt;exact At.jn 2
      ·refine At.J 0 1 [1,2,4,10] 3 (λp18=>([(73,(eB p18))],[],[])) (λp18=>?_) λp18=>?_
       ·refine At.c 2 ?_ ?_
        ·apply rt;exact At.jn 0
        ·apply rt;exact At.jn 2
       ·refine At.c 0 ?_ ?_
        ·refine At.b 1 (λ_ e=>aM [0] (aH e)) λr19=>?_;apply rt;exact At.jn 2
        ·refine At.c 2 ?_ ?_
         ·refine bi λr20 hr20=>?_;refine bi λr21 hr21=>?_;refine At.d 0 dE0 (dF 1 (j64 r20.2) [(0,.var (aE.enc r20.1))] [] (bK (aM [0] (aH hr20))) (dF 3 (j64 r21.2) [(0,.var (aE.enc r21.1))] [] (bK (aM [0] (aH hr21))) dF0)) ?_;refine bi λr22 hr22=>?_;refine bi λr23 hr23=>?_;refine At.d 0 dE0 (dF 2 (k64 r22.2) [(0,.var (aE.enc r22.1))] [] (bK (aM [0] (fM hr22))) (dF 5 (j64 r23.2) [(0,.var (aE.enc r23.1))] [] (bK (aM [0] (aH hr23))) dF0)) ?_;apply rt;exact At.jn 0
         ·refine At.c 2 ?_ ?_
          ·refine bi λr24 hr24=>?_;refine bi λr25 hr25=>?_;refine At.d 0 dE0 (dF 1 (j64 r24.2) [(0,.var (aE.enc r24.1))] [] (bK (aM [0] (aH hr24))) (dF 3 (j64 r25.2) [(0,.var (aE.enc r25.1))] [] (bK (aM [0] (aH hr25))) dF0)) ?_;apply rt;exact At.jn 0
          ·refine At.c 2 ?_ ?_
           ·refine At.b 1 (λ_ e=>aM [0] (aH e)) λr26=>?_;apply rt;exact At.jn 2
           ·apply rt;exact At.jn 1
 ·refine At.b 2 (λ_ e=>aM [0] (rD e)) λr27=>?_;refine At.c 2 ?_ ?_
  ·apply rt;exact At.r 3
  ·refine At.c 3 ?_ ?_
   ·apply rt;exact At.r 3
   ·apply rt;exact At.r 3
def lJ(N:Nat)(a0:(List Int)):Nat->(List aL)->(List Int)->Int->Bool->Option (Sum ((List aL)×aE) ((List aL)×Int×Int))
 | 0,_,_,_,_=>none
 | k+1,s4,s5,s6,s7=>
  aa (hZ N (aE.mk s5 s6 s7)) λr8=>
  cond (decide (r8 > 0)) (
   aa (hZ N (aE.mk s5 s6 s7)) λr9=>
   bS (I64 (((a0.length:Int)) - r9)) λx10=>
   bS (((s4.length:Int))==256) λx11=>
   cond x11 (
    some (Sum.inr ((s4,x10,3)))) (
    aa (iX N (aE.mk s5 s6 s7)) λr12=>
    cond (r12.2.2 != 0) (
     some (Sum.inr ((s4,x10,r12.2.2)))) (
     aa (nR 384 s4 (([r12.2.1]:List aL))) λz13=>
     lJ N a0 k z13 r12.1.gb r12.1.ge r12.1.gB5))) (
   some (Sum.inl ((s4,aE.mk s5 s6 s7))))
def nB(N:Nat)(a0:(List Int)):Option ((List aL)×Int×Int):=
 bS (decide (((a0.length:Int)) > 65536)) λx1=>
 cond x1 (
  some (([],0,3))) (
  aa (rO N a0) λr2=>
  aa (lJ N a0 N [] r2 0 true) λo=>rH o (λp3=>
   some ((p3.1,(a0.length:Int),0))) (λr=>some r))
theorem vT{N a0 r}(h:nB N a0=some r):FnM Tryz.prog 12 [] [(eL 1 k8 a0)] (.tup [(eL 46 aL.enc r.1),(j64 r.2.1),(j64 r.2.2)]) []:=by
 unfold nB at h;refine At.f dQ hT hmo Tryz.func12 rfl h ?_;refine lx ?_;intro x1;refine At.c 6 ?_ ?_
 ·apply rt;exact At.r 3
 ·refine At.b 1 (λ_ e=>aM [] (aAf e)) λr2=>?_;refine At.ownn 3 2 46 ?_;refine At.LS 0 [0] 4 (λp3=>([(2,(eO 3 46 aL.enc p3.1))],[(1,.var (aE.enc p3.2)),(3,.tail (p3.1.length*46))],[])) (λop3 J k=>∃s4 s5 s6 s7,lJ N a0 k s4 s5 s6 s7=some op3/\J [0,5] 4 [(2,(eO 3 46 aL.enc s4))] [(1,.var (.st 3 [(eL 1 k8 s5),(j64 s6),(eB s7)])),(3,.tail (s4.length*46))] []) N (λ_ h=>⟨_,_,_,_,h,jr⟩) (λop3 g3 k s hI=>?_) λp3=>?_
  ·obtain⟨s4,s5,s6,s7,h,hj⟩:=hI;cases k with
   | zero=>cases h
   | succ k=>
    refine At.jr hj ?_ h;refine At.b 2 (λ_ e=>aM [1] (mC e)) λr8=>?_;refine At.c 1 ?_ ?_
    ·refine At.b 4 (λ_ e=>aM [1] (mC e)) λr9=>?_;refine lx ?_;intro x10;refine lx ?_;intro x11;refine At.c 5 ?_ ?_
     ·intro e;apply zV g3 e;exact At.r 5
     ·refine At.b 1 (λ_ e=>aM [1] (pJ e)) λr12=>?_;refine At.c 8 ?_ ?_
      ·intro e;apply zV g3 e;exact At.r 6
      ·refine At.o 2 (bV hT (x:=(.sl 46 1 [(aL.enc r12.2.1)]))) ?_;refine At.b 0 (λ_ e=>iH hT aL.enc (id:=3) (k:=46) e) λz13=>?_;exact λh=>At.k 1 ⟨_,_,_,_,h,jr⟩
    ·apply rt;exact At.xs 0
  ·apply rt;exact At.r 6
def rN(N:Nat):Option (Unit):=
 some (())
theorem aAv{N r}(h:rN N=some r):FnM Tryz.prog 43 [] [] (.ref 2 [] 0) [.mp (eM .i64 aQ.enc []),.mp (.kv []),.var (.st 2 [(.mp 0),(.mp 1)])]:=by
 unfold rN at h;refine At.f dQ hT hmo Tryz.func43 rfl h ?_;refine At.o 1 (uV .i64 aQ.enc (by kernel_rfl) (by kernel_rfl)) ?_;refine At.o 0 (uV .i64 j64 (by kernel_rfl) (by kernel_rfl)) ?_;apply rt;exact At.r 3
def uY(N:Nat):Option (Unit):=
 some (())
theorem aB6{N r}(h:uY N=some r):FnM Tryz.prog 112 [] [] (.ref 0 [] 0) [.var (.st 73 [(.arr 8 1 [(k32 1779033703),(k32 3144134277),(k32 1013904242),(k32 2773480762),(k32 1359893119),(k32 2600822924),(k32 528734635),(k32 1541459225)]),(eA 64 1 k8 (al 64 0)),(j64 0)])]:=by
 unfold uY at h;refine At.f dQ hT hmo Tryz.func112 rfl h ?_;apply rt;exact At.r 5
def jZ(N:Nat)(a0:bA):Option (Bool):=
 bS ((eqV (λa b=>a==b)) a0.gh (al 8 0)) λx1=>
 bS (cond x1 (a0.gn==0) false) λx2=>
 some x2
theorem oH{N a0 r}(h:jZ N a0=some r):FnM Tryz.prog 159 [.var (bA.enc a0)] [(.ref 0 [] 0)] (eB r) [.var (bA.enc a0)]:=by
 unfold jZ at h;refine At.f dQ hT hmo Tryz.func159 rfl h ?_;refine At.o 2 (qC hT (t:=229) (x:=(.ref 0 [] 0)) (b:=true) (by kernel_rfl) rfl rfl (by kernel_rfl)) ?_;refine At.g [5] 6 ?_;refine At.o 0 (aFv aGC (a0.gh:(Vector Int 8)) (al 8 0:(Vector Int 8)) (by kernel_rfl) (by kernel_rfl) (λ_=>rfl) (λ_=>rfl) (by kernel_rfl) (by kernel_rfl)) ?_;refine lx ?_;intro x1;refine lx ?_;intro x2;refine At.g [5] 9 ?_;apply rt;exact At.r 0
def iK(N:Nat)(a0 a1:Int):Option (Int):=
 aa (aBU .u32 a0 (aCS .u64 (U64 a1) 31)) λx1=>
 bS (U64 (32 - (aCS .u64 (U64 a1) 31))) λx2=>
 aa (yC .u32 a0 x2) λx3=>
 some (bor .u32 x1 x3)
theorem oK{N a0 a1 r}(h:iK N a0 a1=some r):FnM Tryz.prog 281 [] [(k32 a0),(j64 a1)] (k32 r) []:=by
 unfold iK at h;refine At.f dQ hT hmo Tryz.func281 rfl h ?_;refine At.b 7 (λ_ e=>uA hT (k' := .u64) e (by kernel_rfl) (by kernel_rfl)) λx1=>?_;refine lx ?_;intro x2;refine At.b 3 (λ_ e=>pZ hT (k' := .u64) e (by kernel_rfl) (by kernel_rfl)) λx3=>?_;apply rt;exact At.r 2
def iF(N:Nat)(a0 a1:Int):Option (Int):=
 aa (iK N a0 (I64 (0 - a1))) λr1=>
 some r1
theorem iM{N a0 a1 r}(h:iF N a0 a1=some r):FnM Tryz.prog 222 [] [(k32 a0),(j64 a1)] (k32 r) []:=by
 unfold iF at h;refine At.f dQ hT hmo Tryz.func222 rfl h ?_;refine At.b 4 (λ_ e=>aM [] (oK e)) λr1=>?_;apply rt;exact At.r 1
def xO : Nat->Bool:=imL [2,3]
def eK : (Vector Int 64):=#v[1116352408,1899447441,3049323471,3921009573,961987163,1508970993,2453635748,2870763221,3624381080,310598401,607225278,1426881987,1925078388,2162078206,2614888103,3248222580,3835390401,4022224774,264347078,604807628,770255983,1249150122,1555081692,1996064986,2554220882,2821834349,2952996808,3210313671,3336571891,3584528711,113926993,338241895,666307205,773529912,1294757372,1396182291,1695183700,1986661051,2177026350,2456956037,2730485921,2820302411,3259730800,3345764771,3516065817,3600352804,4094571909,275423344,430227734,506948616,659060556,883997877,958139571,1322822218,1537002063,1747873779,1955562222,2024104815,2227730452,2361852424,2428436474,2756734187,3204031479,3329325298]
def lZ(N:Nat)(a1:(Vector Int 64)):Nat->(Vector Int 64)->Int->Option ((Vector Int 64))
 | 0,_,_=>none
 | k+1,s2,s3=>
  cond (decide (s3 < 64)) (
   aa (cond (decide (s3 < 16)) (
    aa (idx a1.toList (I64 (4*s3))) λe5=>
    bS (I64 ((I64 (4*s3))+1)) λx6=>
    aa (idx a1.toList x6) λe7=>
    bS (bor .u32 (shl .u32 (U32 e5) 24) (shl .u32 (U32 e7) 16)) λx8=>
    bS (I64 ((I64 (4*s3))+2)) λx9=>
    aa (idx a1.toList x9) λe10=>
    bS (bor .u32 x8 (shl .u32 (U32 e10) 8)) λx11=>
    bS (I64 ((I64 (4*s3))+3)) λx12=>
    aa (idx a1.toList x12) λe13=>
    aa (jL s3 64) λ_=>
    aa (s2.toList[s3.toNat]?) λe15=>
    some (s2.setIfInBounds s3.toNat (bor .u32 x11 (U32 e13)))) (
    aa (jL (I64 (s3 - 15)) 64) λ_=>
    aa (s2.toList[(I64 (s3 - 15)).toNat]?) λe17=>
    aa (jL (I64 (s3 - 2)) 64) λ_=>
    aa (s2.toList[(I64 (s3 - 2)).toNat]?) λe19=>
    aa (jL (I64 (s3 - 16)) 64) λ_=>
    aa (s2.toList[(I64 (s3 - 16)).toNat]?) λe21=>
    aa (iF N e17 7) λr22=>
    aa (iF N e17 18) λr23=>
    bS (xV .u32 (xV .u32 r22 r23) (shr .u32 e17 3)) λx24=>
    aa (jL (I64 (s3 - 7)) 64) λ_=>
    aa (s2.toList[(I64 (s3 - 7)).toNat]?) λe26=>
    bS (U32 ((U32 (e21+x24))+e26)) λx27=>
    aa (iF N e19 17) λr28=>
    aa (iF N e19 19) λr29=>
    bS (xV .u32 (xV .u32 r28 r29) (shr .u32 e19 10)) λx30=>
    aa (jL s3 64) λ_=>
    aa (s2.toList[s3.toNat]?) λe32=>
    some (s2.setIfInBounds s3.toNat (U32 (x27+x30))))) λp4=>
   lZ N a1 k p4 (I64 (s3+1))) (
   some s2)
def mD(N:Nat)(p1:(Vector Int 64)):Nat->(Vector Int 8)->Int->Option ((Vector Int 8))
 | 0,_,_=>none
 | k+1,s34,s35=>
  cond (decide (s35 < 64)) (
   aa (jL 0 8) λ_=>
   aa (s34.toList[(bq 0)]?) λe37=>
   aa (jL 4 8) λ_=>
   aa (s34.toList[(bq 4)]?) λe39=>
   aa (jL 7 8) λ_=>
   aa (s34.toList[(bq 7)]?) λe41=>
   aa (iF N e39 6) λr42=>
   aa (iF N e39 11) λr43=>
   aa (iF N e39 25) λr44=>
   bS (xV .u32 (xV .u32 r42 r43) r44) λx45=>
   aa (jL 5 8) λ_=>
   aa (s34.toList[(bq 5)]?) λe47=>
   aa (jL 6 8) λ_=>
   aa (s34.toList[(bq 6)]?) λe49=>
   bS (aCS .u32 (bnot .u32 e39) e49) λx50=>
   bS (xV .u32 (aCS .u32 e39 e47) x50) λx51=>
   bS (U32 ((U32 (e41+x45))+x51)) λx52=>
   aa (jL s35 64) λ_=>
   aa (eK.toList[s35.toNat]?) λe54=>
   aa (jL s35 64) λ_=>
   aa (p1.toList[s35.toNat]?) λe56=>
   bS (U32 ((U32 (x52+e54))+e56)) λx57=>
   aa (iF N e37 2) λr58=>
   aa (iF N e37 13) λr59=>
   aa (iF N e37 22) λr60=>
   bS (xV .u32 (xV .u32 r58 r59) r60) λx61=>
   aa (jL 1 8) λ_=>
   aa (s34.toList[(bq 1)]?) λe63=>
   aa (jL 2 8) λ_=>
   aa (s34.toList[(bq 2)]?) λe65=>
   bS (xV .u32 (aCS .u32 e37 e63) (aCS .u32 e37 e65)) λx66=>
   aa (jL 1 8) λ_=>
   aa (s34.toList[(bq 1)]?) λe68=>
   aa (jL 2 8) λ_=>
   aa (s34.toList[(bq 2)]?) λe70=>
   bS (xV .u32 x66 (aCS .u32 e68 e70)) λx71=>
   bS (U32 (x57+(U32 (x61+x71)))) λx72=>
   aa (jL 0 8) λ_=>
   aa (s34.toList[(bq 0)]?) λe74=>
   aa (jL 1 8) λ_=>
   aa (s34.toList[(bq 1)]?) λe76=>
   aa (jL 2 8) λ_=>
   aa (s34.toList[(bq 2)]?) λe78=>
   aa (jL 3 8) λ_=>
   aa (s34.toList[(bq 3)]?) λe80=>
   aa (jL 4 8) λ_=>
   aa (s34.toList[(bq 4)]?) λe82=>
   aa (jL 5 8) λ_=>
   aa (s34.toList[(bq 5)]?) λe84=>
   aa (jL 6 8) λ_=>
   aa (s34.toList[(bq 6)]?) λe86=>
   mD N p1 k (#v[x72,e74,e76,e78,U32 (e80+x57),e82,e84,e86]) (I64 (s35+1))) (
   some s34)
def mB(N:Nat)(a0:(Vector Int 8)):Nat->(Vector Int 8)->Int->Option ((Vector Int 8))
 | 0,_,_=>none
 | k+1,s88,s89=>
  cond (decide (s89 < 8)) (
   aa (jL s89 8) λ_=>
   aa (s88.toList[s89.toNat]?) λe91=>
   aa (idx a0.toList s89) λe92=>
   aa (jL s89 8) λ_=>
   aa (s88.toList[s89.toNat]?) λe94=>
   mB N a0 k (s88.setIfInBounds s89.toNat (U32 (e91+e92))) (I64 (s89+1))) (
   some s88)
def oG(N:Nat)(a0:(Vector Int 8))(a1:(Vector Int 64)):Option ((Vector Int 8)):=
 aa (lZ N a1 N (al 64 0) 0) λp1=>
 aa (mD N p1 N a0 0) λp33=>
 aa (mB N a0 N p33 0) λp87=>
 some p87
theorem wV{N a0 a1 r}(h:oG N a0 a1=some r):FnM Tryz.prog 160 [] [(eA 8 1 k32 a0),(eA 64 1 k8 a1)] (eA 8 1 k32 r) []:=by
 unfold oG at h;refine At.f xO hT hmo Tryz.func160 rfl h ?_;refine At.L 8 [2,4,5,6] 3 (λp1=>([],[(2,.var (eA 64 1 k32 p1))],[])) (λp1 J k=>∃s2 s3,lZ N a1 k s2 s3=some p1/\J [2,3,4,5,6] 3 [(18,(j64 s3))] [(2,.var (eA 64 1 k32 s2))] []) N (λ_ h=>⟨_,_,h,jr⟩) (λp1 k s hI=>?_) λp1=>?_
 ·obtain⟨s2,s3,h,hj⟩:=hI;cases k with
  | zero=>cases h
  | succ k=>
   refine At.jr hj ?_ h;refine At.c 1 ?_ ?_
   ·refine At.J 0 2 [2,3,4,5,6,18] 3 (λp4=>([],[(2,.var (eA 64 1 k32 p4))],[])) (λp4=>?_) λp4=>?_
    ·refine At.c 4 ?_ ?_
     ·refine bi λe5 he5=>?_;refine lx ?_;intro x6;refine bi λe7 he7=>?_;refine lx ?_;intro x8;refine lx ?_;intro x9;refine bi λe10 he10=>?_;refine lx ?_;intro x11;refine lx ?_;intro x12;refine bi λe13 he13=>?_;refine bi λu14 hu14=>?_;refine bi λe15 he15=>?_;refine At.d 0 (dE1 3 (λ_=>sJ hT (N:=64) (k:=1) k8 a1 he5) (dE1 10 (λ_=>sJ hT (N:=64) (k:=1) k8 a1 he7) (dE1 18 (λ_=>sJ hT (N:=64) (k:=1) k8 a1 he10) (dE1 26 (λ_=>sJ hT (N:=64) (k:=1) k8 a1 he13) (dE1 30 (λ_=>cL hT (k:=1) 2 [] 0 hu14) dE0))))) (dF 31 (.v (.bool false)) [(2,.var (eA 64 1 k32 (s2.setIfInBounds s3.toNat (bor .u32 x11 (U32 e13)))))] [] (bK (qK hT k32 0 s2 he15 (bor .u32 x11 (U32 e13)) (by kernel_rfl) (by kernel_rfl) (H':=[.var (eA 8 1 k32 (al 8 0)),.var (eA 64 1 k32 eK),.var (eA 64 1 k32 (s2.setIfInBounds s3.toNat (bor .u32 x11 (U32 e13))))]))) dF0) ?_;apply rt;exact At.jn 0
     ·refine bi λu16 hu16=>?_;refine bi λe17 he17=>?_;refine bi λu18 hu18=>?_;refine bi λe19 he19=>?_;refine At.d 0 (dE1 2 (λ_=>cL hT (k:=1) 2 [] 0 hu16) (dEL hT 3 (k32 e17) k32 0 he17 (dE1 6 (λ_=>cL hT (k:=1) 2 [] 0 hu18) (dEL hT 7 (k32 e19) k32 0 he19 dE0)))) dF0 ?_;refine bi λu20 hu20=>?_;refine bi λe21 he21=>?_;refine bi λr22 hr22=>?_;refine bi λr23 hr23=>?_;refine lx ?_;intro x24;refine bi λu25 hu25=>?_;refine bi λe26 he26=>?_;refine lx ?_;intro x27;refine bi λr28 hr28=>?_;refine bi λr29 hr29=>?_;refine lx ?_;intro x30;refine bi λu31 hu31=>?_;refine bi λe32 he32=>?_;refine At.d 0 (dE1 3 (λ_=>cL hT (k:=1) 2 [] 0 hu20) (dEL hT 4 (k32 e21) k32 0 he21 (dE2 6 (k32 r22) (λ_=>eZ (iM hr22)) (dE2 8 (k32 r23) (λ_=>eZ (iM hr23)) (dE1 16 (λ_=>cL hT (k:=1) 2 [] 0 hu25) (dEL hT 17 (k32 e26) k32 0 he26 (dE2 20 (k32 r28) (λ_=>eZ (iM hr28)) (dE2 22 (k32 r29) (λ_=>eZ (iM hr29)) (dE1 28 (λ_=>cL hT (k:=1) 2 [] 0 hu31) dE0))))))))) (dF 29 (.v (.bool false)) [(2,.var (eA 64 1 k32 (s2.setIfInBounds s3.toNat (U32 (x27+x30)))))] [] (bK (qK hT k32 0 s2 he32 (U32 (x27+x30)) (by kernel_rfl) (by kernel_rfl) (H':=[.var (eA 8 1 k32 (al 8 0)),.var (eA 64 1 k32 eK),.var (eA 64 1 k32 (s2.setIfInBounds s3.toNat (U32 (x27+x30))))]))) dF0) ?_;apply rt;exact At.jn 0
    ·exact λh=>At.k 2 ⟨_,_,h,jr⟩
   ·apply rt;exact At.x 0
 ·refine At.L 4 [2,4,10] 4 (λp33=>([],[(3,.var (eA 8 1 k32 p33))],[])) (λp33 J k=>∃s34 s35,mD N p1 k s34 s35=some p33/\J [2,4,5,6,10] 4 [(93,(j64 s35))] [(3,.var (eA 8 1 k32 s34))] []) N (λ_ h=>⟨_,_,h,jr⟩) (λp33 k s hI=>?_) λp33=>?_
  ·obtain⟨s34,s35,h,hj⟩:=hI;cases k with
   | zero=>cases h
   | succ k=>
    refine At.jr hj ?_ h;refine At.c 1 ?_ ?_
    ·refine bi λu36 hu36=>?_;refine bi λe37 he37=>?_;refine bi λu38 hu38=>?_;refine bi λe39 he39=>?_;refine At.d 2 (dE1 0 (λ_=>cL hT (k:=1) 3 [] 0 hu36) (dEL hT 1 (k32 e37) k32 0 he37 (dE1 2 (λ_=>cL hT (k:=1) 3 [] 0 hu38) (dEL hT 3 (k32 e39) k32 0 he39 dE0)))) dF0 ?_;refine bi λu40 hu40=>?_;refine bi λe41 he41=>?_;refine bi λr42 hr42=>?_;refine bi λr43 hr43=>?_;refine bi λr44 hr44=>?_;refine lx ?_;intro x45;refine bi λu46 hu46=>?_;refine bi λe47 he47=>?_;refine bi λu48 hu48=>?_;refine bi λe49 he49=>?_;refine lx ?_;intro x50;refine lx ?_;intro x51;refine lx ?_;intro x52;refine bi λu53 hu53=>?_;refine bi λe54 he54=>?_;refine bi λu55 hu55=>?_;refine bi λe56 he56=>?_;refine lx ?_;intro x57;refine At.d 0 (dE1 0 (λ_=>cL hT (k:=1) 3 [] 0 hu40) (dEL hT 1 (k32 e41) k32 0 he41 (dE2 3 (k32 r42) (λ_=>eZ (iM hr42)) (dE2 5 (k32 r43) (λ_=>eZ (iM hr43)) (dE2 8 (k32 r44) (λ_=>eZ (iM hr44)) (dE1 12 (λ_=>cL hT (k:=1) 3 [] 0 hu46) (dEL hT 13 (k32 e47) k32 0 he47 (dE1 17 (λ_=>cL hT (k:=1) 3 [] 0 hu48) (dEL hT 18 (k32 e49) k32 0 he49 (dE1 23 (λ_=>cL hT (k:=1) 1 [] 0 hu53) (dEL hT 24 (k32 e54) k32 0 he54 (dE1 27 (λ_=>cL hT (k:=1) 2 [] 0 hu55) (dEL hT 28 (k32 e56) k32 0 he56 dE0))))))))))))) dF0 ?_;refine bi λr58 hr58=>?_;refine bi λr59 hr59=>?_;refine bi λr60 hr60=>?_;refine lx ?_;intro x61;refine bi λu62 hu62=>?_;refine bi λe63 he63=>?_;refine bi λu64 hu64=>?_;refine bi λe65 he65=>?_;refine lx ?_;intro x66;refine bi λu67 hu67=>?_;refine bi λe68 he68=>?_;refine bi λu69 hu69=>?_;refine bi λe70 he70=>?_;refine lx ?_;intro x71;refine At.d 0 (dE2 1 (k32 r58) (λ_=>eZ (iM hr58)) (dE2 3 (k32 r59) (λ_=>eZ (iM hr59)) (dE2 6 (k32 r60) (λ_=>eZ (iM hr60)) (dE1 9 (λ_=>cL hT (k:=1) 3 [] 0 hu62) (dEL hT 10 (k32 e63) k32 0 he63 (dE1 13 (λ_=>cL hT (k:=1) 3 [] 0 hu64) (dEL hT 14 (k32 e65) k32 0 he65 (dE1 17 (λ_=>cL hT (k:=1) 3 [] 0 hu67) (dEL hT 18 (k32 e68) k32 0 he68 (dE1 19 (λ_=>cL hT (k:=1) 3 [] 0 hu69) (dEL hT 20 (k32 e70) k32 0 he70 dE0))))))))))) dF0 ?_;refine lx ?_;intro x72;refine At.b 3 (λ_ e=>cL hT (k:=1) 3 [] 0 e) λu73=>?_;refine At.b 0 (λ_ e=>oX hT k32 0 e) λe74=>?_;refine At.b 0 (λ_ e=>cL hT (k:=1) 3 [] 0 e) λu75=>?_;refine At.b 0 (λ_ e=>oX hT k32 0 e) λe76=>?_;refine At.b 0 (λ_ e=>cL hT (k:=1) 3 [] 0 e) λu77=>?_;refine At.b 0 (λ_ e=>oX hT k32 0 e) λe78=>?_;refine At.b 0 (λ_ e=>cL hT (k:=1) 3 [] 0 e) λu79=>?_;refine At.b 0 (λ_ e=>oX hT k32 0 e) λe80=>?_;refine At.b 2 (λ_ e=>cL hT (k:=1) 3 [] 0 e) λu81=>?_;refine At.b 0 (λ_ e=>oX hT k32 0 e) λe82=>?_;refine At.b 0 (λ_ e=>cL hT (k:=1) 3 [] 0 e) λu83=>?_;refine At.b 0 (λ_ e=>oX hT k32 0 e) λe84=>?_;refine At.b 0 (λ_ e=>cL hT (k:=1) 3 [] 0 e) λu85=>?_;refine At.b 0 (λ_ e=>oX hT k32 0 e) λe86=>?_;exact λh=>At.k 4 ⟨_,_,h,jr⟩
    ·apply rt;exact At.x 0
  ·refine At.L 1 [4,10] 4 (λp87=>([],[(3,.var (eA 8 1 k32 p87))],[])) (λp87 J k=>∃s88 s89,mB N a0 k s88 s89=some p87/\J [2,4,10] 4 [(175,(j64 s89))] [(3,.var (eA 8 1 k32 s88))] []) N (λ_ h=>⟨_,_,h,jr⟩) (λp87 k s hI=>?_) λp87=>?_
   ·obtain⟨s88,s89,h,hj⟩:=hI;cases k with
    | zero=>cases h
    | succ k=>
     refine At.jr hj ?_ h;refine At.c 1 ?_ ?_
     ·refine bi λu90 hu90=>?_;refine bi λe91 he91=>?_;refine bi λe92 he92=>?_;refine bi λu93 hu93=>?_;refine bi λe94 he94=>?_;refine At.d 2 (dE1 1 (λ_=>cL hT (k:=1) 3 [] 0 hu90) (dEL hT 2 (k32 e91) k32 0 he91 (dE1 4 (λ_=>sJ hT (N:=8) (k:=1) k32 a0 he92) (dE1 7 (λ_=>cL hT (k:=1) 3 [] 0 hu93) dE0)))) (dF 8 (.v (.bool false)) [(3,.var (eA 8 1 k32 (s88.setIfInBounds s89.toNat (U32 (e91+e92)))))] [] (bK (qK hT k32 0 s88 he94 (U32 (e91+e92)) (by kernel_rfl) (by kernel_rfl) (H':=[.var (eA 8 1 k32 (al 8 0)),.var (eA 64 1 k32 eK),.var (eA 64 1 k32 p1),.var (eA 8 1 k32 (s88.setIfInBounds s89.toNat (U32 (e91+e92))))]))) dF0) ?_;exact λh=>At.k 2 ⟨_,_,h,jr⟩
     ·apply rt;exact At.x 0
   ·apply rt;exact At.r 2
def fK(N:Nat)  : Nat->bA->(List Int)->Option (bA)
 | 0,_,_=>none
 | k+1,s8,s9=>
  bS (decide (((s9.length:Int)) > 0)) λx10=>
  cond x10 (
   aa (slcL 64 (cy s8.gn 64) 64) λ_=>
   aa (cpV s8.gC6 s9 ((cy s8.gn 64).toNat) ((64:Int).toNat - (cy s8.gn 64).toNat)) λv12=>
   bS (((min s9.length ((64:Int).toNat - (cy s8.gn 64).toNat):Nat):Int)) λx13=>
   aa (pM s9 x13 ((s9.length:Int))) λs14=>
   bS (cy (I64 (s8.gn+x13)) 64) λx15=>
   cond (x15==0) (
    aa (oG N s8.gh v12) λr16=>
    fK N k (bA.mk r16 v12 (I64 (s8.gn+x13))) s14) (
    fK N k (bA.mk s8.gh v12 (I64 (s8.gn+x13))) s14)) (
   some s8)
def jH(N:Nat)(a0:(List (List Int))):Nat->bA->Int->Option (bA)
 | 0,_,_=>none
 | k+1,s3,s4=>
  bS (decide (s4 < ((a0.length:Int)))) λx5=>
  cond x5 (
   aa (idx a0 s4) λe6=>
   aa (fK N N s3 e6) λp7=>
   jH N a0 k p7 (I64 (s4+1))) (
   some s3)
def iS(N:Nat)(a0:(List (List Int)))(a1:bA):Option (bA):=
 aa (jZ N a1) λr1=>
 cond r1 (
  some a1) (
  aa (jH N a0 N a1 0) λp2=>
  some p2)
theorem mS{N a0 a1 r}(h:iS N a0 a1=some r):FnM Tryz.prog 113 [.var (bA.enc a1)] [(.ref 0 [] 0),(eL 1 (eL 1 k8) a0)] (.tup []) [.var (bA.enc r)]:=by
 unfold iS at h;refine At.f dQ hT hmo Tryz.func113 rfl h ?_;refine At.b 1 (λ_ e=>aM [0] (oH e)) λr1=>?_;refine At.c 0 ?_ ?_
 ·apply rt;exact At.r 0
 ·refine At.L 3 [] 1 (λp2=>([],[(0,.var (bA.enc p2))],[])) (λp2 J k=>∃s3 s4,jH N a0 k s3 s4=some p2/\J [0,9,10] 1 [(11,(j64 s4))] [(0,.var (bA.enc s3))] []) N (λ_ h=>⟨_,_,h,jr⟩) (λp2 k s hI=>?_) λp2=>?_
  ·obtain⟨s3,s4,h,hj⟩:=hI;cases k with
   | zero=>cases h
   | succ k=>
    refine At.jr hj ?_ h;refine lx ?_;intro x5;refine At.c 1 ?_ ?_
    ·refine At.b 0 (λ_ e=>dW hT (eL 1 k8) e) λe6=>?_;refine At.L 2 [0,9,10,11] 1 (λp7=>([],[(0,.var (bA.enc p7))],[])) (λp7 J k=>∃s8 s9,fK N k s8 s9=some p7/\J [0,9,10,11] 1 [(5,(eL 1 k8 s9))] [(0,.var (bA.enc s8))] []) N (λ_ h=>⟨_,_,h,jr⟩) (λp7 k s hI=>?_) λp7=>?_
     ·obtain⟨s8,s9,h,hj⟩:=hI;cases k with
      | zero=>cases h
      | succ k=>
       refine At.jr hj ?_ h;refine lx ?_;intro x10;refine At.c 3 ?_ ?_
       ·refine bi λs11 hs11=>?_;refine bi λv12 hv12=>?_;refine lx ?_;intro x13;refine At.d 0 (dE1 8 (λ_=>aEf hT (k:=1) 0 [1] 8 hs11 (by kernel_rfl) (by kernel_rfl)) dE0) (dF 10 (j64 (((min s9.length ((64:Int).toNat - (cy s8.gn 64).toNat):Nat):Int))) [(0,.var (.st 73 [(eA 8 1 k32 s8.gh),(eA 64 1 k8 v12),(j64 s8.gn)]))] [] (bK (aEo hT k8 (id:=0) (path:=[1]) (off:=8) (H':=[.var (.st 73 [(eA 8 1 k32 s8.gh),(eA 64 1 k8 v12),(j64 s8.gn)])]) hv12 (by kernel_rfl) (by kernel_rfl) (by kernel_rfl))) dF0) ?_;refine At.b 11 (λ_ e=>oQ hT (k:=1) k8 e) λs14=>?_;refine lx ?_;intro x15;refine At.c 7 ?_ ?_
        ·refine bi λr16 hr16=>?_;refine At.d 0 (dE2 9 (eA 8 1 k32 r16) (λ_=>eZ (wV hr16)) dE0) dF0 ?_;exact λh=>At.k 0 ⟨_,_,h,jr⟩
        ·exact λh=>At.k 0 ⟨_,_,h,jr⟩
       ·apply rt;exact At.x 0
     ·exact λh=>At.k 2 ⟨_,_,h,jr⟩
    ·apply rt;exact At.x 0
  ·apply rt;exact At.z 0
def qO(N:Nat)(x3 a0:Int):Nat->(List Int)->Int->Option ((List Int))
 | 0,_,_=>none
 | k+1,s8,s9=>
  cond (decide (s9 < 8)) (
   bS (I64 (((x3.toNat:Int)) - 1)) λx10=>
   bS (shl .u64 (U64 (imax a0 0)) 3) λx11=>
   aa (yC .u64 x11 (I64 (8*s9))) λx12=>
   aa (jL (I64 (x10 - s9)) x3.toNat) λ_=>
   aa (s8[(I64 (x10 - s9)).toNat]?) λe14=>
   qO N x3 a0 k (s8.set ((I64 (x10 - s9)).toNat) (U8 x12)) (I64 (s9+1))) (
   some s8)
def vD(N:Nat)(a0:Int):Option ((List Int)):=
 bS (cy (imax a0 0) 64) λx1=>
 bS (cy (I64 (119 - x1)) 64) λx2=>
 bS (I64 ((I64 (1+x2))+8)) λx3=>
 aa (mkO 1 x3) λ_=>
 aa (jL 0 x3.toNat) λ_=>
 aa ((List.replicate x3.toNat (0:Int))[(bq 0)]?) λe6=>
 aa (qO N x3 a0 N ((List.replicate x3.toNat (0:Int)).set ((bq 0)) 128) 0) λp7=>
 aa (lenO p7 x3.toNat) λ_=>
 some p7
theorem aCb{N a0 r}(h:vD N a0=some r):FnM Tryz.prog 161 [] [(j64 a0)] (eL 1 k8 r) []:=by
 unfold vD at h;refine At.f dQ hT hmo Tryz.func161 rfl h ?_;refine lx ?_;intro x1;refine lx ?_;intro x2;refine lx ?_;intro x3;refine At.b 10 (λ_ e=>aHj hT k8 ((0:Int)) (k:=1) (kd := .int .u8) e (by kernel_rfl) (by kernel_rfl) rfl) λu4=>?_;refine At.b 2 (λ_ e=>aCz hT 0 [] 0 0 x3.toNat (k:=1) e (by kernel_rfl) (by kernel_rfl)) λu5=>?_;refine At.b 0 (λ_ e=>aAj hT k8 0 e 128 (by kernel_rfl) (by kernel_rfl) (by kernel_rfl)) λe6=>?_;refine At.L 1 [3] 1 (λp7=>([],[(0,.var (.arr (x3.toNat*1) 1 (List.map k8 p7)))],[])) (λp7 J k=>∃s8 s9,qO N x3 a0 k s8 s9=some p7/\J [0,3] 1 [(16,(j64 s9))] [(0,.var (.arr (x3.toNat*1) 1 (List.map k8 s8)))] []) N (λ_ h=>⟨_,_,h,jr⟩) (λp7 k s hI=>?_) λp7=>?_
 ·obtain⟨s8,s9,h,hj⟩:=hI;cases k with
  | zero=>cases h
  | succ k=>
   refine At.jr hj ?_ h;refine At.c 1 ?_ ?_
   ·refine lx ?_;intro x10;refine lx ?_;intro x11;refine At.b 13 (λ_ e=>pZ hT (k' := .i64) e (by kernel_rfl) (by kernel_rfl)) λx12=>?_;refine At.b 1 (λ_ e=>aCz hT 0 [] 0 0 x3.toNat (k:=1) e (by kernel_rfl) (by kernel_rfl)) λu13=>?_;refine At.b 0 (λ_ e=>aAj hT k8 0 e (U8 x12) (by kernel_rfl) (by kernel_rfl) (by kernel_rfl)) λe14=>?_;exact λh=>At.k 2 ⟨_,_,h,jr⟩
   ·apply rt;exact At.x 0
 ·refine bi λu15 hu15=>?_;refine At.fz 2 0 1 x3.toNat _ (List.map k8 p7) (List.length_map _) (lenM k8 hu15) ?_;apply rt;exact At.r 0
end Go.UK
