/- A part of the proof: what the functions of the program compute. -/
import Derived.Test.YtfndgielkmppbaaDoorAJ1
open Int renaming tdiv→d9,tmod→d7
open Option renaming bind→ae
open Vector renaming replicate→br
namespace Go.UK
open Go Go.Proofs Go.Sort Go.RowKit
set_option maxRecDepth 20000
set_option maxHeartbeats 40000000
set_option linter.all false
attribute [local irreducible] adv yM xY mP brPt aBJ zY iH nQ bP fT cY aAE yI lPt owp awl aw FnM opS Stab TOK Big
def bI(N:Nat)(a0:(List aF)):Nat->(List Int)->Bool->Int->Option (Sum ((List Int)×Bool) ((List Int)×Int))
 | 0,_,_,_=>none
 | k+1,s3,s4,s5=>
  bQ (decide (s5 < ((a0.length:Int)))) λx6=>
  cond x6 (
   ae (ae (idx a0 s5) λe8=>
   ae (aE N s3 e8 s4) λq=>
   mG q (λr9=>
    some ((s3,true))) (λr10=>
    some ((r10.1,r10.2)))) λp7=>
   cond p7.2 (
    some (Sum.inr (([],2)))) (
    bI N a0 k p7.1 p7.2 (I64 (s5+1)))) (
   some (Sum.inl ((s3,s4))))
def aS(N:Nat)(a0:(List aF)):Option ((List Int)×Int):=
 bQ (decide (((a0.length:Int)) > 256)) λx1=>
 cond x1 (
  some (([],3))) (
  ae (bI N a0 N [] false 0) λo=>mG o (λp2=>
   bQ (decide (((p2.1.length:Int)) > 65536)) λx11=>
   cond x11 (some (([],3))) (some ((p2.1,0)))) (λr=>some r))
theorem oL{N a0 r}(h:aS N a0=some r):FnM Tryd.prog 30 [] [(eL 46 aF.enc a0)] (.tup [(eL 1 k8 r.1),(j64 r.2)]) []:=by
 unfold aS at h;refine At.f hJ hT hmo Tryd.func30 rfl h ?_;refine lx ?_;intro x1;refine At.c 5 ?_ ?_
 ·apply rt;exact At.r 2
 ·refine At.ownb 4 0 1 [0] ?_;refine At.LS 0 [4] 2 (λp2=>([],[(0,.var (.st 2 [(eO 1 1 k8 p2.1),(eB p2.2)])),(1,.tail (p2.1.length*1))],[])) (λop2 J k=>∃s3 s4 s5,bI N a0 k s3 s4 s5=some op2/\J [0,4] 2 [(5,(j64 s5))] [(0,.var (.st 2 [(eO 1 1 k8 s3),(eB s4)])),(1,.tail (s3.length*1))] []) N (λ_ h=>⟨_,_,_,h,jr⟩) (λop2 g2 k s hI=>?_) λp2=>?_
  ·obtain⟨s3,s4,s5,h,hj⟩:=hI;cases k with
   | zero=>cases h
   | succ k=>
    refine At.jr hj ?_ h;refine lx ?_;intro x6;refine At.c 4 ?_ ?_
    ·refine At.J 0 0 [0,4,5] 2 (λp7=>([],[(0,.var (.st 2 [(eO 1 1 k8 p7.1),(eB p7.2)])),(1,.tail (p7.1.length*1))],[])) (λp7=>?_) λp7=>?_
     ·refine At.b 3 (λ_ e=>cB hT aF.enc e) λe8=>?_;refine sumI (λr9 hr9=>?_) (λr10 hr10=>?_)
      ·refine At.o 1 (aL [0,1] (kP hr9)) ?_;apply rt;exact At.jn 0
      ·refine At.o 1 (aL [0,1] (kM hr10)) ?_;apply rt;exact At.jw 0 (zW 2 1 (by kernel_rfl) jr)
     ·refine At.c 4 ?_ ?_
      ·intro e;apply vN g2 e;exact At.r 2
      ·exact λh=>At.k 3 ⟨_,_,_,h,jr⟩
    ·apply rt;exact At.xs 0
  ·refine lx ?_;intro x11;refine At.c 6 ?_ ?_
   ·apply rt;exact At.r 2
   ·apply rt;exact At.r 6
def cT(N:Nat)(rcu:Nat->Int->Option (ByteArray))(a0:Int):Option (ByteArray):=
 bQ (a0==(-9223372036854775808)) λx1=>
 cond x1 (
  some aE7) (
  cond (decide (a0 < 0)) (
   ae (rcu N (I64 (0 - a0))) λr2=>
   ae (nB (ByteArray.mk #[45]) r2) λx3=>
   some x3) (
   cond (decide (a0 < 10)) (
    ae (aB5 aDZ a0 (I64 (a0+1))) λs4=>
    some s4) (
    ae (rcu N (I64 (d9 a0 10))) λr5=>
    bQ (I64 ((d7 a0 10)+1)) λx6=>
    ae (aB5 aDZ (d7 a0 10) x6) λs7=>
    ae (nB r5 s7) λx8=>
    some x8)))
def bS(N:Nat):Nat->Int->Option (ByteArray)
 | 0,_=>none
 | k+1,a0=>cT N (λ_=>bS N k) a0
def fL(N:Nat)(a0:Int):Option (ByteArray):=bS N N a0
theorem nH{N:Nat}:∀(k:Nat) {a0 r},bS N k a0=some r->FnM Tryd.prog 47 [] [(j64 a0)] (eS r) []:=by
 intro k
 induction k with
 | zero=>intro a0 r h;cases h
 | succ k ihr=>
  intro a0 r h;rw[bS] at h;unfold cT at h;refine At.f hJ hT hmo Tryd.func47 rfl h ?_;refine lx ?_;intro x1;refine At.c 4 ?_ ?_
  ·apply rt;exact At.r 1
  ·refine At.c 2 ?_ ?_
   ·refine At.b 2 (λ_ e=>aL [] (ihr e)) λr2=>?_;refine At.b 0 (λ_ e=>iO e (by kernel_rfl) (by kernel_rfl)) λx3=>?_;apply rt;exact At.r 1
   ·refine At.c 2 ?_ ?_
    ·refine At.b 4 (λ_ e=>aBQ hT e (by kernel_rfl) (by kernel_rfl)) λs4=>?_;apply rt;exact At.r 1
    ·refine bi λr5 hr5=>?_;refine lx ?_;intro x6;refine bi λs7 hs7=>?_;refine bi λx8 hx8=>?_;refine At.d 0 (dE2 2 (eS r5) (λ_=>iS (ihr hr5)) (dE1 9 (λ_=>aBQ hT hs7 (by kernel_rfl) (by kernel_rfl)) (dE1 10 (λ_=>iO hx8 (by kernel_rfl) (by kernel_rfl)) dE0))) dF0 ?_;apply rt;exact At.r 0
theorem nS{N a0 r}(h:fL N a0=some r):FnM Tryd.prog 47 [] [(j64 a0)] (eS r) []:=nH N h
def dE(N:Nat)(a1:(List Int)):Nat->ByteArray->Int->Option (ByteArray)
 | 0,_,_=>none
 | k+1,s2,s3=>
  bQ (decide (s3 < ((a1.length:Int)))) λx4=>
  cond x4 (
   ae (nB s2 (ByteArray.mk #[32])) λx5=>
   ae (idx a1 s3) λe6=>
   ae (fL N e6) λr7=>
   ae (nB x5 r7) λx8=>
   dE N a1 k x8 (I64 (s3+1))) (
   some s2)
def aU(N:Nat)(a0:ByteArray)(a1:(List Int)):Option (ByteArray):=
 ae (dE N a1 N a0 0) λp1=>
 some p1
theorem bR{N a0 a1 r}(h:aU N a0 a1=some r):FnM Tryd.prog 31 [] [(eS a0),(eL 1 j64 a1)] (eS r) []:=by
 unfold aU at h;refine At.f hJ hT hmo Tryd.func31 rfl h ?_;refine At.L 2 [] 0 (λp1=>([(0,(eS p1))],[],[])) (λp1 J k=>∃s2 s3,dE N a1 k s2 s3=some p1/\J [1] 0 [(0,(eS s2)),(5,(j64 s3))] [] []) N (λ_ h=>⟨_,_,h,jr⟩) (λp1 k s hI=>?_) λp1=>?_
 ·obtain⟨s2,s3,h,hj⟩:=hI;cases k with
  | zero=>cases h
  | succ k=>
   refine At.jr hj ?_ h;refine lx ?_;intro x4;refine At.c 4 ?_ ?_
   ·refine At.b 1 (λ_ e=>iO e (by kernel_rfl) (by kernel_rfl)) λx5=>?_;refine At.b 2 (λ_ e=>cB hT j64 e) λe6=>?_;refine At.b 1 (λ_ e=>aL [] (nS e)) λr7=>?_;refine At.b 0 (λ_ e=>iO e (by kernel_rfl) (by kernel_rfl)) λx8=>?_;exact λh=>At.k 4 ⟨_,_,h,jr⟩
   ·apply rt;exact At.x 0
 ·apply rt;exact At.r 2
def dN(N:Nat)(a0:(List Int)):Nat->(List Int)->Int->Option ((List Int))
 | 0,_,_=>none
 | k+1,s3,s4=>
  bQ (decide (s4 < ((a0.length:Int)))) λx5=>
  cond x5 (
   ae (idx a0 s4) λe6=>
   ae (idx vD.data.toList (U8 (d9 e6 16))) λc7=>
   ae (idx a0 s4) λe8=>
   ae (idx vD.data.toList (d7 e8 16)) λc9=>
   ae (jM 1 s3 (([(UInt8.toNat c7:Int),(UInt8.toNat c9:Int)]:List Int))) λz10=>
   dN N a0 k z10 (I64 (s4+1))) (
   some s3)
def dV(N:Nat)(a0:(List Int)):Option (ByteArray):=
 bQ (((a0.length:Int))==0) λx1=>
 cond x1 (
  some (ByteArray.mk #[45])) (
  ae (dN N a0 N [] 0) λp2=>
  some (zE p2))
theorem lR{N a0 r}(h:dV N a0=some r):FnM Tryd.prog 32 [] [(eL 1 k8 a0)] (eS r) []:=by
 unfold dV at h;refine At.f hJ hT hmo Tryd.func32 rfl h ?_;refine lx ?_;intro x1;refine At.c 5 ?_ ?_
 ·apply rt;exact At.r 1
 ·refine At.ownn 2 4 1 ?_;refine At.L 0 [] 1 (λp2=>([(4,(eO 0 1 k8 p2))],[(0,.tail (p2.length*1))],[])) (λp2 J k=>∃s3 s4,dN N a0 k s3 s4=some p2/\J [0,3] 1 [(4,(eO 0 1 k8 s3)),(5,(j64 s4))] [(0,.tail (s3.length*1))] []) N (λ_ h=>⟨_,_,h,jr⟩) (λp2 k s hI=>?_) λp2=>?_
  ·obtain⟨s3,s4,h,hj⟩:=hI;cases k with
   | zero=>cases h
   | succ k=>
    refine At.jr hj ?_ h;refine lx ?_;intro x5;refine At.c 4 ?_ ?_
    ·refine bi λe6 he6=>?_;refine bi λc7 hc7=>?_;refine bi λe8 he8=>?_;refine bi λc9 hc9=>?_;refine bi λz10 hz10=>?_;refine At.d 0 (dE1 4 (λ_=>cB hT k8 he6) (dE1 7 (λ_=>sZ hT hc7 (by kernel_rfl) (by kernel_rfl)) (dE1 11 (λ_=>cB hT k8 he8) (dE1 14 (λ_=>sZ hT hc9 (by kernel_rfl) (by kernel_rfl)) (dE1 15 (λ_=>aN hT (x:=(.sl 1 2 [(k8 ((UInt8.toNat c7:Int))),(k8 ((UInt8.toNat c9:Int)))]))) dE0))))) (dF 16 (eO 0 1 k8 z10) [(0,.tail (z10.length*1))] [] (jB (dZ hT k8 (id:=0) (k:=1) hz10)) dF0) ?_;exact λh=>At.k 3 ⟨_,_,h,jr⟩
    ·apply rt;exact At.x 0
  ·refine At.o 1 (aBZ hT p2 (v:=(eO 0 1 k8 p2)) (e:=5) (by kernel_rfl) (by kernel_rfl) (by kernel_rfl)) ?_;apply rt;exact At.r 1
def pS : Nat->Bool:=imL [1]
def cR(N:Nat)(a0:aF):Nat->(List Int)->Int->Option ((List Int))
 | 0,_,_=>none
 | k+1,s8,s9=>
  cond (decide (s9 < 9)) (
   ae (aBj s9 9) λ_=>
   ae (a0.gA.gT.gM.toList[s9.toNat]?) λe11=>
   ae (jM 8 s8 (([e11]:List Int))) λz12=>
   cR N a0 k z12 (I64 (s9+1))) (
   some s8)
def cW(N:Nat)(z13:(List Int)):Nat->Int->Option (Sum (Unit) (ByteArray×Int))
 | 0,_=>none
 | k+1,s15=>
  bQ (decide (s15 < ((z13.length:Int)))) λx16=>
  cond x16 (
   ae (ae (idx z13 s15) λe18=>
   bQ (decide (e18 > 4611686018427387904)) λx19=>
   cond x19 (
    some true) (
    ae (idx z13 s15) λe20=>
    bQ (decide (e20 < (-4611686018427387904))) λx21=>
    some x21)) λp17=>
   cond p17 (
    some (Sum.inr ((ByteArray.mk #[],2)))) (
    cW N z13 k (I64 (s15+1)))) (
   some (Sum.inl (())))
def cS(N:Nat)(a0:aF):Nat->(List Int)->Int->Option ((List Int))
 | 0,_,_=>none
 | k+1,s28,s29=>
  cond (decide (s29 < 4)) (
   ae (idx ([a0.gD.gE.gR,a0.gD.gE.gS,a0.gD.gE.gUp,a0.gD.gE.gU]) s29) λe30=>
   ae (idx ([a0.gD.gE.gR,a0.gD.gE.gS,a0.gD.gE.gUp,a0.gD.gE.gU]) s29) λe31=>
   ae (idx ([a0.gD.gE.gR,a0.gD.gE.gS,a0.gD.gE.gUp,a0.gD.gE.gU]) s29) λe32=>
   ae (jM 8 s28 (([e30.gX,e31.gY,e32.gZ]:List Int))) λz33=>
   cS N a0 k z33 (I64 (s29+1))) (
   some s28)
def aI(N:Nat)(a0:aF):Option (ByteArray×Int):=
 ae (aS N ([a0])) λr1=>
 cond (r1.2 != 0) (
  some ((ByteArray.mk #[],2))) (
  cond (a0.gC==1) (
   ae (aU N (ByteArray.mk #[108,111,97,100]) ([a0.gK])) λr2=>
   ae (nB r2 (ByteArray.mk #[32])) λx3=>
   ae (dV N a0.gL) λr4=>
   ae (nB x3 r4) λx5=>
   some ((x5,0))) (
   cond (a0.gC==2) (
    ae (aU N yR ([a0.gK])) λr6=>
    some ((r6,0))) (
    cond (a0.gC==3) (
     ae (cR N a0 N (([a0.gA.gG,a0.gA.gI,a0.gA.gJ,a0.gA.gN]:List Int)) 0) λp7=>
     ae (jM 8 p7 (([a0.gA.gT.gT.gX,a0.gA.gT.gT.gY,a0.gA.gT.gT.gZ]:List Int))) λz13=>
     ae (cW N z13 N 0) λo=>mG o (λp14=>
      ae (aU N (ByteArray.mk #[112,117,116]) z13) λr22=>
      some ((r22,0))) (λr=>some r)) (
     cond (a0.gC==4) (
      ae (aU N (ByteArray.mk #[116,97,107,101]) ([a0.gA.gG,a0.gA.gI,a0.gA.gJ,a0.gA.gN])) λr23=>
      some ((r23,0))) (
      cond (a0.gC==5) (
       ae (cond a0.gD.gA5 (some 1) (some 0)) λp24=>
       bQ (U64 (d9 a0.gD.gO 4294967296)) λx25=>
       bQ (d7 a0.gD.gO 4294967296) λx26=>
       ae (cS N a0 N (([a0.gF,a0.gD.gW,a0.gD.gH,a0.gD.gV,a0.gD.gA0,a0.gD.gA1,p24,I64 x25,I64 x26]:List Int)) 0) λp27=>
       bQ a0.gD.gE.gA8 λx34=>
       ae (jM 8 p27 (([a0.gD.gE.gA4,x34,a0.gA3]:List Int))) λz35=>
       ae (aU N qG z35) λr36=>
       some ((r36,0))) (
       cond (a0.gC==6) (
        ae (aU N yU ([a0.gF])) λr37=>
        some ((r37,0))) (
        cond (a0.gC==7) (
         ae (aU N zJ ([a0.gF,a0.gP,I64 a0.gA2,a0.gA6])) λr38=>
         some ((r38,0))) (
         cond (a0.gC==8) (
          ae (aU N aAP ([a0.gF,a0.gP])) λr39=>
          some ((r39,0))) (
          cond (a0.gC==9) (
           ae (aU N aAF ([a0.gF])) λr40=>
           some ((r40,0))) (
           ae (aU N (ByteArray.mk #[116,105,99,107]) ([a0.gA7])) λr41=>
           some ((r41,0))))))))))))
theorem pA{N a0 r}(h:aI N a0=some r):FnM Tryd.prog 12 [] [(aF.enc a0)] (.tup [(eS r.1),(j64 r.2)]) []:=by
 unfold aI at h;refine At.f pS hT hmo Tryd.func12 rfl h ?_;refine At.o 4 (aN hT (x:=(.sl 46 1 [(aF.enc a0)]))) ?_;refine At.b 0 (λ_ e=>aL [] (oL e)) λr1=>?_;refine At.c 7 ?_ ?_
 ·apply rt;exact At.r 2
 ·refine At.d2 0 [false,false] dC0 (dS1 4 ⟨(.ref 0 [] 0),0,.var vW,.dead⟩ [[.dead,.dead],[.dead,.var vL]] ⟨cL hT 0 (by kernel_rfl) (by kernel_rfl) (by kernel_rfl),cL hT 0 (by kernel_rfl) (by kernel_rfl) (by kernel_rfl),trivial⟩ (dS1 5 ⟨(.ref 1 [] 0),1,.var vL,.dead⟩ [[.dead,.dead],[.var vW,.dead]] ⟨cL hT 1 (by kernel_rfl) (by kernel_rfl) (by kernel_rfl),cL hT 1 (by kernel_rfl) (by kernel_rfl) (by kernel_rfl),trivial⟩ dS0)) ?_;refine At.c 8 ?_ ?_
  ·refine bi λr2 hr2=>?_;refine bi λx3 hx3=>?_;refine bi λr4 hr4=>?_;refine bi λx5 hx5=>?_;refine At.d 0 (dE1 2 (λ_=>aN hT (x:=(.sl 1 1 [(j64 a0.gK)]))) (dE2 3 (eS r2) (λ_=>iS (bR hr2)) (dE1 4 (λ_=>iO hx3 (by kernel_rfl) (by kernel_rfl)) (dE2 7 (eS r4) (λ_=>iS (lR hr4)) (dE1 8 (λ_=>iO hx5 (by kernel_rfl) (by kernel_rfl)) dE0))))) dF0 ?_;apply rt;exact At.r 0
  ·refine At.c 2 ?_ ?_
   ·refine At.o 2 (aN hT (x:=(.sl 1 1 [(j64 a0.gK)]))) ?_;refine At.b 0 (λ_ e=>aL [] (bR e)) λr6=>?_;apply rt;exact At.r 2
   ·refine At.c 2 ?_ ?_
    ·refine At.o 8 (qR hT j64 (k:=1) ([a0.gA.gG,a0.gA.gI,a0.gA.gJ,a0.gA.gN]:List Int) (by kernel_rfl) (by kernel_rfl)) ?_;refine At.L 2 [6] 4 (λp7=>([(9,(eO 3 1 j64 p7))],[(3,.tail (p7.length*1))],[])) (λp7 J k=>∃s8 s9,cR N a0 k s8 s9=some p7/\J [6] 4 [(9,(eO 3 1 j64 s8)),(10,(j64 s9))] [(3,.tail (s8.length*1))] []) N (λ_ h=>⟨_,_,h,jr⟩) (λp7 k s hI=>?_) λp7=>?_
     ·obtain⟨s8,s9,h,hj⟩:=hI;cases k with
      | zero=>cases h
      | succ k=>
       refine At.jr hj ?_ h;refine At.c 2 ?_ ?_
       ·refine At.b 4 (λ_ e=>aEf hT (k:=1) 0 [4,0] 4 e) λu10=>?_;refine At.b 0 (λ_ e=>aEj hT j64 2 e) λe11=>?_;refine At.o 0 (aN hT (x:=(.sl 1 1 [(j64 e11)]))) ?_;refine At.b 0 (λ_ e=>dZ hT j64 (id:=3) (k:=1) e) λz12=>?_;exact λh=>At.k 4 ⟨_,_,h,jr⟩
       ·apply rt;exact At.x 0
     ·refine At.o 13 (aN hT (x:=(.sl 1 3 [(j64 a0.gA.gT.gT.gX),(j64 a0.gA.gT.gT.gY),(j64 a0.gA.gT.gT.gZ)]))) ?_;refine At.b 0 (λ_ e=>dZ hT j64 (id:=3) (k:=1) e) λz13=>?_;refine At.LS 2 [9] 4 (λp14=>([],[],[])) (λop14 J k=>∃s15,cW N z13 k s15=some op14/\J [9] 4 [(11,(j64 s15))] [] []) N (λ_ h=>⟨_,h,jr⟩) (λop14 g14 k s hI=>?_) λp14=>?_
      ·obtain⟨s15,h,hj⟩:=hI;cases k with
       | zero=>cases h
       | succ k=>
        refine At.jr hj ?_ h;refine lx ?_;intro x16;refine At.c 4 ?_ ?_
        ·refine At.J 0 0 [9,11] 4 (λp17=>([(104,(eB p17))],[],[])) (λp17=>?_) λp17=>?_
         ·refine At.b 2 (λ_ e=>cB hT j64 e) λe18=>?_;refine lx ?_;intro x19;refine At.s 98 3 ?_ ?_
          ·refine At.g [98] 6 ?_;apply rt;exact At.jn 0
          ·refine At.g [98] 2 ?_;refine At.b 0 (λ_ e=>cB hT j64 e) λe20=>?_;refine lx ?_;intro x21;refine At.g [98] 3 ?_;apply rt;exact At.jn 0
         ·refine At.c 0 ?_ ?_
          ·intro e;apply vN g14 e;exact At.r 2
          ·exact λh=>At.k 3 ⟨_,h,jr⟩
        ·apply rt;exact At.xs 0
      ·refine At.b 1 (λ_ e=>aL [] (bR e)) λr22=>?_;apply rt;exact At.r 2
    ·refine At.c 2 ?_ ?_
     ·refine At.o 8 (aN hT (x:=(.sl 1 4 [(j64 a0.gA.gG),(j64 a0.gA.gI),(j64 a0.gA.gJ),(j64 a0.gA.gN)]))) ?_;refine At.b 0 (λ_ e=>aL [] (bR e)) λr23=>?_;apply rt;exact At.r 2
     ·refine At.c 2 ?_ ?_
      ·refine At.J 1 1 [1,7,8] 3 (λp24=>([(12,(j64 p24))],[],[])) (λp24=>?_) λp24=>?_
       ·refine At.c 2 ?_ ?_
        ·apply rt;exact At.jn 1
        ·apply rt;exact At.jn 0
       ·refine lx ?_;intro x25;refine lx ?_;intro x26;refine At.o 21 (qR hT j64 (k:=1) ([a0.gF,a0.gD.gW,a0.gD.gH,a0.gD.gV,a0.gD.gA0,a0.gD.gA1,p24,I64 x25,I64 x26]:List Int) (by kernel_rfl) (by kernel_rfl)) ?_;refine At.o 9 (aN hT (x:=(.sl 3 4 [(aC.enc a0.gD.gE.gR),(aC.enc a0.gD.gE.gS),(aC.enc a0.gD.gE.gUp),(aC.enc a0.gD.gE.gU)]))) ?_;refine At.L 2 [1,8] 4 (λp27=>([(13,(eO 3 1 j64 p27))],[(3,.tail (p27.length*1))],[])) (λp27 J k=>∃s28 s29,cS N a0 k s28 s29=some p27/\J [1,8,14] 4 [(13,(eO 3 1 j64 s28)),(15,(j64 s29))] [(3,.tail (s28.length*1))] []) N (λ_ h=>⟨_,_,h,jr⟩) (λp27 k s hI=>?_) λp27=>?_
        ·obtain⟨s28,s29,h,hj⟩:=hI;cases k with
         | zero=>cases h
         | succ k=>
          refine At.jr hj ?_ h;refine At.c 2 ?_ ?_
          ·refine bi λe30 he30=>?_;refine bi λe31 he31=>?_;refine bi λe32 he32=>?_;refine bi λz33 hz33=>?_;refine At.d 0 (dE1 3 (λ_=>cB hT aC.enc he30) (dE1 8 (λ_=>cB hT aC.enc he31) (dE1 13 (λ_=>cB hT aC.enc he32) (dE1 16 (λ_=>aN hT (x:=(.sl 1 3 [(j64 e30.gX),(j64 e31.gY),(j64 e32.gZ)]))) dE0)))) (dF 17 (eO 3 1 j64 z33) [(3,.tail (z33.length*1))] [] (jB (dZ hT j64 (id:=3) (k:=1) hz33)) dF0) ?_;exact λh=>At.k 3 ⟨_,_,h,jr⟩
          ·apply rt;exact At.x 0
        ·refine lx ?_;intro x34;refine At.o 7 (aN hT (x:=(.sl 1 3 [(j64 a0.gD.gE.gA4),(j64 x34),(j64 a0.gA3)]))) ?_;refine At.b 0 (λ_ e=>dZ hT j64 (id:=3) (k:=1) e) λz35=>?_;refine At.b 0 (λ_ e=>aL [] (bR e)) λr36=>?_;apply rt;exact At.r 2
      ·refine At.c 2 ?_ ?_
       ·refine At.o 2 (aN hT (x:=(.sl 1 1 [(j64 a0.gF)]))) ?_;refine At.b 0 (λ_ e=>aL [] (bR e)) λr37=>?_;apply rt;exact At.r 2
       ·refine At.c 2 ?_ ?_
        ·refine At.o 9 (aN hT (x:=(.sl 1 4 [(j64 a0.gF),(j64 a0.gP),(j64 (I64 a0.gA2)),(j64 a0.gA6)]))) ?_;refine At.b 0 (λ_ e=>aL [] (bR e)) λr38=>?_;apply rt;exact At.r 2
        ·refine At.c 2 ?_ ?_
         ·refine At.o 4 (aN hT (x:=(.sl 1 2 [(j64 a0.gF),(j64 a0.gP)]))) ?_;refine At.b 0 (λ_ e=>aL [] (bR e)) λr39=>?_;apply rt;exact At.r 2
         ·refine At.c 2 ?_ ?_
          ·refine At.o 2 (aN hT (x:=(.sl 1 1 [(j64 a0.gF)]))) ?_;refine At.b 0 (λ_ e=>aL [] (bR e)) λr40=>?_;apply rt;exact At.r 2
          ·refine At.o 2 (aN hT (x:=(.sl 1 1 [(j64 a0.gA7)]))) ?_;refine At.b 0 (λ_ e=>aL [] (bR e)) λr41=>?_;apply rt;exact At.r 2
def fF(N:Nat)(a0:Int):Option (ByteArray):=
 cond (a0==0) (
  some (ByteArray.mk #[111,107])) (
  cond (a0==1) (
   some (ByteArray.mk #[110,105,108])) (
   cond (a0==2) (
    some (ByteArray.mk #[97,114,103])) (
    cond (a0==3) (
     some (ByteArray.mk #[108,111,110,103])) (
     cond (a0==4) (
      some aBD) (
      cond (a0==5) (
       some (ByteArray.mk #[102,111,114,109])) (
       cond (a0==6) (
        some (ByteArray.mk #[116,97,103])) (
        cond (a0==7) (
         some xX) (
         cond (a0==8) (
          some (ByteArray.mk #[103,114,105,100])) (
          cond (a0==9) (
           some (ByteArray.mk #[99,97,112])) (
           cond (a0==10) (
            some (ByteArray.mk #[100,117,112])) (
            cond (a0==11) (
             some (ByteArray.mk #[110,111,110,101])) (
             cond (a0==12) (
              some (ByteArray.mk #[107,105,110,100])) (
              cond (a0==13) (
               some qG) (
               cond (a0==14) (
                some xS) (
                cond (a0==15) (
                 some (ByteArray.mk #[99,108,97,115,115])) (
                 cond (a0==16) (
                  some yC) (
                  cond (a0==17) (
                   some (ByteArray.mk #[99,108,101,97,114])) (
                   cond (a0==18) (
                    some xO) (
                    cond (a0==19) (
                     some xT) (
                     cond (a0==20) (
                      some (ByteArray.mk #[99,104,97,105,110])) (
                      some (ByteArray.mk #[63]))))))))))))))))))))))
theorem pU{N a0 r}(h:fF N a0=some r):FnM Tryd.prog 33 [] [(j64 a0)] (eS r) []:=by
 unfold fF at h;refine At.f hJ hT hmo Tryd.func33 rfl h ?_;refine At.c 4 ?_ ?_
 ·apply rt;exact At.r 1
 ·refine At.c 2 ?_ ?_
  ·apply rt;exact At.r 1
  ·refine At.c 2 ?_ ?_
   ·apply rt;exact At.r 1
   ·refine At.c 2 ?_ ?_
    ·apply rt;exact At.r 1
    ·refine At.c 2 ?_ ?_
     ·apply rt;exact At.r 1
     ·refine At.c 2 ?_ ?_
      ·apply rt;exact At.r 1
      ·refine At.c 2 ?_ ?_
       ·apply rt;exact At.r 1
       ·refine At.c 2 ?_ ?_
        ·apply rt;exact At.r 1
        ·refine At.c 2 ?_ ?_
         ·apply rt;exact At.r 1
         ·refine At.c 2 ?_ ?_
          ·apply rt;exact At.r 1
          ·refine At.c 2 ?_ ?_
           ·apply rt;exact At.r 1
           ·refine At.c 2 ?_ ?_
            ·apply rt;exact At.r 1
            ·refine At.c 2 ?_ ?_
             ·apply rt;exact At.r 1
             ·refine At.c 2 ?_ ?_
              ·apply rt;exact At.r 1
              ·refine At.c 2 ?_ ?_
               ·apply rt;exact At.r 1
               ·refine At.c 2 ?_ ?_
                ·apply rt;exact At.r 1
                ·refine At.c 2 ?_ ?_
                 ·apply rt;exact At.r 1
                 ·refine At.c 2 ?_ ?_
                  ·apply rt;exact At.r 1
                  ·refine At.c 2 ?_ ?_
                   ·apply rt;exact At.r 1
                   ·refine At.c 2 ?_ ?_
                    ·apply rt;exact At.r 1
                    ·refine At.c 2 ?_ ?_
                     ·apply rt;exact At.r 1
                     ·apply rt;exact At.r 1
def vS : Nat->Bool:=imL [1]
def iN(N:Nat)(a0:bL):Option (ByteArray):=
 ae (fF N a0.gA9) λr1=>
 ae (jE r1 a0.gB0) λr2=>
 ae (bQ ((a0.gQ.length:Int)) λx4=>
 cond (decide (x4 > 0)) (
  ae (iZ N a0.gQ) λr5=>
  ae (nB (ByteArray.mk #[32]) r5) λx6=>
  ae (nB r2 x6) λx7=>
  some x7) (
  some r2)) λp3=>
 some p3
theorem nU{N a0 r}(h:iN N a0=some r):FnM Tryd.prog 13 [] [(bL.enc a0)] (eS r) []:=by
 unfold iN at h;refine At.f vS hT hmo Tryd.func13 rfl h ?_;refine bi λr1 hr1=>?_;refine bi λr2 hr2=>?_;refine At.d 2 (dE2 2 (eS r1) (λ_=>iS (pU hr1)) (dE2 5 (eS r2) (λ_=>mM (mL hr2) iE (by kernel_rfl) (by kernel_rfl) (by kernel_rfl)) dE0)) dF0 ?_;refine At.J 0 1 [] 0 (λp3=>([(3,(eS p3))],[],[])) (λp3=>?_) λp3=>?_
 ·refine lx ?_;intro x4;refine At.c 4 ?_ ?_
  ·refine At.b 3 (λ_ e=>aL [] (qE e)) λr5=>?_;refine At.b 0 (λ_ e=>iO e (by kernel_rfl) (by kernel_rfl)) λx6=>?_;refine At.b 0 (λ_ e=>iO e (by kernel_rfl) (by kernel_rfl)) λx7=>?_;apply rt;exact At.jn 1
  ·apply rt;exact At.jn 0
 ·apply rt;exact At.r 2
def pT : Nat->Bool:=imL [1]
def eX(N:Nat)(a0:bL):Option (ByteArray):=
 ae (bQ (cond (decide (a0.gA9>=0)) (decide (a0.gA9 < 21)) false) λx2=>
 cond x2 (
  ae (idx ([ByteArray.mk #[111,107],ByteArray.mk #[110,105,108],ByteArray.mk #[97,114,103],ByteArray.mk #[108,111,110,103],aBD,ByteArray.mk #[102,111,114,109],ByteArray.mk #[116,97,103],xX,ByteArray.mk #[103,114,105,100],ByteArray.mk #[99,97,112],ByteArray.mk #[100,117,112],ByteArray.mk #[110,111,110,101],ByteArray.mk #[107,105,110,100],qG,xS,ByteArray.mk #[99,108,97,115,115],yC,ByteArray.mk #[99,108,101,97,114],xO,xT,ByteArray.mk #[99,104,97,105,110]]) a0.gA9) λe3=>
  some e3) (
  some (ByteArray.mk #[63]))) λp1=>
 ae (aU N p1 a0.gB0) λr4=>
 ae (bQ ((a0.gQ.length:Int)) λx6=>
 cond (decide (x6 > 0)) (
  ae (nB r4 (ByteArray.mk #[32])) λx7=>
  ae (dV N a0.gQ) λr8=>
  ae (nB x7 r8) λx9=>
  some x9) (
  some r4)) λp5=>
 some p5
theorem kS{N a0 r}(h:eX N a0=some r):FnM Tryd.prog 14 [] [(bL.enc a0)] (eS r) []:=by
 unfold eX at h;refine At.f pT hT hmo Tryd.func14 rfl h ?_;refine At.o 2 (aN hT (x:=(.sl 1 21 [(eS (ByteArray.mk #[111,107])),(eS (ByteArray.mk #[110,105,108])),(eS (ByteArray.mk #[97,114,103])),(eS (ByteArray.mk #[108,111,110,103])),(eS aBD),(eS (ByteArray.mk #[102,111,114,109])),(eS (ByteArray.mk #[116,97,103])),(eS xX),(eS (ByteArray.mk #[103,114,105,100])),(eS (ByteArray.mk #[99,97,112])),(eS (ByteArray.mk #[100,117,112])),(eS (ByteArray.mk #[110,111,110,101])),(eS (ByteArray.mk #[107,105,110,100])),(eS qG),(eS xS),(eS (ByteArray.mk #[99,108,97,115,115])),(eS yC),(eS (ByteArray.mk #[99,108,101,97,114])),(eS xO),(eS xT),(eS (ByteArray.mk #[99,104,97,105,110]))]))) ?_;refine At.J 2 1 [1] 0 (λp1=>([(4,(eS p1))],[],[])) (λp1=>?_) λp1=>?_
 ·refine lx ?_;intro x2;refine At.c 10 ?_ ?_
  ·refine At.b 3 (λ_ e=>cB hT eS e) λe3=>?_;apply rt;exact At.jn 2
  ·apply rt;exact At.jn 0
 ·refine At.b 3 (λ_ e=>aL [] (bR e)) λr4=>?_;refine At.J 1 1 [] 0 (λp5=>([(4,(eS p5))],[],[])) (λp5=>?_) λp5=>?_
  ·refine lx ?_;intro x6;refine At.c 4 ?_ ?_
   ·refine At.b 1 (λ_ e=>iO e (by kernel_rfl) (by kernel_rfl)) λx7=>?_;refine At.b 2 (λ_ e=>aL [] (lR e)) λr8=>?_;refine At.b 0 (λ_ e=>iO e (by kernel_rfl) (by kernel_rfl)) λx9=>?_;apply rt;exact At.jn 1
   ·apply rt;exact At.jn 0
  ·apply rt;exact At.r 2
def aCL : Go.Shelf.Ren:=⟨λ | 221=>37 | 268=>50 | 138=>51 | 143=>52 | 195=>63 | 197=>64 | 218=>65 | 219=>66 | 260=>77 | 217=>78 | 225=>79 | 224=>80 | 267=>81 | 266=>93 | 314=>94 | n=>n,λ | 9=>9 | 3=>3 | 31=>60 | 4=>4 | 0=>0 | 105=>123 | 21=>21 | 5=>5 | 46=>66 | 119=>149 | 139=>152 | 138=>151 | 146=>153 | 51=>38 | n=>n,λ | 1=>0 | 3=>2 | 4=>3 | n=>n⟩
theorem split : Lays.n221 Tryd.prog aCL where
 mixed:=by kernel_rfl
 f138:=Tryd.func51.trans (congrArg some (by kernel_rfl))
 f143:=Tryd.func52.trans (congrArg some (by kernel_rfl))
 f195:=Tryd.func63.trans (congrArg some (by kernel_rfl))
 f197:=Tryd.func64.trans (congrArg some (by kernel_rfl))
 f217:=Tryd.func78.trans (congrArg some (by kernel_rfl))
 f218:=Tryd.func65.trans (congrArg some (by kernel_rfl))
 f219:=Tryd.func66.trans (congrArg some (by kernel_rfl))
 f221:=Tryd.func37.trans (congrArg some (by kernel_rfl))
 f224:=Tryd.func80.trans (congrArg some (by kernel_rfl))
 f225:=Tryd.func79.trans (congrArg some (by kernel_rfl))
 f260:=Tryd.func77.trans (congrArg some (by kernel_rfl))
 f266:=Tryd.func93.trans (congrArg some (by kernel_rfl))
 f267:=Tryd.func81.trans (congrArg some (by kernel_rfl))
 f268:=Tryd.func50.trans (congrArg some (by kernel_rfl))
 f314:=Tryd.func94.trans (congrArg some (by kernel_rfl))
 t0:=Tryd.underlying0
 a0:=Tryd.isAgg0
 z0:=Tryd.sizeOf0
 v0:=Tryd.zeroValue0
 t3:=Tryd.underlying3
 a3:=Tryd.isAgg3
 z3:=Tryd.sizeOf3
 v3:=Tryd.zeroValue3
 t4:=Tryd.underlying4
 a4:=Tryd.isAgg4
 z4:=Tryd.sizeOf4
 v4:=Tryd.zeroValue4
 t5:=Tryd.underlying5
 a5:=Tryd.isAgg5
 z5:=Tryd.sizeOf5
 v5:=Tryd.zeroValue5
 t9:=Tryd.underlying9
 a9:=Tryd.isAgg9
 z9:=Tryd.sizeOf9
 v9:=Tryd.zeroValue9
 t21:=Tryd.underlying21
 a21:=Tryd.isAgg21
 z21:=Tryd.sizeOf21
 v21:=Tryd.zeroValue21
 t31:=Tryd.underlying60
 a31:=Tryd.isAgg60
 z31:=Tryd.sizeOf60
 v31:=Tryd.zeroValue60
 t46:=Tryd.underlying66
 a46:=Tryd.isAgg66
 z46:=Tryd.sizeOf66
 v46:=Tryd.zeroValue66
 t51:=Tryd.underlying38
 a51:=Tryd.isAgg38
 z51:=Tryd.sizeOf38
 v51:=Tryd.zeroValue38
 t105:=Tryd.underlying123
 a105:=Tryd.isAgg123
 z105:=Tryd.sizeOf123
 v105:=Tryd.zeroValue123
 t119:=Tryd.underlying149
 a119:=Tryd.isAgg149
 z119:=Tryd.sizeOf149
 t138:=Tryd.underlying151
 a138:=Tryd.isAgg151
 z138:=Tryd.sizeOf151
 v138:=Tryd.zeroValue151
 t139:=Tryd.underlying152
 a139:=Tryd.isAgg152
 z139:=Tryd.sizeOf152
 v139:=Tryd.zeroValue152
 t146:=Tryd.underlying153
 a146:=Tryd.isAgg153
 z146:=Tryd.sizeOf153
 v146:=Tryd.zeroValue153
 g1:=by kernel_rfl
 g3:=by kernel_rfl
 g4:=by kernel_rfl
def aBn : Go.Shelf.Ren:=⟨λ | 143=>52 | 219=>66 | 217=>78 | 225=>79 | 224=>80 | 267=>81 | 266=>93 | 314=>94 | n=>n,λ | 9=>9 | 3=>3 | 4=>4 | 5=>5 | 46=>66 | 146=>153 | 51=>38 | n=>n,λ | 1=>0 | n=>n⟩
theorem index : Lays.n143 Tryd.prog aBn where
 mixed:=by kernel_rfl
 f143:=Tryd.func52.trans (congrArg some (by kernel_rfl))
 f217:=Tryd.func78.trans (congrArg some (by kernel_rfl))
 f219:=Tryd.func66.trans (congrArg some (by kernel_rfl))
 f224:=Tryd.func80.trans (congrArg some (by kernel_rfl))
 f225:=Tryd.func79.trans (congrArg some (by kernel_rfl))
 f266:=Tryd.func93.trans (congrArg some (by kernel_rfl))
 f267:=Tryd.func81.trans (congrArg some (by kernel_rfl))
 f314:=Tryd.func94.trans (congrArg some (by kernel_rfl))
 t3:=Tryd.underlying3
 a3:=Tryd.isAgg3
 z3:=Tryd.sizeOf3
 v3:=Tryd.zeroValue3
 t4:=Tryd.underlying4
 a4:=Tryd.isAgg4
 z4:=Tryd.sizeOf4
 v4:=Tryd.zeroValue4
 t5:=Tryd.underlying5
 a5:=Tryd.isAgg5
 z5:=Tryd.sizeOf5
 v5:=Tryd.zeroValue5
 t9:=Tryd.underlying9
 a9:=Tryd.isAgg9
 z9:=Tryd.sizeOf9
 v9:=Tryd.zeroValue9
 t46:=Tryd.underlying66
 a46:=Tryd.isAgg66
 z46:=Tryd.sizeOf66
 v46:=Tryd.zeroValue66
 t51:=Tryd.underlying38
 a51:=Tryd.isAgg38
 z51:=Tryd.sizeOf38
 v51:=Tryd.zeroValue38
 t146:=Tryd.underlying153
 a146:=Tryd.isAgg153
 z146:=Tryd.sizeOf153
 v146:=Tryd.zeroValue153
 g1:=by kernel_rfl
theorem lib37{s sep:ByteArray}{r:List ByteArray}(h:tD s sep=some r):FnM Tryd.prog 37 [] [eS s,eS sep,j64 0,j64 (-1)] (eL 1 eS r) []:=aCh split { split with } { split with } (by kernel_rfl) rfl h
theorem aD5 : fV Tryd.prog 37:=fR (by kernel_rfl)
def kR(N:Nat)(a0 a1:ByteArray):Option ((List ByteArray)):=
 ae (tD a0 a1) λr1=>
 some r1
theorem qV{N a0 a1 r}(h:kR N a0 a1=some r):FnM Tryd.prog 20 [] [(eS a0),(eS a1)] (eL 1 eS r) []:=by
 unfold kR at h;refine At.f hJ hT hmo Tryd.func20 rfl h ?_;refine At.b 3 (λ_ e=>fG [] (lib37 e) aD5) λr1=>?_;apply rt;exact At.r 1
def eD(N:Nat)(a0:aO):Option (aO×ByteArray):=
 bQ (((a0.gl.length:Int))==0) λx1=>
 cond x1 (
  some ((aO.mk a0.gl true,ByteArray.mk #[]))) (
  ae (idx a0.gl 0) λe2=>
  ae (qP a0.gl 1 ((a0.gl.length:Int))) λs3=>
  some ((aO.mk s3 a0.gB1,e2)))
theorem fY{N a0 r}(h:eD N a0=some r):FnM Tryd.prog 21 [.var (aO.enc a0)] [(.ref 0 [] 0)] (eS r.2) [.var (aO.enc r.1)]:=by
 unfold eD at h;refine At.f hJ hT hmo Tryd.func21 rfl h ?_;refine lx ?_;intro x1;refine At.c 7 ?_ ?_
 ·apply rt;exact At.r 5
 ·refine At.b 4 (λ_ e=>cB hT eS e) λe2=>?_;refine At.b 7 (λ_ e=>sV hT (k:=1) eS e) λs3=>?_;apply rt;exact At.r 5
def aB4 : Go.Shelf.Ren:=⟨λ | 174=>54 | 247=>67 | 245=>68 | 287=>82 | 279=>83 | 280=>84 | 281=>85 | 282=>86 | 321=>95 | 322=>96 | 316=>97 | 171=>35 | 205=>98 | 243=>49 | 246=>62 | 283=>73 | 284=>74 | 285=>75 | 286=>76 | 129=>89 | 317=>88 | 318=>90 | 319=>91 | 320=>92 | 337=>99 | 338=>100 | n=>n,λ | 9=>9 | 3=>3 | 2=>2 | 75=>92 | 85=>113 | 4=>4 | 167=>137 | 5=>5 | 53=>31 | 175=>138 | 46=>66 | 168=>140 | 37=>22 | 0=>0 | 210=>159 | 21=>21 | 127=>110 | 145=>164 | 143=>162 | 171=>131 | 173=>134 | 212=>145 | 51=>38 | 20=>20 | 213=>146 | 232=>165 | 233=>166 | 80=>72 | n=>n,λ | 15=>4 | 16=>5 | 17=>1 | 18=>6 | 19=>7 | n=>n⟩
theorem parse : LaysC.n174 Tryd.prog aB4 where
 mixed:=by kernel_rfl
 f129:=Tryd.func89.trans (congrArg some (by kernel_rfl))
 f171:=Tryd.func35.trans (congrArg some (by kernel_rfl))
 f174:=Tryd.func54.trans (congrArg some (by kernel_rfl))
 f205:=Tryd.func98.trans (congrArg some (by kernel_rfl))
 f243:=Tryd.func49.trans (congrArg some (by kernel_rfl))
 f245:=Tryd.func68.trans (congrArg some (by kernel_rfl))
 f246:=Tryd.func62.trans (congrArg some (by kernel_rfl))
 f247:=Tryd.func67.trans (congrArg some (by kernel_rfl))
 f279:=Tryd.func83.trans (congrArg some (by kernel_rfl))
 f280:=Tryd.func84.trans (congrArg some (by kernel_rfl))
 f281:=Tryd.func85.trans (congrArg some (by kernel_rfl))
 f282:=Tryd.func86.trans (congrArg some (by kernel_rfl))
 f283:=Tryd.func73.trans (congrArg some (by kernel_rfl))
 f284:=Tryd.func74.trans (congrArg some (by kernel_rfl))
 f285:=Tryd.func75.trans (congrArg some (by kernel_rfl))
 f286:=Tryd.func76.trans (congrArg some (by kernel_rfl))
 f287:=Tryd.func82.trans (congrArg some (by kernel_rfl))
 f316:=Tryd.func97.trans (congrArg some (by kernel_rfl))
 f317:=Tryd.func88.trans (congrArg some (by kernel_rfl))
 f318:=Tryd.func90.trans (congrArg some (by kernel_rfl))
 f319:=Tryd.func91.trans (congrArg some (by kernel_rfl))
 f320:=Tryd.func92.trans (congrArg some (by kernel_rfl))
 f321:=Tryd.func95.trans (congrArg some (by kernel_rfl))
 f322:=Tryd.func96.trans (congrArg some (by kernel_rfl))
 f337:=Tryd.func99.trans (congrArg some (by kernel_rfl))
 f338:=Tryd.func100.trans (congrArg some (by kernel_rfl))
 t0:=Tryd.underlying0
 a0:=Tryd.isAgg0
 z0:=Tryd.sizeOf0
 v0:=Tryd.zeroValue0
 t2:=Tryd.underlying2
 a2:=Tryd.isAgg2
 z2:=Tryd.sizeOf2
 v2:=Tryd.zeroValue2
 t3:=Tryd.underlying3
 a3:=Tryd.isAgg3
 z3:=Tryd.sizeOf3
 v3:=Tryd.zeroValue3
 t4:=Tryd.underlying4
 a4:=Tryd.isAgg4
 z4:=Tryd.sizeOf4
 v4:=Tryd.zeroValue4
 t5:=Tryd.underlying5
 a5:=Tryd.isAgg5
 z5:=Tryd.sizeOf5
 v5:=Tryd.zeroValue5
 t9:=Tryd.underlying9
 a9:=Tryd.isAgg9
 z9:=Tryd.sizeOf9
 v9:=Tryd.zeroValue9
 t20:=Tryd.underlying20
 a20:=Tryd.isAgg20
 z20:=Tryd.sizeOf20
 v20:=Tryd.zeroValue20
 t21:=Tryd.underlying21
 a21:=Tryd.isAgg21
 z21:=Tryd.sizeOf21
 v21:=Tryd.zeroValue21
 t37:=Tryd.underlying22
 a37:=Tryd.isAgg22
 z37:=Tryd.sizeOf22
 v37:=Tryd.zeroValue22
 t46:=Tryd.underlying66
 a46:=Tryd.isAgg66
 z46:=Tryd.sizeOf66
 v46:=Tryd.zeroValue66
 t51:=Tryd.underlying38
 a51:=Tryd.isAgg38
 z51:=Tryd.sizeOf38
 v51:=Tryd.zeroValue38
 t53:=Tryd.underlying31
 a53:=Tryd.isAgg31
 z53:=Tryd.sizeOf31
 v53:=Tryd.zeroValue31
 t75:=Tryd.underlying92
 a75:=Tryd.isAgg92
 z75:=Tryd.sizeOf92
 v75:=Tryd.zeroValue92
 t85:=Tryd.underlying113
 a85:=Tryd.isAgg113
 z85:=Tryd.sizeOf113
 v85:=Tryd.zeroValue113
 t127:=Tryd.underlying110
 a127:=Tryd.isAgg110
 z127:=Tryd.sizeOf110
 v127:=Tryd.zeroValue110
 t143:=Tryd.underlying162
 a143:=Tryd.isAgg162
 z143:=Tryd.sizeOf162
 v143:=Tryd.zeroValue162
 t145:=Tryd.underlying164
 a145:=Tryd.isAgg164
 z145:=Tryd.sizeOf164
 v145:=Tryd.zeroValue164
 t167:=Tryd.underlying137
 a167:=Tryd.isAgg137
 z167:=Tryd.sizeOf137
 v167:=Tryd.zeroValue137
 t168:=Tryd.underlying140
 a168:=Tryd.isAgg140
 z168:=Tryd.sizeOf140
 v168:=Tryd.zeroValue140
 t171:=Tryd.underlying131
 a171:=Tryd.isAgg131
 z171:=Tryd.sizeOf131
 v171:=Tryd.zeroValue131
 t173:=Tryd.underlying134
 a173:=Tryd.isAgg134
 z173:=Tryd.sizeOf134
 v173:=Tryd.zeroValue134
 t175:=Tryd.underlying138
 a175:=Tryd.isAgg138
 z175:=Tryd.sizeOf138
 v175:=Tryd.zeroValue138
 t210:=Tryd.underlying159
 a210:=Tryd.isAgg159
 z210:=Tryd.sizeOf159
 v210:=Tryd.zeroValue159
 t212:=Tryd.underlying145
 a212:=Tryd.isAgg145
 z212:=Tryd.sizeOf145
 v212:=Tryd.zeroValue145
 t213:=Tryd.underlying146
 a213:=Tryd.isAgg146
 z213:=Tryd.sizeOf146
 t232:=Tryd.underlying165
 a232:=Tryd.isAgg165
 z232:=Tryd.sizeOf165
 v232:=Tryd.zeroValue165
 t233:=Tryd.underlying166
 a233:=Tryd.isAgg166
 z233:=Tryd.sizeOf166
 v233:=Tryd.zeroValue166
 g15:=by kernel_rfl
 g16:=by kernel_rfl
 g17:=by kernel_rfl
 g18:=by kernel_rfl
 g19:=by kernel_rfl
 t80:=Tryd.underlying72
 a80:=Tryd.isAgg72
 z80:=Tryd.sizeOf72
 v80:=Tryd.zeroValue72
 i0:=by kernel_rfl
 i2:=by kernel_rfl
 i3:=by kernel_rfl
 i4:=by kernel_rfl
 i5:=by kernel_rfl
 i9:=by kernel_rfl
 i20:=by kernel_rfl
 i21:=by kernel_rfl
 i37:=by kernel_rfl
 i46:=by kernel_rfl
 i51:=by kernel_rfl
 i53:=by kernel_rfl
 i75:=by kernel_rfl
 i80:=by kernel_rfl
 i85:=by kernel_rfl
 i127:=by kernel_rfl
 i143:=by kernel_rfl
 i145:=by kernel_rfl
 i167:=by kernel_rfl
 i168:=by kernel_rfl
 i171:=by kernel_rfl
 i173:=by kernel_rfl
 i175:=by kernel_rfl
 i210:=by kernel_rfl
 i212:=by kernel_rfl
 i232:=by kernel_rfl
 i233:=by kernel_rfl
 m15:=by kernel_rfl
 m16:=by kernel_rfl
 m17:=by kernel_rfl
 m18:=by kernel_rfl
 m19:=by kernel_rfl
 c0:=by kernel_rfl
 c2:=by kernel_rfl
 c3:=by kernel_rfl
 c4:=by kernel_rfl
 c5:=by kernel_rfl
 c9:=by kernel_rfl
 c20:=by kernel_rfl
 c21:=by kernel_rfl
 c37:=by kernel_rfl
 c46:=by kernel_rfl
 c51:=by kernel_rfl
 c53:=by kernel_rfl
 c75:=by kernel_rfl
 c80:=by kernel_rfl
 c85:=by kernel_rfl
 c127:=by kernel_rfl
 c143:=by kernel_rfl
 c145:=by kernel_rfl
 c167:=by kernel_rfl
 c168:=by kernel_rfl
 c171:=by kernel_rfl
 c173:=by kernel_rfl
 c175:=by kernel_rfl
 c210:=by kernel_rfl
 c212:=by kernel_rfl
 c213:=by kernel_rfl
 c232:=by kernel_rfl
 c233:=by kernel_rfl
theorem lib54{s:ByteArray}{v:Int}(h:tS s=some v):FnM Tryd.prog 54 [] [eS s,j64 10,j64 64] (.tup [j64 v,.v .nilIface]) []:=aCk parse rfl h
theorem aEI : fV Tryd.prog 54:=fR (by kernel_rfl)
def aD4 : Go.Shelf.Ren:=⟨λ | 173=>55 | 246=>62 | 283=>73 | 284=>74 | 285=>75 | 286=>76 | 129=>89 | 317=>88 | 318=>90 | 319=>91 | 320=>92 | 337=>99 | 338=>100 | n=>n,λ | 2=>2 | 3=>3 | 9=>9 | 4=>4 | 171=>131 | 0=>0 | 53=>31 | 37=>22 | 5=>5 | 173=>134 | 212=>145 | 51=>38 | 20=>20 | 213=>146 | 46=>66 | 232=>165 | 233=>166 | n=>n,λ | 17=>1 | 18=>6 | 19=>7 | n=>n⟩
theorem fmt : Lays.n173 Tryd.prog aD4 where
 mixed:=by kernel_rfl
 f129:=Tryd.func89.trans (congrArg some (by kernel_rfl))
 f173:=Tryd.func55.trans (congrArg some (by kernel_rfl))
 f246:=Tryd.func62.trans (congrArg some (by kernel_rfl))
 f283:=Tryd.func73.trans (congrArg some (by kernel_rfl))
 f284:=Tryd.func74.trans (congrArg some (by kernel_rfl))
 f285:=Tryd.func75.trans (congrArg some (by kernel_rfl))
 f286:=Tryd.func76.trans (congrArg some (by kernel_rfl))
 f317:=Tryd.func88.trans (congrArg some (by kernel_rfl))
 f318:=Tryd.func90.trans (congrArg some (by kernel_rfl))
 f319:=Tryd.func91.trans (congrArg some (by kernel_rfl))
 f320:=Tryd.func92.trans (congrArg some (by kernel_rfl))
 f337:=Tryd.func99.trans (congrArg some (by kernel_rfl))
 f338:=Tryd.func100.trans (congrArg some (by kernel_rfl))
 t0:=Tryd.underlying0
 a0:=Tryd.isAgg0
 z0:=Tryd.sizeOf0
 v0:=Tryd.zeroValue0
 t2:=Tryd.underlying2
 a2:=Tryd.isAgg2
 z2:=Tryd.sizeOf2
 v2:=Tryd.zeroValue2
 t3:=Tryd.underlying3
 a3:=Tryd.isAgg3
 z3:=Tryd.sizeOf3
 v3:=Tryd.zeroValue3
 t4:=Tryd.underlying4
 a4:=Tryd.isAgg4
 z4:=Tryd.sizeOf4
 v4:=Tryd.zeroValue4
 t5:=Tryd.underlying5
 a5:=Tryd.isAgg5
 z5:=Tryd.sizeOf5
 v5:=Tryd.zeroValue5
 t9:=Tryd.underlying9
 a9:=Tryd.isAgg9
 z9:=Tryd.sizeOf9
 v9:=Tryd.zeroValue9
 t20:=Tryd.underlying20
 a20:=Tryd.isAgg20
 z20:=Tryd.sizeOf20
 v20:=Tryd.zeroValue20
 t37:=Tryd.underlying22
 a37:=Tryd.isAgg22
 z37:=Tryd.sizeOf22
 v37:=Tryd.zeroValue22
 t46:=Tryd.underlying66
 a46:=Tryd.isAgg66
 z46:=Tryd.sizeOf66
 v46:=Tryd.zeroValue66
 t51:=Tryd.underlying38
 a51:=Tryd.isAgg38
 z51:=Tryd.sizeOf38
 v51:=Tryd.zeroValue38
 t53:=Tryd.underlying31
 a53:=Tryd.isAgg31
 z53:=Tryd.sizeOf31
 v53:=Tryd.zeroValue31
 t171:=Tryd.underlying131
 a171:=Tryd.isAgg131
 z171:=Tryd.sizeOf131
 v171:=Tryd.zeroValue131
 t173:=Tryd.underlying134
 a173:=Tryd.isAgg134
 z173:=Tryd.sizeOf134
 v173:=Tryd.zeroValue134
 t212:=Tryd.underlying145
 a212:=Tryd.isAgg145
 z212:=Tryd.sizeOf145
 v212:=Tryd.zeroValue145
 t213:=Tryd.underlying146
 a213:=Tryd.isAgg146
 z213:=Tryd.sizeOf146
 t232:=Tryd.underlying165
 a232:=Tryd.isAgg165
 z232:=Tryd.sizeOf165
 v232:=Tryd.zeroValue165
 t233:=Tryd.underlying166
 a233:=Tryd.isAgg166
 z233:=Tryd.sizeOf166
 v233:=Tryd.zeroValue166
 g17:=by kernel_rfl
 g18:=by kernel_rfl
 g19:=by kernel_rfl
theorem lib55{i:Int}{r:ByteArray}(h:aDp i=some r):FnM Tryd.prog 55 [] [j64 i,j64 10] (eS r) []:=aFv fmt rfl h
theorem aEM : fV Tryd.prog 55:=fR (by kernel_rfl)
def lJ(N:Nat)(a0:ByteArray):Option (Int×Bool):=
 ae (tS a0) λr1=>
 ae (aDp r1) λr2=>
 bQ (!(ByteArray.toList r2==ByteArray.toList a0)) λx3=>
 bQ (decide (r1 > 4611686018427387904)) λx4=>
 bQ (decide (r1 < (-4611686018427387904))) λx5=>
 bQ (cond (cond x3 true x4) true x5) λx6=>
 cond x6 (some ((0,false))) (some ((r1,true)))
theorem sI{N a0 r}(h:lJ N a0=some r):FnM Tryd.prog 41 [] [(eS a0)] (.tup [(j64 r.1),(eB r.2)]) []:=by
 unfold lJ at h;refine At.f hJ hT hmo Tryd.func41 rfl h ?_;refine At.b 3 (λ_ e=>fG [] (lib54 e) aEI) λr1=>?_;refine At.o 6 (aEe (t:=92) (by kernel_rfl) rfl rfl .neq false (by decide) (by kernel_rfl)) ?_;refine At.g [13] 2 ?_;refine At.b 0 (λ_ e=>fG [] (lib55 e) aEM) λr2=>?_;refine lx ?_;intro x3;refine lx ?_;intro x4;refine lx ?_;intro x5;refine lx ?_;intro x6;refine At.g [13] 11 ?_;refine At.c 0 ?_ ?_
 ·apply rt;exact At.r 2
 ·apply rt;exact At.r 3
def fB(N:Nat)(a0 a1:Int)(a2:aO):Option (aO×Int):=
 ae (eD N a2) λr1=>
 ae (lJ N r1.2) λr2=>
 bQ (cond (!r2.2) true (decide (r2.1 < a0))) λx3=>
 bQ (cond x3 true (decide (r2.1 > a1))) λx4=>
 cond x4 (
  some ((aO.mk r1.1.gl true,0))) (
  some ((r1.1,r2.1)))
theorem jH{N a0 a1 a2 r}(h:fB N a0 a1 a2=some r):FnM Tryd.prog 28 [.var (aO.enc a2)] [(.ref 0 [] 0),(j64 a0),(j64 a1)] (j64 r.2) [.var (aO.enc r.1)]:=by
 unfold fB at h;refine At.f hJ hT hmo Tryd.func28 rfl h ?_;refine At.b 2 (λ_ e=>aL [0] (fY e)) λr1=>?_;refine At.b 0 (λ_ e=>aL [] (sI e)) λr2=>?_;refine lx ?_;intro x3;refine lx ?_;intro x4;refine At.c 17 ?_ ?_
 ·apply rt;exact At.r 5
 ·apply rt;exact At.r 2
def cH(N:Nat)(a0:aO):Option (aO×Int):=
 ae (fB N 0 4294967295 a0) λr1=>
 some ((r1.1,r1.2))
theorem dU{N a0 r}(h:cH N a0=some r):FnM Tryd.prog 22 [.var (aO.enc a0)] [(.ref 0 [] 0)] (j64 r.2) [.var (aO.enc r.1)]:=by
 unfold cH at h;refine At.f hJ hT hmo Tryd.func22 rfl h ?_;refine At.b 2 (λ_ e=>aL [0] (jH e)) λr1=>?_;apply rt;exact At.r 1
def lZ(N:Nat)(a0:Int):Option (Int):=
 bQ (cond (decide (a0>=48)) (decide (a0<=57)) false) λx1=>
 cond x1 (
  some (I64 (I32 (a0 - 48)))) (
  bQ (cond (decide (a0>=97)) (decide (a0<=102)) false) λx2=>
  cond x2 (
   bQ (I64 ((I64 (I32 (a0 - 97)))+10)) λx3=>
   some x3) (
   some (-1)))
theorem tR{N a0 r}(h:lZ N a0=some r):FnM Tryd.prog 38 [] [(j32 a0)] (j64 r) []:=by
 unfold lZ at h;refine At.f hJ hT hmo Tryd.func38 rfl h ?_;refine lx ?_;intro x1;refine At.c 8 ?_ ?_
 ·apply rt;exact At.r 4
 ·refine lx ?_;intro x2;refine At.c 7 ?_ ?_
  ·refine lx ?_;intro x3;apply rt;exact At.r 5
  ·apply rt;exact At.r 1
def hZ(N:Nat)(a0:ByteArray):Nat->(List Int)->Nat->Int->Option (Sum ((List Int)×Nat) ((List Int)×Int))
 | 0,_,_,_=>none
 | k+1,s8,s9,s10=>
  cond (decide (s9 < ByteArray.size a0)) (
   ae (lZ N (xI a0 s9)) λr11=>
   cond (decide (r11 < 0)) (
    some (Sum.inr (([],5)))) (
    bQ (d7 ((s9:Int)) 2) λx12=>
    cond (x12==0) (
     hZ N a0 k s8 (kD a0 s9) r11) (
     bQ (bor .i64 (shl .i64 s10 4) r11) λx13=>
     ae (jM 1 s8 (([U8 x13]:List Int))) λz14=>
     hZ N a0 k z14 (kD a0 s9) s10))) (
   some (Sum.inl ((s8,s9))))
def mA(N:Nat)(a0:ByteArray):Option ((List Int)×Int):=
 bQ (ByteArray.toList a0==ByteArray.toList (ByteArray.mk #[45])) λx1=>
 cond x1 (
  some (([],0))) (
  bQ ((ByteArray.size a0:Int)) λx2=>
  bQ ((ByteArray.size a0:Int)) λx3=>
  bQ (cond (x2==0) true ((d7 x3 2)==1)) λx4=>
  cond x4 (
   some (([],5))) (
   bQ ((ByteArray.size a0:Int)) λx5=>
   ae (mkO 1 (I64 (d9 x5 2))) λ_=>
   ae (hZ N a0 N [] 0 0) λo=>mG o (λp7=>
    some ((p7.1,0))) (λr=>some r)))
theorem uA{N a0 r}(h:mA N a0=some r):FnM Tryd.prog 23 [] [(eS a0)] (.tup [(eL 1 k8 r.1),(j64 r.2)]) []:=by
 unfold mA at h;refine At.f hJ hT hmo Tryd.func23 rfl h ?_;refine lx ?_;intro x1;refine At.c 4 ?_ ?_
 ·apply rt;exact At.r 2
 ·refine lx ?_;intro x2;refine lx ?_;intro x3;refine lx ?_;intro x4;refine At.c 9 ?_ ?_
  ·apply rt;exact At.r 2
  ·refine lx ?_;intro x5;refine At.b 3 (λ_ e=>aEL hT k8 (k:=1) (z:=(.v (.int .u8 0))) (kd := .int .u8) e (by kernel_rfl) (by kernel_rfl)) λu6=>?_;refine At.o 3 (aDt (t:=9) (s:=a0) rfl (by kernel_rfl) (by kernel_rfl)) ?_;refine At.LS 0 [] 2 (λp7=>([(4,(eO 0 1 k8 p7.1))],[(0,.tail (p7.1.length*1)),(1,.mp (.it a0 p7.2))],[])) (λop7 J k=>∃s8 s9 s10,hZ N a0 k s8 s9 s10=some op7/\J [25] 2 [(4,(eO 0 1 k8 s8)),(5,(j64 s10))] [(0,.tail (s8.length*1)),(1,.mp (.it a0 s9))] []) N (λ_ h=>⟨_,_,_,h,jr⟩) (λop7 g7 k s hI=>?_) λp7=>?_
   ·obtain⟨s8,s9,s10,h,hj⟩:=hI;cases k with
    | zero=>cases h
    | succ k=>
     refine At.jr hj ?_ h;refine boI (λhc=>?_) (λhc=>?_)
     ·refine At.o 0 (aDd (s:=a0) (p:=s9) (id:=1) hc (by kernel_rfl) (by kernel_rfl) (by kernel_rfl)) ?_;refine At.b 7 (λ_ e=>aL [] (tR e)) λr11=>?_;refine At.c 3 ?_ ?_
      ·intro e;apply vN g7 e;exact At.r 2
      ·refine lx ?_;intro x12;refine At.c 3 ?_ ?_
       ·exact λh=>At.k 2 ⟨_,_,_,h,jr⟩
       ·refine lx ?_;intro x13;refine At.o 6 (aN hT (x:=(.sl 1 1 [(k8 (U8 x13))]))) ?_;refine At.b 0 (λ_ e=>dZ hT k8 (id:=0) (k:=1) e) λz14=>?_;exact λh=>At.k 1 ⟨_,_,_,h,jr⟩
     ·refine At.o 0 (aDn (s:=a0) (p:=s9) (id:=1) hc (by kernel_rfl) (by kernel_rfl) (by kernel_rfl)) ?_;apply rt;exact At.xs 2
   ·apply rt;exact At.r 3
def bY(N:Nat)(a0:aO):Option (aO×Int):=
 ae (fB N 0 255 a0) λr1=>
 some ((r1.1,r1.2))
theorem cV{N a0 r}(h:bY N a0=some r):FnM Tryd.prog 26 [.var (aO.enc a0)] [(.ref 0 [] 0)] (j64 r.2) [.var (aO.enc r.1)]:=by
 unfold bY at h;refine At.f hJ hT hmo Tryd.func26 rfl h ?_;refine At.b 2 (λ_ e=>aL [0] (jH e)) λr1=>?_;apply rt;exact At.r 1
def jO(N:Nat)(r4:(List ByteArray))(r3:aO×ByteArray):Nat->Int->Int->Option (Int)
 | 0,_,_=>none
 | k+1,s6,s7=>
  bQ (decide (s7 < ((r4.length:Int)))) λx8=>
  cond x8 (
   ae (ae (idx r4 s7) λe10=>
   bQ (ByteArray.toList e10==ByteArray.toList r3.2) λx11=>
   bQ (!(ByteArray.toList e10==ByteArray.toList (ByteArray.mk #[]))) λx12=>
   cond (cond x11 x12 false) (some s7) (some s6)) λp9=>
   jO N r4 r3 k p9 (I64 (s7+1))) (
   some s6)
def jX(N:Nat)(a0:ByteArray):Option (aF×Int):=
 bQ ((ByteArray.size a0:Int)) λx1=>
 cond (decide (x1 > 262144)) (
  some ((aF.mk 0 0 [] (bW.mk 0 0 0 0 (aZ.mk (br 9 0) (cG.mk 0 0 0))) 0 (aY.mk 0 0 0 0 0 0 (bJ.mk (aC.mk 0 0 0) (aC.mk 0 0 0) (aC.mk 0 0 0) (aC.mk 0 0 0) 0 0) false) 0 0 0 0 0,3))) (
  ae (kR N a0 (ByteArray.mk #[32])) λr2=>
  ae (eD N (aO.mk r2 false)) λr3=>
  ae (iI N ) λr4=>
  ae (jO N r4 r3 N 0 0) λp5=>
  ae (cond (p5==1) (
   ae (cH N r3.1) λr14=>
   ae (eD N r14.1) λr15=>
   ae (mA N r15.2) λr16=>
   bQ (cond r15.1.gB1 true (r16.2 != 0)) λx17=>
   bQ (decide (((r16.1.length:Int)) > 65535)) λx18=>
   some ((aF.mk p5 r14.2 r16.1 (bW.mk 0 0 0 0 (aZ.mk (br 9 0) (cG.mk 0 0 0))) 0 (aY.mk 0 0 0 0 0 0 (bJ.mk (aC.mk 0 0 0) (aC.mk 0 0 0) (aC.mk 0 0 0) (aC.mk 0 0 0) 0 0) false) 0 0 0 0 0,aO.mk r15.1.gl (cond (cond r15.1.gB1 true (r16.2 != 0)) true (decide (((r16.1.length:Int)) > 65535)))))) (
   cond (p5==2) (
    ae (cH N r3.1) λr19=>
    some ((aF.mk p5 r19.2 [] (bW.mk 0 0 0 0 (aZ.mk (br 9 0) (cG.mk 0 0 0))) 0 (aY.mk 0 0 0 0 0 0 (bJ.mk (aC.mk 0 0 0) (aC.mk 0 0 0) (aC.mk 0 0 0) (aC.mk 0 0 0) 0 0) false) 0 0 0 0 0,r19.1))) (
    cond (p5==3) (
     none) (
     cond (p5==4) (
      none) (
      cond (p5==5) (
       ae (bY N r3.1) λr20=>
       none) (
       ae (cond (p5==6) (some (p5==6)) (some (p5==9))) λp21=>
       cond p21 (
        ae (bY N r3.1) λr22=>
        some ((aF.mk p5 0 [] (bW.mk 0 0 0 0 (aZ.mk (br 9 0) (cG.mk 0 0 0))) r22.2 (aY.mk 0 0 0 0 0 0 (bJ.mk (aC.mk 0 0 0) (aC.mk 0 0 0) (aC.mk 0 0 0) (aC.mk 0 0 0) 0 0) false) 0 0 0 0 0,r22.1))) (
        cond (p5==7) (
         ae (bY N r3.1) λr23=>
         ae (bY N r23.1) λr24=>
         ae (cH N r24.1) λr25=>
         ae (cH N r25.1) λr26=>
         some ((aF.mk p5 0 [] (bW.mk 0 0 0 0 (aZ.mk (br 9 0) (cG.mk 0 0 0))) r23.2 (aY.mk 0 0 0 0 0 0 (bJ.mk (aC.mk 0 0 0) (aC.mk 0 0 0) (aC.mk 0 0 0) (aC.mk 0 0 0) 0 0) false) 0 r24.2 (U32 r25.2) r26.2 0,r26.1))) (
         cond (p5==8) (
          ae (bY N r3.1) λr27=>
          ae (bY N r27.1) λr28=>
          some ((aF.mk p5 0 [] (bW.mk 0 0 0 0 (aZ.mk (br 9 0) (cG.mk 0 0 0))) r27.2 (aY.mk 0 0 0 0 0 0 (bJ.mk (aC.mk 0 0 0) (aC.mk 0 0 0) (aC.mk 0 0 0) (aC.mk 0 0 0) 0 0) false) 0 r28.2 0 0 0,r28.1))) (
          cond (p5==10) (
           ae (cH N r3.1) λr29=>
           some ((aF.mk p5 0 [] (bW.mk 0 0 0 0 (aZ.mk (br 9 0) (cG.mk 0 0 0))) 0 (aY.mk 0 0 0 0 0 0 (bJ.mk (aC.mk 0 0 0) (aC.mk 0 0 0) (aC.mk 0 0 0) (aC.mk 0 0 0) 0 0) false) 0 0 0 0 r29.2,r29.1))) (
           some ((aF.mk p5 0 [] (bW.mk 0 0 0 0 (aZ.mk (br 9 0) (cG.mk 0 0 0))) 0 (aY.mk 0 0 0 0 0 0 (bJ.mk (aC.mk 0 0 0) (aC.mk 0 0 0) (aC.mk 0 0 0) (aC.mk 0 0 0) 0 0) false) 0 0 0 0 0,aO.mk r3.1.gl true)))))))))))) λp13=>
  bQ ((p13.2.gl.length:Int)) λx30=>
  bQ (cond p13.2.gB1 true (decide (x30 > 0))) λx31=>
  cond x31 (
   some ((aF.mk 0 0 [] (bW.mk 0 0 0 0 (aZ.mk (br 9 0) (cG.mk 0 0 0))) 0 (aY.mk 0 0 0 0 0 0 (bJ.mk (aC.mk 0 0 0) (aC.mk 0 0 0) (aC.mk 0 0 0) (aC.mk 0 0 0) 0 0) false) 0 0 0 0 0,5))) (
   some ((p13.1,0))))
theorem oE{N a0 r}(h:jX N a0=some r):FnM Tryd.prog 7 [] [(eS a0)] (.tup [(aF.enc r.1),(j64 r.2)]) []:=by
 unfold jX at h;refine At.f hJ hT hmo Tryd.func7 rfl h ?_;refine lx ?_;intro x1;refine At.c 5 ?_ ?_
 ·apply rt;exact At.r 3
 ·refine At.b 1 (λ_ e=>aL [] (qV e)) λr2=>?_;refine At.b 4 (λ_ e=>aL [1] (fY e)) λr3=>?_;refine At.b 1 (λ_ e=>aL [] (oB e)) λr4=>?_;refine At.L 2 [2,4] 2 (λp5=>([],[(0,.var (.st 46 [(j64 p5),(j64 0),(.v (.slice none 0 0)),vW,(j64 0),vL,(j64 0),(j64 0),(k32 0),(j64 0),(j64 0)]))],[])) (λp5 J k=>∃s6 s7,jO N r4 r3 k s6 s7=some p5/\J [2,4,5,20,21] 2 [(22,(j64 s7))] [(0,.var (.st 46 [(j64 s6),(j64 0),(.v (.slice none 0 0)),vW,(j64 0),vL,(j64 0),(j64 0),(k32 0),(j64 0),(j64 0)]))] []) N (λ_ h=>⟨_,_,h,jr⟩) (λp5 k s hI=>?_) λp5=>?_
  ·obtain⟨s6,s7,h,hj⟩:=hI;cases k with
   | zero=>cases h
   | succ k=>
    refine At.jr hj ?_ h;refine lx ?_;intro x8;refine At.c 1 ?_ ?_
    ·refine At.J 0 2 [2,4,5,20,21,22] 2 (λp9=>([],[(0,.var (.st 46 [(j64 p9),(j64 0),(.v (.slice none 0 0)),vW,(j64 0),vL,(j64 0),(j64 0),(k32 0),(j64 0),(j64 0)]))],[])) (λp9=>?_) λp9=>?_
     ·refine At.b 1 (λ_ e=>cB hT eS e) λe10=>?_;refine lx ?_;intro x11;refine lx ?_;intro x12;refine At.c 10 ?_ ?_
      ·apply rt;exact At.jn 3
      ·apply rt;exact At.jn 0
     ·exact λh=>At.k 2 ⟨_,_,h,jr⟩
    ·apply rt;exact At.x 0
  ·refine At.J 0 1 [2,4] 2 (λp13=>([],[(0,.var (aF.enc p13.1)),(1,.var (aO.enc p13.2))],[])) (λp13=>?_) λp13=>?_
   ·refine At.c 4 ?_ ?_
    ·refine At.b 1 (λ_ e=>aL [1] (dU e)) λr14=>?_;refine At.b 3 (λ_ e=>aL [1] (fY e)) λr15=>?_;refine At.b 0 (λ_ e=>aL [] (uA e)) λr16=>?_;refine lx ?_;intro x17;refine lx ?_;intro x18;apply rt;exact At.jn 25
    ·refine At.c 2 ?_ ?_
     ·refine At.b 1 (λ_ e=>aL [1] (dU e)) λr19=>?_;apply rt;exact At.jn 2
     ·refine At.c 2 ?_ ?_
      ·exact nn
      ·refine At.c 2 ?_ ?_
       ·exact nn
       ·refine At.c 2 ?_ ?_
        ·refine At.b 1 (λ_ e=>aL [1] (cV e)) λr20=>?_;exact nn
        ·refine At.J 0 1 [2,4,38] 2 (λp21=>([(101,(eB p21))],[],[])) (λp21=>?_) λp21=>?_
         ·refine At.c 2 ?_ ?_
          ·apply rt;exact At.jn 0
          ·apply rt;exact At.jn 2
         ·refine At.c 0 ?_ ?_
          ·refine At.b 1 (λ_ e=>aL [1] (cV e)) λr22=>?_;apply rt;exact At.jn 2
          ·refine At.c 2 ?_ ?_
           ·refine At.b 1 (λ_ e=>aL [1] (cV e)) λr23=>?_;refine At.b 1 (λ_ e=>aL [1] (cV e)) λr24=>?_;refine At.b 1 (λ_ e=>aL [1] (dU e)) λr25=>?_;refine At.b 2 (λ_ e=>aL [1] (dU e)) λr26=>?_;apply rt;exact At.jn 8
           ·refine At.c 2 ?_ ?_
            ·refine At.b 1 (λ_ e=>aL [1] (cV e)) λr27=>?_;refine At.b 1 (λ_ e=>aL [1] (cV e)) λr28=>?_;apply rt;exact At.jn 4
            ·refine At.c 2 ?_ ?_
             ·refine At.b 1 (λ_ e=>aL [1] (dU e)) λr29=>?_;apply rt;exact At.jn 2
             ·apply rt;exact At.jn 4
   ·refine lx ?_;intro x30;refine lx ?_;intro x31;refine At.c 12 ?_ ?_
    ·apply rt;exact At.r 3
    ·apply rt;exact At.r 3
def eV(N:Nat):Option (Bool):=
 ae (jX N aFE) λr1=>
 ae (jX N aF8) λr2=>
 bQ (cond (r1.2==0) (r1.1.gC==9) false) λx3=>
 bQ (cond x3 (r1.1.gF==3) false) λx4=>
 bQ (cond x4 (r2.2==5) false) λx5=>
 some x5
theorem oY{N r}(h:eV N=some r):FnM Tryd.prog 10 [] [] (eB r) []:=by
 unfold eV at h;refine At.f hJ hT hmo Tryd.func10 rfl h ?_;refine At.b 1 (λ_ e=>aL [] (oE e)) λr1=>?_;refine At.b 6 (λ_ e=>aL [] (oE e)) λr2=>?_;refine lx ?_;intro x3;refine lx ?_;intro x4;refine lx ?_;intro x5;apply rt;exact At.r 23
def dY(N:Nat)(a0:aF)(a1:bL):Option (Bool):=
 ae (fM N a0) λr1=>
 ae (fA N a1.gB0) λr2=>
 bQ ((a1.gQ.length:Int)) λx3=>
 ae (qP a1.gQ 0 (xJ x3 100)) λs4=>
 ae (aP N r1) λr5=>
 ae (aI N r1) λr6=>
 ae (bQ (ByteArray.toList r5.1==ByteArray.toList r6.1) λx8=>
 cond x8 (
  cond (r5.2==r6.2) (
   ae (iN N (bL.mk a1.gA9 r2 s4)) λr9=>
   ae (eX N (bL.mk a1.gA9 r2 s4)) λr10=>
   bQ (ByteArray.toList r9==ByteArray.toList r10) λx11=>
   cond x11 (
    ae (eV N ) λr12=>
    some r12) (
    some false)) (
   some false)) (
  some false)) λp7=>
 some p7
theorem lM{N a0 a1 r}(h:dY N a0 a1=some r):FnM Tryd.prog 4 [] [(aF.enc a0),(bL.enc a1)] (eB r) []:=by
 unfold dY at h;refine At.f hJ hT hmo Tryd.func4 rfl h ?_;refine At.b 4 (λ_ e=>aL [] (qJ e)) λr1=>?_;refine bi λr2 hr2=>?_;refine lx ?_;intro x3;refine bi λs4 hs4=>?_;refine At.d 1 (dE2 2 (eL 1 j64 r2) (λ_=>iS (oX hr2)) (dE1 9 (λ_=>sV hT (k:=1) k8 hs4) dE0)) dF0 ?_;refine At.b 1 (λ_ e=>aL [] (uK e)) λr5=>?_;refine At.b 6 (λ_ e=>aL [] (pA e)) λr6=>?_;refine At.J 5 0 [] 2 (λp7=>([(4,(eB p7))],[],[])) (λp7=>?_) λp7=>?_
 ·refine lx ?_;intro x8;refine boI (λhc3=>?_) (λhc3=>?_)
  ·refine boI (λhc8=>?_) (λhc8=>?_)
   ·refine bi λr9 hr9=>?_;refine bi λr10 hr10=>?_;refine lx ?_;intro x11;refine boI (λhc15=>?_) (λhc15=>?_)
    ·refine bi λr12 hr12=>?_;refine At.d 0 (dE1 3 (λ_=>kT hc3 rfl (iP hT (im:=false) (by kernel_rfl))) (dE1 8 (λ_=>kT hc8 rfl (iP hT (im:=false) (by kernel_rfl))) (dE2 10 (eS r9) (λ_=>iS (nU hr9)) (dE2 12 (eS r10) (λ_=>iS (kS hr10)) (dE1 15 (λ_=>kT hc15 rfl (iP hT (im:=false) (by kernel_rfl))) (dE2 16 (eB r12) (λ_=>iS (oY hr12)) dE0)))))) dF0 ?_;apply rt;exact At.jn 0
    ·refine At.d 0 (dE1 3 (λ_=>kT hc3 rfl (iP hT (im:=false) (by kernel_rfl))) (dE1 8 (λ_=>kT hc8 rfl (iP hT (im:=false) (by kernel_rfl))) (dE2 10 (eS r9) (λ_=>iS (nU hr9)) (dE2 12 (eS r10) (λ_=>iS (kS hr10)) (dE1 15 (λ_=>kT hc15 rfl (iP hT (im:=false) (by kernel_rfl))) dE0))))) dF0 ?_;apply rt;exact At.jn 0
   ·refine At.d 0 (dE1 3 (λ_=>kT hc3 rfl (iP hT (im:=false) (by kernel_rfl))) (dE1 8 (λ_=>kT hc8 rfl (iP hT (im:=false) (by kernel_rfl))) dE0)) dF0 ?_;apply rt;exact At.jn 0
  ·refine At.d 0 (dE1 3 (λ_=>kT hc3 rfl (iP hT (im:=false) (by kernel_rfl))) dE0) dF0 ?_;apply rt;exact At.jn 0
 ·apply rt;exact At.r 0
end Go.UK
