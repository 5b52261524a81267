/- A part of the proof: what the functions of the program compute. -/
import Derived.Test.YtljnaeghnleipaaGreatAJ1
open Int renaming tdiv→cz,tmod→cf,toNat→af
open Option renaming bind→ae
open Vector renaming replicate→ah
namespace Go.UK
open Go Go.Proofs
set_option maxRecDepth 20000
set_option maxHeartbeats 40000000
set_option linter.all false
attribute [local irreducible] adv aHk aDM xM brPt aJ9 aEw pO yR aKi dH nW eT aD7 aIO aGz lPt owp awl aw FnM aIl opS Stab TOK Big
def aA0 : Nat->Bool:=imL [1]
def iP(N:Nat)(a0:aM):Nat->(List Int)->Int->Option ((List Int))
 | 0,_,_=>none
 | k+1,s5,s6=>
  aO ((a0.gF.length:Int)) λx7=>
  cond (decide (s6 < x7)) (
   ae (idx a0.gF s6) λe8=>
   ae (hP N s5 e8) λr9=>
   iP N a0 k r9 (I64 (s6+1))) (
   some s5)
def iK(N:Nat)(a0:aM)(s12:Int):Nat->(List Int)->Int->Option ((List Int))
 | 0,_,_=>none
 | k+1,s15,s16=>
  cond (decide (s16 < 2)) (
   ae (idx a0.gJ s12) λe17=>
   ae (idx e17.toList s16) λe18=>
   ae (idx a0.gJ s12) λe19=>
   ae (idx e19.toList s16) λe20=>
   aO (U8 (I64 (cz e20 256))) λx21=>
   ae (mH 1 s15 (([U8 (cf e18 256),x21]:List Int))) λz22=>
   iK N a0 s12 k z22 (I64 (s16+1))) (
   some s15)
def iM(N:Nat)(a0:aM):Nat->(List Int)->Int->Option ((List Int))
 | 0,_,_=>none
 | k+1,s11,s12=>
  aO (decide (s12 < ((a0.gJ.length:Int)))) λx13=>
  cond x13 (
   ae (iK N a0 s12 N s11 0) λp14=>
   iM N a0 k p14 (I64 (s12+1))) (
   some s11)
def fB(N:Nat)(a0:aM)(s25:Int):Nat->(List Int)->Int->Option ((List Int))
 | 0,_,_=>none
 | k+1,s28,s29=>
  cond (decide (s29 < 3)) (
   ae (idx a0.gI s25) λe30=>
   ae (idx e30.toList s29) λe31=>
   ae (mH 1 s28 (([U8 e31]:List Int))) λz32=>
   fB N a0 s25 k z32 (I64 (s29+1))) (
   some s28)
def iN(N:Nat)(a0:aM):Nat->(List Int)->Int->Option ((List Int))
 | 0,_,_=>none
 | k+1,s24,s25=>
  aO ((a0.gI.length:Int)) λx26=>
  cond (decide (s25 < x26)) (
   ae (fB N a0 s25 N s24 0) λp27=>
   iN N a0 k p27 (I64 (s25+1))) (
   some s24)
def mY(N:Nat)(a0:aM):Option ((List Int)×Int):=
 ae (lU N a0) λr1=>
 cond (r1 != 0) (
  some (([],r1))) (
  aO ((a0.gF.length:Int)) λx2=>
  aO ((a0.gI.length:Int)) λx3=>
  ae (iP N a0 N (([U8 x2,U8 x3]:List Int)) 0) λp4=>
  ae (iM N a0 N p4 0) λp10=>
  ae (iN N a0 N p10 0) λp23=>
  some ((p23,0)))
theorem aAR{N a0 r}(h:mY N a0=some r):FnM Tryz.prog 95 [] [(aM.enc a0)] (.tup [(eL 1 k8 r.1),(j64 r.2)]) []:=by
 unfold mY at h;refine At.f aA0 hT hmo Tryz.func95 rfl h ?_;refine At.b 4 (λ_ e=>aK [] (vI e)) λr1=>?_;refine At.c 3 ?_ ?_
 ·apply rt;exact At.r 3
 ·refine lx ?_;intro x2;refine lx ?_;intro x3;refine At.o 8 (sK hT k8 (k:=1) ([U8 x2,U8 x3]:List Int) (by kernel_rfl) (by kernel_rfl)) ?_;refine At.L 2 [1] 1 (λp4=>([(5,(eO 0 1 k8 p4))],[(0,.tail (p4.length*1))],[])) (λp4 J k=>∃s5 s6,iP N a0 k s5 s6=some p4/\J [1] 1 [(5,(eO 0 1 k8 s5)),(6,(j64 s6))] [(0,.tail (s5.length*1))] []) N (λ_ h=>⟨_,_,h,jr⟩) (λp4 k s hI=>?_) λp4=>?_
  ·obtain⟨s5,s6,h,hj⟩:=hI;cases k with
   | zero=>cases h
   | succ k=>
    refine At.jr hj ?_ h;refine lx ?_;intro x7;refine At.c 5 ?_ ?_
    ·refine At.b 4 (λ_ e=>bF hT aB.enc e) λe8=>?_;refine At.b 1 (λ_ e=>aK [] (pK e)) λr9=>?_;exact λh=>At.k 4 ⟨_,_,h,(aKF 1 0 (by kernel_rfl) jr)⟩
    ·apply rt;exact At.x 0
  ·refine At.L 1 [1] 1 (λp10=>([(5,(eO 0 1 k8 p10))],[(0,.tail (p10.length*1))],[])) (λp10 J k=>∃s11 s12,iM N a0 k s11 s12=some p10/\J [1] 1 [(5,(eO 0 1 k8 s11)),(7,(j64 s12))] [(0,.tail (s11.length*1))] []) N (λ_ h=>⟨_,_,h,jr⟩) (λp10 k s hI=>?_) λp10=>?_
   ·obtain⟨s11,s12,h,hj⟩:=hI;cases k with
    | zero=>cases h
    | succ k=>
     refine At.jr hj ?_ h;refine lx ?_;intro x13;refine At.c 5 ?_ ?_
     ·refine At.L 1 [1,7] 1 (λp14=>([(5,(eO 0 1 k8 p14))],[(0,.tail (p14.length*1))],[])) (λp14 J k=>∃s15 s16,iK N a0 s12 k s15 s16=some p14/\J [1,7] 1 [(5,(eO 0 1 k8 s15)),(8,(j64 s16))] [(0,.tail (s15.length*1))] []) N (λ_ h=>⟨_,_,h,jr⟩) (λp14 k s hI=>?_) λp14=>?_
      ·obtain⟨s15,s16,h,hj⟩:=hI;cases k with
       | zero=>cases h
       | succ k=>
        refine At.jr hj ?_ h;refine At.c 2 ?_ ?_
        ·refine bi λe17 he17=>?_;refine bi λe18 he18=>?_;refine bi λe19 he19=>?_;refine bi λe20 he20=>?_;refine lx ?_;intro x21;refine bi λz22 hz22=>?_;refine At.d 0 (dE1 5 (λ_=>bF hT (eA 2 1 j64) he17) (dE1 6 (λ_=>bN hT (N:=2) (k:=1) j64 e17 he18) (dE1 14 (λ_=>bF hT (eA 2 1 j64) he19) (dE1 15 (λ_=>bN hT (N:=2) (k:=1) j64 e19 he20) (dE1 19 (λ_=>bI hT (x:=(.sl 1 2 [(k8 (U8 (cf e18 256))),(k8 x21)]))) dE0))))) (dF 20 (eO 0 1 k8 z22) [(0,.tail (z22.length*1))] [] (bG (cH hT k8 (id:=0) (k:=1) hz22)) dF0) ?_;exact λh=>At.k 3 ⟨_,_,h,jr⟩
        ·apply rt;exact At.x 0
      ·exact λh=>At.k 3 ⟨_,_,h,jr⟩
     ·apply rt;exact At.x 0
   ·refine At.L 1 [] 1 (λp23=>([(5,(eO 0 1 k8 p23))],[(0,.tail (p23.length*1))],[])) (λp23 J k=>∃s24 s25,iN N a0 k s24 s25=some p23/\J [1] 1 [(5,(eO 0 1 k8 s24)),(9,(j64 s25))] [(0,.tail (s24.length*1))] []) N (λ_ h=>⟨_,_,h,jr⟩) (λp23 k s hI=>?_) λp23=>?_
    ·obtain⟨s24,s25,h,hj⟩:=hI;cases k with
     | zero=>cases h
     | succ k=>
      refine At.jr hj ?_ h;refine lx ?_;intro x26;refine At.c 5 ?_ ?_
      ·refine At.L 1 [1,9] 1 (λp27=>([(5,(eO 0 1 k8 p27))],[(0,.tail (p27.length*1))],[])) (λp27 J k=>∃s28 s29,fB N a0 s25 k s28 s29=some p27/\J [1,9] 1 [(5,(eO 0 1 k8 s28)),(10,(j64 s29))] [(0,.tail (s28.length*1))] []) N (λ_ h=>⟨_,_,h,jr⟩) (λp27 k s hI=>?_) λp27=>?_
       ·obtain⟨s28,s29,h,hj⟩:=hI;cases k with
        | zero=>cases h
        | succ k=>
         refine At.jr hj ?_ h;refine At.c 2 ?_ ?_
         ·refine At.b 5 (λ_ e=>bF hT (eA 3 1 j64) e) λe30=>?_;refine At.b 0 (λ_ e=>bN hT (N:=3) (k:=1) j64 e30 e) λe31=>?_;refine At.o 2 (bI hT (x:=(.sl 1 1 [(k8 (U8 e31))]))) ?_;refine At.b 0 (λ_ e=>cH hT k8 (id:=0) (k:=1) e) λz32=>?_;exact λh=>At.k 4 ⟨_,_,h,jr⟩
         ·apply rt;exact At.x 0
       ·exact λh=>At.k 3 ⟨_,_,h,jr⟩
      ·apply rt;exact At.x 0
    ·apply rt;exact At.r 3
def aA7 : Nat->Bool:=imL [1]
def eZ(N:Nat)(a0:aI)(s4:Int):Nat->(List Int)->Int->Option ((List Int))
 | 0,_,_=>none
 | k+1,s7,s8=>
  cond (decide (s8 < 3)) (
   ae (idx a0.gK s4) λe9=>
   ae (idx e9.toList s8) λe10=>
   ae (mH 1 s7 (([U8 e10]:List Int))) λz11=>
   eZ N a0 s4 k z11 (I64 (s8+1))) (
   some s7)
def iH(N:Nat)(a0:aI):Nat->(List Int)->Int->Option ((List Int))
 | 0,_,_=>none
 | k+1,s3,s4=>
  aO ((a0.gK.length:Int)) λx5=>
  cond (decide (s4 < x5)) (
   ae (eZ N a0 s4 N s3 0) λp6=>
   iH N a0 k p6 (I64 (s4+1))) (
   some s3)
def nA(N:Nat)(a0:aI):Option ((List Int)×Int):=
 ae (lX N a0) λr1=>
 cond (r1 != 0) (
  some (([],r1))) (
  ae (iH N a0 N (([U8 a0.gN]:List Int)) 0) λp2=>
  some ((p2,0)))
theorem aAW{N a0 r}(h:nA N a0=some r):FnM Tryz.prog 96 [] [(aI.enc a0)] (.tup [(eL 1 k8 r.1),(j64 r.2)]) []:=by
 unfold nA at h;refine At.f aA7 hT hmo Tryz.func96 rfl h ?_;refine At.b 4 (λ_ e=>aK [] (vK e)) λr1=>?_;refine At.c 3 ?_ ?_
 ·apply rt;exact At.r 3
 ·refine At.o 3 (sK hT k8 (k:=1) ([U8 a0.gN]:List Int) (by kernel_rfl) (by kernel_rfl)) ?_;refine At.L 2 [] 1 (λp2=>([(5,(eO 0 1 k8 p2))],[(0,.tail (p2.length*1))],[])) (λp2 J k=>∃s3 s4,iH N a0 k s3 s4=some p2/\J [1] 1 [(5,(eO 0 1 k8 s3)),(6,(j64 s4))] [(0,.tail (s3.length*1))] []) N (λ_ h=>⟨_,_,h,jr⟩) (λp2 k s hI=>?_) λp2=>?_
  ·obtain⟨s3,s4,h,hj⟩:=hI;cases k with
   | zero=>cases h
   | succ k=>
    refine At.jr hj ?_ h;refine lx ?_;intro x5;refine At.c 5 ?_ ?_
    ·refine At.L 1 [1,6] 1 (λp6=>([(5,(eO 0 1 k8 p6))],[(0,.tail (p6.length*1))],[])) (λp6 J k=>∃s7 s8,eZ N a0 s4 k s7 s8=some p6/\J [1,6] 1 [(5,(eO 0 1 k8 s7)),(7,(j64 s8))] [(0,.tail (s7.length*1))] []) N (λ_ h=>⟨_,_,h,jr⟩) (λp6 k s hI=>?_) λp6=>?_
     ·obtain⟨s7,s8,h,hj⟩:=hI;cases k with
      | zero=>cases h
      | succ k=>
       refine At.jr hj ?_ h;refine At.c 2 ?_ ?_
       ·refine At.b 5 (λ_ e=>bF hT (eA 3 1 j64) e) λe9=>?_;refine At.b 0 (λ_ e=>bN hT (N:=3) (k:=1) j64 e9 e) λe10=>?_;refine At.o 2 (bI hT (x:=(.sl 1 1 [(k8 (U8 e10))]))) ?_;refine At.b 0 (λ_ e=>cH hT k8 (id:=0) (k:=1) e) λz11=>?_;exact λh=>At.k 4 ⟨_,_,h,jr⟩
       ·apply rt;exact At.x 0
     ·exact λh=>At.k 3 ⟨_,_,h,jr⟩
    ·apply rt;exact At.x 0
  ·apply rt;exact At.r 3
def aBz : Nat->Bool:=imL [1]
def jL(N:Nat)(e4 e6 e8:Int)(a0:aE):Nat->(List Int)->Int->Option ((List Int))
 | 0,_,_=>none
 | k+1,s10,s11=>
  cond (decide (s11 < 4)) (
   ae (idx ([e4,e6,e8,a0.gG.gA1]) s11) λe12=>
   ae (idx ([e4,e6,e8,a0.gG.gA1]) s11) λe13=>
   aO (U8 (I64 (cz e13 256))) λx14=>
   ae (mH 1 s10 (([U8 (cf e12 256),x14]:List Int))) λz15=>
   jL N e4 e6 e8 a0 k z15 (I64 (s11+1))) (
   some s10)
def jM(N:Nat)(a0:aE):Nat->(List Int)->Int->Option ((List Int))
 | 0,_,_=>none
 | k+1,s17,s18=>
  cond (decide (s18 < 3)) (
   ae (aQ s18 3) λ_=>
   ae (a0.gD.gE.toList[s18.toNat]?) λe20=>
   ae (bJ N s17 4 ([U64 e20])) λr21=>
   jM N a0 k r21.1 (I64 (s18+1))) (
   some s17)
def jW(N:Nat)(a0:aE):Option ((List Int)):=
 cond (a0.gC==1) (
  ae (mY N a0.gQ) λr1=>
  some r1.1) (
  cond (a0.gC==2) (
   ae (nA N a0.gW) λr2=>
   some r2.1) (
   cond (a0.gC==3) (
    ae (aQ 0 3) λ_=>
    ae (a0.gG.gE.toList[(af 0)]?) λe4=>
    ae (aQ 1 3) λ_=>
    ae (a0.gG.gE.toList[(af 1)]?) λe6=>
    ae (aQ 2 3) λ_=>
    ae (a0.gG.gE.toList[(af 2)]?) λe8=>
    ae (jL N e4 e6 e8 a0 N (([U8 a0.gG.gC]:List Int)) 0) λp9=>
    some p9) (
    ae (jM N a0 N ([U8 a0.gD.gC]) 0) λp16=>
    ae (hP N p16 a0.gD.gAt) λr22=>
    ae (hP N r22 a0.gD.gU) λr23=>
    ae (hP N r23 a0.gD.gV) λr24=>
    some r24)))
theorem vJ{N a0 r}(h:jW N a0=some r):FnM Tryz.prog 53 [] [(aE.enc a0)] (eL 1 k8 r) []:=by
 unfold jW at h;refine At.f aBz hT hmo Tryz.func53 rfl h ?_;refine At.c 5 ?_ ?_
 ·refine At.b 2 (λ_ e=>aK [] (aAR e)) λr1=>?_;apply rt;exact At.r 7
 ·refine At.c 3 ?_ ?_
  ·refine At.b 2 (λ_ e=>aK [] (aAW e)) λr2=>?_;apply rt;exact At.r 7
  ·refine At.c 3 ?_ ?_
   ·refine At.o 7 (sK hT k8 (k:=1) ([U8 a0.gG.gC]:List Int) (by kernel_rfl) (by kernel_rfl)) ?_;refine At.b 2 (λ_ e=>aG hT (k:=1) 0 [1] 1 e) λu3=>?_;refine At.b 0 (λ_ e=>aY hT j64 1 e) λe4=>?_;refine At.b 1 (λ_ e=>aG hT (k:=1) 0 [1] 1 e) λu5=>?_;refine At.b 0 (λ_ e=>aY hT j64 1 e) λe6=>?_;refine At.b 1 (λ_ e=>aG hT (k:=1) 0 [1] 1 e) λu7=>?_;refine At.b 0 (λ_ e=>aY hT j64 1 e) λe8=>?_;refine At.o 2 (bI hT (x:=(.sl 1 4 [(j64 e4),(j64 e6),(j64 e8),(j64 a0.gG.gA1)]))) ?_;refine At.L 2 [] 2 (λp9=>([(8,(eO 1 1 k8 p9))],[(1,.tail (p9.length*1))],[])) (λp9 J k=>∃s10 s11,jL N e4 e6 e8 a0 k s10 s11=some p9/\J [9] 2 [(8,(eO 1 1 k8 s10)),(10,(j64 s11))] [(1,.tail (s10.length*1))] []) N (λ_ h=>⟨_,_,h,jr⟩) (λp9 k s hI=>?_) λp9=>?_
    ·obtain⟨s10,s11,h,hj⟩:=hI;cases k with
     | zero=>cases h
     | succ k=>
      refine At.jr hj ?_ h;refine At.c 2 ?_ ?_
      ·refine bi λe12 he12=>?_;refine bi λe13 he13=>?_;refine lx ?_;intro x14;refine bi λz15 hz15=>?_;refine At.d 0 (dE1 3 (λ_=>bF hT j64 he12) (dE1 9 (λ_=>bF hT j64 he13) (dE1 13 (λ_=>bI hT (x:=(.sl 1 2 [(k8 (U8 (cf e12 256))),(k8 x14)]))) dE0))) (dF 14 (eO 1 1 k8 z15) [(1,.tail (z15.length*1))] [] (bG (cH hT k8 (id:=1) (k:=1) hz15)) dF0) ?_;exact λh=>At.k 3 ⟨_,_,h,jr⟩
      ·apply rt;exact At.x 0
    ·apply rt;exact At.r 2
   ·refine At.o 7 (bI hT (x:=(.sl 1 1 [(k8 (U8 a0.gD.gC))]))) ?_;refine At.L 2 [11] 1 (λp16=>([(12,(eL 1 k8 p16))],[],[])) (λp16 J k=>∃s17 s18,jM N a0 k s17 s18=some p16/\J [11] 1 [(12,(eL 1 k8 s17)),(13,(j64 s18))] [] []) N (λ_ h=>⟨_,_,h,jr⟩) (λp16 k s hI=>?_) λp16=>?_
    ·obtain⟨s17,s18,h,hj⟩:=hI;cases k with
     | zero=>cases h
     | succ k=>
      refine At.jr hj ?_ h;refine At.c 2 ?_ ?_
      ·refine At.b 3 (λ_ e=>aG hT (k:=1) 0 [1] 1 e) λu19=>?_;refine At.b 0 (λ_ e=>aY hT j64 1 e) λe20=>?_;refine At.o 1 (bI hT (x:=(.sl 1 1 [(k64 (U64 e20))]))) ?_;refine At.b 0 (λ_ e=>aK [] (kK e)) λr21=>?_;exact λh=>At.k 7 ⟨_,_,h,jr⟩
      ·apply rt;exact At.x 0
    ·refine bi λr22 hr22=>?_;refine bi λr23 hr23=>?_;refine bi λr24 hr24=>?_;refine At.d 0 dE0 (dF 3 (eO 1 1 k8 r22) [] [.tail (r22.length*1)] (bG (aK [] (pK hr22))) (dF 6 (eO 2 1 k8 r23) [] [.tail (r23.length*1)] (bG (aK [] (pK hr23))) (dF 9 (eO 3 1 k8 r24) [] [.tail (r24.length*1)] (bG (aK [] (pK hr24))) dF0))) ?_;apply rt;exact At.r 0
def fK(N:Nat)(a0:Int):Option (Int):=
 cond (a0==1) (
  some 2048) (
  cond (a0==2) (
   some 1024) (
   ae (cond (a0==3) (some (a0==3)) (some (a0==4))) λp1=>
   cond p1 (some 64) (some 0)))
theorem tO{N a0 r}(h:fK N a0=some r):FnM Tryz.prog 94 [] [(j64 a0)] (j64 r) []:=by
 unfold fK at h;refine At.f fZ hT hmo Tryz.func94 rfl h ?_;refine At.c 4 ?_ ?_
 ·apply rt;exact At.r 1
 ·refine At.c 2 ?_ ?_
  ·apply rt;exact At.r 1
  ·refine At.J 0 1 [] 0 (λp1=>([(8,(eB p1))],[],[])) (λp1=>?_) λp1=>?_
   ·refine At.c 2 ?_ ?_
    ·apply rt;exact At.jn 0
    ·apply rt;exact At.jn 2
   ·refine At.c 0 ?_ ?_
    ·apply rt;exact At.r 1
    ·apply rt;exact At.r 1
def aBe : Nat->Bool:=imL [1]
def lS(N:Nat)(a0:aE):Option (Int):=
 ae (cond (a0.gC==1) (
  ae (lU N a0.gQ) λr2=>
  ae (kB N a0.gW) λr3=>
  cond r3 (
   some ((r2,true))) (
   aO (!(aF.eq a0.gG (aF.mk 0 (#v[0,0,0]) 0))) λx4=>
   cond x4 (
    some ((r2,true))) (
    aO (!(aJ.eq a0.gD (aJ.mk 0 (#v[0,0,0]) (aB.mk 0 0 0) (aB.mk 0 0 0) (aB.mk 0 0 0)))) λx5=>
    some ((r2,x5))))) (
  cond (a0.gC==2) (
   ae (lX N a0.gW) λr6=>
   ae (mS N a0.gQ) λr7=>
   cond r7 (
    some ((r6,true))) (
    aO (!(aF.eq a0.gG (aF.mk 0 (#v[0,0,0]) 0))) λx8=>
    cond x8 (
     some ((r6,true))) (
     aO (!(aJ.eq a0.gD (aJ.mk 0 (#v[0,0,0]) (aB.mk 0 0 0) (aB.mk 0 0 0) (aB.mk 0 0 0)))) λx9=>
     some ((r6,x9))))) (
   cond (a0.gC==3) (
    ae (lO N a0.gG) λr10=>
    ae (mS N a0.gQ) λr11=>
    cond r11 (
     some ((r10,true))) (
     ae (kB N a0.gW) λr12=>
     cond r12 (
      some ((r10,true))) (
      aO (!(aJ.eq a0.gD (aJ.mk 0 (#v[0,0,0]) (aB.mk 0 0 0) (aB.mk 0 0 0) (aB.mk 0 0 0)))) λx13=>
      some ((r10,x13))))) (
    cond (a0.gC==4) (
     ae (oH N a0.gD) λr14=>
     ae (mS N a0.gQ) λr15=>
     cond r15 (
      some ((r14,true))) (
      ae (kB N a0.gW) λr16=>
      cond r16 (
       some ((r14,true))) (
       aO (!(aF.eq a0.gG (aF.mk 0 (#v[0,0,0]) 0))) λx17=>
       some ((r14,x17))))) (
     some ((12,false))))))) λp1=>
 cond (p1.1 != 0) (
  some p1.1) (
  cond p1.2 (
   some 5) (
   ae (jW N a0) λr18=>
   ae (fK N a0.gC) λr19=>
   aO (decide (((r18.length:Int)) > r19)) λx20=>
   cond x20 (some 9) (some 0)))
theorem aAz{N a0 r}(h:lS N a0=some r):FnM Tryz.prog 52 [] [(aE.enc a0)] (j64 r) []:=by
 unfold lS at h;refine At.f aBe hT hmo Tryz.func52 rfl h ?_;refine At.J 4 1 [1] 0 (λp1=>([(3,(j64 p1.1)),(4,(eB p1.2))],[],[])) (λp1=>?_) λp1=>?_
 ·refine At.c 4 ?_ ?_
  ·refine At.b 2 (λ_ e=>aK [] (vI e)) λr2=>?_;refine At.b 3 (λ_ e=>aK [] (qT e)) λr3=>?_;refine At.s 15 1 ?_ ?_
   ·refine At.g [15,21] 12 ?_;apply rt;exact At.jn 0
   ·refine At.g [15] 3 ?_;refine At.o 0 (mB aHV (a0.gG:aF) (aF.mk 0 (#v[0,0,0]) 0:aF) (by kernel_rfl) (by kernel_rfl) (λ_=>rfl) (λ_=>rfl) (by kernel_rfl) (by kernel_rfl)) ?_;refine lx ?_;intro x4;refine At.g [15] 2 ?_;refine At.s 21 0 ?_ ?_
    ·refine At.g [21] 6 ?_;apply rt;exact At.jn 0
    ·refine At.g [21] 3 ?_;refine At.o 0 (mB aGx (a0.gD:aJ) (aJ.mk 0 (#v[0,0,0]) (aB.mk 0 0 0) (aB.mk 0 0 0) (aB.mk 0 0 0):aJ) (by kernel_rfl) (by kernel_rfl) (λ_=>rfl) (λ_=>rfl) (by kernel_rfl) (by kernel_rfl)) ?_;refine lx ?_;intro x5;refine At.g [21] 2 ?_;apply rt;exact At.jn 0
  ·refine At.c 2 ?_ ?_
   ·refine At.b 2 (λ_ e=>aK [] (vK e)) λr6=>?_;refine At.b 3 (λ_ e=>aK [] (sW e)) λr7=>?_;refine At.s 35 1 ?_ ?_
    ·refine At.g [35,41] 12 ?_;apply rt;exact At.jn 0
    ·refine At.g [35] 3 ?_;refine At.o 0 (mB aHV (a0.gG:aF) (aF.mk 0 (#v[0,0,0]) 0:aF) (by kernel_rfl) (by kernel_rfl) (λ_=>rfl) (λ_=>rfl) (by kernel_rfl) (by kernel_rfl)) ?_;refine lx ?_;intro x8;refine At.g [35] 2 ?_;refine At.s 41 0 ?_ ?_
     ·refine At.g [41] 6 ?_;apply rt;exact At.jn 0
     ·refine At.g [41] 3 ?_;refine At.o 0 (mB aGx (a0.gD:aJ) (aJ.mk 0 (#v[0,0,0]) (aB.mk 0 0 0) (aB.mk 0 0 0) (aB.mk 0 0 0):aJ) (by kernel_rfl) (by kernel_rfl) (λ_=>rfl) (λ_=>rfl) (by kernel_rfl) (by kernel_rfl)) ?_;refine lx ?_;intro x9;refine At.g [41] 2 ?_;apply rt;exact At.jn 0
   ·refine At.c 2 ?_ ?_
    ·refine At.b 2 (λ_ e=>aK [] (zD e)) λr10=>?_;refine At.b 3 (λ_ e=>aK [] (sW e)) λr11=>?_;refine At.s 55 1 ?_ ?_
     ·refine At.g [55,60] 11 ?_;apply rt;exact At.jn 0
     ·refine At.g [55] 2 ?_;refine At.b 0 (λ_ e=>aK [] (qT e)) λr12=>?_;refine At.g [55] 2 ?_;refine At.s 60 0 ?_ ?_
      ·refine At.g [60] 6 ?_;apply rt;exact At.jn 0
      ·refine At.g [60] 3 ?_;refine At.o 0 (mB aGx (a0.gD:aJ) (aJ.mk 0 (#v[0,0,0]) (aB.mk 0 0 0) (aB.mk 0 0 0) (aB.mk 0 0 0):aJ) (by kernel_rfl) (by kernel_rfl) (λ_=>rfl) (λ_=>rfl) (by kernel_rfl) (by kernel_rfl)) ?_;refine lx ?_;intro x13;refine At.g [60] 2 ?_;apply rt;exact At.jn 0
    ·refine At.c 2 ?_ ?_
     ·refine At.b 2 (λ_ e=>aK [] (aAx e)) λr14=>?_;refine At.b 3 (λ_ e=>aK [] (sW e)) λr15=>?_;refine At.s 74 1 ?_ ?_
      ·refine At.g [74,79] 11 ?_;apply rt;exact At.jn 0
      ·refine At.g [74] 2 ?_;refine At.b 0 (λ_ e=>aK [] (qT e)) λr16=>?_;refine At.g [74] 2 ?_;refine At.s 79 0 ?_ ?_
       ·refine At.g [79] 6 ?_;apply rt;exact At.jn 0
       ·refine At.g [79] 3 ?_;refine At.o 0 (mB aHV (a0.gG:aF) (aF.mk 0 (#v[0,0,0]) 0:aF) (by kernel_rfl) (by kernel_rfl) (λ_=>rfl) (λ_=>rfl) (by kernel_rfl) (by kernel_rfl)) ?_;refine lx ?_;intro x17;refine At.g [79] 2 ?_;apply rt;exact At.jn 0
     ·apply rt;exact At.jn 0
 ·refine At.c 2 ?_ ?_
  ·apply rt;exact At.r 2
  ·refine At.c 1 ?_ ?_
   ·apply rt;exact At.r 1
   ·refine bi λr18 hr18=>?_;refine bi λr19 hr19=>?_;refine lx ?_;intro x20;refine At.d 0 (dE2 1 (eL 1 k8 r18) (λ_=>cM (vJ hr18)) (dE2 5 (j64 r19) (λ_=>cM (tO hr19)) dE0)) dF0 ?_;refine At.c 0 ?_ ?_
    ·apply rt;exact At.r 1
    ·apply rt;exact At.r 1
def aAu : Nat->Bool:=imL [1]
def mZ(N:Nat)(a0:aE):Option ((List Int)×Int):=
 ae (lS N a0) λr1=>
 cond (r1 != 0) (
  some (([],r1))) (
  ae (jW N a0) λr2=>
  some ((r2,0)))
theorem aAh{N a0 r}(h:mZ N a0=some r):FnM Tryz.prog 25 [] [(aE.enc a0)] (.tup [(eL 1 k8 r.1),(j64 r.2)]) []:=by
 unfold mZ at h;refine At.f aAu hT hmo Tryz.func25 rfl h ?_;refine At.b 4 (λ_ e=>aK [] (aAz e)) λr1=>?_;refine At.c 3 ?_ ?_
 ·apply rt;exact At.r 3
 ·refine At.b 1 (λ_ e=>aK [] (vJ e)) λr2=>?_;apply rt;exact At.r 2
def iI(N:Nat)(a0:Int):Nat->Int->Option (Int)
 | 0,_=>none
 | k+1,s2=>
  aO (decide (a0 > (I64 (256*s2)))) λx3=>
  aO (cond x3 (decide (s2 < 1000)) false) λx4=>
  cond x4 (iI N a0 k (I64 (s2+1))) (some s2)
def lF(N:Nat)(a0:Int):Option (Int):=
 ae (iI N a0 N 0) λp1=>
 ae (aO (decide (a0 > (I64 (256*p1)))) λx6=>
 cond x6 (
  aO (lP (cf a0 256) 1) λx7=>
  aO (I64 ((I64 (cz a0 256))+x7)) λx8=>
  some x8) (
  some p1)) λp5=>
 some p5
theorem uT{N a0 r}(h:lF N a0=some r):FnM Tryz.prog 26 [] [(j64 a0)] (j64 r) []:=by
 unfold lF at h;refine At.f fZ hT hmo Tryz.func26 rfl h ?_;refine At.L 2 [0] 0 (λp1=>([(3,(j64 p1))],[],[])) (λp1 J k=>∃s2,iI N a0 k s2=some p1/\J [0] 0 [(3,(j64 s2))] [] []) N (λ_ h=>⟨_,h,jr⟩) (λp1 k s hI=>?_) λp1=>?_
 ·obtain⟨s2,h,hj⟩:=hI;cases k with
  | zero=>cases h
  | succ k=>
   refine At.jr hj ?_ h;refine lx ?_;intro x3;refine lx ?_;intro x4;refine At.c 8 ?_ ?_
   ·exact λh=>At.k 3 ⟨_,h,jr⟩
   ·apply rt;exact At.x 0
 ·refine At.J 0 1 [] 0 (λp5=>([(3,(j64 p5))],[],[])) (λp5=>?_) λp5=>?_
  ·refine lx ?_;intro x6;refine At.c 4 ?_ ?_
   ·refine lx ?_;intro x7;refine lx ?_;intro x8;apply rt;exact At.jn 7
   ·apply rt;exact At.jn 0
  ·apply rt;exact At.r 2
def aBs : Nat->Bool:=imL [1]
def fT(N:Nat)(a0:aD):Nat->Int->Option (Sum (Unit) (Int))
 | 0,_=>none
 | k+1,s3=>
  cond (decide (s3 < 8)) (
   ae (idx a0.gR.toList s3) λe4=>
   cond (decide (e4>=16)) (
    some (Sum.inr 5)) (
    fT N a0 k (I64 (s3+1)))) (
   some (Sum.inl (())))
def nX(N:Nat)(a0:aD):Option (Int):=
 ae (fK N a0.gC) λr1=>
 cond (r1==0) (
  some 12) (
  ae (fT N a0 N 0) λo=>oP o (λp2=>
   aO (decide (a0.gT > a0.gTo)) λx5=>
   aO (cond x5 true (decide (a0.gP < 1))) λx6=>
   cond x6 (
    some 5) (
    ae (fK N a0.gC) λr7=>
    cond (decide (a0.gP > r7)) (
     some 9) (
     ae (lF N a0.gP) λr8=>
     cond (a0.gA3 != r8) (some 5) (some 0)))) (λr=>some r))
theorem aA8{N a0 r}(h:nX N a0=some r):FnM Tryz.prog 54 [] [(aD.enc a0)] (j64 r) []:=by
 unfold nX at h;refine At.f aBs hT hmo Tryz.func54 rfl h ?_;refine At.b 4 (λ_ e=>aK [] (tO e)) λr1=>?_;refine At.c 1 ?_ ?_
 ·apply rt;exact At.r 1
 ·refine At.LS 1 [1] 0 (λp2=>([],[],[])) (λop2 J k=>∃s3,fT N a0 k s3=some op2/\J [1] 0 [(3,(j64 s3))] [] []) N (λ_ h=>⟨_,h,jr⟩) (λop2 g2 k s hI=>?_) λp2=>?_
  ·obtain⟨s3,h,hj⟩:=hI;cases k with
   | zero=>cases h
   | succ k=>
    refine At.jr hj ?_ h;refine At.c 2 ?_ ?_
    ·refine At.b 2 (λ_ e=>bN hT (N:=8) (k:=1) k8 a0.gR e) λe4=>?_;refine At.c 2 ?_ ?_
     ·intro e;apply wT g2 e;exact At.r 1
     ·exact λh=>At.k 3 ⟨_,h,jr⟩
    ·apply rt;exact At.xs 0
  ·refine lx ?_;intro x5;refine lx ?_;intro x6;refine At.c 10 ?_ ?_
   ·apply rt;exact At.r 1
   ·refine bi λr7 hr7=>?_;refine At.d 0 (dE2 4 (j64 r7) (λ_=>cM (tO hr7)) dE0) dF0 ?_;refine At.c 0 ?_ ?_
    ·apply rt;exact At.r 1
    ·refine bi λr8 hr8=>?_;refine At.d 0 (dE2 4 (j64 r8) (λ_=>cM (uT hr8)) dE0) dF0 ?_;refine At.c 0 ?_ ?_
     ·apply rt;exact At.r 1
     ·apply rt;exact At.r 1
def aA6 : Nat->Bool:=imL [1]
def fA(N:Nat)(a0:aD):Nat->(List Int)->Int->Option ((List Int))
 | 0,_,_=>none
 | k+1,s6,s7=>
  cond (decide (s7 < 8)) (
   ae (idx a0.gR.toList s7) λe8=>
   ae (mH 1 s6 (([e8]:List Int))) λz9=>
   fA N a0 k z9 (I64 (s7+1))) (
   some s6)
def kZ(N:Nat)(a0:aD):Option ((List Int)×Int):=
 ae (nX N a0) λr1=>
 cond (r1 != 0) (
  some (([],r1))) (
  ae (bJ N [] 8 ([a0.gId])) λr2=>
  ae (bJ N r2.1 1 ([U64 a0.gC])) λr3=>
  ae (bJ N r3.1 4 ([U64 a0.gA2])) λr4=>
  ae (fA N a0 N r4.1 0) λp5=>
  ae (bJ N p5 4 ([U64 a0.gT,U64 a0.gTo,U64 a0.gP])) λr10=>
  ae (bJ N r10.1 2 ([U64 a0.gA3])) λr11=>
  some ((r11.1,0)))
theorem aAX{N a0 r}(h:kZ N a0=some r):FnM Tryz.prog 27 [] [(aD.enc a0)] (.tup [(eL 1 k8 r.1),(j64 r.2)]) []:=by
 unfold kZ at h;refine At.f aA6 hT hmo Tryz.func27 rfl h ?_;refine At.b 4 (λ_ e=>aK [] (aA8 e)) λr1=>?_;refine At.c 3 ?_ ?_
 ·apply rt;exact At.r 3
 ·refine At.o 2 (bI hT (x:=(.sl 1 1 [(k64 a0.gId)]))) ?_;refine At.b 0 (λ_ e=>aK [] (kK e)) λr2=>?_;refine At.o 9 (bI hT (x:=(.sl 1 1 [(k64 (U64 a0.gC))]))) ?_;refine At.b 0 (λ_ e=>aK [] (kK e)) λr3=>?_;refine At.o 8 (bI hT (x:=(.sl 1 1 [(k64 (U64 a0.gA2))]))) ?_;refine At.b 0 (λ_ e=>aK [] (kK e)) λr4=>?_;refine At.L 5 [1] 3 (λp5=>([(5,(eO 2 1 k8 p5))],[(2,.tail (p5.length*1))],[])) (λp5 J k=>∃s6 s7,fA N a0 k s6 s7=some p5/\J [1] 3 [(5,(eO 2 1 k8 s6)),(7,(j64 s7))] [(2,.tail (s6.length*1))] []) N (λ_ h=>⟨_,_,h,jr⟩) (λp5 k s hI=>?_) λp5=>?_
  ·obtain⟨s6,s7,h,hj⟩:=hI;cases k with
   | zero=>cases h
   | succ k=>
    refine At.jr hj ?_ h;refine At.c 2 ?_ ?_
    ·refine At.b 3 (λ_ e=>bN hT (N:=8) (k:=1) k8 a0.gR e) λe8=>?_;refine At.o 1 (bI hT (x:=(.sl 1 1 [(k8 e8)]))) ?_;refine At.b 0 (λ_ e=>cH hT k8 (id:=2) (k:=1) e) λz9=>?_;exact λh=>At.k 4 ⟨_,_,h,jr⟩
    ·apply rt;exact At.x 0
  ·refine At.o 10 (bI hT (x:=(.sl 1 3 [(k64 (U64 a0.gT)),(k64 (U64 a0.gTo)),(k64 (U64 a0.gP))]))) ?_;refine At.b 0 (λ_ e=>aK [] (kK e)) λr10=>?_;refine At.o 8 (bI hT (x:=(.sl 1 1 [(k64 (U64 a0.gA3))]))) ?_;refine At.b 0 (λ_ e=>aK [] (kK e)) λr11=>?_;apply rt;exact At.r 7
def aBu : Nat->Bool:=imL [2]
def jE(N:Nat)(a0:(Vector Int 8)):Nat->(Vector Int 12)->Int->Option ((Vector Int 12))
 | 0,_,_=>none
 | k+1,s2,s3=>
  cond (decide (s3 < 8)) (
   ae (idx a0.toList s3) λe4=>
   ae (aQ s3 12) λ_=>
   ae (s2.toList[s3.toNat]?) λe6=>
   jE N a0 k (s2.setIfInBounds s3.toNat e4) (I64 (s3+1))) (
   some s2)
def jI(N:Nat)(a1:Int):Nat->(Vector Int 12)->Int->Option ((Vector Int 12))
 | 0,_,_=>none
 | k+1,s8,s9=>
  cond (decide (s9 < 4)) (
   ae (yG .u32 (U32 a1) (I64 (8*s9))) λx10=>
   ae (aQ (I64 (8+s9)) 12) λ_=>
   ae (s8.toList[(I64 (8+s9)).toNat]?) λe12=>
   jI N a1 k (s8.setIfInBounds ((I64 (8+s9)).toNat) (U8 x10)) (I64 (s9+1))) (
   some s8)
def iA(N:Nat)(a0:(Vector Int 8))(a1:Int):Option ((Vector Int 12)):=
 ae (jE N a0 N (ah 12 0) 0) λp1=>
 ae (jI N a1 N p1 0) λp7=>
 some p7
theorem pJ{N a0 a1 r}(h:iA N a0 a1=some r):FnM Tryz.prog 10 [] [(eA 8 1 k8 a0),(j64 a1)] (eA 12 1 k8 r) []:=by
 unfold iA at h;refine At.f aBu hT hmo Tryz.func10 rfl h ?_;refine At.L 4 [1,4,5] 2 (λp1=>([],[(1,.var (eA 12 1 k8 p1))],[])) (λp1 J k=>∃s2 s3,jE N a0 k s2 s3=some p1/\J [1,2,4,5] 2 [(6,(j64 s3))] [(1,.var (eA 12 1 k8 s2))] []) N (λ_ h=>⟨_,_,h,jr⟩) (λp1 k s hI=>?_) λp1=>?_
 ·obtain⟨s2,s3,h,hj⟩:=hI;cases k with
  | zero=>cases h
  | succ k=>
   refine At.jr hj ?_ h;refine At.c 2 ?_ ?_
   ·refine At.b 2 (λ_ e=>bN hT (N:=8) (k:=1) k8 a0 e) λe4=>?_;refine At.b 1 (λ_ e=>aG hT (k:=1) 1 [] 0 e) λu5=>?_;refine At.b 0 (λ_ e=>bE hT k8 0 s2 e e4 (by kernel_rfl) (by kernel_rfl) (H':=[.var (eA 12 1 k8 (ah 12 0)),.var (eA 12 1 k8 (s2.setIfInBounds s3.toNat e4))])) λe6=>?_;exact λh=>At.k 3 ⟨_,_,h,jr⟩
   ·apply rt;exact At.x 0
 ·refine At.L 4 [4,5] 2 (λp7=>([],[(1,.var (eA 12 1 k8 p7))],[])) (λp7 J k=>∃s8 s9,jI N a1 k s8 s9=some p7/\J [4,5,7] 2 [(8,(j64 s9))] [(1,.var (eA 12 1 k8 s8))] []) N (λ_ h=>⟨_,_,h,jr⟩) (λp7 k s hI=>?_) λp7=>?_
  ·obtain⟨s8,s9,h,hj⟩:=hI;cases k with
   | zero=>cases h
   | succ k=>
    refine At.jr hj ?_ h;refine At.c 2 ?_ ?_
    ·refine At.b 5 (λ_ e=>pM hT (k' := .i64) e (by kernel_rfl) (by kernel_rfl)) λx10=>?_;refine At.b 1 (λ_ e=>aG hT (k:=1) 1 [] 0 e) λu11=>?_;refine At.b 0 (λ_ e=>bE hT k8 0 s8 e (U8 x10) (by kernel_rfl) (by kernel_rfl) (H':=[.var (eA 12 1 k8 (ah 12 0)),.var (eA 12 1 k8 (s8.setIfInBounds ((I64 (8+s9)).toNat) (U8 x10)))])) λe12=>?_;exact λh=>At.k 3 ⟨_,_,h,jr⟩
    ·apply rt;exact At.x 0
  ·apply rt;exact At.r 2
def dQ(N:Nat)(a0:(List Int)):Nat->Int->Int->Option (Int)
 | 0,_,_=>none
 | k+1,s2,s3=>
  cond (decide (s3>=0)) (
   ae (idx a0 s3) λe4=>
   aO (U32 ((U32 (s2*256))+(U32 e4))) λx5=>
   dQ N a0 k x5 (I64 (s3 - 1))) (
   some s2)
def fM(N:Nat)(a0:(List Int)):Option (Int):=
 ae (dQ N a0 N 0 3) λp1=>
 some p1
theorem rI{N a0 r}(h:fM N a0=some r):FnM Tryz.prog 159 [] [(eL 1 k8 a0)] (k32 r) []:=by
 unfold fM at h;refine At.f fZ hT hmo Tryz.func159 rfl h ?_;refine At.L 3 [] 0 (λp1=>([(3,(k32 p1))],[],[])) (λp1 J k=>∃s2 s3,dQ N a0 k s2 s3=some p1/\J [0] 0 [(3,(k32 s2)),(4,(j64 s3))] [] []) N (λ_ h=>⟨_,_,h,jr⟩) (λp1 k s hI=>?_) λp1=>?_
 ·obtain⟨s2,s3,h,hj⟩:=hI;cases k with
  | zero=>cases h
  | succ k=>
   refine At.jr hj ?_ h;refine At.c 2 ?_ ?_
   ·refine At.b 4 (λ_ e=>bF hT k8 e) λe4=>?_;refine lx ?_;intro x5;exact λh=>At.k 7 ⟨_,_,h,jr⟩
   ·apply rt;exact At.x 0
 ·apply rt;exact At.r 2
def aBb : Nat->Bool:=imL [3,5]
def oK(N:Nat)  : Nat->(Vector Int 16)->Int->Option ((Vector Int 16))
 | 0,_,_=>none
 | k+1,s2,s3=>
  cond (decide (s3 < 4)) (
   ae (idx aKT.data.toList (I64 (4*s3))) λc4=>
   aO (I64 ((I64 (4*s3))+1)) λx5=>
   ae (idx aKT.data.toList x5) λc6=>
   aO (I64 ((I64 (4*s3))+2)) λx7=>
   ae (idx aKT.data.toList x7) λc8=>
   aO (I64 ((I64 (4*s3))+3)) λx9=>
   ae (idx aKT.data.toList x9) λc10=>
   ae (fM N ([(UInt8.toNat c4:Int),(UInt8.toNat c6:Int),(UInt8.toNat c8:Int),(UInt8.toNat c10:Int)])) λr11=>
   ae (aQ s3 16) λ_=>
   ae (s2.toList[s3.toNat]?) λe13=>
   oK N k (s2.setIfInBounds s3.toNat r11) (I64 (s3+1))) (
   some s2)
def dX(N:Nat)(a0:(Vector Int 32)):Nat->(Vector Int 16)->Int->Option ((Vector Int 16))
 | 0,_,_=>none
 | k+1,s15,s16=>
  cond (decide (s16 < 8)) (
   aO (I64 ((I64 (4*s16))+4)) λx17=>
   ae (eU a0.toList (I64 (4*s16)) x17) λs18=>
   ae (fM N s18) λr19=>
   ae (aQ (I64 (4+s16)) 16) λ_=>
   ae (s15.toList[(I64 (4+s16)).toNat]?) λe21=>
   dX N a0 k (s15.setIfInBounds ((I64 (4+s16)).toNat) r19) (I64 (s16+1))) (
   some s15)
def dY(N:Nat)(a2:(Vector Int 12)):Nat->(Vector Int 16)->Int->Option ((Vector Int 16))
 | 0,_,_=>none
 | k+1,s25,s26=>
  cond (decide (s26 < 3)) (
   aO (I64 ((I64 (4*s26))+4)) λx27=>
   ae (eU a2.toList (I64 (4*s26)) x27) λs28=>
   ae (fM N s28) λr29=>
   ae (aQ (I64 (13+s26)) 16) λ_=>
   ae (s25.toList[(I64 (13+s26)).toNat]?) λe31=>
   dY N a2 k (s25.setIfInBounds ((I64 (13+s26)).toNat) r29) (I64 (s26+1))) (
   some s25)
def lW(N:Nat)(a0:(Vector Int 32))(a1:Int)(a2:(Vector Int 12)):Option ((Vector Int 16)):=
 ae (oK N N (ah 16 0) 0) λp1=>
 ae (dX N a0 N p1 0) λp14=>
 ae (aQ 12 16) λ_=>
 ae (p14.toList[(af 12)]?) λe23=>
 ae (dY N a2 N (p14.setIfInBounds ((af 12)) a1) 0) λp24=>
 some p24
theorem vM{N a0 a1 a2 r}(h:lW N a0 a1 a2=some r):FnM Tryz.prog 146 [] [(eA 32 1 k8 a0),(k32 a1),(eA 12 1 k8 a2)] (eA 16 1 k32 r) []:=by
 unfold lW at h;refine At.f aBb hT hmo Tryz.func146 rfl h ?_;refine At.L 6 [1,3,5,6,7] 2 (λp1=>([],[(1,.var (eA 16 1 k32 p1))],[])) (λp1 J k=>∃s2 s3,oK N k s2 s3=some p1/\J [1,3,5,6,7,8] 2 [(9,(j64 s3))] [(1,.var (eA 16 1 k32 s2))] []) N (λ_ h=>⟨_,_,h,jr⟩) (λp1 k s hI=>?_) λp1=>?_
 ·obtain⟨s2,s3,h,hj⟩:=hI;cases k with
  | zero=>cases h
  | succ k=>
   refine At.jr hj ?_ h;refine At.c 2 ?_ ?_
   ·refine bi λc4 hc4=>?_;refine lx ?_;intro x5;refine bi λc6 hc6=>?_;refine lx ?_;intro x7;refine bi λc8 hc8=>?_;refine lx ?_;intro x9;refine bi λc10 hc10=>?_;refine bi λr11 hr11=>?_;refine bi λu12 hu12=>?_;refine bi λe13 he13=>?_;refine At.d 0 (dE1 4 (λ_=>aES hT hc4 (by kernel_rfl) (by kernel_rfl)) (dE1 9 (λ_=>aES hT hc6 (by kernel_rfl) (by kernel_rfl)) (dE1 14 (λ_=>aES hT hc8 (by kernel_rfl) (by kernel_rfl)) (dE1 19 (λ_=>aES hT hc10 (by kernel_rfl) (by kernel_rfl)) (dE1 20 (λ_=>bI hT (x:=(.sl 1 4 [(k8 ((UInt8.toNat c4:Int))),(k8 ((UInt8.toNat c6:Int))),(k8 ((UInt8.toNat c8:Int))),(k8 ((UInt8.toNat c10:Int)))]))) (dE2 21 (k32 r11) (λ_=>cM (rI hr11)) (dE1 22 (λ_=>aG hT (k:=1) 1 [] 0 hu12) dE0))))))) (dF 23 (.v (.bool false)) [(1,.var (eA 16 1 k32 (s2.setIfInBounds s3.toNat r11)))] [] (bG (bE hT k32 0 s2 he13 r11 (by kernel_rfl) (by kernel_rfl) (H':=[.var (eA 16 1 k32 (ah 16 0)),.var (eA 16 1 k32 (s2.setIfInBounds s3.toNat r11))]))) dF0) ?_;exact λh=>At.k 3 ⟨_,_,h,jr⟩
   ·apply rt;exact At.x 0
 ·refine At.L 1 [1,5,6,7] 2 (λp14=>([],[(1,.var (eA 16 1 k32 p14))],[])) (λp14 J k=>∃s15 s16,dX N a0 k s15 s16=some p14/\J [1,3,5,6,7] 2 [(10,(j64 s16))] [(1,.var (eA 16 1 k32 s15))] []) N (λ_ h=>⟨_,_,h,jr⟩) (λp14 k s hI=>?_) λp14=>?_
  ·obtain⟨s15,s16,h,hj⟩:=hI;cases k with
   | zero=>cases h
   | succ k=>
    refine At.jr hj ?_ h;refine At.c 2 ?_ ?_
    ·refine lx ?_;intro x17;refine At.b 7 (λ_ e=>mC hT (N:=32) (k:=1) k8 a0 e) λs18=>?_;refine At.b 0 (λ_ e=>aK [] (rI e)) λr19=>?_;refine At.b 0 (λ_ e=>aG hT (k:=1) 1 [] 0 e) λu20=>?_;refine At.b 0 (λ_ e=>bE hT k32 0 s15 e r19 (by kernel_rfl) (by kernel_rfl) (H':=[.var (eA 16 1 k32 (ah 16 0)),.var (eA 16 1 k32 (s15.setIfInBounds ((I64 (4+s16)).toNat) r19))])) λe21=>?_;exact λh=>At.k 3 ⟨_,_,h,jr⟩
    ·apply rt;exact At.x 0
  ·refine At.b 1 (λ_ e=>aG hT (k:=1) 1 [] 0 e) λu22=>?_;refine At.b 0 (λ_ e=>bE hT k32 0 p14 e a1 (by kernel_rfl) (by kernel_rfl) (H':=[.var (eA 16 1 k32 (ah 16 0)),.var (eA 16 1 k32 (p14.setIfInBounds ((af 12)) a1))])) λe23=>?_;refine At.L 1 [6,7] 2 (λp24=>([],[(1,.var (eA 16 1 k32 p24))],[])) (λp24 J k=>∃s25 s26,dY N a2 k s25 s26=some p24/\J [5,6,7] 2 [(11,(j64 s26))] [(1,.var (eA 16 1 k32 s25))] []) N (λ_ h=>⟨_,_,h,jr⟩) (λp24 k s hI=>?_) λp24=>?_
   ·obtain⟨s25,s26,h,hj⟩:=hI;cases k with
    | zero=>cases h
    | succ k=>
     refine At.jr hj ?_ h;refine At.c 2 ?_ ?_
     ·refine lx ?_;intro x27;refine At.b 7 (λ_ e=>mC hT (N:=12) (k:=1) k8 a2 e) λs28=>?_;refine At.b 0 (λ_ e=>aK [] (rI e)) λr29=>?_;refine At.b 0 (λ_ e=>aG hT (k:=1) 1 [] 0 e) λu30=>?_;refine At.b 0 (λ_ e=>bE hT k32 0 s25 e r29 (by kernel_rfl) (by kernel_rfl) (H':=[.var (eA 16 1 k32 (ah 16 0)),.var (eA 16 1 k32 (s25.setIfInBounds ((I64 (13+s26)).toNat) r29))])) λe31=>?_;exact λh=>At.k 3 ⟨_,_,h,jr⟩
     ·apply rt;exact At.x 0
   ·apply rt;exact At.r 2
def cY(N:Nat)(a0 a1:Int):Option (Int):=
 ae (aD9 .u32 a0 a1) λx1=>
 ae (yG .u32 a0 (I64 (32 - a1))) λx2=>
 some (bor .u32 x1 x2)
theorem qF{N a0 a1 r}(h:cY N a0 a1=some r):FnM Tryz.prog 162 [] [(k32 a0),(j64 a1)] (k32 r) []:=by
 unfold cY at h;refine At.f fZ hT hmo Tryz.func162 rfl h ?_;refine bi λx1 hx1=>?_;refine bi λx2 hx2=>?_;refine At.d 1 (dE1 2 (λ_=>vR hT (k' := .i64) hx1 (by kernel_rfl) (by kernel_rfl)) (dE1 6 (λ_=>pM hT (k' := .i64) hx2 (by kernel_rfl) (by kernel_rfl)) dE0)) dF0 ?_;apply rt;exact At.r 0
def mG(N:Nat)(a0:(Vector Int 4)):Option ((Vector Int 4)):=
 ae (aQ 0 4) λ_=>
 ae (a0.toList[(af 0)]?) λe2=>
 ae (aQ 1 4) λ_=>
 ae (a0.toList[(af 1)]?) λe4=>
 ae (aQ 0 4) λ_=>
 ae (a0.toList[(af 0)]?) λe6=>
 ae (aQ 3 4) λ_=>
 ae ((a0.setIfInBounds ((af 0)) (U32 (e2+e4))).toList[(af 3)]?) λe8=>
 ae (aQ 0 4) λ_=>
 ae ((a0.setIfInBounds ((af 0)) (U32 (e2+e4))).toList[(af 0)]?) λe10=>
 ae (cY N (wV .u32 e8 e10) 16) λr11=>
 ae (aQ 3 4) λ_=>
 ae ((a0.setIfInBounds ((af 0)) (U32 (e2+e4))).toList[(af 3)]?) λe13=>
 ae (aQ 2 4) λ_=>
 ae (((a0.setIfInBounds ((af 0)) (U32 (e2+e4))).setIfInBounds ((af 3)) r11).toList[(af 2)]?) λe15=>
 ae (aQ 3 4) λ_=>
 ae (((a0.setIfInBounds ((af 0)) (U32 (e2+e4))).setIfInBounds ((af 3)) r11).toList[(af 3)]?) λe17=>
 ae (aQ 2 4) λ_=>
 ae (((a0.setIfInBounds ((af 0)) (U32 (e2+e4))).setIfInBounds ((af 3)) r11).toList[(af 2)]?) λe19=>
 ae (aQ 1 4) λ_=>
 ae ((((a0.setIfInBounds ((af 0)) (U32 (e2+e4))).setIfInBounds ((af 3)) r11).setIfInBounds ((af 2)) (U32 (e15+e17))).toList[(af 1)]?) λe21=>
 ae (aQ 2 4) λ_=>
 ae ((((a0.setIfInBounds ((af 0)) (U32 (e2+e4))).setIfInBounds ((af 3)) r11).setIfInBounds ((af 2)) (U32 (e15+e17))).toList[(af 2)]?) λe23=>
 ae (cY N (wV .u32 e21 e23) 12) λr24=>
 ae (aQ 1 4) λ_=>
 ae ((((a0.setIfInBounds ((af 0)) (U32 (e2+e4))).setIfInBounds ((af 3)) r11).setIfInBounds ((af 2)) (U32 (e15+e17))).toList[(af 1)]?) λe26=>
 ae (aQ 0 4) λ_=>
 ae (((((a0.setIfInBounds ((af 0)) (U32 (e2+e4))).setIfInBounds ((af 3)) r11).setIfInBounds ((af 2)) (U32 (e15+e17))).setIfInBounds ((af 1)) r24).toList[(af 0)]?) λe28=>
 ae (aQ 1 4) λ_=>
 ae (((((a0.setIfInBounds ((af 0)) (U32 (e2+e4))).setIfInBounds ((af 3)) r11).setIfInBounds ((af 2)) (U32 (e15+e17))).setIfInBounds ((af 1)) r24).toList[(af 1)]?) λe30=>
 ae (aQ 0 4) λ_=>
 ae (((((a0.setIfInBounds ((af 0)) (U32 (e2+e4))).setIfInBounds ((af 3)) r11).setIfInBounds ((af 2)) (U32 (e15+e17))).setIfInBounds ((af 1)) r24).toList[(af 0)]?) λe32=>
 ae (aQ 3 4) λ_=>
 ae ((((((a0.setIfInBounds ((af 0)) (U32 (e2+e4))).setIfInBounds ((af 3)) r11).setIfInBounds ((af 2)) (U32 (e15+e17))).setIfInBounds ((af 1)) r24).setIfInBounds ((af 0)) (U32 (e28+e30))).toList[(af 3)]?) λe34=>
 ae (aQ 0 4) λ_=>
 ae ((((((a0.setIfInBounds ((af 0)) (U32 (e2+e4))).setIfInBounds ((af 3)) r11).setIfInBounds ((af 2)) (U32 (e15+e17))).setIfInBounds ((af 1)) r24).setIfInBounds ((af 0)) (U32 (e28+e30))).toList[(af 0)]?) λe36=>
 ae (cY N (wV .u32 e34 e36) 8) λr37=>
 ae (aQ 3 4) λ_=>
 ae ((((((a0.setIfInBounds ((af 0)) (U32 (e2+e4))).setIfInBounds ((af 3)) r11).setIfInBounds ((af 2)) (U32 (e15+e17))).setIfInBounds ((af 1)) r24).setIfInBounds ((af 0)) (U32 (e28+e30))).toList[(af 3)]?) λe39=>
 ae (aQ 2 4) λ_=>
 ae (((((((a0.setIfInBounds ((af 0)) (U32 (e2+e4))).setIfInBounds ((af 3)) r11).setIfInBounds ((af 2)) (U32 (e15+e17))).setIfInBounds ((af 1)) r24).setIfInBounds ((af 0)) (U32 (e28+e30))).setIfInBounds ((af 3)) r37).toList[(af 2)]?) λe41=>
 ae (aQ 3 4) λ_=>
 ae (((((((a0.setIfInBounds ((af 0)) (U32 (e2+e4))).setIfInBounds ((af 3)) r11).setIfInBounds ((af 2)) (U32 (e15+e17))).setIfInBounds ((af 1)) r24).setIfInBounds ((af 0)) (U32 (e28+e30))).setIfInBounds ((af 3)) r37).toList[(af 3)]?) λe43=>
 ae (aQ 2 4) λ_=>
 ae (((((((a0.setIfInBounds ((af 0)) (U32 (e2+e4))).setIfInBounds ((af 3)) r11).setIfInBounds ((af 2)) (U32 (e15+e17))).setIfInBounds ((af 1)) r24).setIfInBounds ((af 0)) (U32 (e28+e30))).setIfInBounds ((af 3)) r37).toList[(af 2)]?) λe45=>
 ae (aQ 1 4) λ_=>
 ae ((((((((a0.setIfInBounds ((af 0)) (U32 (e2+e4))).setIfInBounds ((af 3)) r11).setIfInBounds ((af 2)) (U32 (e15+e17))).setIfInBounds ((af 1)) r24).setIfInBounds ((af 0)) (U32 (e28+e30))).setIfInBounds ((af 3)) r37).setIfInBounds ((af 2)) (U32 (e41+e43))).toList[(af 1)]?) λe47=>
 ae (aQ 2 4) λ_=>
 ae ((((((((a0.setIfInBounds ((af 0)) (U32 (e2+e4))).setIfInBounds ((af 3)) r11).setIfInBounds ((af 2)) (U32 (e15+e17))).setIfInBounds ((af 1)) r24).setIfInBounds ((af 0)) (U32 (e28+e30))).setIfInBounds ((af 3)) r37).setIfInBounds ((af 2)) (U32 (e41+e43))).toList[(af 2)]?) λe49=>
 ae (cY N (wV .u32 e47 e49) 7) λr50=>
 ae (aQ 1 4) λ_=>
 ae ((((((((a0.setIfInBounds ((af 0)) (U32 (e2+e4))).setIfInBounds ((af 3)) r11).setIfInBounds ((af 2)) (U32 (e15+e17))).setIfInBounds ((af 1)) r24).setIfInBounds ((af 0)) (U32 (e28+e30))).setIfInBounds ((af 3)) r37).setIfInBounds ((af 2)) (U32 (e41+e43))).toList[(af 1)]?) λe52=>
 some ((((((((a0.setIfInBounds ((af 0)) (U32 (e2+e4))).setIfInBounds ((af 3)) r11).setIfInBounds ((af 2)) (U32 (e15+e17))).setIfInBounds ((af 1)) r24).setIfInBounds ((af 0)) (U32 (e28+e30))).setIfInBounds ((af 3)) r37).setIfInBounds ((af 2)) (U32 (e41+e43))).setIfInBounds ((af 1)) r50)
theorem aAA{N a0 r}(h:mG N a0=some r):FnM Tryz.prog 160 [] [(eA 4 1 k32 a0)] (eA 4 1 k32 r) []:=by
 unfold mG at h;refine At.f fZ hT hmo Tryz.func160 rfl h ?_;refine At.b 2 (λ_ e=>aG hT (k:=1) 0 [] 0 e) λu1=>?_;refine At.b 0 (λ_ e=>aY hT k32 0 e) λe2=>?_;refine At.b 0 (λ_ e=>aG hT (k:=1) 0 [] 0 e) λu3=>?_;refine At.b 0 (λ_ e=>aY hT k32 0 e) λe4=>?_;refine At.b 1 (λ_ e=>aG hT (k:=1) 0 [] 0 e) λu5=>?_;refine At.b 0 (λ_ e=>bE hT k32 0 a0 e (U32 (e2+e4)) (by kernel_rfl) (by kernel_rfl) (H':=[.var (eA 4 1 k32 (a0.setIfInBounds ((af 0)) (U32 (e2+e4)))),.var (.arr 4 1 [(k32 0),(k32 0),(k32 0),(k32 0)])])) λe6=>?_;refine At.b 0 (λ_ e=>aG hT (k:=1) 0 [] 0 e) λu7=>?_;refine At.b 0 (λ_ e=>aY hT k32 0 e) λe8=>?_;refine At.b 0 (λ_ e=>aG hT (k:=1) 0 [] 0 e) λu9=>?_;refine At.b 0 (λ_ e=>aY hT k32 0 e) λe10=>?_;refine At.b 1 (λ_ e=>aK [] (qF e)) λr11=>?_;refine At.b 0 (λ_ e=>aG hT (k:=1) 0 [] 0 e) λu12=>?_;refine At.b 0 (λ_ e=>bE hT k32 0 (a0.setIfInBounds ((af 0)) (U32 (e2+e4))) e r11 (by kernel_rfl) (by kernel_rfl) (H':=[.var (eA 4 1 k32 ((a0.setIfInBounds ((af 0)) (U32 (e2+e4))).setIfInBounds ((af 3)) r11)),.var (.arr 4 1 [(k32 0),(k32 0),(k32 0),(k32 0)])])) λe13=>?_;refine At.b 0 (λ_ e=>aG hT (k:=1) 0 [] 0 e) λu14=>?_;refine At.b 0 (λ_ e=>aY hT k32 0 e) λe15=>?_;refine At.b 0 (λ_ e=>aG hT (k:=1) 0 [] 0 e) λu16=>?_;refine At.b 0 (λ_ e=>aY hT k32 0 e) λe17=>?_;refine At.b 1 (λ_ e=>aG hT (k:=1) 0 [] 0 e) λu18=>?_;refine At.b 0 (λ_ e=>bE hT k32 0 ((a0.setIfInBounds ((af 0)) (U32 (e2+e4))).setIfInBounds ((af 3)) r11) e (U32 (e15+e17)) (by kernel_rfl) (by kernel_rfl) (H':=[.var (eA 4 1 k32 (((a0.setIfInBounds ((af 0)) (U32 (e2+e4))).setIfInBounds ((af 3)) r11).setIfInBounds ((af 2)) (U32 (e15+e17)))),.var (.arr 4 1 [(k32 0),(k32 0),(k32 0),(k32 0)])])) λe19=>?_;refine At.b 0 (λ_ e=>aG hT (k:=1) 0 [] 0 e) λu20=>?_;refine At.b 0 (λ_ e=>aY hT k32 0 e) λe21=>?_;refine At.b 0 (λ_ e=>aG hT (k:=1) 0 [] 0 e) λu22=>?_;refine At.b 0 (λ_ e=>aY hT k32 0 e) λe23=>?_;refine At.b 1 (λ_ e=>aK [] (qF e)) λr24=>?_;refine At.b 0 (λ_ e=>aG hT (k:=1) 0 [] 0 e) λu25=>?_;refine At.b 0 (λ_ e=>bE hT k32 0 (((a0.setIfInBounds ((af 0)) (U32 (e2+e4))).setIfInBounds ((af 3)) r11).setIfInBounds ((af 2)) (U32 (e15+e17))) e r24 (by kernel_rfl) (by kernel_rfl) (H':=[.var (eA 4 1 k32 ((((a0.setIfInBounds ((af 0)) (U32 (e2+e4))).setIfInBounds ((af 3)) r11).setIfInBounds ((af 2)) (U32 (e15+e17))).setIfInBounds ((af 1)) r24)),.var (.arr 4 1 [(k32 0),(k32 0),(k32 0),(k32 0)])])) λe26=>?_;refine At.b 0 (λ_ e=>aG hT (k:=1) 0 [] 0 e) λu27=>?_;refine At.b 0 (λ_ e=>aY hT k32 0 e) λe28=>?_;refine At.b 0 (λ_ e=>aG hT (k:=1) 0 [] 0 e) λu29=>?_;refine At.b 0 (λ_ e=>aY hT k32 0 e) λe30=>?_;refine At.b 1 (λ_ e=>aG hT (k:=1) 0 [] 0 e) λu31=>?_;refine At.b 0 (λ_ e=>bE hT k32 0 ((((a0.setIfInBounds ((af 0)) (U32 (e2+e4))).setIfInBounds ((af 3)) r11).setIfInBounds ((af 2)) (U32 (e15+e17))).setIfInBounds ((af 1)) r24) e (U32 (e28+e30)) (by kernel_rfl) (by kernel_rfl) (H':=[.var (eA 4 1 k32 (((((a0.setIfInBounds ((af 0)) (U32 (e2+e4))).setIfInBounds ((af 3)) r11).setIfInBounds ((af 2)) (U32 (e15+e17))).setIfInBounds ((af 1)) r24).setIfInBounds ((af 0)) (U32 (e28+e30)))),.var (.arr 4 1 [(k32 0),(k32 0),(k32 0),(k32 0)])])) λe32=>?_;refine At.b 0 (λ_ e=>aG hT (k:=1) 0 [] 0 e) λu33=>?_;refine At.b 0 (λ_ e=>aY hT k32 0 e) λe34=>?_;refine At.b 0 (λ_ e=>aG hT (k:=1) 0 [] 0 e) λu35=>?_;refine At.b 0 (λ_ e=>aY hT k32 0 e) λe36=>?_;refine At.b 1 (λ_ e=>aK [] (qF e)) λr37=>?_;refine At.b 0 (λ_ e=>aG hT (k:=1) 0 [] 0 e) λu38=>?_;refine At.b 0 (λ_ e=>bE hT k32 0 (((((a0.setIfInBounds ((af 0)) (U32 (e2+e4))).setIfInBounds ((af 3)) r11).setIfInBounds ((af 2)) (U32 (e15+e17))).setIfInBounds ((af 1)) r24).setIfInBounds ((af 0)) (U32 (e28+e30))) e r37 (by kernel_rfl) (by kernel_rfl) (H':=[.var (eA 4 1 k32 ((((((a0.setIfInBounds ((af 0)) (U32 (e2+e4))).setIfInBounds ((af 3)) r11).setIfInBounds ((af 2)) (U32 (e15+e17))).setIfInBounds ((af 1)) r24).setIfInBounds ((af 0)) (U32 (e28+e30))).setIfInBounds ((af 3)) r37)),.var (.arr 4 1 [(k32 0),(k32 0),(k32 0),(k32 0)])])) λe39=>?_;refine At.b 0 (λ_ e=>aG hT (k:=1) 0 [] 0 e) λu40=>?_;refine At.b 0 (λ_ e=>aY hT k32 0 e) λe41=>?_;refine At.b 0 (λ_ e=>aG hT (k:=1) 0 [] 0 e) λu42=>?_;refine At.b 0 (λ_ e=>aY hT k32 0 e) λe43=>?_;refine At.b 1 (λ_ e=>aG hT (k:=1) 0 [] 0 e) λu44=>?_;refine At.b 0 (λ_ e=>bE hT k32 0 ((((((a0.setIfInBounds ((af 0)) (U32 (e2+e4))).setIfInBounds ((af 3)) r11).setIfInBounds ((af 2)) (U32 (e15+e17))).setIfInBounds ((af 1)) r24).setIfInBounds ((af 0)) (U32 (e28+e30))).setIfInBounds ((af 3)) r37) e (U32 (e41+e43)) (by kernel_rfl) (by kernel_rfl) (H':=[.var (eA 4 1 k32 (((((((a0.setIfInBounds ((af 0)) (U32 (e2+e4))).setIfInBounds ((af 3)) r11).setIfInBounds ((af 2)) (U32 (e15+e17))).setIfInBounds ((af 1)) r24).setIfInBounds ((af 0)) (U32 (e28+e30))).setIfInBounds ((af 3)) r37).setIfInBounds ((af 2)) (U32 (e41+e43)))),.var (.arr 4 1 [(k32 0),(k32 0),(k32 0),(k32 0)])])) λe45=>?_;refine At.b 0 (λ_ e=>aG hT (k:=1) 0 [] 0 e) λu46=>?_;refine At.b 0 (λ_ e=>aY hT k32 0 e) λe47=>?_;refine At.b 0 (λ_ e=>aG hT (k:=1) 0 [] 0 e) λu48=>?_;refine At.b 0 (λ_ e=>aY hT k32 0 e) λe49=>?_;refine At.b 1 (λ_ e=>aK [] (qF e)) λr50=>?_;refine At.b 0 (λ_ e=>aG hT (k:=1) 0 [] 0 e) λu51=>?_;refine At.b 0 (λ_ e=>bE hT k32 0 (((((((a0.setIfInBounds ((af 0)) (U32 (e2+e4))).setIfInBounds ((af 3)) r11).setIfInBounds ((af 2)) (U32 (e15+e17))).setIfInBounds ((af 1)) r24).setIfInBounds ((af 0)) (U32 (e28+e30))).setIfInBounds ((af 3)) r37).setIfInBounds ((af 2)) (U32 (e41+e43))) e r50 (by kernel_rfl) (by kernel_rfl) (H':=[.var (eA 4 1 k32 ((((((((a0.setIfInBounds ((af 0)) (U32 (e2+e4))).setIfInBounds ((af 3)) r11).setIfInBounds ((af 2)) (U32 (e15+e17))).setIfInBounds ((af 1)) r24).setIfInBounds ((af 0)) (U32 (e28+e30))).setIfInBounds ((af 3)) r37).setIfInBounds ((af 2)) (U32 (e41+e43))).setIfInBounds ((af 1)) r50)),.var (.arr 4 1 [(k32 0),(k32 0),(k32 0),(k32 0)])])) λe52=>?_;apply rt;exact At.r 2
def aV(N:Nat)(a0:(Vector Int 16))(a1 a2 a3 a4:Int):Option ((Vector Int 16)):=
 ae (aQ a1 16) λ_=>
 ae (a0.toList[a1.toNat]?) λe2=>
 ae (aQ a2 16) λ_=>
 ae (a0.toList[a2.toNat]?) λe4=>
 ae (aQ a3 16) λ_=>
 ae (a0.toList[a3.toNat]?) λe6=>
 ae (aQ a4 16) λ_=>
 ae (a0.toList[a4.toNat]?) λe8=>
 ae (mG N (#v[e2,e4,e6,e8])) λr9=>
 ae (aQ 0 4) λ_=>
 ae (r9.toList[(af 0)]?) λe11=>
 ae (aQ 1 4) λ_=>
 ae (r9.toList[(af 1)]?) λe13=>
 ae (aQ 2 4) λ_=>
 ae (r9.toList[(af 2)]?) λe15=>
 ae (aQ 3 4) λ_=>
 ae (r9.toList[(af 3)]?) λe17=>
 ae (aQ a1 16) λ_=>
 ae (a0.toList[a1.toNat]?) λe19=>
 ae (aQ a2 16) λ_=>
 ae ((a0.setIfInBounds a1.toNat e11).toList[a2.toNat]?) λe21=>
 ae (aQ a3 16) λ_=>
 ae (((a0.setIfInBounds a1.toNat e11).setIfInBounds a2.toNat e13).toList[a3.toNat]?) λe23=>
 ae (aQ a4 16) λ_=>
 ae ((((a0.setIfInBounds a1.toNat e11).setIfInBounds a2.toNat e13).setIfInBounds a3.toNat e15).toList[a4.toNat]?) λe25=>
 some ((((a0.setIfInBounds a1.toNat e11).setIfInBounds a2.toNat e13).setIfInBounds a3.toNat e15).setIfInBounds a4.toNat e17)
theorem tY{N a0 a1 a2 a3 a4 r}(h:aV N a0 a1 a2 a3 a4=some r):FnM Tryz.prog 147 [] [(eA 16 1 k32 a0),(j64 a1),(j64 a2),(j64 a3),(j64 a4)] (eA 16 1 k32 r) []:=by
 unfold aV at h;refine At.f fZ hT hmo Tryz.func147 rfl h ?_;refine bi λu1 hu1=>?_;refine bi λe2 he2=>?_;refine bi λu3 hu3=>?_;refine bi λe4 he4=>?_;refine bi λu5 hu5=>?_;refine bi λe6 he6=>?_;refine bi λu7 hu7=>?_;refine bi λe8 he8=>?_;refine bi λr9 hr9=>?_;refine At.d 2 (dE1 1 (λ_=>aG hT (k:=1) 0 [] 0 hu1) (dEL hT 2 (k32 e2) k32 0 he2 (dE1 4 (λ_=>aG hT (k:=1) 0 [] 0 hu3) (dEL hT 5 (k32 e4) k32 0 he4 (dE1 7 (λ_=>aG hT (k:=1) 0 [] 0 hu5) (dEL hT 8 (k32 e6) k32 0 he6 (dE1 10 (λ_=>aG hT (k:=1) 0 [] 0 hu7) (dEL hT 11 (k32 e8) k32 0 he8 (dE2 13 (eA 4 1 k32 r9) (λ_=>cM (aAA hr9)) dE0))))))))) dF0 ?_;refine bi λu10 hu10=>?_;refine bi λe11 he11=>?_;refine bi λu12 hu12=>?_;refine bi λe13 he13=>?_;refine bi λu14 hu14=>?_;refine bi λe15 he15=>?_;refine bi λu16 hu16=>?_;refine bi λe17 he17=>?_;refine bi λu18 hu18=>?_;refine bi λe19 he19=>?_;refine bi λu20 hu20=>?_;refine bi λe21 he21=>?_;refine bi λu22 hu22=>?_;refine bi λe23 he23=>?_;refine bi λu24 hu24=>?_;refine bi λe25 he25=>?_;refine At.d 0 (dE1 4 (λ_=>aG hT (k:=1) 2 [] 0 hu10) (dEL hT 5 (k32 e11) k32 0 he11 (dE1 6 (λ_=>aG hT (k:=1) 2 [] 0 hu12) (dEL hT 7 (k32 e13) k32 0 he13 (dE1 8 (λ_=>aG hT (k:=1) 2 [] 0 hu14) (dEL hT 9 (k32 e15) k32 0 he15 (dE1 10 (λ_=>aG hT (k:=1) 2 [] 0 hu16) (dEL hT 11 (k32 e17) k32 0 he17 (dE1 12 (λ_=>aG hT (k:=1) 0 [] 0 hu18) (dE1 14 (λ_=>aG hT (k:=1) 0 [] 0 hu20) (dE1 16 (λ_=>aG hT (k:=1) 0 [] 0 hu22) (dE1 18 (λ_=>aG hT (k:=1) 0 [] 0 hu24) dE0)))))))))))) (dF 13 (.v (.bool false)) [(0,.var (eA 16 1 k32 (a0.setIfInBounds a1.toNat e11)))] [] (bG (bE hT k32 0 a0 he19 e11 (by kernel_rfl) (by kernel_rfl) (H':=[.var (eA 16 1 k32 (a0.setIfInBounds a1.toNat e11)),.var (eA 16 1 k32 (ah 16 0)),.var (eA 4 1 k32 r9)]))) (dF 15 (.v (.bool false)) [(0,.var (eA 16 1 k32 ((a0.setIfInBounds a1.toNat e11).setIfInBounds a2.toNat e13)))] [] (bG (bE hT k32 0 (a0.setIfInBounds a1.toNat e11) he21 e13 (by kernel_rfl) (by kernel_rfl) (H':=[.var (eA 16 1 k32 ((a0.setIfInBounds a1.toNat e11).setIfInBounds a2.toNat e13)),.var (eA 16 1 k32 (ah 16 0)),.var (eA 4 1 k32 r9)]))) (dF 17 (.v (.bool false)) [(0,.var (eA 16 1 k32 (((a0.setIfInBounds a1.toNat e11).setIfInBounds a2.toNat e13).setIfInBounds a3.toNat e15)))] [] (bG (bE hT k32 0 ((a0.setIfInBounds a1.toNat e11).setIfInBounds a2.toNat e13) he23 e15 (by kernel_rfl) (by kernel_rfl) (H':=[.var (eA 16 1 k32 (((a0.setIfInBounds a1.toNat e11).setIfInBounds a2.toNat e13).setIfInBounds a3.toNat e15)),.var (eA 16 1 k32 (ah 16 0)),.var (eA 4 1 k32 r9)]))) (dF 19 (.v (.bool false)) [(0,.var (eA 16 1 k32 ((((a0.setIfInBounds a1.toNat e11).setIfInBounds a2.toNat e13).setIfInBounds a3.toNat e15).setIfInBounds a4.toNat e17)))] [] (bG (bE hT k32 0 (((a0.setIfInBounds a1.toNat e11).setIfInBounds a2.toNat e13).setIfInBounds a3.toNat e15) he25 e17 (by kernel_rfl) (by kernel_rfl) (H':=[.var (eA 16 1 k32 ((((a0.setIfInBounds a1.toNat e11).setIfInBounds a2.toNat e13).setIfInBounds a3.toNat e15).setIfInBounds a4.toNat e17)),.var (eA 16 1 k32 (ah 16 0)),.var (eA 4 1 k32 r9)]))) dF0)))) ?_;apply rt;exact At.r 2
def aB1 : Nat->Bool:=imL [3,5]
def bC(N:Nat)  : Nat->(Vector Int 16)->Int->Option ((Vector Int 16))
 | 0,_,_=>none
 | k+1,s6,s7=>
  cond (decide (s7 < 4)) (
   ae (aV N s6 s7 (I64 (4+s7)) (I64 (8+s7)) (I64 (12+s7))) λr8=>
   bC N k r8 (I64 (s7+1))) (
   some s6)
def bB(N:Nat)  : Nat->(Vector Int 16)->Int->Option ((Vector Int 16))
 | 0,_,_=>none
 | k+1,s10,s11=>
  cond (decide (s11 < 4)) (
   aO (cf (I64 (s11+1)) 4) λx12=>
   aO (cf (I64 (s11+2)) 4) λx13=>
   aO (cf (I64 (s11+3)) 4) λx14=>
   ae (aV N s10 s11 (I64 (4+x12)) (I64 (8+x13)) (I64 (12+x14))) λr15=>
   bB N k r15 (I64 (s11+1))) (
   some s10)
def lM(N:Nat)  : Nat->(Vector Int 16)->Int->Option ((Vector Int 16))
 | 0,_,_=>none
 | k+1,s3,s4=>
  cond (decide (s4 < 10)) (
   ae (bC N N s3 0) λp5=>
   ae (bB N N p5 0) λp9=>
   lM N k p9 (I64 (s4+1))) (
   some s3)
def fU(N:Nat)(p2 r16:(Vector Int 16)):Nat->(Vector Int 64)->Int->Option ((Vector Int 64))
 | 0,_,_=>none
 | k+1,s18,s19=>
  cond (decide (s19 < 64)) (
   ae (aQ (I64 (cz s19 4)) 16) λ_=>
   ae (p2.toList[(I64 (cz s19 4)).toNat]?) λe21=>
   ae (aQ (I64 (cz s19 4)) 16) λ_=>
   ae (r16.toList[(I64 (cz s19 4)).toNat]?) λe23=>
   aO (I64 (8*(cf s19 4))) λx24=>
   ae (yG .u32 (U32 (e21+e23)) x24) λx25=>
   ae (aQ s19 64) λ_=>
   ae (s18.toList[s19.toNat]?) λe27=>
   fU N p2 r16 k (s18.setIfInBounds s19.toNat (U8 x25)) (I64 (s19+1))) (
   some s18)
def lR(N:Nat)(a0:(Vector Int 32))(a1:Int)(a2:(Vector Int 12)):Option ((Vector Int 64)):=
 ae (lW N a0 a1 a2) λr1=>
 ae (lM N N r1 0) λp2=>
 ae (lW N a0 a1 a2) λr16=>
 ae (fU N p2 r16 N (ah 64 0) 0) λp17=>
 some p17
theorem vN{N a0 a1 a2 r}(h:lR N a0 a1 a2=some r):FnM Tryz.prog 128 [] [(eA 32 1 k8 a0),(k32 a1),(eA 12 1 k8 a2)] (eA 64 1 k8 r) []:=by
 unfold lR at h;refine At.f aB1 hT hmo Tryz.func128 rfl h ?_;refine At.b 6 (λ_ e=>aK [] (vM e)) λr1=>?_;refine At.L 3 [1,3,5,6,7] 2 (λp2=>([],[(1,.var (eA 16 1 k32 p2))],[])) (λp2 J k=>∃s3 s4,lM N k s3 s4=some p2/\J [1,3,5,6,7] 2 [(8,(j64 s4))] [(1,.var (eA 16 1 k32 s3))] []) N (λ_ h=>⟨_,_,h,jr⟩) (λp2 k s hI=>?_) λp2=>?_
 ·obtain⟨s3,s4,h,hj⟩:=hI;cases k with
  | zero=>cases h
  | succ k=>
   refine At.jr hj ?_ h;refine At.c 2 ?_ ?_
   ·refine At.L 1 [1,3,5,6,7,8] 2 (λp5=>([],[(1,.var (eA 16 1 k32 p5))],[])) (λp5 J k=>∃s6 s7,bC N k s6 s7=some p5/\J [1,3,5,6,7,8] 2 [(9,(j64 s7))] [(1,.var (eA 16 1 k32 s6))] []) N (λ_ h=>⟨_,_,h,jr⟩) (λp5 k s hI=>?_) λp5=>?_
    ·obtain⟨s6,s7,h,hj⟩:=hI;cases k with
     | zero=>cases h
     | succ k=>
      refine At.jr hj ?_ h;refine At.c 2 ?_ ?_
      ·refine At.b 8 (λ_ e=>aK [] (tY e)) λr8=>?_;exact λh=>At.k 4 ⟨_,_,h,jr⟩
      ·apply rt;exact At.x 0
    ·refine At.L 1 [1,3,5,6,7,8] 2 (λp9=>([],[(1,.var (eA 16 1 k32 p9))],[])) (λp9 J k=>∃s10 s11,bB N k s10 s11=some p9/\J [1,3,5,6,7,8] 2 [(10,(j64 s11))] [(1,.var (eA 16 1 k32 s10))] []) N (λ_ h=>⟨_,_,h,jr⟩) (λp9 k s hI=>?_) λp9=>?_
     ·obtain⟨s10,s11,h,hj⟩:=hI;cases k with
      | zero=>cases h
      | succ k=>
       refine At.jr hj ?_ h;refine At.c 2 ?_ ?_
       ·refine lx ?_;intro x12;refine lx ?_;intro x13;refine lx ?_;intro x14;refine At.b 14 (λ_ e=>aK [] (tY e)) λr15=>?_;exact λh=>At.k 4 ⟨_,_,h,jr⟩
       ·apply rt;exact At.x 0
     ·exact λh=>At.k 3 ⟨_,_,h,jr⟩
   ·apply rt;exact At.x 0
 ·refine At.b 3 (λ_ e=>aK [] (vM e)) λr16=>?_;refine At.L 4 [6,12] 4 (λp17=>([],[(3,.var (eA 64 1 k8 p17))],[])) (λp17 J k=>∃s18 s19,fU N p2 r16 k s18 s19=some p17/\J [6,7,11,12] 4 [(13,(j64 s19))] [(3,.var (eA 64 1 k8 s18))] []) N (λ_ h=>⟨_,_,h,jr⟩) (λp17 k s hI=>?_) λp17=>?_
  ·obtain⟨s18,s19,h,hj⟩:=hI;cases k with
   | zero=>cases h
   | succ k=>
    refine At.jr hj ?_ h;refine At.c 2 ?_ ?_
    ·refine bi λu20 hu20=>?_;refine bi λe21 he21=>?_;refine bi λu22 hu22=>?_;refine bi λe23 he23=>?_;refine lx ?_;intro x24;refine bi λx25 hx25=>?_;refine bi λu26 hu26=>?_;refine bi λe27 he27=>?_;refine At.d 0 (dE1 3 (λ_=>aG hT (k:=1) 1 [] 0 hu20) (dEL hT 4 (k32 e21) k32 0 he21 (dE1 7 (λ_=>aG hT (k:=1) 2 [] 0 hu22) (dEL hT 8 (k32 e23) k32 0 he23 (dE1 13 (λ_=>pM hT (k' := .i64) hx25 (by kernel_rfl) (by kernel_rfl)) (dE1 15 (λ_=>aG hT (k:=1) 3 [] 0 hu26) dE0)))))) (dF 16 (.v (.bool false)) [(3,.var (eA 64 1 k8 (s18.setIfInBounds s19.toNat (U8 x25))))] [] (bG (bE hT k8 0 s18 he27 (U8 x25) (by kernel_rfl) (by kernel_rfl) (H':=[.var (eA 64 1 k8 (ah 64 0)),.var (eA 16 1 k32 p2),.var (eA 16 1 k32 r16),.var (eA 64 1 k8 (s18.setIfInBounds s19.toNat (U8 x25)))]))) dF0) ?_;exact λh=>At.k 3 ⟨_,_,h,jr⟩
    ·apply rt;exact At.x 0
  ·apply rt;exact At.r 2
def aA9 : Nat->Bool:=imL [4,6]
def dN(N:Nat)(s5 p1:Int)(r6:(Vector Int 64)):Nat->(List Int)->Int->Option ((List Int))
 | 0,_,_=>none
 | k+1,s8,s9=>
  aO (decide ((I64 (s5+s9)) < p1)) λx10=>
  aO (cond (decide (s9 < 64)) x10 false) λx11=>
  cond x11 (
   ae (aQ s9 64) λ_=>
   ae (r6.toList[s9.toNat]?) λe13=>
   ae (mH 1 s8 (([e13]:List Int))) λz14=>
   dN N s5 p1 r6 k z14 (I64 (s9+1))) (
   some s8)
def kL(N:Nat)(p1:Int)(a0:(Vector Int 32))(a2:(Vector Int 12)):Nat->(List Int)->Int->Int->Option ((List Int))
 | 0,_,_,_=>none
 | k+1,s3,s4,s5=>
  cond (decide (s5 < p1)) (
   ae (lR N a0 s4 a2) λr6=>
   ae (dN N s5 p1 r6 N s3 0) λp7=>
   kL N p1 a0 a2 k p7 (U32 (s4+1)) (I64 (s5+64))) (
   some s3)
def nB(N:Nat)(a0:(Vector Int 32))(a1:Int)(a2:(Vector Int 12))(a3:Int):Option ((List Int)):=
 ae (cond (decide (a3 > 65536)) (some 65536) (some a3)) λp1=>
 ae (kL N p1 a0 a2 N [] a1 0) λp2=>
 some p2
theorem aAc{N a0 a1 a2 a3 r}(h:nB N a0 a1 a2 a3=some r):FnM Tryz.prog 103 [] [(eA 32 1 k8 a0),(k32 a1),(eA 12 1 k8 a2),(j64 a3)] (eL 1 k8 r) []:=by
 unfold nB at h;refine At.f aA9 hT hmo Tryz.func103 rfl h ?_;refine At.J 3 1 [1,4,6] 0 (λp1=>([(3,(j64 p1))],[],[])) (λp1=>?_) λp1=>?_
 ·refine At.c 2 ?_ ?_
  ·apply rt;exact At.jn 1
  ·apply rt;exact At.jn 0
 ·refine At.ownn 2 9 1 ?_;refine At.L 0 [] 1 (λp2=>([(9,(eO 0 1 k8 p2))],[(0,.tail (p2.length*1))],[])) (λp2 J k=>∃s3 s4 s5,kL N p1 a0 a2 k s3 s4 s5=some p2/\J [3,4,6] 1 [(1,(k32 s4)),(9,(eO 0 1 k8 s3)),(10,(j64 s5))] [(0,.tail (s3.length*1))] []) N (λ_ h=>⟨_,_,_,h,jr⟩) (λp2 k s hI=>?_) λp2=>?_
  ·obtain⟨s3,s4,s5,h,hj⟩:=hI;cases k with
   | zero=>cases h
   | succ k=>
    refine At.jr hj ?_ h;refine At.c 3 ?_ ?_
    ·refine At.b 3 (λ_ e=>aK [] (vN e)) λr6=>?_;refine At.L 3 [1,3,4,6,10] 2 (λp7=>([(9,(eO 0 1 k8 p7))],[(0,.tail (p7.length*1))],[])) (λp7 J k=>∃s8 s9,dN N s5 p1 r6 k s8 s9=some p7/\J [1,3,4,6,10,11] 2 [(9,(eO 0 1 k8 s8)),(12,(j64 s9))] [(0,.tail (s8.length*1))] []) N (λ_ h=>⟨_,_,h,jr⟩) (λp7 k s hI=>?_) λp7=>?_
     ·obtain⟨s8,s9,h,hj⟩:=hI;cases k with
      | zero=>cases h
      | succ k=>
       refine At.jr hj ?_ h;refine lx ?_;intro x10;refine lx ?_;intro x11;refine At.c 9 ?_ ?_
       ·refine At.b 2 (λ_ e=>aG hT (k:=1) 1 [] 0 e) λu12=>?_;refine At.b 0 (λ_ e=>aY hT k8 0 e) λe13=>?_;refine At.o 0 (bI hT (x:=(.sl 1 1 [(k8 e13)]))) ?_;refine At.b 0 (λ_ e=>cH hT k8 (id:=0) (k:=1) e) λz14=>?_;exact λh=>At.k 4 ⟨_,_,h,jr⟩
       ·apply rt;exact At.x 0
     ·exact λh=>At.k 6 ⟨_,_,_,h,jr⟩
    ·apply rt;exact At.x 0
  ·apply rt;exact At.r 2
def aDE : Nat->Bool:=imL [4,6]
def fP(N:Nat)(p1 r4:(List Int)):Nat->(List Int)->Int->Option ((List Int))
 | 0,_,_=>none
 | k+1,s6,s7=>
  aO (decide (s7 < ((p1.length:Int)))) λx8=>
  cond x8 (
   ae (idx p1 s7) λe9=>
   ae (idx r4 s7) λe10=>
   ae (mH 1 s6 (([wV .u8 e9 e10]:List Int))) λz11=>
   fP N p1 r4 k z11 (I64 (s7+1))) (
   some s6)
def qB(N:Nat)(a0:(Vector Int 32))(a1:Int)(a2:(Vector Int 12))(a3:(List Int)):Option ((List Int)):=
 ae (aO (decide (((a3.length:Int)) > 65536)) λx2=>
 cond x2 (
  ae (eU a3 0 65536) λs3=>
  some s3) (
  some a3)) λp1=>
 ae (nB N a0 a1 a2 ((p1.length:Int))) λr4=>
 ae (fP N p1 r4 N [] 0) λp5=>
 some p5
theorem aCi{N a0 a1 a2 a3 r}(h:qB N a0 a1 a2 a3=some r):FnM Tryz.prog 63 [] [(eA 32 1 k8 a0),(k32 a1),(eA 12 1 k8 a2),(eL 1 k8 a3)] (eO 0 1 k8 r) [.tail (r.length*1)]:=by
 unfold qB at h;refine At.f aDE hT hmo Tryz.func63 rfl h ?_;refine At.J 3 1 [1,4,6] 0 (λp1=>([(3,(eL 1 k8 p1))],[],[])) (λp1=>?_) λp1=>?_
 ·refine lx ?_;intro x2;refine At.c 3 ?_ ?_
  ·refine At.b 1 (λ_ e=>jV hT (k:=1) k8 e) λs3=>?_;apply rt;exact At.jn 1
  ·apply rt;exact At.jn 0
 ·refine At.b 5 (λ_ e=>aK [] (aAc e)) λr4=>?_;refine At.ownn 3 10 1 ?_;refine At.L 0 [] 1 (λp5=>([(10,(eO 0 1 k8 p5))],[(0,.tail (p5.length*1))],[])) (λp5 J k=>∃s6 s7,fP N p1 r4 k s6 s7=some p5/\J [3,9] 1 [(10,(eO 0 1 k8 s6)),(11,(j64 s7))] [(0,.tail (s6.length*1))] []) N (λ_ h=>⟨_,_,h,jr⟩) (λp5 k s hI=>?_) λp5=>?_
  ·obtain⟨s6,s7,h,hj⟩:=hI;cases k with
   | zero=>cases h
   | succ k=>
    refine At.jr hj ?_ h;refine lx ?_;intro x8;refine At.c 4 ?_ ?_
    ·refine bi λe9 he9=>?_;refine bi λe10 he10=>?_;refine bi λz11 hz11=>?_;refine At.d 0 (dE1 3 (λ_=>bF hT k8 he9) (dE1 7 (λ_=>bF hT k8 he10) (dE1 10 (λ_=>bI hT (x:=(.sl 1 1 [(k8 (wV .u8 e9 e10))]))) dE0))) (dF 11 (eO 0 1 k8 z11) [(0,.tail (z11.length*1))] [] (bG (cH hT k8 (id:=0) (k:=1) hz11)) dF0) ?_;exact λh=>At.k 3 ⟨_,_,h,jr⟩
    ·apply rt;exact At.x 0
  ·apply rt;exact At.r 2
def kP(N:Nat)  : Nat->(List Int)->Option ((List Int))
 | 0,_=>none
 | k+1,s3=>
  aO (cf ((s3.length:Int)) 16) λx4=>
  cond (decide (x4 > 0)) (
   ae (mH 1 s3 (([0]:List Int))) λz5=>
   kP N k z5) (
   some s3)
def lB(N:Nat)(a0:(List Int)):Option ((List Int)):=
 ae (mH 1 (([]:List Int)) a0) λz1=>
 ae (kP N N z1) λp2=>
 some p2
theorem uY{N a0 r}(h:lB N a0=some r):FnM Tryz.prog 99 [] [(eL 1 k8 a0)] (eO 0 1 k8 r) [.tail (r.length*1)]:=by
 unfold lB at h;refine At.f fZ hT hmo Tryz.func99 rfl h ?_;refine At.o 1 (sK hT k8 (k:=1) ([]:List Int) (by kernel_rfl) (by kernel_rfl)) ?_;refine At.b 1 (λ_ e=>cH hT k8 (id:=0) (k:=1) e) λz1=>?_;refine At.L 1 [] 1 (λp2=>([(3,(eO 0 1 k8 p2))],[(0,.tail (p2.length*1))],[])) (λp2 J k=>∃s3,kP N k s3=some p2/\J [] 1 [(3,(eO 0 1 k8 s3))] [(0,.tail (s3.length*1))] []) N (λ_ h=>⟨_,h,jr⟩) (λp2 k s hI=>?_) λp2=>?_
 ·obtain⟨s3,h,hj⟩:=hI;cases k with
  | zero=>cases h
  | succ k=>
   refine At.jr hj ?_ h;refine lx ?_;intro x4;refine At.c 4 ?_ ?_
   ·refine At.o 1 (bI hT (x:=(.sl 1 1 [(k8 0)]))) ?_;refine At.b 0 (λ_ e=>cH hT k8 (id:=0) (k:=1) e) λz5=>?_;exact λh=>At.k 1 ⟨_,h,jr⟩
   ·apply rt;exact At.x 0
 ·apply rt;exact At.r 2
def fG(N:Nat)  : Nat->(List Int)->Int->Int->Option ((List Int))
 | 0,_,_,_=>none
 | k+1,s2,s3,s4=>
  cond (decide (s4 < 8)) (
   ae (mH 1 s2 (([U8 (cf s3 256)]:List Int))) λz5=>
   fG N k z5 (I64 (cz s3 256)) (I64 (s4+1))) (
   some s2)
def lE(N:Nat)(a0:Int):Option ((List Int)):=
 ae (fG N N [] a0 0) λp1=>
 some p1
theorem uS{N a0 r}(h:lE N a0=some r):FnM Tryz.prog 100 [] [(j64 a0)] (eL 1 k8 r) []:=by
 unfold lE at h;refine At.f fZ hT hmo Tryz.func100 rfl h ?_;refine At.ownn 3 3 1 ?_;refine At.L 0 [] 1 (λp1=>([(3,(eO 0 1 k8 p1))],[(0,.tail (p1.length*1))],[])) (λp1 J k=>∃s2 s3 s4,fG N k s2 s3 s4=some p1/\J [] 1 [(0,(j64 s3)),(3,(eO 0 1 k8 s2)),(4,(j64 s4))] [(0,.tail (s2.length*1))] []) N (λ_ h=>⟨_,_,_,h,jr⟩) (λp1 k s hI=>?_) λp1=>?_
 ·obtain⟨s2,s3,s4,h,hj⟩:=hI;cases k with
  | zero=>cases h
  | succ k=>
   refine At.jr hj ?_ h;refine At.c 2 ?_ ?_
   ·refine At.o 4 (bI hT (x:=(.sl 1 1 [(k8 (U8 (cf s3 256)))]))) ?_;refine At.b 0 (λ_ e=>cH hT k8 (id:=0) (k:=1) e) λz5=>?_;exact λh=>At.k 7 ⟨_,_,_,h,jr⟩
   ·apply rt;exact At.x 0
 ·apply rt;exact At.r 2
def aCz : Nat->Bool:=imL [2,3]
def iV(N:Nat)(r1:(Vector Int 64)):Nat->(Vector Int 32)->Int->Option ((Vector Int 32))
 | 0,_,_=>none
 | k+1,s3,s4=>
  cond (decide (s4 < 32)) (
   ae (aQ s4 64) λ_=>
   ae (r1.toList[s4.toNat]?) λe6=>
   ae (aQ s4 32) λ_=>
   ae (s3.toList[s4.toNat]?) λe8=>
   iV N r1 k (s3.setIfInBounds s4.toNat e6) (I64 (s4+1))) (
   some s3)
def qC(N:Nat)(a0:(Vector Int 32))(a1:(Vector Int 12)):Option ((Vector Int 32)):=
 ae (lR N a0 0 a1) λr1=>
 ae (iV N r1 N (ah 32 0) 0) λp2=>
 some p2
theorem aCT{N a0 a1 r}(h:qC N a0 a1=some r):FnM Tryz.prog 102 [] [(eA 32 1 k8 a0),(eA 12 1 k8 a1)] (eA 32 1 k8 r) []:=by
 unfold qC at h;refine At.f aCz hT hmo Tryz.func102 rfl h ?_;refine At.b 5 (λ_ e=>aK [] (vN e)) λr1=>?_;refine At.L 4 [4,6] 3 (λp2=>([],[(2,.var (eA 32 1 k8 p2))],[])) (λp2 J k=>∃s3 s4,iV N r1 k s3 s4=some p2/\J [4,5,6] 3 [(7,(j64 s4))] [(2,.var (eA 32 1 k8 s3))] []) N (λ_ h=>⟨_,_,h,jr⟩) (λp2 k s hI=>?_) λp2=>?_
 ·obtain⟨s3,s4,h,hj⟩:=hI;cases k with
  | zero=>cases h
  | succ k=>
   refine At.jr hj ?_ h;refine At.c 2 ?_ ?_
   ·refine At.b 2 (λ_ e=>aG hT (k:=1) 1 [] 0 e) λu5=>?_;refine At.b 0 (λ_ e=>aY hT k8 0 e) λe6=>?_;refine At.b 0 (λ_ e=>aG hT (k:=1) 2 [] 0 e) λu7=>?_;refine At.b 0 (λ_ e=>bE hT k8 0 s3 e e6 (by kernel_rfl) (by kernel_rfl) (H':=[.var (eA 32 1 k8 (ah 32 0)),.var (eA 64 1 k8 r1),.var (eA 32 1 k8 (s3.setIfInBounds s4.toNat e6))])) λe8=>?_;exact λh=>At.k 3 ⟨_,_,h,jr⟩
   ·apply rt;exact At.x 0
 ·apply rt;exact At.r 2
def jJ(N:Nat)  : Nat->(Vector Int 16)->Int->Option ((Vector Int 16))
 | 0,_,_=>none
 | k+1,s2,s3=>
  cond (decide (s3 < 16)) (
   ae (ae (cond ((cf s3 4)==3) (
    ae (aQ s3 16) λ_=>
    ae (s2.toList[s3.toNat]?) λe7=>
    ae (aQ s3 16) λ_=>
    ae (s2.toList[s3.toNat]?) λe9=>
    some (s2.setIfInBounds s3.toNat (cf e7 16))) (
    some s2)) λp5=>
   aO (cond ((cf s3 4)==0) (decide (s3 > 0)) false) λx10=>
   cond x10 (
    ae (aQ s3 16) λ_=>
    ae (p5.toList[s3.toNat]?) λe12=>
    aO (U8 ((U8 (cz e12 4))*4)) λx13=>
    ae (aQ s3 16) λ_=>
    ae (p5.toList[s3.toNat]?) λe15=>
    some (p5.setIfInBounds s3.toNat x13)) (
    some p5)) λp4=>
   jJ N k p4 (I64 (s3+1))) (
   some s2)
def hO(N:Nat)(a0:(Vector Int 16)):Option ((Vector Int 16)):=
 ae (jJ N N a0 0) λp1=>
 some p1
theorem aAv{N a0 r}(h:hO N a0=some r):FnM Tryz.prog 122 [] [(eA 16 1 k8 a0)] (eA 16 1 k8 r) []:=by
 unfold hO at h;refine At.f fZ hT hmo Tryz.func122 rfl h ?_;refine At.L 3 [1,2] 2 (λp1=>([],[(0,.var (eA 16 1 k8 p1))],[])) (λp1 J k=>∃s2 s3,jJ N k s2 s3=some p1/\J [1,2] 2 [(3,(j64 s3))] [(0,.var (eA 16 1 k8 s2))] []) N (λ_ h=>⟨_,_,h,jr⟩) (λp1 k s hI=>?_) λp1=>?_
 ·obtain⟨s2,s3,h,hj⟩:=hI;cases k with
  | zero=>cases h
  | succ k=>
   refine At.jr hj ?_ h;refine At.c 2 ?_ ?_
   ·refine At.J 0 3 [1,2,3] 2 (λp4=>([],[(0,.var (eA 16 1 k8 p4))],[])) (λp4=>?_) λp4=>?_
    ·refine At.J 0 1 [1,2,3] 2 (λp5=>([],[(0,.var (eA 16 1 k8 p5))],[])) (λp5=>?_) λp5=>?_
     ·refine At.c 3 ?_ ?_
      ·refine At.b 2 (λ_ e=>aG hT (k:=1) 0 [] 0 e) λu6=>?_;refine At.b 0 (λ_ e=>aY hT k8 0 e) λe7=>?_;refine At.b 1 (λ_ e=>aG hT (k:=1) 0 [] 0 e) λu8=>?_;refine At.b 0 (λ_ e=>bE hT k8 0 s2 e (cf e7 16) (by kernel_rfl) (by kernel_rfl) (H':=[.var (eA 16 1 k8 (s2.setIfInBounds s3.toNat (cf e7 16))),.var (eA 16 1 k8 (ah 16 0))])) λe9=>?_;apply rt;exact At.jn 0
      ·apply rt;exact At.jn 0
     ·refine lx ?_;intro x10;refine At.c 7 ?_ ?_
      ·refine At.b 2 (λ_ e=>aG hT (k:=1) 0 [] 0 e) λu11=>?_;refine At.b 0 (λ_ e=>aY hT k8 0 e) λe12=>?_;refine lx ?_;intro x13;refine At.b 2 (λ_ e=>aG hT (k:=1) 0 [] 0 e) λu14=>?_;refine At.b 0 (λ_ e=>bE hT k8 0 p5 e x13 (by kernel_rfl) (by kernel_rfl) (H':=[.var (eA 16 1 k8 (p5.setIfInBounds s3.toNat x13)),.var (eA 16 1 k8 (ah 16 0))])) λe15=>?_;apply rt;exact At.jn 0
      ·apply rt;exact At.jn 0
    ·exact λh=>At.k 3 ⟨_,_,h,jr⟩
   ·apply rt;exact At.x 0
 ·apply rt;exact At.r 2
def aA5 : Nat->Bool:=imL [1]
def iQ(N:Nat)(a0:(Vector Int 17)):Nat->(Vector Int 5)->Int->Option ((Vector Int 5))
 | 0,_,_=>none
 | k+1,s2,s3=>
  cond (decide (s3 < 136)) (
   ae (ae (idx a0.toList (I64 (cz s3 8))) λe5=>
   ae (yG .u8 e5 (cf s3 8)) λx6=>
   aO (cond ((dD .u8 x6 1)==1) (decide (s3 < 130)) false) λx7=>
   cond x7 (
    ae (aQ (I64 (cz s3 26)) 5) λ_=>
    ae (s2.toList[(I64 (cz s3 26)).toNat]?) λe9=>
    ae (aD9 .i64 1 (cf s3 26)) λx10=>
    ae (aQ (I64 (cz s3 26)) 5) λ_=>
    ae (s2.toList[(I64 (cz s3 26)).toNat]?) λe12=>
    some (s2.setIfInBounds ((I64 (cz s3 26)).toNat) (I64 (e9+x10)))) (
    some s2)) λp4=>
   iQ N a0 k p4 (I64 (s3+1))) (
   some s2)
def iX(N:Nat)(a0:(Vector Int 17)):Option ((Vector Int 5)):=
 ae (iQ N a0 N (ah 5 0) 0) λp1=>
 some p1
theorem vB{N a0 r}(h:iX N a0=some r):FnM Tryz.prog 123 [] [(eA 17 1 k8 a0)] (eA 5 1 j64 r) []:=by
 unfold iX at h;refine At.f aA5 hT hmo Tryz.func123 rfl h ?_;refine At.L 4 [2,3] 2 (λp1=>([],[(1,.var (eA 5 1 j64 p1))],[])) (λp1 J k=>∃s2 s3,iQ N a0 k s2 s3=some p1/\J [1,2,3] 2 [(4,(j64 s3))] [(1,.var (eA 5 1 j64 s2))] []) N (λ_ h=>⟨_,_,h,jr⟩) (λp1 k s hI=>?_) λp1=>?_
 ·obtain⟨s2,s3,h,hj⟩:=hI;cases k with
  | zero=>cases h
  | succ k=>
   refine At.jr hj ?_ h;refine At.c 2 ?_ ?_
   ·refine At.J 0 2 [1,2,3,4] 2 (λp4=>([],[(1,.var (eA 5 1 j64 p4))],[])) (λp4=>?_) λp4=>?_
    ·refine At.b 2 (λ_ e=>bN hT (N:=17) (k:=1) k8 a0 e) λe5=>?_;refine At.b 3 (λ_ e=>pM hT (k' := .i64) e (by kernel_rfl) (by kernel_rfl)) λx6=>?_;refine lx ?_;intro x7;refine At.c 6 ?_ ?_
     ·refine bi λu8 hu8=>?_;refine bi λe9 he9=>?_;refine bi λx10 hx10=>?_;refine bi λu11 hu11=>?_;refine bi λe12 he12=>?_;refine At.d 0 (dE1 4 (λ_=>aG hT (k:=1) 1 [] 0 hu8) (dEL hT 5 (j64 e9) j64 0 he9 (dE1 8 (λ_=>vR hT (k' := .i64) hx10 (by kernel_rfl) (by kernel_rfl)) (dE1 10 (λ_=>aG hT (k:=1) 1 [] 0 hu11) dE0)))) (dF 11 (.v (.bool false)) [(1,.var (eA 5 1 j64 (s2.setIfInBounds ((I64 (cz s3 26)).toNat) (I64 (e9+x10)))))] [] (bG (bE hT j64 0 s2 he12 (I64 (e9+x10)) (by kernel_rfl) (by kernel_rfl) (H':=[.var (eA 5 1 j64 (ah 5 0)),.var (eA 5 1 j64 (s2.setIfInBounds ((I64 (cz s3 26)).toNat) (I64 (e9+x10))))]))) dF0) ?_;apply rt;exact At.jn 0
     ·apply rt;exact At.jn 0
    ·exact λh=>At.k 3 ⟨_,_,h,jr⟩
   ·apply rt;exact At.x 0
 ·apply rt;exact At.r 2
def rW(N:Nat)(a0:(List Int)):Option ((List Int)):=
 aO (decide (((a0.length:Int)) > 65536)) λx1=>
 cond x1 (
  ae (eU a0 0 65536) λs2=>
  some s2) (
  some a0)
theorem aCV{N a0 r}(h:rW N a0=some r):FnM Tryz.prog 145 [] [(eL 1 k8 a0)] (eL 1 k8 r) []:=by
 unfold rW at h;refine At.f fZ hT hmo Tryz.func145 rfl h ?_;refine lx ?_;intro x1;refine At.c 4 ?_ ?_
 ·refine At.b 1 (λ_ e=>jV hT (k:=1) k8 e) λs2=>?_;apply rt;exact At.r 1
 ·apply rt;exact At.r 2
def fC(N:Nat)(s4:Int)(r1:(List Int)):Nat->(Vector Int 17)->Int->Option ((Vector Int 17)×Int)
 | 0,_,_=>none
 | k+1,s7,s8=>
  aO (decide ((I64 (s4+s8)) < ((r1.length:Int)))) λx9=>
  aO (cond (decide (s8 < 16)) x9 false) λx10=>
  cond x10 (
   ae (idx r1 (I64 (s4+s8))) λe11=>
   ae (aQ s8 17) λ_=>
   ae (s7.toList[s8.toNat]?) λe13=>
   fC N s4 r1 k (s7.setIfInBounds s8.toNat e11) (I64 (s8+1))) (
   some ((s7,s8)))
def iG(N:Nat)(r1:(List Int)):Nat->(List (Vector Int 17))->Int->Option ((List (Vector Int 17)))
 | 0,_,_=>none
 | k+1,s3,s4=>
  aO (decide (s4 < ((r1.length:Int)))) λx5=>
  cond x5 (
   ae (fC N s4 r1 N (ah 17 0) 0) λp6=>
   ae (aQ p6.2 17) λ_=>
   ae (p6.1.toList[p6.2.toNat]?) λe15=>
   ae (mH 17 s3 (([p6.1.setIfInBounds p6.2.toNat 1]:List (Vector Int 17)))) λz16=>
   iG N r1 k z16 (I64 (s4+16))) (
   some s3)
def nD(N:Nat)(a0:(List Int)):Option ((List (Vector Int 17))):=
 ae (rW N a0) λr1=>
 ae (iG N r1 N [] 0) λp2=>
 some p2
theorem aAa{N a0 r}(h:nD N a0=some r):FnM Tryz.prog 124 [] [(eL 1 k8 a0)] (eL 17 (eA 17 1 k8) r) []:=by
 unfold nD at h;refine At.f fZ hT hmo Tryz.func124 rfl h ?_;refine At.b 2 (λ_ e=>aK [] (aCV e)) λr1=>?_;refine At.ownn 3 3 17 ?_;refine At.L 0 [] 1 (λp2=>([(3,(eO 0 17 (eA 17 1 k8) p2))],[(0,.tail (p2.length*17))],[])) (λp2 J k=>∃s3 s4,iG N r1 k s3 s4=some p2/\J [0] 1 [(3,(eO 0 17 (eA 17 1 k8) s3)),(4,(j64 s4))] [(0,.tail (s3.length*17))] []) N (λ_ h=>⟨_,_,h,jr⟩) (λp2 k s hI=>?_) λp2=>?_
 ·obtain⟨s3,s4,h,hj⟩:=hI;cases k with
  | zero=>cases h
  | succ k=>
   refine At.jr hj ?_ h;refine lx ?_;intro x5;refine At.c 4 ?_ ?_
   ·refine At.L 2 [0,3,4,5] 2 (λp6=>([(6,(j64 p6.2))],[(1,.var (eA 17 1 k8 p6.1))],[])) (λp6 J k=>∃s7 s8,fC N s4 r1 k s7 s8=some p6/\J [0,3,4,5] 2 [(6,(j64 s8))] [(1,.var (eA 17 1 k8 s7))] []) N (λ_ h=>⟨_,_,h,jr⟩) (λp6 k s hI=>?_) λp6=>?_
    ·obtain⟨s7,s8,h,hj⟩:=hI;cases k with
     | zero=>cases h
     | succ k=>
      refine At.jr hj ?_ h;refine lx ?_;intro x9;refine lx ?_;intro x10;refine At.c 10 ?_ ?_
      ·refine At.b 5 (λ_ e=>bF hT k8 e) λe11=>?_;refine At.b 1 (λ_ e=>aG hT (k:=1) 1 [] 0 e) λu12=>?_;refine At.b 0 (λ_ e=>bE hT k8 0 s7 e e11 (by kernel_rfl) (by kernel_rfl) (H':=[.tail (s3.length*17),.var (eA 17 1 k8 (s7.setIfInBounds s8.toNat e11))])) λe13=>?_;exact λh=>At.k 3 ⟨_,_,h,jr⟩
      ·apply rt;exact At.x 0
    ·refine At.b 1 (λ_ e=>aG hT (k:=1) 1 [] 0 e) λu14=>?_;refine At.b 0 (λ_ e=>bE hT k8 0 p6.1 e 1 (by kernel_rfl) (by kernel_rfl) (H':=[.tail (s3.length*17),.var (eA 17 1 k8 (p6.1.setIfInBounds p6.2.toNat 1))])) λe15=>?_;refine At.o 2 (bI hT (x:=(.sl 17 1 [(eA 17 1 k8 (p6.1.setIfInBounds p6.2.toNat 1))]))) ?_;refine At.b 0 (λ_ e=>cH hT (eA 17 1 k8) (id:=0) (k:=17) e) λz16=>?_;exact λh=>At.k 4 ⟨_,_,h,jr⟩
   ·apply rt;exact At.x 0
 ·apply rt;exact At.r 2
def bV(N:Nat)  : Nat->(Vector Int 5)->Int->Option ((Vector Int 5))
 | 0,_,_=>none
 | k+1,s5,s6=>
  cond (decide (s6 < 5)) (
   ae (ae (aQ s6 5) λ_=>
   ae (s5.toList[s6.toNat]?) λe9=>
   ae (aQ s6 5) λ_=>
   ae (s5.toList[s6.toNat]?) λe11=>
   aO (shl .i64 (shr .i64 e9 26) 26) λx12=>
   ae (aQ s6 5) λ_=>
   ae (s5.toList[s6.toNat]?) λe14=>
   cond (decide (s6 < 4)) (
    ae (aQ (I64 (s6+1)) 5) λ_=>
    ae ((s5.setIfInBounds s6.toNat (I64 (e11 - x12))).toList[(I64 (s6+1)).toNat]?) λe16=>
    aO (I64 (e16+(shr .i64 e9 26))) λx17=>
    ae (aQ (I64 (s6+1)) 5) λ_=>
    ae ((s5.setIfInBounds s6.toNat (I64 (e11 - x12))).toList[(I64 (s6+1)).toNat]?) λe19=>
    some ((s5.setIfInBounds s6.toNat (I64 (e11 - x12))).setIfInBounds ((I64 (s6+1)).toNat) x17)) (
    ae (aQ 0 5) λ_=>
    ae ((s5.setIfInBounds s6.toNat (I64 (e11 - x12))).toList[(af 0)]?) λe21=>
    aO (I64 (5*(shr .i64 e9 26))) λx22=>
    ae (aQ 0 5) λ_=>
    ae ((s5.setIfInBounds s6.toNat (I64 (e11 - x12))).toList[(af 0)]?) λe24=>
    some ((s5.setIfInBounds s6.toNat (I64 (e11 - x12))).setIfInBounds ((af 0)) (I64 (e21+x22))))) λp7=>
   bV N k p7 (I64 (s6+1))) (
   some s5)
def eG(N:Nat)  : Nat->(Vector Int 5)->Int->Option ((Vector Int 5))
 | 0,_,_=>none
 | k+1,s2,s3=>
  cond (decide (s3 < 3)) (
   ae (bV N N s2 0) λp4=>
   eG N k p4 (I64 (s3+1))) (
   some s2)
def kE(N:Nat)(a0:(Vector Int 5)):Option ((Vector Int 5)):=
 ae (eG N N a0 0) λp1=>
 some p1
theorem uA{N a0 r}(h:kE N a0=some r):FnM Tryz.prog 126 [] [(eA 5 1 j64 a0)] (eA 5 1 j64 r) []:=by
 unfold kE at h;refine At.f fZ hT hmo Tryz.func126 rfl h ?_;refine At.L 3 [1,2] 2 (λp1=>([],[(0,.var (eA 5 1 j64 p1))],[])) (λp1 J k=>∃s2 s3,eG N k s2 s3=some p1/\J [1,2] 2 [(3,(j64 s3))] [(0,.var (eA 5 1 j64 s2))] []) N (λ_ h=>⟨_,_,h,jr⟩) (λp1 k s hI=>?_) λp1=>?_
 ·obtain⟨s2,s3,h,hj⟩:=hI;cases k with
  | zero=>cases h
  | succ k=>
   refine At.jr hj ?_ h;refine At.c 2 ?_ ?_
   ·refine At.L 1 [1,2,3] 2 (λp4=>([],[(0,.var (eA 5 1 j64 p4))],[])) (λp4 J k=>∃s5 s6,bV N k s5 s6=some p4/\J [1,2,3] 2 [(4,(j64 s6))] [(0,.var (eA 5 1 j64 s5))] []) N (λ_ h=>⟨_,_,h,jr⟩) (λp4 k s hI=>?_) λp4=>?_
    ·obtain⟨s5,s6,h,hj⟩:=hI;cases k with
     | zero=>cases h
     | succ k=>
      refine At.jr hj ?_ h;refine At.c 2 ?_ ?_
      ·refine At.J 0 2 [1,2,3,4] 2 (λp7=>([],[(0,.var (eA 5 1 j64 p7))],[])) (λp7=>?_) λp7=>?_
       ·refine At.b 1 (λ_ e=>aG hT (k:=1) 0 [] 0 e) λu8=>?_;refine At.b 0 (λ_ e=>aY hT j64 0 e) λe9=>?_;refine At.b 4 (λ_ e=>aG hT (k:=1) 0 [] 0 e) λu10=>?_;refine At.b 0 (λ_ e=>aY hT j64 0 e) λe11=>?_;refine lx ?_;intro x12;refine At.b 3 (λ_ e=>aG hT (k:=1) 0 [] 0 e) λu13=>?_;refine At.b 0 (λ_ e=>bE hT j64 0 s5 e (I64 (e11 - x12)) (by kernel_rfl) (by kernel_rfl) (H':=[.var (eA 5 1 j64 (s5.setIfInBounds s6.toNat (I64 (e11 - x12)))),.var (eA 5 1 j64 (ah 5 0))])) λe14=>?_;refine At.c 2 ?_ ?_
        ·refine At.b 4 (λ_ e=>aG hT (k:=1) 0 [] 0 e) λu15=>?_;refine At.b 0 (λ_ e=>aY hT j64 0 e) λe16=>?_;refine lx ?_;intro x17;refine At.b 2 (λ_ e=>aG hT (k:=1) 0 [] 0 e) λu18=>?_;refine At.b 0 (λ_ e=>bE hT j64 0 (s5.setIfInBounds s6.toNat (I64 (e11 - x12))) e x17 (by kernel_rfl) (by kernel_rfl) (H':=[.var (eA 5 1 j64 ((s5.setIfInBounds s6.toNat (I64 (e11 - x12))).setIfInBounds ((I64 (s6+1)).toNat) x17)),.var (eA 5 1 j64 (ah 5 0))])) λe19=>?_;apply rt;exact At.jn 0
        ·refine At.b 0 (λ_ e=>aG hT (k:=1) 0 [] 0 e) λu20=>?_;refine At.b 0 (λ_ e=>aY hT j64 0 e) λe21=>?_;refine lx ?_;intro x22;refine At.b 3 (λ_ e=>aG hT (k:=1) 0 [] 0 e) λu23=>?_;refine At.b 0 (λ_ e=>bE hT j64 0 (s5.setIfInBounds s6.toNat (I64 (e11 - x12))) e (I64 (e21+x22)) (by kernel_rfl) (by kernel_rfl) (H':=[.var (eA 5 1 j64 ((s5.setIfInBounds s6.toNat (I64 (e11 - x12))).setIfInBounds ((af 0)) (I64 (e21+x22)))),.var (eA 5 1 j64 (ah 5 0))])) λe24=>?_;apply rt;exact At.jn 0
       ·exact λh=>At.k 3 ⟨_,_,h,jr⟩
      ·apply rt;exact At.x 0
    ·exact λh=>At.k 3 ⟨_,_,h,jr⟩
   ·apply rt;exact At.x 0
 ·apply rt;exact At.r 2
def aBS : Nat->Bool:=imL [2,3]
def aL(N:Nat)(a0:(Vector Int 5))(s3:Int)(a1:(Vector Int 5)):Nat->(Vector Int 5)->Int->Option ((Vector Int 5))
 | 0,_,_=>none
 | k+1,s5,s6=>
  cond (decide (s6 < 5)) (
   ae (idx a0.toList s3) λe7=>
   ae (idx a1.toList s6) λe8=>
   ae (aO (decide ((I64 (s3+s6))>=5)) λx10=>
   cond x10 (
    aO (I64 (5*(I64 (e7*e8)))) λx11=>
    some x11) (
    some (I64 (e7*e8)))) λp9=>
   aO (cf (I64 (s3+s6)) 5) λx12=>
   aO (cf (I64 (s3+s6)) 5) λx13=>
   ae (aQ x13 5) λ_=>
   ae (s5.toList[x13.toNat]?) λe15=>
   ae (aQ x12 5) λ_=>
   ae (s5.toList[x12.toNat]?) λe17=>
   aL N a0 s3 a1 k (s5.setIfInBounds x12.toNat (I64 (e15+p9))) (I64 (s6+1))) (
   some s5)
def cP(N:Nat)(a0 a1:(Vector Int 5)):Nat->(Vector Int 5)->Int->Option ((Vector Int 5))
 | 0,_,_=>none
 | k+1,s2,s3=>
  cond (decide (s3 < 5)) (
   ae (aL N a0 s3 a1 N s2 0) λp4=>
   cP N a0 a1 k p4 (I64 (s3+1))) (
   some s2)
def oI(N:Nat)(a0 a1:(Vector Int 5)):Option ((Vector Int 5)):=
 ae (cP N a0 a1 N (ah 5 0) 0) λp1=>
 ae (kE N p1) λr18=>
 some r18
theorem aBA{N a0 a1 r}(h:oI N a0 a1=some r):FnM Tryz.prog 125 [] [(eA 5 1 j64 a0),(eA 5 1 j64 a1)] (eA 5 1 j64 r) []:=by
 unfold oI at h;refine At.f aBS hT hmo Tryz.func125 rfl h ?_;refine At.L 5 [4,5] 2 (λp1=>([],[(1,.var (eA 5 1 j64 p1))],[])) (λp1 J k=>∃s2 s3,cP N a0 a1 k s2 s3=some p1/\J [2,3,4,5] 2 [(6,(j64 s3))] [(1,.var (eA 5 1 j64 s2))] []) N (λ_ h=>⟨_,_,h,jr⟩) (λp1 k s hI=>?_) λp1=>?_
 ·obtain⟨s2,s3,h,hj⟩:=hI;cases k with
  | zero=>cases h
  | succ k=>
   refine At.jr hj ?_ h;refine At.c 2 ?_ ?_
   ·refine At.L 1 [2,3,4,5,6] 2 (λp4=>([],[(1,.var (eA 5 1 j64 p4))],[])) (λp4 J k=>∃s5 s6,aL N a0 s3 a1 k s5 s6=some p4/\J [2,3,4,5,6] 2 [(7,(j64 s6))] [(1,.var (eA 5 1 j64 s5))] []) N (λ_ h=>⟨_,_,h,jr⟩) (λp4 k s hI=>?_) λp4=>?_
    ·obtain⟨s5,s6,h,hj⟩:=hI;cases k with
     | zero=>cases h
     | succ k=>
      refine At.jr hj ?_ h;refine At.c 2 ?_ ?_
      ·refine bi λe7 he7=>?_;refine bi λe8 he8=>?_;refine At.d 0 (dE1 1 (λ_=>bN hT (N:=5) (k:=1) j64 a0 he7) (dE1 4 (λ_=>bN hT (N:=5) (k:=1) j64 a1 he8) dE0)) dF0 ?_;refine At.J 0 1 [2,3,4,5,6,7] 2 (λp9=>([(8,(j64 p9))],[],[])) (λp9=>?_) λp9=>?_
       ·refine lx ?_;intro x10;refine At.c 4 ?_ ?_
        ·refine lx ?_;intro x11;apply rt;exact At.jn 3
        ·apply rt;exact At.jn 0
       ·refine lx ?_;intro x12;refine lx ?_;intro x13;refine At.b 8 (λ_ e=>aG hT (k:=1) 1 [] 0 e) λu14=>?_;refine At.b 0 (λ_ e=>aY hT j64 0 e) λe15=>?_;refine At.b 2 (λ_ e=>aG hT (k:=1) 1 [] 0 e) λu16=>?_;refine At.b 0 (λ_ e=>bE hT j64 0 s5 e (I64 (e15+p9)) (by kernel_rfl) (by kernel_rfl) (H':=[.var (eA 5 1 j64 (ah 5 0)),.var (eA 5 1 j64 (s5.setIfInBounds x12.toNat (I64 (e15+p9))))])) λe17=>?_;exact λh=>At.k 3 ⟨_,_,h,jr⟩
      ·apply rt;exact At.x 0
    ·exact λh=>At.k 3 ⟨_,_,h,jr⟩
   ·apply rt;exact At.x 0
 ·refine At.b 1 (λ_ e=>aK [] (uA e)) λr18=>?_;apply rt;exact At.r 1
def dA(N:Nat)  : Nat->(Vector Int 5)->Int->Option ((Vector Int 5))
 | 0,_,_=>none
 | k+1,s10,s11=>
  cond (decide (s11 < 4)) (
   ae (aQ s11 5) λ_=>
   ae (s10.toList[s11.toNat]?) λe13=>
   ae (aQ s11 5) λ_=>
   ae (s10.toList[s11.toNat]?) λe15=>
   aO (shl .i64 (shr .i64 e13 26) 26) λx16=>
   ae (aQ s11 5) λ_=>
   ae (s10.toList[s11.toNat]?) λe18=>
   ae (aQ (I64 (s11+1)) 5) λ_=>
   ae ((s10.setIfInBounds s11.toNat (I64 (e15 - x16))).toList[(I64 (s11+1)).toNat]?) λe20=>
   aO (I64 (e20+(shr .i64 e13 26))) λx21=>
   ae (aQ (I64 (s11+1)) 5) λ_=>
   ae ((s10.setIfInBounds s11.toNat (I64 (e15 - x16))).toList[(I64 (s11+1)).toNat]?) λe23=>
   dA N k ((s10.setIfInBounds s11.toNat (I64 (e15 - x16))).setIfInBounds ((I64 (s11+1)).toNat) x21) (I64 (s11+1))) (
   some s10)
def cZ(N:Nat)  : Nat->(Vector Int 5)->Int->Option ((Vector Int 5))
 | 0,_,_=>none
 | k+1,s2,s3=>
  cond (decide (s3 < 2)) (
   ae (ae (aQ 0 5) λ_=>
   ae (s2.toList[(af 0)]?) λe6=>
   ae (aQ 0 5) λ_=>
   ae (s2.toList[(af 0)]?) λe8=>
   ae (dA N N (s2.setIfInBounds ((af 0)) (I64 (e6+5))) 0) λp9=>
   ae (aQ 4 5) λ_=>
   ae (p9.toList[(af 4)]?) λe25=>
   aO (decide (e25>=67108864)) λx26=>
   cond x26 (
    ae (aQ 4 5) λ_=>
    ae (p9.toList[(af 4)]?) λe28=>
    ae (aQ 4 5) λ_=>
    ae (p9.toList[(af 4)]?) λe30=>
    some ((p9.setIfInBounds ((af 4)) (I64 (e28 - 67108864)),p9.setIfInBounds ((af 4)) (I64 (e28 - 67108864))))) (
    some ((s2,p9)))) λp4=>
   cZ N k p4.1 (I64 (s3+1))) (
   some s2)
def oA(N:Nat)(a0:(Vector Int 5)):Option ((Vector Int 5)):=
 ae (cZ N N a0 0) λp1=>
 some p1
theorem aA1{N a0 r}(h:oA N a0=some r):FnM Tryz.prog 127 [] [(eA 5 1 j64 a0)] (eA 5 1 j64 r) []:=by
 unfold oA at h;refine At.f fZ hT hmo Tryz.func127 rfl h ?_;refine At.L 3 [1,2] 2 (λp1=>([],[(0,.var (eA 5 1 j64 p1))],[])) (λp1 J k=>∃s2 s3,cZ N k s2 s3=some p1/\J [1,2] 2 [(3,(j64 s3))] [(0,.var (eA 5 1 j64 s2))] []) N (λ_ h=>⟨_,_,h,jr⟩) (λp1 k s hI=>?_) λp1=>?_
 ·obtain⟨s2,s3,h,hj⟩:=hI;cases k with
  | zero=>cases h
  | succ k=>
   refine At.jr hj ?_ h;refine At.c 2 ?_ ?_
   ·refine At.J 0 2 [1,2,3] 2 (λp4=>([],[(0,.var (eA 5 1 j64 p4.1))],[.var (eA 5 1 j64 p4.2)])) (λp4=>?_) λp4=>?_
    ·refine At.b 3 (λ_ e=>aG hT (k:=1) 2 [] 0 e) λu5=>?_;refine At.b 0 (λ_ e=>aY hT j64 0 e) λe6=>?_;refine At.b 1 (λ_ e=>aG hT (k:=1) 2 [] 0 e) λu7=>?_;refine At.b 0 (λ_ e=>bE hT j64 0 s2 e (I64 (e6+5)) (by kernel_rfl) (by kernel_rfl) (H':=[.var (eA 5 1 j64 s2),.var (eA 5 1 j64 (ah 5 0)),.var (eA 5 1 j64 (s2.setIfInBounds ((af 0)) (I64 (e6+5))))])) λe8=>?_;refine At.L 1 [1,2,3,4] 3 (λp9=>([],[(2,.var (eA 5 1 j64 p9))],[])) (λp9 J k=>∃s10 s11,dA N k s10 s11=some p9/\J [1,2,3,4] 3 [(5,(j64 s11))] [(2,.var (eA 5 1 j64 s10))] []) N (λ_ h=>⟨_,_,h,jr⟩) (λp9 k s hI=>?_) λp9=>?_
     ·obtain⟨s10,s11,h,hj⟩:=hI;cases k with
      | zero=>cases h
      | succ k=>
       refine At.jr hj ?_ h;refine At.c 2 ?_ ?_
       ·refine At.b 1 (λ_ e=>aG hT (k:=1) 2 [] 0 e) λu12=>?_;refine At.b 0 (λ_ e=>aY hT j64 0 e) λe13=>?_;refine At.b 4 (λ_ e=>aG hT (k:=1) 2 [] 0 e) λu14=>?_;refine At.b 0 (λ_ e=>aY hT j64 0 e) λe15=>?_;refine lx ?_;intro x16;refine At.b 3 (λ_ e=>aG hT (k:=1) 2 [] 0 e) λu17=>?_;refine At.b 0 (λ_ e=>bE hT j64 0 s10 e (I64 (e15 - x16)) (by kernel_rfl) (by kernel_rfl) (H':=[.var (eA 5 1 j64 s2),.var (eA 5 1 j64 (ah 5 0)),.var (eA 5 1 j64 (s10.setIfInBounds s11.toNat (I64 (e15 - x16))))])) λe18=>?_;refine At.b 4 (λ_ e=>aG hT (k:=1) 2 [] 0 e) λu19=>?_;refine At.b 0 (λ_ e=>aY hT j64 0 e) λe20=>?_;refine lx ?_;intro x21;refine At.b 2 (λ_ e=>aG hT (k:=1) 2 [] 0 e) λu22=>?_;refine At.b 0 (λ_ e=>bE hT j64 0 (s10.setIfInBounds s11.toNat (I64 (e15 - x16))) e x21 (by kernel_rfl) (by kernel_rfl) (H':=[.var (eA 5 1 j64 s2),.var (eA 5 1 j64 (ah 5 0)),.var (eA 5 1 j64 ((s10.setIfInBounds s11.toNat (I64 (e15 - x16))).setIfInBounds ((I64 (s11+1)).toNat) x21))])) λe23=>?_;exact λh=>At.k 3 ⟨_,_,h,jr⟩
       ·apply rt;exact At.x 0
     ·refine At.b 0 (λ_ e=>aG hT (k:=1) 2 [] 0 e) λu24=>?_;refine At.b 0 (λ_ e=>aY hT j64 0 e) λe25=>?_;refine lx ?_;intro x26;refine At.c 1 ?_ ?_
      ·refine At.b 0 (λ_ e=>aG hT (k:=1) 2 [] 0 e) λu27=>?_;refine At.b 0 (λ_ e=>aY hT j64 0 e) λe28=>?_;refine At.b 1 (λ_ e=>aG hT (k:=1) 2 [] 0 e) λu29=>?_;refine At.b 0 (λ_ e=>bE hT j64 0 p9 e (I64 (e28 - 67108864)) (by kernel_rfl) (by kernel_rfl) (H':=[.var (eA 5 1 j64 s2),.var (eA 5 1 j64 (ah 5 0)),.var (eA 5 1 j64 (p9.setIfInBounds ((af 4)) (I64 (e28 - 67108864))))])) λe30=>?_;apply rt;exact At.jn 2
      ·apply rt;exact At.jn 0
    ·exact λh=>At.k 3 ⟨_,_,h,jr⟩
   ·apply rt;exact At.x 0
 ·apply rt;exact At.r 2
def aDI : Nat->Bool:=imL [2]
def iY(N:Nat)(a0:(Vector Int 32)):Nat->(Vector Int 16)->Int->Option ((Vector Int 16))
 | 0,_,_=>none
 | k+1,s2,s3=>
  cond (decide (s3 < 16)) (
   ae (idx a0.toList s3) λe4=>
   ae (aQ s3 16) λ_=>
   ae (s2.toList[s3.toNat]?) λe6=>
   iY N a0 k (s2.setIfInBounds s3.toNat e4) (I64 (s3+1))) (
   some s2)
def iS(N:Nat)(r7:(Vector Int 16)):Nat->(Vector Int 17)->Int->Option ((Vector Int 17))
 | 0,_,_=>none
 | k+1,s9,s10=>
  cond (decide (s10 < 16)) (
   ae (aQ s10 16) λ_=>
   ae (r7.toList[s10.toNat]?) λe12=>
   ae (aQ s10 17) λ_=>
   ae (s9.toList[s10.toNat]?) λe14=>
   iS N r7 k (s9.setIfInBounds s10.toNat e12) (I64 (s10+1))) (
   some s9)
def dE(N:Nat)(s18:(Vector Int 5)):Nat->(Vector Int 5)->Int->Option ((Vector Int 5))
 | 0,_,_=>none
 | k+1,s24,s25=>
  cond (decide (s25 < 5)) (
   ae (aQ s25 5) λ_=>
   ae (s24.toList[s25.toNat]?) λe27=>
   ae (aQ s25 5) λ_=>
   ae (s18.toList[s25.toNat]?) λe29=>
   ae (aQ s25 5) λ_=>
   ae (s24.toList[s25.toNat]?) λe31=>
   dE N s18 k (s24.setIfInBounds s25.toNat (I64 (e27+e29))) (I64 (s25+1))) (
   some s24)
def lA(N:Nat)(r16:(List (Vector Int 17)))(r15:(Vector Int 5)):Nat->(Vector Int 5)->Int->Option ((Vector Int 5))
 | 0,_,_=>none
 | k+1,s18,s19=>
  aO (decide (s19 < ((r16.length:Int)))) λx20=>
  cond x20 (
   ae (idx r16 s19) λe21=>
   ae (iX N e21) λr22=>
   ae (dE N s18 N r22 0) λp23=>
   ae (kE N p23) λr32=>
   ae (oI N r32 r15) λr33=>
   lA N r16 r15 k r33 (I64 (s19+1))) (
   some s18)
def fO(N:Nat)(s38:Int)(r34:(Vector Int 5)):Nat->Int->Int->Option (Int)
 | 0,_,_=>none
 | k+1,s41,s42=>
  cond (decide (s42 < 8)) (
   aO (I64 ((I64 (8*s38))+s42)) λx43=>
   ae (aQ (I64 (cz x43 26)) 5) λ_=>
   ae (r34.toList[(I64 (cz x43 26)).toNat]?) λe45=>
   ae (yG .i64 e45 (cf x43 26)) λx46=>
   ae (aD9 .i64 (dD .i64 x46 1) s42) λx47=>
   fO N s38 r34 k (I64 (s41+x47)) (I64 (s42+1))) (
   some s41)
def iT(N:Nat)(a0:(Vector Int 32))(r34:(Vector Int 5)):Nat->(Vector Int 16)->Int->Int->Option ((Vector Int 16))
 | 0,_,_,_=>none
 | k+1,s36,s37,s38=>
  cond (decide (s38 < 16)) (
   ae (idx a0.toList (I64 (16+s38))) λe39=>
   ae (fO N s38 r34 N (I64 ((I64 e39)+s37)) 0) λp40=>
   ae (aQ s38 16) λ_=>
   ae (s36.toList[s38.toNat]?) λe49=>
   iT N a0 r34 k (s36.setIfInBounds s38.toNat (U8 p40)) (shr .i64 p40 8) (I64 (s38+1))) (
   some s36)
def pY(N:Nat)(a0:(Vector Int 32))(a1:(List Int)):Option ((Vector Int 16)):=
 ae (iY N a0 N (ah 16 0) 0) λp1=>
 ae (hO N p1) λr7=>
 ae (iS N r7 N (ah 17 0) 0) λp8=>
 ae (iX N p8) λr15=>
 ae (nD N a1) λr16=>
 ae (lA N r16 r15 N (ah 5 0) 0) λp17=>
 ae (oA N p17) λr34=>
 ae (iT N a0 r34 N (ah 16 0) 0 0) λp35=>
 some p35
theorem aCL{N a0 a1 r}(h:pY N a0 a1=some r):FnM Tryz.prog 101 [] [(eA 32 1 k8 a0),(eL 1 k8 a1)] (eA 16 1 k8 r) []:=by
 unfold pY at h;refine At.f aDI hT hmo Tryz.func101 rfl h ?_;refine At.L 4 [1,2,4,5] 2 (λp1=>([],[(1,.var (eA 16 1 k8 p1))],[])) (λp1 J k=>∃s2 s3,iY N a0 k s2 s3=some p1/\J [1,2,4,5] 2 [(6,(j64 s3))] [(1,.var (eA 16 1 k8 s2))] []) N (λ_ h=>⟨_,_,h,jr⟩) (λp1 k s hI=>?_) λp1=>?_
 ·obtain⟨s2,s3,h,hj⟩:=hI;cases k with
  | zero=>cases h
  | succ k=>
   refine At.jr hj ?_ h;refine At.c 2 ?_ ?_
   ·refine At.b 2 (λ_ e=>bN hT (N:=32) (k:=1) k8 a0 e) λe4=>?_;refine At.b 1 (λ_ e=>aG hT (k:=1) 1 [] 0 e) λu5=>?_;refine At.b 0 (λ_ e=>bE hT k8 0 s2 e e4 (by kernel_rfl) (by kernel_rfl) (H':=[.var (eA 16 1 k8 (ah 16 0)),.var (eA 16 1 k8 (s2.setIfInBounds s3.toNat e4))])) λe6=>?_;exact λh=>At.k 3 ⟨_,_,h,jr⟩
   ·apply rt;exact At.x 0
 ·refine At.b 1 (λ_ e=>aK [] (aAv e)) λr7=>?_;refine At.L 3 [1,2,4,7] 3 (λp8=>([],[(2,.var (eA 17 1 k8 p8))],[])) (λp8 J k=>∃s9 s10,iS N r7 k s9 s10=some p8/\J [1,2,4,5,7] 3 [(8,(j64 s10))] [(2,.var (eA 17 1 k8 s9))] []) N (λ_ h=>⟨_,_,h,jr⟩) (λp8 k s hI=>?_) λp8=>?_
  ·obtain⟨s9,s10,h,hj⟩:=hI;cases k with
   | zero=>cases h
   | succ k=>
    refine At.jr hj ?_ h;refine At.c 2 ?_ ?_
    ·refine At.b 2 (λ_ e=>aG hT (k:=1) 1 [] 0 e) λu11=>?_;refine At.b 0 (λ_ e=>aY hT k8 0 e) λe12=>?_;refine At.b 0 (λ_ e=>aG hT (k:=1) 2 [] 0 e) λu13=>?_;refine At.b 0 (λ_ e=>bE hT k8 0 s9 e e12 (by kernel_rfl) (by kernel_rfl) (H':=[.var (eA 16 1 k8 (ah 16 0)),.var (eA 16 1 k8 r7),.var (eA 17 1 k8 (s9.setIfInBounds s10.toNat e12))])) λe14=>?_;exact λh=>At.k 3 ⟨_,_,h,jr⟩
    ·apply rt;exact At.x 0
  ·refine At.b 1 (λ_ e=>aK [] (vB e)) λr15=>?_;refine At.b 4 (λ_ e=>aK [] (aAa e)) λr16=>?_;refine At.L 2 [2,4,10] 5 (λp17=>([],[(4,.var (eA 5 1 j64 p17))],[])) (λp17 J k=>∃s18 s19,lA N r16 r15 k s18 s19=some p17/\J [2,4,9,10,11] 5 [(12,(j64 s19))] [(4,.var (eA 5 1 j64 s18))] []) N (λ_ h=>⟨_,_,h,jr⟩) (λp17 k s hI=>?_) λp17=>?_
   ·obtain⟨s18,s19,h,hj⟩:=hI;cases k with
    | zero=>cases h
    | succ k=>
     refine At.jr hj ?_ h;refine lx ?_;intro x20;refine At.c 4 ?_ ?_
     ·refine At.b 2 (λ_ e=>bF hT (eA 17 1 k8) e) λe21=>?_;refine At.b 1 (λ_ e=>aK [] (vB e)) λr22=>?_;refine At.L 3 [2,4,9,10,11,12,13] 6 (λp23=>([],[(5,.var (eA 5 1 j64 p23))],[])) (λp23 J k=>∃s24 s25,dE N s18 k s24 s25=some p23/\J [2,4,9,10,11,12,13] 6 [(14,(j64 s25))] [(5,.var (eA 5 1 j64 s24))] []) N (λ_ h=>⟨_,_,h,jr⟩) (λp23 k s hI=>?_) λp23=>?_
      ·obtain⟨s24,s25,h,hj⟩:=hI;cases k with
       | zero=>cases h
       | succ k=>
        refine At.jr hj ?_ h;refine At.c 2 ?_ ?_
        ·refine bi λu26 hu26=>?_;refine bi λe27 he27=>?_;refine bi λu28 hu28=>?_;refine bi λe29 he29=>?_;refine bi λu30 hu30=>?_;refine bi λe31 he31=>?_;refine At.d 0 (dE1 2 (λ_=>aG hT (k:=1) 5 [] 0 hu26) (dEL hT 3 (j64 e27) j64 0 he27 (dE1 5 (λ_=>aG hT (k:=1) 4 [] 0 hu28) (dEL hT 6 (j64 e29) j64 0 he29 (dE1 8 (λ_=>aG hT (k:=1) 5 [] 0 hu30) dE0))))) (dF 9 (.v (.bool false)) [(5,.var (eA 5 1 j64 (s24.setIfInBounds s25.toNat (I64 (e27+e29)))))] [] (bG (bE hT j64 0 s24 he31 (I64 (e27+e29)) (by kernel_rfl) (by kernel_rfl) (H':=[.var (eA 16 1 k8 (ah 16 0)),.var (eA 16 1 k8 r7),.var (eA 17 1 k8 p8),.var (eA 5 1 j64 r15),.var (eA 5 1 j64 s18),.var (eA 5 1 j64 (s24.setIfInBounds s25.toNat (I64 (e27+e29))))]))) dF0) ?_;exact λh=>At.k 3 ⟨_,_,h,jr⟩
        ·apply rt;exact At.x 0
      ·refine bi λr32 hr32=>?_;refine bi λr33 hr33=>?_;refine At.d 0 (dE2 1 (eA 5 1 j64 r32) (λ_=>cM (uA hr32)) (dE2 3 (eA 5 1 j64 r33) (λ_=>cM (aBA hr33)) dE0)) dF0 ?_;exact λh=>At.k 3 ⟨_,_,h,jr⟩
     ·apply rt;exact At.x 0
   ·refine At.b 1 (λ_ e=>aK [] (aA1 e)) λr34=>?_;refine At.L 4 [4,15] 6 (λp35=>([],[(5,.var (eA 16 1 k8 p35))],[])) (λp35 J k=>∃s36 s37 s38,iT N a0 r34 k s36 s37 s38=some p35/\J [2,4,10,15] 6 [(16,(j64 s37)),(17,(j64 s38))] [(5,.var (eA 16 1 k8 s36))] []) N (λ_ h=>⟨_,_,_,h,jr⟩) (λp35 k s hI=>?_) λp35=>?_
    ·obtain⟨s36,s37,s38,h,hj⟩:=hI;cases k with
     | zero=>cases h
     | succ k=>
      refine At.jr hj ?_ h;refine At.c 2 ?_ ?_
      ·refine At.b 2 (λ_ e=>bN hT (N:=32) (k:=1) k8 a0 e) λe39=>?_;refine At.L 6 [2,4,10,15,17] 6 (λp40=>([(18,(j64 p40))],[],[])) (λp40 J k=>∃s41 s42,fO N s38 r34 k s41 s42=some p40/\J [2,4,10,15,17] 6 [(18,(j64 s41)),(19,(j64 s42))] [] []) N (λ_ h=>⟨_,_,h,jr⟩) (λp40 k s hI=>?_) λp40=>?_
       ·obtain⟨s41,s42,h,hj⟩:=hI;cases k with
        | zero=>cases h
        | succ k=>
         refine At.jr hj ?_ h;refine At.c 2 ?_ ?_
         ·refine lx ?_;intro x43;refine At.b 8 (λ_ e=>aG hT (k:=1) 4 [] 0 e) λu44=>?_;refine At.b 0 (λ_ e=>aY hT j64 0 e) λe45=>?_;refine At.b 2 (λ_ e=>pM hT (k' := .i64) e (by kernel_rfl) (by kernel_rfl)) λx46=>?_;refine At.b 2 (λ_ e=>vR hT (k' := .i64) e (by kernel_rfl) (by kernel_rfl)) λx47=>?_;exact λh=>At.k 5 ⟨_,_,h,jr⟩
         ·apply rt;exact At.x 0
       ·refine At.b 3 (λ_ e=>aG hT (k:=1) 5 [] 0 e) λu48=>?_;refine At.b 0 (λ_ e=>bE hT k8 0 s36 e (U8 p40) (by kernel_rfl) (by kernel_rfl) (H':=[.var (eA 16 1 k8 (ah 16 0)),.var (eA 16 1 k8 r7),.var (eA 17 1 k8 p8),.var (eA 5 1 j64 r15),.var (eA 5 1 j64 r34),.var (eA 16 1 k8 (s36.setIfInBounds s38.toNat (U8 p40)))])) λe49=>?_;exact λh=>At.k 6 ⟨_,_,_,h,jr⟩
      ·apply rt;exact At.x 0
    ·apply rt;exact At.r 2
def aDP : Nat->Bool:=imL [4,5]
def nR(N:Nat)(a0:(Vector Int 32))(a1:(Vector Int 12))(a2 a3:(List Int)):Option ((Vector Int 16)):=
 ae (lB N a2) λr1=>
 ae (lB N a3) λr2=>
 ae (mH 1 r1 r2) λz3=>
 ae (lE N ((a2.length:Int))) λr4=>
 ae (mH 1 z3 r4) λz5=>
 ae (qC N a0 a1) λr6=>
 ae (lE N ((a3.length:Int))) λr7=>
 ae (mH 1 z5 r7) λz8=>
 ae (pY N r6 z8) λr9=>
 some r9
theorem aCF{N a0 a1 a2 a3 r}(h:nR N a0 a1 a2 a3=some r):FnM Tryz.prog 62 [] [(eA 32 1 k8 a0),(eA 12 1 k8 a1),(eL 1 k8 a2),(eL 1 k8 a3)] (eA 16 1 k8 r) []:=by
 unfold nR at h;refine At.f aDP hT hmo Tryz.func62 rfl h ?_;refine At.b 4 (λ_ e=>aK [] (uY e)) λr1=>?_;refine At.b 1 (λ_ e=>aK [] (uY e)) λr2=>?_;refine At.b 0 (λ_ e=>cH hT k8 (id:=1) (k:=1) e) λz3=>?_;refine At.b 4 (λ_ e=>aK [] (uS e)) λr4=>?_;refine At.b 0 (λ_ e=>cH hT k8 (id:=1) (k:=1) e) λz5=>?_;refine At.b 3 (λ_ e=>aK [] (aCT e)) λr6=>?_;refine At.b 3 (λ_ e=>aK [] (uS e)) λr7=>?_;refine At.b 0 (λ_ e=>cH hT k8 (id:=1) (k:=1) e) λz8=>?_;refine At.b 0 (λ_ e=>aK [] (aCL e)) λr9=>?_;apply rt;exact At.r 1
def aCH : Nat->Bool:=imL [4,5]
def hQ(N:Nat)(r4:(Vector Int 16)):Nat->(List Int)->Int->Option ((List Int))
 | 0,_,_=>none
 | k+1,s6,s7=>
  cond (decide (s7 < 16)) (
   ae (aQ s7 16) λ_=>
   ae (r4.toList[s7.toNat]?) λe9=>
   ae (mH 1 s6 (([e9]:List Int))) λz10=>
   hQ N r4 k z10 (I64 (s7+1))) (
   some s6)
def mT(N:Nat)(a0:(Vector Int 32))(a1:(Vector Int 12))(a2 a3:(List Int)):Option ((List Int)×Int):=
 aO (decide (((a2.length:Int)) > 16384)) λx1=>
 aO (decide (((a3.length:Int)) > 16384)) λx2=>
 cond (cond x1 true x2) (
  some (([],3))) (
  ae (qB N a0 1 a1 a3) λr3=>
  ae (nR N a0 a1 a2 r3) λr4=>
  ae (hQ N r4 N r3 0) λp5=>
  some ((p5,0)))
theorem wI{N a0 a1 a2 a3 r}(h:mT N a0 a1 a2 a3=some r):FnM Tryz.prog 56 [] [(eA 32 1 k8 a0),(eA 12 1 k8 a1),(eL 1 k8 a2),(eL 1 k8 a3)] (.tup [(eL 1 k8 r.1),(j64 r.2)]) []:=by
 unfold mT at h;refine At.f aCH hT hmo Tryz.func56 rfl h ?_;refine lx ?_;intro x1;refine lx ?_;intro x2;refine At.c 12 ?_ ?_
 ·apply rt;exact At.r 2
 ·refine At.b 3 (λ_ e=>aK [] (aCi e)) λr3=>?_;refine At.b 5 (λ_ e=>aK [] (aCF e)) λr4=>?_;refine At.L 3 [] 2 (λp5=>([(10,(eO 0 1 k8 p5))],[(0,.tail (p5.length*1))],[])) (λp5 J k=>∃s6 s7,hQ N r4 k s6 s7=some p5/\J [11] 2 [(10,(eO 0 1 k8 s6)),(12,(j64 s7))] [(0,.tail (s6.length*1))] []) N (λ_ h=>⟨_,_,h,jr⟩) (λp5 k s hI=>?_) λp5=>?_
  ·obtain⟨s6,s7,h,hj⟩:=hI;cases k with
   | zero=>cases h
   | succ k=>
    refine At.jr hj ?_ h;refine At.c 2 ?_ ?_
    ·refine At.b 2 (λ_ e=>aG hT (k:=1) 1 [] 0 e) λu8=>?_;refine At.b 0 (λ_ e=>aY hT k8 0 e) λe9=>?_;refine At.o 0 (bI hT (x:=(.sl 1 1 [(k8 e9)]))) ?_;refine At.b 0 (λ_ e=>cH hT k8 (id:=0) (k:=1) e) λz10=>?_;exact λh=>At.k 4 ⟨_,_,h,jr⟩
    ·apply rt;exact At.x 0
  ·apply rt;exact At.r 3
def oT(N:Nat)(a0 a1:Int):Option ((List Int)):=
 aO (U8 (I64 (cz a0 256))) λx1=>
 aO (U8 (I64 (cz a1 256))) λx2=>
 some ([U8 (cf a0 256),x1,U8 (cf a1 256),x2])
theorem aBr{N a0 a1 r}(h:oT N a0 a1=some r):FnM Tryz.prog 40 [] [(j64 a0),(j64 a1)] (eL 1 k8 r) []:=by
 unfold oT at h;refine At.f fZ hT hmo Tryz.func40 rfl h ?_;refine lx ?_;intro x1;refine lx ?_;intro x2;refine At.o 13 (bI hT (x:=(.sl 1 4 [(k8 (U8 (cf a0 256))),(k8 x1),(k8 (U8 (cf a1 256))),(k8 x2)]))) ?_;apply rt;exact At.r 1
def aDJ : Nat->Bool:=imL [4,5]
def iZ(N:Nat)(a1:(Vector Int 8)):Nat->(List Int)->Int->Option ((List Int))
 | 0,_,_=>none
 | k+1,s2,s3=>
  cond (decide (s3 < 8)) (
   ae (idx a1.toList s3) λe4=>
   ae (mH 1 s2 (([e4]:List Int))) λz5=>
   iZ N a1 k z5 (I64 (s3+1))) (
   some s2)
def lG(N:Nat)(a3:(List Int))(a1:(Vector Int 8))(r8:(List Int)×Int)(a0:(Vector Int 32)):Nat->(List Int)->Int->Option ((List Int))
 | 0,_,_=>none
 | k+1,s11,s12=>
  aO (decide ((I64 (s12*256)) < ((a3.length:Int)))) λx13=>
  cond x13 (
   aO (I64 ((I64 (s12*256))+256)) λx14=>
   aO (lP x14 ((a3.length:Int))) λx15=>
   ae (eU a3 (I64 (s12*256)) x15) λs16=>
   ae (oT N s12 ((s16.length:Int))) λr17=>
   ae (iA N a1 (I64 (s12+1))) λr18=>
   ae (mH 1 (([]:List Int)) r17) λz19=>
   ae (mH 1 z19 r8.1) λz20=>
   ae (mT N a0 r18 z20 s16) λr21=>
   ae (mH 1 s11 r17) λz22=>
   ae (mH 1 z22 r21.1) λz23=>
   lG N a3 a1 r8 a0 k z23 (I64 (s12+1))) (
   some s11)
def pU(N:Nat)(a0:(Vector Int 32))(a1:(Vector Int 8))(a2 a3:(List Int)):Option ((List Int)):=
 ae (iZ N a1 N (([85,77,66,49]:List Int)) 0) λp1=>
 ae (mH 1 p1 a2) λz6=>
 ae (iA N a1 0) λr7=>
 ae (mT N a0 r7 z6 []) λr8=>
 ae (mH 1 z6 r8.1) λz9=>
 ae (lG N a3 a1 r8 a0 N z9 0) λp10=>
 some p10
theorem aCE{N a0 a1 a2 a3 r}(h:pU N a0 a1 a2 a3=some r):FnM Tryz.prog 28 [] [(eA 32 1 k8 a0),(eA 8 1 k8 a1),(eL 1 k8 a2),(eL 1 k8 a3)] (eL 1 k8 r) []:=by
 unfold pU at h;refine At.f aDJ hT hmo Tryz.func28 rfl h ?_;refine At.o 3 (sK hT k8 (k:=1) ([85,77,66,49]:List Int) (by kernel_rfl) (by kernel_rfl)) ?_;refine At.L 2 [2,3,4,5] 1 (λp1=>([(9,(eO 0 1 k8 p1))],[(0,.tail (p1.length*1))],[])) (λp1 J k=>∃s2 s3,iZ N a1 k s2 s3=some p1/\J [2,3,4,5] 1 [(9,(eO 0 1 k8 s2)),(10,(j64 s3))] [(0,.tail (s2.length*1))] []) N (λ_ h=>⟨_,_,h,jr⟩) (λp1 k s hI=>?_) λp1=>?_
 ·obtain⟨s2,s3,h,hj⟩:=hI;cases k with
  | zero=>cases h
  | succ k=>
   refine At.jr hj ?_ h;refine At.c 2 ?_ ?_
   ·refine At.b 2 (λ_ e=>bN hT (N:=8) (k:=1) k8 a1 e) λe4=>?_;refine At.o 1 (bI hT (x:=(.sl 1 1 [(k8 e4)]))) ?_;refine At.b 0 (λ_ e=>cH hT k8 (id:=0) (k:=1) e) λz5=>?_;exact λh=>At.k 4 ⟨_,_,h,jr⟩
   ·apply rt;exact At.x 0
 ·refine At.b 2 (λ_ e=>cH hT k8 (id:=0) (k:=1) e) λz6=>?_;refine bi λr7 hr7=>?_;refine bi λr8 hr8=>?_;refine At.d 1 (dE2 2 (eA 12 1 k8 r7) (λ_=>cM (pJ hr7)) (dE2 4 (.tup [(eL 1 k8 r8.1),(j64 r8.2)]) (λ_=>cM (wI hr8)) dE0)) dF0 ?_;refine At.b 2 (λ_ e=>cH hT k8 (id:=0) (k:=1) e) λz9=>?_;refine At.L 2 [] 1 (λp10=>([(9,(eO 0 1 k8 p10))],[(0,.tail (p10.length*1))],[])) (λp10 J k=>∃s11 s12,lG N a3 a1 r8 a0 k s11 s12=some p10/\J [3,4,5,11] 1 [(9,(eO 0 1 k8 s11)),(13,(j64 s12))] [(0,.tail (s11.length*1))] []) N (λ_ h=>⟨_,_,h,jr⟩) (λp10 k s hI=>?_) λp10=>?_
  ·obtain⟨s11,s12,h,hj⟩:=hI;cases k with
   | zero=>cases h
   | succ k=>
    refine At.jr hj ?_ h;refine lx ?_;intro x13;refine At.c 5 ?_ ?_
    ·refine lx ?_;intro x14;refine lx ?_;intro x15;refine At.b 9 (λ_ e=>jV hT (k:=1) k8 e) λs16=>?_;refine At.b 4 (λ_ e=>aK [] (aBr e)) λr17=>?_;refine bi λr18 hr18=>?_;refine bi λz19 hz19=>?_;refine bi λz20 hz20=>?_;refine bi λr21 hr21=>?_;refine At.d 1 (dE2 4 (eA 12 1 k8 r18) (λ_=>cM (pJ hr18)) (dE2 11 (.tup [(eL 1 k8 r21.1),(j64 r21.2)]) (λ_=>cM (wI hr21)) dE0)) (dF 5 (eO 1 1 k8 (([]:List Int))) [] [.tail ((([]:List Int)).length*1)] (bG (sK hT k8 (k:=1) ([]:List Int) (by kernel_rfl) (by kernel_rfl))) (dF 7 (eO 1 1 k8 z19) [(1,.tail (z19.length*1))] [] (bG (cH hT k8 (id:=1) (k:=1) hz19)) (dF 9 (eO 1 1 k8 z20) [(1,.tail (z20.length*1))] [] (bG (cH hT k8 (id:=1) (k:=1) hz20)) dF0))) ?_;refine At.b 2 (λ_ e=>cH hT k8 (id:=0) (k:=1) e) λz22=>?_;refine At.b 1 (λ_ e=>cH hT k8 (id:=0) (k:=1) e) λz23=>?_;exact λh=>At.k 4 ⟨_,_,h,jr⟩
    ·apply rt;exact At.x 0
  ·apply rt;exact At.r 2
def aCb : Nat->Bool:=imL [4,5,7]
def oW(N:Nat)(a0:(Vector Int 32))(a1:(Vector Int 8))(a2:aD)(a3:aE):Option ((List Int)×Int):=
 ae (mZ N a3) λr1=>
 cond (r1.2 != 0) (
  some (([],r1.2))) (
  cond (a2.gC != a3.gC) (
   some (([],12))) (
   ae (lF N ((r1.1.length:Int))) λr2=>
   ae (kZ N (aD.mk a2.gId a2.gC a2.gA2 a2.gR a2.gT a2.gTo ((r1.1.length:Int)) r2)) λr3=>
   cond (r3.2 != 0) (
    some (([],r3.2))) (
    ae (pU N a0 a1 r3.1 r1.1) λr4=>
    some ((r4,0)))))
theorem aBi{N a0 a1 a2 a3 r}(h:oW N a0 a1 a2 a3=some r):FnM Tryz.prog 7 [] [(eA 32 1 k8 a0),(eA 8 1 k8 a1),(aD.enc a2),(aE.enc a3)] (.tup [(eL 1 k8 r.1),(j64 r.2)]) []:=by
 unfold oW at h;refine At.f aCb hT hmo Tryz.func7 rfl h ?_;refine At.b 7 (λ_ e=>aK [] (aAh e)) λr1=>?_;refine At.c 7 ?_ ?_
 ·apply rt;exact At.r 3
 ·refine At.c 5 ?_ ?_
  ·apply rt;exact At.r 2
  ·refine At.b 6 (λ_ e=>aK [] (uT e)) λr2=>?_;refine At.b 3 (λ_ e=>aK [] (aAX e)) λr3=>?_;refine At.c 7 ?_ ?_
   ·apply rt;exact At.r 3
   ·refine At.b 4 (λ_ e=>aK [] (aCE e)) λr4=>?_;apply rt;exact At.r 2
def pF(N:Nat)(a0 a1:(List Int)):Option (Bool):=
 aO (ByteArray.toList (aHY a0)==ByteArray.toList (aHY a1)) λx1=>
 some x1
theorem pP{N a0 a1 r}(h:pF N a0 a1=some r):FnM Tryz.prog 8 [] [(eL 1 k8 a0),(eL 1 k8 a1)] (eB r) []:=by
 unfold pF at h;refine At.f fZ hT hmo Tryz.func8 rfl h ?_;refine At.o 2 (aJ5 hT a0 (v:=(eL 1 k8 a0)) (e:=5) (by kernel_rfl) (by kernel_rfl) (by kernel_rfl)) ?_;refine At.o 1 (aJ5 hT a1 (v:=(eL 1 k8 a1)) (e:=5) (by kernel_rfl) (by kernel_rfl) (by kernel_rfl)) ?_;refine lx ?_;intro x1;apply rt;exact At.r 2
def tN(N:Nat)(a0 a1:(List Int)):Option (Bool):=
 ae (aO (decide (((a0.length:Int))>=((a1.length:Int)))) λx2=>
 cond x2 (
  ae (eU a0 0 ((a1.length:Int))) λs3=>
  ae (pF N s3 a1) λr4=>
  some r4) (
  some false)) λp1=>
 some p1
theorem aBf{N a0 a1 r}(h:tN N a0 a1=some r):FnM Tryz.prog 29 [] [(eL 1 k8 a0),(eL 1 k8 a1)] (eB r) []:=by
 unfold tN at h;refine At.f fZ hT hmo Tryz.func29 rfl h ?_;refine At.J 1 0 [] 0 (λp1=>([(4,(eB p1))],[],[])) (λp1=>?_) λp1=>?_
 ·refine lx ?_;intro x2;refine At.s 10 6 ?_ ?_
  ·refine At.g [10] 3 ?_;refine At.b 0 (λ_ e=>jV hT (k:=1) k8 e) λs3=>?_;refine At.g [10] 1 ?_;refine At.b 0 (λ_ e=>aK [] (pP e)) λr4=>?_;refine At.g [10] 2 ?_;apply rt;exact At.jn 0
  ·refine At.g [10] 8 ?_;apply rt;exact At.jn 0
 ·apply rt;exact At.r 0
def aHj : Nat->Bool:=imL [2,3]
def wK(N:Nat)(a0 a1:(Vector Int 16)):Nat->Int->Int->Option (Int)
 | 0,_,_=>none
 | k+1,s2,s3=>
  cond (decide (s3 < 16)) (
   ae (idx a0.toList s3) λe4=>
   ae (idx a1.toList s3) λe5=>
   aO (bor .u8 s2 (wV .u8 e4 e5)) λx6=>
   wK N a0 a1 k x6 (I64 (s3+1))) (
   some s2)
def aAY(N:Nat)(a0 a1:(Vector Int 16)):Option (Bool):=
 ae (wK N a0 a1 N 0 0) λp1=>
 some (p1==0)
theorem aGv{N a0 a1 r}(h:aAY N a0 a1=some r):FnM Tryz.prog 57 [] [(eA 16 1 k8 a0),(eA 16 1 k8 a1)] (eB r) []:=by
 unfold aAY at h;refine At.f aHj hT hmo Tryz.func57 rfl h ?_;refine At.L 5 [] 0 (λp1=>([(5,(k8 p1))],[],[])) (λp1 J k=>∃s2 s3,wK N a0 a1 k s2 s3=some p1/\J [2,3] 0 [(5,(k8 s2)),(7,(j64 s3))] [] []) N (λ_ h=>⟨_,_,h,jr⟩) (λp1 k s hI=>?_) λp1=>?_
 ·obtain⟨s2,s3,h,hj⟩:=hI;cases k with
  | zero=>cases h
  | succ k=>
   refine At.jr hj ?_ h;refine At.c 1 ?_ ?_
   ·refine bi λe4 he4=>?_;refine bi λe5 he5=>?_;refine lx ?_;intro x6;refine At.d 2 (dE1 2 (λ_=>bN hT (N:=16) (k:=1) k8 a0 he4) (dE1 5 (λ_=>bN hT (N:=16) (k:=1) k8 a1 he5) dE0)) dF0 ?_;exact λh=>At.k 2 ⟨_,_,h,jr⟩
   ·apply rt;exact At.x 0
 ·apply rt;exact At.r 3
def aIA : Nat->Bool:=imL [4,5]
def xJ(N:Nat)(a0:(Vector Int 32))(a1:(Vector Int 12))(a2 a3:(List Int)):Option ((List Int)×Int):=
 aO (I64 (((a3.length:Int)) - 16)) λx1=>
 cond (decide (x1 < 0)) (
  some (([],4))) (
  aO (decide (((a2.length:Int)) > 16384)) λx2=>
  aO (cond x2 true (decide (x1 > 16384))) λx3=>
  cond x3 (
   some (([],3))) (
   ae (eU a3 0 x1) λs4=>
   ae (pE N a0 a1 a2 s4) λr5=>
   ae (eU a3 x1 ((a3.length:Int))) λs6=>
   ae (aD2 16 s6) λv7=>
   ae (aAY N r5 v7) λr8=>
   cond (!r8) (
    some (([],6))) (
    ae (rU N a0 1 a1 ([s4])) λr9=>
    some ((r9,0)))))
theorem aCu{N a0 a1 a2 a3 r}(h:xJ N a0 a1 a2 a3=some r):FnM Tryz.prog 30 [] [(eA 32 1 k8 a0),(eA 12 1 k8 a1),(eL 1 k8 a2),(eL 1 k8 a3)] (.tup [(eL 1 k8 r.1),(j64 r.2)]) []:=by
 unfold xJ at h;refine At.f aIA hT hmo Tryz.func30 rfl h ?_;refine lx ?_;intro x1;refine At.c 11 ?_ ?_
 ·apply rt;exact At.r 2
 ·refine lx ?_;intro x2;refine lx ?_;intro x3;refine At.c 8 ?_ ?_
  ·apply rt;exact At.r 2
  ·refine At.b 2 (λ_ e=>jV hT (k:=1) k8 e) λs4=>?_;refine bi λr5 hr5=>?_;refine bi λs6 hs6=>?_;refine bi λv7 hv7=>?_;refine bi λr8 hr8=>?_;refine At.d 1 (dE2 4 (eA 16 1 k8 r5) (λ_=>cM (aDX hr5)) (dE1 7 (λ_=>jV hT (k:=1) k8 hs6) (dE1 8 (λ_=>aB4 hT k8 s6 v7 hv7 rfl (by kernel_rfl) (by kernel_rfl)) (dE2 10 (eB r8) (λ_=>cM (aGv hr8)) dE0)))) dF0 ?_;refine At.c 0 ?_ ?_
   ·apply rt;exact At.r 2
   ·refine At.o 3 (bI hT (x:=(.sl 1 1 [(eL 1 k8 s4)]))) ?_;refine At.b 0 (λ_ e=>aK [] (aBG e)) λr9=>?_;apply rt;exact At.r 2
def rO(N:Nat)(a0:(List Int)):Option ((List Int)):=
 ae (fJ N a0) λr1=>
 some r1
theorem tL{N a0 r}(h:rO N a0=some r):FnM Tryz.prog 36 [] [(eL 1 k8 a0)] (.ref 1 [] 0) [.tail (r.length*1),.var (.st 3 [(eO 0 1 k8 r),(j64 0),(eB true)])]:=by
 unfold rO at h;refine At.f fZ hT hmo Tryz.func36 rfl h ?_;refine At.b 2 (λ_ e=>aK [] (sC e)) λr1=>?_;apply rt;exact At.r 3
def lL(N:Nat)(a0:aA):Option (Bool):=
 some (!a0.gA)
theorem qJ{N a0 r}(h:lL N a0=some r):FnM Tryz.prog 66 [.var (aA.enc a0)] [(.ref 0 [] 0)] (eB r) [.var (aA.enc a0)]:=by
 unfold lL at h;refine At.f fZ hT hmo Tryz.func66 rfl h ?_;refine At.o 2 (aHZ hT (t:=86) (x:=(.ref 0 [] 0)) (b:=true) (by kernel_rfl) rfl rfl (by kernel_rfl)) ?_;refine At.g [5] 8 ?_;apply rt;exact At.r 0
def fD(N:Nat)(a0:Int)(a1:aA):Option ((List Int)×Int×(List Int)):=
 ae (lL N a1) λr1=>
 aO (cond r1 true (a1.ge != 0)) λx2=>
 cond x2 (
  some ((a1.gb,a1.ge,[]))) (
  cond (decide (a0 < 0)) (
   some ((a1.gb,2,[]))) (
   aO (decide (a0 > ((a1.gb.length:Int)))) λx3=>
   cond x3 (
    some ((a1.gb,4,[]))) (
    ae (aE4 a1.gb 0 a0 a0) λs4=>
    ae (eU a1.gb a0 ((a1.gb.length:Int))) λs5=>
    some ((s5,a1.ge,s4)))))
theorem kA{N a0 a1 r}(h:fD N a0 a1=some r):FnM Tryz.prog 60 [.var (aA.enc a1)] [(.ref 0 [] 0),(j64 a0)] (eL 1 k8 r.2.2) [.var (.st 3 [(eL 1 k8 r.1),(j64 r.2.1),(eB a1.gA)])]:=by
 unfold fD at h;refine At.f fZ hT hmo Tryz.func60 rfl h ?_;refine At.b 2 (λ_ e=>aK [0] (qJ e)) λr1=>?_;refine lx ?_;intro x2;refine At.c 8 ?_ ?_
 ·apply rt;exact At.r 1
 ·refine At.c 3 ?_ ?_
  ·apply rt;exact At.r 5
  ·refine lx ?_;intro x3;refine At.c 8 ?_ ?_
   ·apply rt;exact At.r 5
   ·refine At.b 6 (λ_ e=>aIT hT (k:=1) k8 e (by kernel_rfl) (by kernel_rfl)) λs4=>?_;refine At.b 7 (λ_ e=>jV hT (k:=1) k8 e) λs5=>?_;apply rt;exact At.r 5
def pI(N:Nat)(r3:(List Int)×Int×(List Int)):Nat->Int->Int->Option (Int)
 | 0,_,_=>none
 | k+1,s5,s6=>
  aO (decide (s6 < ((r3.2.2.length:Int)))) λx7=>
  cond x7 (
   ae (idx r3.2.2 s6) λe8=>
   ae (aD9 .u64 (U64 e8) (I64 (8*s6))) λx9=>
   pI N r3 k (bor .u64 s5 x9) (I64 (s6+1))) (
   some s5)
def cB(N:Nat)(a0:Int)(a1:aA):Option ((List Int)×Int×Int):=
 ae (aO (cond (decide (a0 < 1)) true (decide (a0 > 8))) λx2=>
 cond x2 (some (-1)) (some a0)) λp1=>
 ae (fD N p1 a1) λr3=>
 ae (pI N r3 N 0 0) λp4=>
 some ((r3.1,r3.2.1,p4))
theorem bW{N a0 a1 r}(h:cB N a0 a1=some r):FnM Tryz.prog 58 [.var (aA.enc a1)] [(.ref 0 [] 0),(j64 a0)] (k64 r.2.2) [.var (.st 3 [(eL 1 k8 r.1),(j64 r.2.1),(eB a1.gA)])]:=by
 unfold cB at h;refine At.f fZ hT hmo Tryz.func58 rfl h ?_;refine At.J 1 1 [0] 1 (λp1=>([(1,(j64 p1))],[],[])) (λp1=>?_) λp1=>?_
 ·refine lx ?_;intro x2;refine At.c 6 ?_ ?_
  ·apply rt;exact At.jn 1
  ·apply rt;exact At.jn 0
 ·refine At.b 3 (λ_ e=>aK [0] (kA e)) λr3=>?_;refine At.L 2 [] 1 (λp4=>([(5,(k64 p4))],[],[])) (λp4 J k=>∃s5 s6,pI N r3 k s5 s6=some p4/\J [16,17] 1 [(5,(k64 s5)),(18,(j64 s6))] [] []) N (λ_ h=>⟨_,_,h,jr⟩) (λp4 k s hI=>?_) λp4=>?_
  ·obtain⟨s5,s6,h,hj⟩:=hI;cases k with
   | zero=>cases h
   | succ k=>
    refine At.jr hj ?_ h;refine lx ?_;intro x7;refine At.c 1 ?_ ?_
    ·refine At.b 1 (λ_ e=>bF hT k8 e) λe8=>?_;refine At.b 8 (λ_ e=>vR hT (k' := .i64) e (by kernel_rfl) (by kernel_rfl)) λx9=>?_;exact λh=>At.k 4 ⟨_,_,h,jr⟩
    ·apply rt;exact At.x 0
  ·apply rt;exact At.r 2
def fX(N:Nat)(a0:Int)(a1:aA):Option ((List Int)×Int×Int):=
 ae (cB N a0 a1) λr1=>
 some ((r1.1,r1.2.1,I64 r1.2.2))
theorem jU{N a0 a1 r}(h:fX N a0 a1=some r):FnM Tryz.prog 59 [.var (aA.enc a1)] [(.st 1 [(.ref 0 [] 0)]),(j64 a0)] (j64 r.2.2) [.var (.st 3 [(eL 1 k8 r.1),(j64 r.2.1),(eB a1.gA)])]:=by
 unfold fX at h;refine At.f fZ hT hmo Tryz.func59 rfl h ?_;refine At.b 5 (λ_ e=>aK [0] (bW e)) λr1=>?_;apply rt;exact At.r 2
def mJ(N:Nat)(a0:aA):Option (Int):=
 ae (lL N a0) λr1=>
 cond r1 (some 1) (some a0.ge)
theorem qQ{N a0 r}(h:mJ N a0=some r):FnM Tryz.prog 65 [.var (aA.enc a0)] [(.ref 0 [] 0)] (j64 r) [.var (aA.enc a0)]:=by
 unfold mJ at h;refine At.f fZ hT hmo Tryz.func65 rfl h ?_;refine At.b 2 (λ_ e=>aK [0] (qJ e)) λr1=>?_;refine At.c 0 ?_ ?_
 ·apply rt;exact At.r 1
 ·apply rt;exact At.r 5
def iB(N:Nat)(a0:aA):Option (Int):=
 ae (mJ N a0) λr1=>
 cond (r1 != 0) (
  some r1) (
  aO (decide (((a0.gb.length:Int)) > 0)) λx2=>
  cond x2 (some 5) (some 0))
theorem lQ{N a0 r}(h:iB N a0=some r):FnM Tryz.prog 61 [.var (aA.enc a0)] [(.ref 0 [] 0)] (j64 r) [.var (aA.enc a0)]:=by
 unfold iB at h;refine At.f fZ hT hmo Tryz.func61 rfl h ?_;refine At.b 2 (λ_ e=>aK [0] (qQ e)) λr1=>?_;refine At.c 3 ?_ ?_
 ·apply rt;exact At.r 2
 ·refine lx ?_;intro x2;refine At.c 6 ?_ ?_
  ·apply rt;exact At.r 1
  ·apply rt;exact At.r 1
def tQ(N:Nat)(a0:(List Int)):Option (aD×Int):=
 ae (rO N a0) λr1=>
 ae (cB N 8 (aA.mk r1 0 true)) λr2=>
 ae (fX N 1 (aA.mk r2.1 r2.2.1 ((aA.mk r1 0 true).gA))) λr3=>
 ae (cB N 4 (aA.mk r3.1 r3.2.1 ((aA.mk r2.1 r2.2.1 ((aA.mk r1 0 true).gA)).gA))) λr4=>
 ae (aF3 8 0 8) λ_=>
 ae (fD N 8 (aA.mk r4.1 r4.2.1 ((aA.mk r3.1 r3.2.1 ((aA.mk r2.1 r2.2.1 ((aA.mk r1 0 true).gA)).gA)).gA))) λr6=>
 ae (cpV (ah 8 0) r6.2.2 0 8) λv7=>
 ae (cB N 4 (aA.mk r6.1 r6.2.1 ((aA.mk r4.1 r4.2.1 ((aA.mk r3.1 r3.2.1 ((aA.mk r2.1 r2.2.1 ((aA.mk r1 0 true).gA)).gA)).gA)).gA))) λr8=>
 ae (cB N 4 (aA.mk r8.1 r8.2.1 ((aA.mk r6.1 r6.2.1 ((aA.mk r4.1 r4.2.1 ((aA.mk r3.1 r3.2.1 ((aA.mk r2.1 r2.2.1 ((aA.mk r1 0 true).gA)).gA)).gA)).gA)).gA))) λr9=>
 ae (fX N 4 (aA.mk r9.1 r9.2.1 ((aA.mk r8.1 r8.2.1 ((aA.mk r6.1 r6.2.1 ((aA.mk r4.1 r4.2.1 ((aA.mk r3.1 r3.2.1 ((aA.mk r2.1 r2.2.1 ((aA.mk r1 0 true).gA)).gA)).gA)).gA)).gA)).gA))) λr10=>
 ae (fX N 2 (aA.mk r10.1 r10.2.1 ((aA.mk r9.1 r9.2.1 ((aA.mk r8.1 r8.2.1 ((aA.mk r6.1 r6.2.1 ((aA.mk r4.1 r4.2.1 ((aA.mk r3.1 r3.2.1 ((aA.mk r2.1 r2.2.1 ((aA.mk r1 0 true).gA)).gA)).gA)).gA)).gA)).gA)).gA))) λr11=>
 ae (iB N (aA.mk r11.1 r11.2.1 ((aA.mk r10.1 r10.2.1 ((aA.mk r9.1 r9.2.1 ((aA.mk r8.1 r8.2.1 ((aA.mk r6.1 r6.2.1 ((aA.mk r4.1 r4.2.1 ((aA.mk r3.1 r3.2.1 ((aA.mk r2.1 r2.2.1 ((aA.mk r1 0 true).gA)).gA)).gA)).gA)).gA)).gA)).gA)).gA))) λr12=>
 cond (r12 != 0) (
  some ((aD.mk 0 0 0 (ah 8 0) 0 0 0 0,r12))) (
  ae (nO N (aD.mk r2.2.2 r3.2.2 (U32 r4.2.2) v7 (U32 r8.2.2) (U32 r9.2.2) r10.2.2 r11.2.2)) λr13=>
  cond (r13 != 0) (
   some ((aD.mk 0 0 0 (ah 8 0) 0 0 0 0,r13))) (
   some ((aD.mk r2.2.2 r3.2.2 (U32 r4.2.2) v7 (U32 r8.2.2) (U32 r9.2.2) r10.2.2 r11.2.2,0))))
theorem aBT{N a0 r}(h:tQ N a0=some r):FnM Tryz.prog 31 [] [(eL 1 k8 a0)] (.tup [(aD.enc r.1),(j64 r.2)]) []:=by
 unfold tQ at h;refine At.f fZ hT hmo Tryz.func31 rfl h ?_;refine At.b 3 (λ_ e=>aK [] (tL e)) λr1=>?_;refine bi λr2 hr2=>?_;refine bi λr3 hr3=>?_;refine bi λr4 hr4=>?_;refine At.d2 3 [false] dC0 (dS1 2 ⟨(k64 r2.2.2),2,.var (.st 3 [(eL 1 k8 r2.1),(j64 r2.2.1),(eB ((aA.mk r1 0 true).gA))]),.var (.st 3 [(eO 1 1 k8 r1),(j64 0),(eB true)])⟩ [[.var zI,.tail (r1.length*1),.var (.st 3 [(eO 1 1 k8 r1),(j64 0),(eB true)]),.var (.st 1 [(.ref 2 [] 0)]),.dead],[.var zI,.tail (r1.length*1),.var (.st 3 [(eO 1 1 k8 r1),(j64 0),(eB true)]),.var (.st 1 [(.ref 2 [] 0)]),.var zI]] ⟨bG (aK [2] (bW hr2)),bG (aK [2] (bW hr2)),trivial⟩ (dS1 4 ⟨(j64 r3.2.2),2,.var (.st 3 [(eL 1 k8 r3.1),(j64 r3.2.1),(eB ((aA.mk r2.1 r2.2.1 ((aA.mk r1 0 true).gA)).gA))]),.var (.st 3 [(eL 1 k8 r2.1),(j64 r2.2.1),(eB ((aA.mk r1 0 true).gA))])⟩ [[.var zI,.tail (r1.length*1),.var (.st 3 [(eL 1 k8 r2.1),(j64 r2.2.1),(eB ((aA.mk r1 0 true).gA))]),.var (.st 1 [(.ref 2 [] 0)]),.dead],[.var zI,.tail (r1.length*1),.var (.st 3 [(eL 1 k8 r2.1),(j64 r2.2.1),(eB ((aA.mk r1 0 true).gA))]),.var (.st 1 [(.ref 2 [] 0)]),.var zI]] ⟨bG (aK [2] (jU hr3)),bG (aK [2] (jU hr3)),trivial⟩ (dS1 7 ⟨(k64 r4.2.2),2,.var (.st 3 [(eL 1 k8 r4.1),(j64 r4.2.1),(eB ((aA.mk r3.1 r3.2.1 ((aA.mk r2.1 r2.2.1 ((aA.mk r1 0 true).gA)).gA)).gA))]),.var (.st 3 [(eL 1 k8 r3.1),(j64 r3.2.1),(eB ((aA.mk r2.1 r2.2.1 ((aA.mk r1 0 true).gA)).gA))])⟩ [[.var zI,.tail (r1.length*1),.var (.st 3 [(eL 1 k8 r3.1),(j64 r3.2.1),(eB ((aA.mk r2.1 r2.2.1 ((aA.mk r1 0 true).gA)).gA))]),.var (.st 1 [(.ref 2 [] 0)]),.dead],[.var zI,.tail (r1.length*1),.var (.st 3 [(eL 1 k8 r3.1),(j64 r3.2.1),(eB ((aA.mk r2.1 r2.2.1 ((aA.mk r1 0 true).gA)).gA))]),.var (.st 1 [(.ref 2 [] 0)]),.var zI]] ⟨bG (aK [2] (bW hr4)),bG (aK [2] (bW hr4)),trivial⟩ (dS1 10 ⟨(.ref 4 [] 0),4,.var zI,.dead⟩ [[.var zI,.tail (r1.length*1),.var (.st 3 [(eO 1 1 k8 r1),(j64 0),(eB true)]),.var (.st 1 [(.ref 2 [] 0)]),.dead],[.var zI,.tail (r1.length*1),.var (.st 3 [(eL 1 k8 r4.1),(j64 r4.2.1),(eB ((aA.mk r3.1 r3.2.1 ((aA.mk r2.1 r2.2.1 ((aA.mk r1 0 true).gA)).gA)).gA))]),.var (.st 1 [(.ref 2 [] 0)]),.dead],[.var zI,.tail (r1.length*1),.var (.st 3 [(eL 1 k8 r3.1),(j64 r3.2.1),(eB ((aA.mk r2.1 r2.2.1 ((aA.mk r1 0 true).gA)).gA))]),.var (.st 1 [(.ref 2 [] 0)]),.dead],[.var zI,.tail (r1.length*1),.var (.st 3 [(eL 1 k8 r4.1),(j64 r4.2.1),(eB ((aA.mk r3.1 r3.2.1 ((aA.mk r2.1 r2.2.1 ((aA.mk r1 0 true).gA)).gA)).gA))]),.var (.st 1 [(.ref 2 [] 0)]),.dead],[.var zI,.tail (r1.length*1),.var (.st 3 [(eL 1 k8 r2.1),(j64 r2.2.1),(eB ((aA.mk r1 0 true).gA))]),.var (.st 1 [(.ref 2 [] 0)]),.dead],[.var zI,.tail (r1.length*1),.var (.st 3 [(eL 1 k8 r4.1),(j64 r4.2.1),(eB ((aA.mk r3.1 r3.2.1 ((aA.mk r2.1 r2.2.1 ((aA.mk r1 0 true).gA)).gA)).gA))]),.var (.st 1 [(.ref 2 [] 0)]),.dead],[.var zI,.tail (r1.length*1),.var (.st 3 [(eL 1 k8 r3.1),(j64 r3.2.1),(eB ((aA.mk r2.1 r2.2.1 ((aA.mk r1 0 true).gA)).gA))]),.var (.st 1 [(.ref 2 [] 0)]),.dead],[.var zI,.tail (r1.length*1),.var (.st 3 [(eL 1 k8 r4.1),(j64 r4.2.1),(eB ((aA.mk r3.1 r3.2.1 ((aA.mk r2.1 r2.2.1 ((aA.mk r1 0 true).gA)).gA)).gA))]),.var (.st 1 [(.ref 2 [] 0)]),.dead]] ⟨rQ hT 4 (by kernel_rfl) (by kernel_rfl) (by kernel_rfl),rQ hT 4 (by kernel_rfl) (by kernel_rfl) (by kernel_rfl),rQ hT 4 (by kernel_rfl) (by kernel_rfl) (by kernel_rfl),rQ hT 4 (by kernel_rfl) (by kernel_rfl) (by kernel_rfl),rQ hT 4 (by kernel_rfl) (by kernel_rfl) (by kernel_rfl),rQ hT 4 (by kernel_rfl) (by kernel_rfl) (by kernel_rfl),rQ hT 4 (by kernel_rfl) (by kernel_rfl) (by kernel_rfl),rQ hT 4 (by kernel_rfl) (by kernel_rfl) (by kernel_rfl),trivial⟩ dS0)))) ?_;refine bi λs5 hs5=>?_;refine bi λr6 hr6=>?_;refine bi λv7 hv7=>?_;refine At.d 0 (dE1 1 (λ_=>aG7 hT (k:=1) 4 [3] 3 hs5 (by kernel_rfl) (by kernel_rfl) (by decide)) dE0) (dF 4 (eL 1 k8 r6.2.2) [(2,.var (.st 3 [(eL 1 k8 r6.1),(j64 r6.2.1),(eB ((aA.mk r4.1 r4.2.1 ((aA.mk r3.1 r3.2.1 ((aA.mk r2.1 r2.2.1 ((aA.mk r1 0 true).gA)).gA)).gA)).gA))]))] [] (bG (aK [2] (kA hr6))) (dF 5 (j64 (((min r6.2.2.length 8:Nat):Int))) [(4,.var (.st 15 [(k64 r2.2.2),(j64 r3.2.2),(k32 (U32 r4.2.2)),(eA 8 1 k8 v7),(k32 0),(k32 0),(j64 0),(j64 0)]))] [] (bG (aFF hT k8 (id:=4) (path:=[3]) (off:=3) (H':=[.var zI,.tail (r1.length*1),.var (.st 3 [(eL 1 k8 r6.1),(j64 r6.2.1),(eB ((aA.mk r4.1 r4.2.1 ((aA.mk r3.1 r3.2.1 ((aA.mk r2.1 r2.2.1 ((aA.mk r1 0 true).gA)).gA)).gA)).gA))]),.var (.st 1 [(.ref 2 [] 0)]),.var (.st 15 [(k64 r2.2.2),(j64 r3.2.2),(k32 (U32 r4.2.2)),(eA 8 1 k8 v7),(k32 0),(k32 0),(j64 0),(j64 0)])]) hv7 (by kernel_rfl) (by kernel_rfl) (by kernel_rfl))) dF0)) ?_;refine bi λr8 hr8=>?_;refine bi λr9 hr9=>?_;refine bi λr10 hr10=>?_;refine bi λr11 hr11=>?_;refine At.d 0 dE0 (dF 2 (k64 r8.2.2) [(2,.var (.st 3 [(eL 1 k8 r8.1),(j64 r8.2.1),(eB ((aA.mk r6.1 r6.2.1 ((aA.mk r4.1 r4.2.1 ((aA.mk r3.1 r3.2.1 ((aA.mk r2.1 r2.2.1 ((aA.mk r1 0 true).gA)).gA)).gA)).gA)).gA))]))] [] (bG (aK [2] (bW hr8))) (dF 6 (k64 r9.2.2) [(2,.var (.st 3 [(eL 1 k8 r9.1),(j64 r9.2.1),(eB ((aA.mk r8.1 r8.2.1 ((aA.mk r6.1 r6.2.1 ((aA.mk r4.1 r4.2.1 ((aA.mk r3.1 r3.2.1 ((aA.mk r2.1 r2.2.1 ((aA.mk r1 0 true).gA)).gA)).gA)).gA)).gA)).gA))]))] [] (bG (aK [2] (bW hr9))) (dF 9 (j64 r10.2.2) [(2,.var (.st 3 [(eL 1 k8 r10.1),(j64 r10.2.1),(eB ((aA.mk r9.1 r9.2.1 ((aA.mk r8.1 r8.2.1 ((aA.mk r6.1 r6.2.1 ((aA.mk r4.1 r4.2.1 ((aA.mk r3.1 r3.2.1 ((aA.mk r2.1 r2.2.1 ((aA.mk r1 0 true).gA)).gA)).gA)).gA)).gA)).gA)).gA))]))] [] (bG (aK [2] (jU hr10))) (dF 11 (j64 r11.2.2) [(2,.var (.st 3 [(eL 1 k8 r11.1),(j64 r11.2.1),(eB ((aA.mk r10.1 r10.2.1 ((aA.mk r9.1 r9.2.1 ((aA.mk r8.1 r8.2.1 ((aA.mk r6.1 r6.2.1 ((aA.mk r4.1 r4.2.1 ((aA.mk r3.1 r3.2.1 ((aA.mk r2.1 r2.2.1 ((aA.mk r1 0 true).gA)).gA)).gA)).gA)).gA)).gA)).gA)).gA))]))] [] (bG (aK [2] (jU hr11))) dF0)))) ?_;refine At.b 2 (λ_ e=>aK [2] (lQ e)) λr12=>?_;refine At.c 3 ?_ ?_
 ·apply rt;exact At.r 4
 ·refine At.b 1 (λ_ e=>aK [] (xG e)) λr13=>?_;refine At.c 3 ?_ ?_
  ·apply rt;exact At.r 4
  ·apply rt;exact At.r 3
def aGD : Nat->Bool:=imL [2]
def xQ(N:Nat)(a0:(Vector Int 32))(a1:(List Int)):Option (aD×Int):=
 aO (decide (((a1.length:Int)) < 63)) λx1=>
 cond x1 (
  some ((aD.mk 0 0 0 (ah 8 0) 0 0 0 0,4))) (
  ae (tN N a1 (([85,77,66,49]:List Int))) λr2=>
  cond (!r2) (
   some ((aD.mk 0 0 0 (ah 8 0) 0 0 0 0,5))) (
   ae (eU a1 4 12) λs3=>
   ae (aD2 8 s3) λv4=>
   ae (eF N v4 0) λr5=>
   ae (eU a1 0 47) λs6=>
   ae (eU a1 47 63) λs7=>
   ae (xJ N a0 r5 s6 s7) λr8=>
   cond (r8.2 != 0) (
    some ((aD.mk 0 0 0 (ah 8 0) 0 0 0 0,r8.2))) (
    ae (eU a1 12 47) λs9=>
    ae (tQ N s9) λr10=>
    some ((r10.1,r10.2)))))
theorem aFj{N a0 a1 r}(h:xQ N a0 a1=some r):FnM Tryz.prog 12 [] [(eA 32 1 k8 a0),(eL 1 k8 a1)] (.tup [(aD.enc r.1),(j64 r.2)]) []:=by
 unfold xQ at h;refine At.f aGD hT hmo Tryz.func12 rfl h ?_;refine lx ?_;intro x1;refine At.c 7 ?_ ?_
 ·apply rt;exact At.r 3
 ·refine At.l2 hT 1 (d1:=16) (d2:=17) (t:=47) (e:=5) k8 (z:=1) ([85,77,66,49]:List Int) rfl rfl rfl ?_;refine At.b 0 (λ_ e=>aK [] (aBf e)) λr2=>?_;refine At.c 2 ?_ ?_
  ·apply rt;exact At.r 3
  ·refine At.b 1 (λ_ e=>jV hT (k:=1) k8 e) λs3=>?_;refine At.b 0 (λv4 e=>aB4 hT k8 s3 v4 e rfl (by kernel_rfl) (by kernel_rfl)) λv4=>?_;refine bi λr5 hr5=>?_;refine bi λs6 hs6=>?_;refine bi λs7 hs7=>?_;refine bi λr8 hr8=>?_;refine At.d 3 (dE2 2 (eA 12 1 k8 r5) (λ_=>cM (oL hr5)) (dE1 4 (λ_=>jV hT (k:=1) k8 hs6) (dE1 6 (λ_=>jV hT (k:=1) k8 hs7) (dE2 7 (.tup [(eL 1 k8 r8.1),(j64 r8.2)]) (λ_=>cM (aCu hr8)) dE0)))) dF0 ?_;refine At.c 2 ?_ ?_
   ·apply rt;exact At.r 4
   ·refine At.b 1 (λ_ e=>jV hT (k:=1) k8 e) λs9=>?_;refine At.b 0 (λ_ e=>aK [] (aBT e)) λr10=>?_;apply rt;exact At.r 4
def oO(N:Nat)(a0:Int):Option (aD×aE×Int):=
 some ((aD.mk 0 0 0 (ah 8 0) 0 0 0 0,aE.mk 0 (aM.mk [] [] []) (aI.mk 0 []) (aF.mk 0 (#v[0,0,0]) 0) (aJ.mk 0 (#v[0,0,0]) (aB.mk 0 0 0) (aB.mk 0 0 0) (aB.mk 0 0 0)),a0))
theorem rR{N a0 r}(h:oO N a0=some r):FnM Tryz.prog 35 [] [(j64 a0)] (.tup [(aD.enc r.1),(aE.enc r.2.1),(j64 r.2.2)]) []:=by
 unfold oO at h;refine At.f fZ hT hmo Tryz.func35 rfl h ?_;apply rt;exact At.r 9
def zZ : Nat->Bool:=imL [6,7]
def qP(N:Nat)(a0:(Vector Int 32))(a1:(Vector Int 12))(a2:(List Int))(a3 a4:Int)(a5:aA):Option ((List Int)×Int×Bool×(List Int)×Int):=
 ae (fD N 4 a5) λr1=>
 aO (decide (((r1.2.2.length:Int)) < 4)) λx2=>
 cond x2 (
  some ((r1.1,r1.2.1,a5.gA,[],4))) (
  ae (bO N [] 2 ([U64 a3,U64 a4])) λr3=>
  ae (pF N r1.2.2 r3.1) λr4=>
  cond (!r4) (
   some ((r1.1,r1.2.1,a5.gA,[],7))) (
   ae (fD N (I64 (a4+16)) (aA.mk r1.1 r1.2.1 a5.gA)) λr5=>
   ae (mJ N (aA.mk r5.1 r5.2.1 ((aA.mk r1.1 r1.2.1 a5.gA).gA))) λr6=>
   cond (r6 != 0) (
    ae (mJ N (aA.mk r5.1 r5.2.1 ((aA.mk r1.1 r1.2.1 a5.gA).gA))) λr7=>
    some ((r5.1,r5.2.1,(aA.mk r1.1 r1.2.1 a5.gA).gA,[],r7))) (
    ae (cS N ([r1.2.2,a2])) λr8=>
    ae (xJ N a0 a1 r8 r5.2.2) λr9=>
    some ((r5.1,r5.2.1,(aA.mk r1.1 r1.2.1 a5.gA).gA,r9.1,r9.2)))))
theorem yX{N a0 a1 a2 a3 a4 a5 r}(h:qP N a0 a1 a2 a3 a4 a5=some r):FnM Tryz.prog 37 [.var (aA.enc a5)] [(eA 32 1 k8 a0),(eA 12 1 k8 a1),(.ref 0 [] 0),(eL 1 k8 a2),(j64 a3),(j64 a4)] (.tup [(eL 1 k8 r.2.2.2.1),(j64 r.2.2.2.2)]) [.var (.st 3 [(eL 1 k8 r.1),(j64 r.2.1),(eB r.2.2.1)])]:=by
 unfold qP at h;refine At.f zZ hT hmo Tryz.func37 rfl h ?_;refine At.b 5 (λ_ e=>aK [0] (kA e)) λr1=>?_;refine lx ?_;intro x2;refine At.c 4 ?_ ?_
 ·apply rt;exact At.r 2
 ·refine At.o 4 (bI hT (x:=(.sl 1 2 [(k64 (U64 a3)),(k64 (U64 a4))]))) ?_;refine At.b 0 (λ_ e=>aK [] (kM e)) λr3=>?_;refine At.b 7 (λ_ e=>aK [] (pP e)) λr4=>?_;refine At.c 1 ?_ ?_
  ·apply rt;exact At.r 2
  ·refine At.b 3 (λ_ e=>aK [0] (kA e)) λr5=>?_;refine At.b 2 (λ_ e=>aK [0] (qQ e)) λr6=>?_;refine At.c 1 ?_ ?_
   ·refine At.b 1 (λ_ e=>aK [0] (qQ e)) λr7=>?_;apply rt;exact At.r 2
   ·refine bi λr8 hr8=>?_;refine bi λr9 hr9=>?_;refine At.d 0 (dE1 4 (λ_=>bI hT (x:=(.sl 1 2 [(eL 1 k8 r1.2.2),(eL 1 k8 a2)]))) (dE2 7 (.tup [(eL 1 k8 r9.1),(j64 r9.2)]) (λ_=>cM (aCu hr9)) dE0)) (dF 5 (eO 2 1 k8 r8) [] [.tail (r8.length*1)] (bG (aK [] (kJ hr8))) dF0) ?_;apply rt;exact At.r 0
def qV(N:Nat)(a0:aA):Option (Int):=
 ae (lL N a0) λr1=>
 aO (cond r1 true (a0.ge != 0)) λx2=>
 cond x2 (some 0) (some ((a0.gb.length:Int)))
theorem zM{N a0 r}(h:qV N a0=some r):FnM Tryz.prog 38 [.var (aA.enc a0)] [(.ref 0 [] 0)] (j64 r) [.var (aA.enc a0)]:=by
 unfold qV at h;refine At.f fZ hT hmo Tryz.func38 rfl h ?_;refine At.b 2 (λ_ e=>aK [0] (qJ e)) λr1=>?_;refine lx ?_;intro x2;refine At.c 7 ?_ ?_
 ·apply rt;exact At.r 1
 ·apply rt;exact At.r 6
def cG(N:Nat)(a0:Int)(a1:aA):Option ((List Int)×Int×Int):=
 ae (cB N a0 a1) λr1=>
 some ((r1.1,r1.2.1,I64 r1.2.2))
theorem dJ{N a0 a1 r}(h:cG N a0 a1=some r):FnM Tryz.prog 105 [.var (aA.enc a1)] [(.st 1 [(.ref 0 [] 0)]),(j64 a0)] (j64 r.2.2) [.var (.st 3 [(eL 1 k8 r.1),(j64 r.2.1),(eB a1.gA)])]:=by
 unfold cG at h;refine At.f fZ hT hmo Tryz.func105 rfl h ?_;refine At.b 5 (λ_ e=>aK [0] (bW e)) λr1=>?_;apply rt;exact At.r 2
def dV(N:Nat)(a0:Int)(a1:aA):Option ((List Int)×Int×Int):=
 ae (cB N a0 a1) λr1=>
 aO (cond (decide (a0 < 1)) true (decide (a0 > 8))) λx2=>
 cond x2 (
  some ((r1.1,r1.2.1,0))) (
  aO (I64 (64 - (I64 (8*a0)))) λx3=>
  ae (aD9 .i64 (I64 r1.2.2) x3) λx4=>
  aO (I64 (64 - (I64 (8*a0)))) λx5=>
  ae (yG .i64 x4 x5) λx6=>
  some ((r1.1,r1.2.1,x6)))
theorem iL{N a0 a1 r}(h:dV N a0 a1=some r):FnM Tryz.prog 109 [.var (aA.enc a1)] [(.ref 0 [] 0),(j64 a0)] (j64 r.2.2) [.var (.st 3 [(eL 1 k8 r.1),(j64 r.2.1),(eB a1.gA)])]:=by
 unfold dV at h;refine At.f fZ hT hmo Tryz.func109 rfl h ?_;refine At.b 3 (λ_ e=>aK [0] (bW e)) λr1=>?_;refine lx ?_;intro x2;refine At.c 7 ?_ ?_
 ·apply rt;exact At.r 1
 ·refine lx ?_;intro x3;refine At.b 5 (λ_ e=>vR hT (k' := .i64) e (by kernel_rfl) (by kernel_rfl)) λx4=>?_;refine lx ?_;intro x5;refine At.b 3 (λ_ e=>pM hT (k' := .i64) e (by kernel_rfl) (by kernel_rfl)) λx6=>?_;apply rt;exact At.r 1
def pH(N:Nat)(a0:aA):Option ((List Int)×Int×Bool×aB):=
 ae (dV N 2 a0) λr1=>
 ae (dV N 2 (aA.mk r1.1 r1.2.1 a0.gA)) λr2=>
 ae (dV N 2 (aA.mk r2.1 r2.2.1 ((aA.mk r1.1 r1.2.1 a0.gA).gA))) λr3=>
 some ((r3.1,r3.2.1,(aA.mk r2.1 r2.2.1 ((aA.mk r1.1 r1.2.1 a0.gA).gA)).gA,aB.mk r1.2.2 r2.2.2 r3.2.2))
theorem wW{N a0 r}(h:pH N a0=some r):FnM Tryz.prog 106 [.var (aA.enc a0)] [(.st 1 [(.ref 0 [] 0)])] (aB.enc r.2.2.2) [.var (.st 3 [(eL 1 k8 r.1),(j64 r.2.1),(eB r.2.2.1)])]:=by
 unfold pH at h;refine At.f fZ hT hmo Tryz.func106 rfl h ?_;refine bi λr1 hr1=>?_;refine bi λr2 hr2=>?_;refine bi λr3 hr3=>?_;refine At.d 2 dE0 (dF 2 (j64 r1.2.2) [(0,.var (.st 3 [(eL 1 k8 r1.1),(j64 r1.2.1),(eB a0.gA)]))] [] (bG (aK [0] (iL hr1))) (dF 5 (j64 r2.2.2) [(0,.var (.st 3 [(eL 1 k8 r2.1),(j64 r2.2.1),(eB ((aA.mk r1.1 r1.2.1 a0.gA).gA))]))] [] (bG (aK [0] (iL hr2))) (dF 8 (j64 r3.2.2) [(0,.var (.st 3 [(eL 1 k8 r3.1),(j64 r3.2.1),(eB ((aA.mk r2.1 r2.2.1 ((aA.mk r1.1 r1.2.1 a0.gA).gA)).gA))]))] [] (bG (aK [0] (iL hr3))) dF0))) ?_;apply rt;exact At.r 0
def uC(N:Nat)(r2:(List Int)×Int×Int):Nat->(List aB)->(List Int)->Int->Bool->Int->Option ((List aB)×(List Int)×Int×Bool)
 | 0,_,_,_,_,_=>none
 | k+1,s5,s6,s7,s8,s9=>
  cond (decide (s9 < r2.2.2)) (
   ae (pH N (aA.mk s6 s7 s8)) λr10=>
   ae (mH 24 s5 (([r10.2.2.2]:List aB))) λz11=>
   uC N r2 k z11 r10.1 r10.2.1 r10.2.2.1 (I64 (s9+1))) (
   some ((s5,s6,s7,s8)))
def uL(N:Nat)(r2:(List Int)×Int×Int):Nat->(List (Vector Int 2))->(List Int)->Int->Bool->Int->Option ((List (Vector Int 2))×(List Int)×Int×Bool)
 | 0,_,_,_,_,_=>none
 | k+1,s13,s14,s15,s16,s17=>
  cond (decide (s17 < r2.2.2)) (
   ae (cG N 2 (aA.mk s14 s15 s16)) λr18=>
   ae (cG N 2 (aA.mk r18.1 r18.2.1 ((aA.mk s14 s15 s16).gA))) λr19=>
   ae (mH 16 s13 (([#v[r18.2.2,r19.2.2]]:List (Vector Int 2)))) λz20=>
   uL N r2 k z20 r19.1 r19.2.1 ((aA.mk r18.1 r18.2.1 ((aA.mk s14 s15 s16).gA)).gA) (I64 (s17+1))) (
   some ((s13,s14,s15,s16)))
def uG(N:Nat)(r3:(List Int)×Int×Int):Nat->(List (Vector Int 3))->(List Int)->Int->Bool->Int->Option ((List (Vector Int 3))×(List Int)×Int×Bool)
 | 0,_,_,_,_,_=>none
 | k+1,s22,s23,s24,s25,s26=>
  cond (decide (s26 < r3.2.2)) (
   ae (cG N 1 (aA.mk s23 s24 s25)) λr27=>
   ae (cG N 1 (aA.mk r27.1 r27.2.1 ((aA.mk s23 s24 s25).gA))) λr28=>
   ae (cG N 1 (aA.mk r28.1 r28.2.1 ((aA.mk r27.1 r27.2.1 ((aA.mk s23 s24 s25).gA)).gA))) λr29=>
   ae (mH 24 s22 (([#v[r27.2.2,r28.2.2,r29.2.2]]:List (Vector Int 3)))) λz30=>
   uG N r3 k z30 r29.1 r29.2.1 ((aA.mk r28.1 r28.2.1 ((aA.mk r27.1 r27.2.1 ((aA.mk s23 s24 s25).gA)).gA)).gA) (I64 (s26+1))) (
   some ((s22,s23,s24,s25)))
def xS(N:Nat)(a0:(List Int)):Option (aM×Int):=
 ae (rO N a0) λr1=>
 ae (cG N 1 (aA.mk r1 0 true)) λr2=>
 ae (cG N 1 (aA.mk r2.1 r2.2.1 ((aA.mk r1 0 true).gA))) λr3=>
 ae (uC N r2 N [] r3.1 r3.2.1 ((aA.mk r2.1 r2.2.1 ((aA.mk r1 0 true).gA)).gA) 0) λp4=>
 ae (uL N r2 N [] p4.2.1 p4.2.2.1 p4.2.2.2 0) λp12=>
 ae (uG N r3 N [] p12.2.1 p12.2.2.1 p12.2.2.2 0) λp21=>
 ae (iB N (aA.mk p21.2.1 p21.2.2.1 p21.2.2.2)) λr31=>
 cond (r31 != 0) (
  some ((aM.mk [] [] [],r31))) (
  ae (jT N (aM.mk p4.1 p12.1 p21.1)) λr32=>
  cond (r32 != 0) (
   some ((aM.mk [] [] [],r32))) (
   some ((aM.mk p4.1 p12.1 p21.1,0))))
theorem aFE{N a0 r}(h:xS N a0=some r):FnM Tryz.prog 67 [] [(eL 1 k8 a0)] (.tup [(aM.enc r.1),(j64 r.2)]) []:=by
 unfold xS at h;refine At.f fZ hT hmo Tryz.func67 rfl h ?_;refine At.b 3 (λ_ e=>aK [] (tL e)) λr1=>?_;refine bi λr2 hr2=>?_;refine bi λr3 hr3=>?_;refine At.d 3 dE0 (dF 1 (j64 r2.2.2) [(2,.var (.st 3 [(eL 1 k8 r2.1),(j64 r2.2.1),(eB ((aA.mk r1 0 true).gA))]))] [] (bG (aK [2] (dJ hr2))) (dF 3 (j64 r3.2.2) [(2,.var (.st 3 [(eL 1 k8 r3.1),(j64 r3.2.1),(eB ((aA.mk r2.1 r2.2.1 ((aA.mk r1 0 true).gA)).gA))]))] [] (bG (aK [2] (dJ hr3))) dF0)) ?_;refine At.ownb 3 4 3 [0] ?_;refine At.L 0 [2,4,5,6,7] 6 (λp4=>([],[(2,.var (.st 3 [(eL 1 k8 p4.2.1),(j64 p4.2.2.1),(eB p4.2.2.2)])),(4,.var (.st 3 [(eO 5 3 aB.enc p4.1),(.v (.slice none 0 0)),(.v (.slice none 0 0))])),(5,.tail (p4.1.length*3))],[])) (λp4 J k=>∃s5 s6 s7 s8 s9,uC N r2 k s5 s6 s7 s8 s9=some p4/\J [2,4,5,6,7,17] 6 [(18,(j64 s9))] [(2,.var (.st 3 [(eL 1 k8 s6),(j64 s7),(eB s8)])),(4,.var (.st 3 [(eO 5 3 aB.enc s5),(.v (.slice none 0 0)),(.v (.slice none 0 0))])),(5,.tail (s5.length*3))] []) N (λ_ h=>⟨_,_,_,_,_,h,jr⟩) (λp4 k s hI=>?_) λp4=>?_
 ·obtain⟨s5,s6,s7,s8,s9,h,hj⟩:=hI;cases k with
  | zero=>cases h
  | succ k=>
   refine At.jr hj ?_ h;refine At.c 1 ?_ ?_
   ·refine bi λr10 hr10=>?_;refine bi λz11 hz11=>?_;refine At.d 0 (dE1 4 (λ_=>bI hT (x:=(.sl 3 1 [(aB.enc r10.2.2.2)]))) dE0) (dF 3 (aB.enc r10.2.2.2) [(2,.var (.st 3 [(eL 1 k8 r10.1),(j64 r10.2.1),(eB r10.2.2.1)]))] [] (bG (aK [2] (wW hr10))) (dF 5 (eO 5 3 aB.enc z11) [(5,.tail (z11.length*3))] [] (bG (cH hT aB.enc (id:=5) (k:=3) hz11)) dF0)) ?_;exact λh=>At.k 2 ⟨_,_,_,_,_,h,jr⟩
   ·apply rt;exact At.x 0
 ·refine At.ownb 2 4 2 [1] ?_;refine At.L 0 [2,4,6,7] 7 (λp12=>([],[(2,.var (.st 3 [(eL 1 k8 p12.2.1),(j64 p12.2.2.1),(eB p12.2.2.2)])),(4,.var (.st 3 [(eO 5 3 aB.enc p4.1),(eO 6 2 (eA 2 1 j64) p12.1),(.v (.slice none 0 0))])),(6,.tail (p12.1.length*2))],[])) (λp12 J k=>∃s13 s14 s15 s16 s17,uL N r2 k s13 s14 s15 s16 s17=some p12/\J [2,4,6,7,28] 7 [(29,(j64 s17))] [(2,.var (.st 3 [(eL 1 k8 s14),(j64 s15),(eB s16)])),(4,.var (.st 3 [(eO 5 3 aB.enc p4.1),(eO 6 2 (eA 2 1 j64) s13),(.v (.slice none 0 0))])),(6,.tail (s13.length*2))] []) N (λ_ h=>⟨_,_,_,_,_,h,jr⟩) (λp12 k s hI=>?_) λp12=>?_
  ·obtain⟨s13,s14,s15,s16,s17,h,hj⟩:=hI;cases k with
   | zero=>cases h
   | succ k=>
    refine At.jr hj ?_ h;refine At.c 1 ?_ ?_
    ·refine bi λr18 hr18=>?_;refine bi λr19 hr19=>?_;refine bi λz20 hz20=>?_;refine At.d 0 (dE1 7 (λ_=>bI hT (x:=(.sl 2 1 [(.arr 2 1 [(j64 r18.2.2),(j64 r19.2.2)])]))) dE0) (dF 3 (j64 r18.2.2) [(2,.var (.st 3 [(eL 1 k8 r18.1),(j64 r18.2.1),(eB ((aA.mk s14 s15 s16).gA))]))] [] (bG (aK [2] (dJ hr18))) (dF 5 (j64 r19.2.2) [(2,.var (.st 3 [(eL 1 k8 r19.1),(j64 r19.2.1),(eB ((aA.mk r18.1 r18.2.1 ((aA.mk s14 s15 s16).gA)).gA))]))] [] (bG (aK [2] (dJ hr19))) (dF 8 (eO 6 2 (eA 2 1 j64) z20) [(6,.tail (z20.length*2))] [] (bG (cH hT (eA 2 1 j64) (id:=6) (k:=2) hz20)) dF0))) ?_;exact λh=>At.k 2 ⟨_,_,_,_,_,h,jr⟩
    ·apply rt;exact At.x 0
  ·refine At.ownb 2 4 3 [2] ?_;refine At.L 0 [2,4,7] 8 (λp21=>([],[(2,.var (.st 3 [(eL 1 k8 p21.2.1),(j64 p21.2.2.1),(eB p21.2.2.2)])),(4,.var (.st 3 [(eO 5 3 aB.enc p4.1),(eO 6 2 (eA 2 1 j64) p12.1),(eO 7 3 (eA 3 1 j64) p21.1)])),(7,.tail (p21.1.length*3))],[])) (λp21 J k=>∃s22 s23 s24 s25 s26,uG N r3 k s22 s23 s24 s25 s26=some p21/\J [2,4,7,42] 8 [(43,(j64 s26))] [(2,.var (.st 3 [(eL 1 k8 s23),(j64 s24),(eB s25)])),(4,.var (.st 3 [(eO 5 3 aB.enc p4.1),(eO 6 2 (eA 2 1 j64) p12.1),(eO 7 3 (eA 3 1 j64) s22)])),(7,.tail (s22.length*3))] []) N (λ_ h=>⟨_,_,_,_,_,h,jr⟩) (λp21 k s hI=>?_) λp21=>?_
   ·obtain⟨s22,s23,s24,s25,s26,h,hj⟩:=hI;cases k with
    | zero=>cases h
    | succ k=>
     refine At.jr hj ?_ h;refine At.c 1 ?_ ?_
     ·refine bi λr27 hr27=>?_;refine bi λr28 hr28=>?_;refine bi λr29 hr29=>?_;refine bi λz30 hz30=>?_;refine At.d 0 (dE1 9 (λ_=>bI hT (x:=(.sl 3 1 [(.arr 3 1 [(j64 r27.2.2),(j64 r28.2.2),(j64 r29.2.2)])]))) dE0) (dF 3 (j64 r27.2.2) [(2,.var (.st 3 [(eL 1 k8 r27.1),(j64 r27.2.1),(eB ((aA.mk s23 s24 s25).gA))]))] [] (bG (aK [2] (dJ hr27))) (dF 5 (j64 r28.2.2) [(2,.var (.st 3 [(eL 1 k8 r28.1),(j64 r28.2.1),(eB ((aA.mk r27.1 r27.2.1 ((aA.mk s23 s24 s25).gA)).gA))]))] [] (bG (aK [2] (dJ hr28))) (dF 7 (j64 r29.2.2) [(2,.var (.st 3 [(eL 1 k8 r29.1),(j64 r29.2.1),(eB ((aA.mk r28.1 r28.2.1 ((aA.mk r27.1 r27.2.1 ((aA.mk s23 s24 s25).gA)).gA)).gA))]))] [] (bG (aK [2] (dJ hr29))) (dF 10 (eO 7 3 (eA 3 1 j64) z30) [(7,.tail (z30.length*3))] [] (bG (cH hT (eA 3 1 j64) (id:=7) (k:=3) hz30)) dF0)))) ?_;exact λh=>At.k 2 ⟨_,_,_,_,_,h,jr⟩
     ·apply rt;exact At.x 0
   ·refine At.b 2 (λ_ e=>aK [2] (lQ e)) λr31=>?_;refine At.c 3 ?_ ?_
    ·apply rt;exact At.r 4
    ·refine At.b 1 (λ_ e=>aK [] (xV e)) λr32=>?_;refine At.c 3 ?_ ?_
     ·apply rt;exact At.r 4
     ·apply rt;exact At.r 3
def sG(N:Nat)(x3:Int):Nat->(List (Vector Int 3))->(List Int)->Int->Bool->Int->Option ((List (Vector Int 3))×(List Int)×Int×Bool)
 | 0,_,_,_,_,_=>none
 | k+1,s5,s6,s7,s8,s9=>
  cond (decide (s9 < x3)) (
   ae (fD N 3 (aA.mk s6 s7 s8)) λr10=>
   aO (decide (((r10.2.2.length:Int)) < 3)) λx11=>
   cond x11 (
    some ((s5,r10.1,r10.2.1,(aA.mk s6 s7 s8).gA))) (
    ae (idx r10.2.2 0) λe12=>
    ae (idx r10.2.2 1) λe13=>
    ae (idx r10.2.2 2) λe14=>
    ae (mH 24 s5 (([#v[I64 e12,I64 e13,I64 e14]]:List (Vector Int 3)))) λz15=>
    sG N x3 k z15 r10.1 r10.2.1 ((aA.mk s6 s7 s8).gA) (I64 (s9+1)))) (
   some ((s5,s6,s7,s8)))
def uM(N:Nat)(a0:(List Int)):Option (aI×Int):=
 ae (rO N a0) λr1=>
 ae (cB N 1 (aA.mk r1 0 true)) λr2=>
 aO (I64 ((I64 r2.2.2)*(I64 r2.2.2))) λx3=>
 ae (sG N x3 N [] r2.1 r2.2.1 ((aA.mk r1 0 true).gA) 0) λp4=>
 ae (iB N (aA.mk p4.2.1 p4.2.2.1 p4.2.2.2)) λr16=>
 cond (r16 != 0) (
  some ((aI.mk 0 [],r16))) (
  ae (eE N (aI.mk (I64 r2.2.2) p4.1)) λr17=>
  cond (r17 != 0) (
   some ((aI.mk 0 [],r17))) (
   some ((aI.mk (I64 r2.2.2) p4.1,0))))
theorem aCt{N a0 r}(h:uM N a0=some r):FnM Tryz.prog 68 [] [(eL 1 k8 a0)] (.tup [(aI.enc r.1),(j64 r.2)]) []:=by
 unfold uM at h;refine At.f fZ hT hmo Tryz.func68 rfl h ?_;refine At.b 3 (λ_ e=>aK [] (tL e)) λr1=>?_;refine At.b 2 (λ_ e=>aK [2] (bW e)) λr2=>?_;refine lx ?_;intro x3;refine At.ownb 10 3 3 [1] ?_;refine At.L 0 [2,4,5] 5 (λp4=>([],[(2,.var (.st 3 [(eL 1 k8 p4.2.1),(j64 p4.2.2.1),(eB p4.2.2.2)])),(3,.var (.st 2 [(j64 (I64 r2.2.2)),(eO 4 3 (eA 3 1 j64) p4.1)])),(4,.tail (p4.1.length*3))],[])) (λp4 J k=>∃s5 s6 s7 s8 s9,sG N x3 k s5 s6 s7 s8 s9=some p4/\J [2,4,5,19] 5 [(20,(j64 s9))] [(2,.var (.st 3 [(eL 1 k8 s6),(j64 s7),(eB s8)])),(3,.var (.st 2 [(j64 (I64 r2.2.2)),(eO 4 3 (eA 3 1 j64) s5)])),(4,.tail (s5.length*3))] []) N (λ_ h=>⟨_,_,_,_,_,h,jr⟩) (λp4 k s hI=>?_) λp4=>?_
 ·obtain⟨s5,s6,s7,s8,s9,h,hj⟩:=hI;cases k with
  | zero=>cases h
  | succ k=>
   refine At.jr hj ?_ h;refine At.c 1 ?_ ?_
   ·refine At.b 1 (λ_ e=>aK [2] (kA e)) λr10=>?_;refine lx ?_;intro x11;refine At.c 4 ?_ ?_
    ·apply rt;exact At.x 0
    ·refine bi λe12 he12=>?_;refine bi λe13 he13=>?_;refine bi λe14 he14=>?_;refine bi λz15 hz15=>?_;refine At.d 0 (dE1 3 (λ_=>bF hT k8 he12) (dE1 7 (λ_=>bF hT k8 he13) (dE1 11 (λ_=>bF hT k8 he14) (dE1 15 (λ_=>bI hT (x:=(.sl 3 1 [(.arr 3 1 [(j64 (I64 e12)),(j64 (I64 e13)),(j64 (I64 e14))])]))) dE0)))) (dF 16 (eO 4 3 (eA 3 1 j64) z15) [(4,.tail (z15.length*3))] [] (bG (cH hT (eA 3 1 j64) (id:=4) (k:=3) hz15)) dF0) ?_;exact λh=>At.k 2 ⟨_,_,_,_,_,h,jr⟩
   ·apply rt;exact At.x 0
 ·refine At.b 1 (λ_ e=>aK [2] (lQ e)) λr16=>?_;refine At.c 3 ?_ ?_
  ·apply rt;exact At.r 4
  ·refine At.b 1 (λ_ e=>aK [] (uH e)) λr17=>?_;refine At.c 3 ?_ ?_
   ·apply rt;exact At.r 4
   ·apply rt;exact At.r 3
def cR(N:Nat)(a0:Int)(a1:aA):Option ((List Int)×Int×Int):=
 ae (cB N a0 a1) λr1=>
 some ((r1.1,r1.2.1,I64 r1.2.2))
theorem eK{N a0 a1 r}(h:cR N a0 a1=some r):FnM Tryz.prog 69 [.var (aA.enc a1)] [(.st 1 [(.ref 0 [] 0)]),(j64 a0)] (j64 r.2.2) [.var (.st 3 [(eL 1 k8 r.1),(j64 r.2.1),(eB a1.gA)])]:=by
 unfold cR at h;refine At.f fZ hT hmo Tryz.func69 rfl h ?_;refine At.b 5 (λ_ e=>aK [0] (bW e)) λr1=>?_;apply rt;exact At.r 2
def kR(N:Nat)(a0:Int)(a1:aA):Option ((List Int)×Int×Bool×(Vector Int 3)):=
 ae (cR N a0 a1) λr1=>
 ae (cR N a0 (aA.mk r1.1 r1.2.1 a1.gA)) λr2=>
 ae (cR N a0 (aA.mk r2.1 r2.2.1 ((aA.mk r1.1 r1.2.1 a1.gA).gA))) λr3=>
 some ((r3.1,r3.2.1,(aA.mk r2.1 r2.2.1 ((aA.mk r1.1 r1.2.1 a1.gA).gA)).gA,#v[r1.2.2,r2.2.2,r3.2.2]))
theorem qX{N a0 a1 r}(h:kR N a0 a1=some r):FnM Tryz.prog 70 [.var (aA.enc a1)] [(.st 1 [(.ref 0 [] 0)]),(j64 a0)] (eA 3 1 j64 r.2.2.2) [.var (.st 3 [(eL 1 k8 r.1),(j64 r.2.1),(eB r.2.2.1)])]:=by
 unfold kR at h;refine At.f fZ hT hmo Tryz.func70 rfl h ?_;refine bi λr1 hr1=>?_;refine bi λr2 hr2=>?_;refine bi λr3 hr3=>?_;refine At.d 2 dE0 (dF 2 (j64 r1.2.2) [(0,.var (.st 3 [(eL 1 k8 r1.1),(j64 r1.2.1),(eB a1.gA)]))] [] (bG (aK [0] (eK hr1))) (dF 5 (j64 r2.2.2) [(0,.var (.st 3 [(eL 1 k8 r2.1),(j64 r2.2.1),(eB ((aA.mk r1.1 r1.2.1 a1.gA).gA))]))] [] (bG (aK [0] (eK hr2))) (dF 8 (j64 r3.2.2) [(0,.var (.st 3 [(eL 1 k8 r3.1),(j64 r3.2.1),(eB ((aA.mk r2.1 r2.2.1 ((aA.mk r1.1 r1.2.1 a1.gA).gA)).gA))]))] [] (bG (aK [0] (eK hr3))) dF0))) ?_;apply rt;exact At.r 0
def iR(N:Nat)(a0:aA):Option ((List Int)×Int×Bool×aB):=
 ae (dV N 2 a0) λr1=>
 ae (dV N 2 (aA.mk r1.1 r1.2.1 a0.gA)) λr2=>
 ae (dV N 2 (aA.mk r2.1 r2.2.1 ((aA.mk r1.1 r1.2.1 a0.gA).gA))) λr3=>
 some ((r3.1,r3.2.1,(aA.mk r2.1 r2.2.1 ((aA.mk r1.1 r1.2.1 a0.gA).gA)).gA,aB.mk r1.2.2 r2.2.2 r3.2.2))
theorem oE{N a0 r}(h:iR N a0=some r):FnM Tryz.prog 71 [.var (aA.enc a0)] [(.st 1 [(.ref 0 [] 0)])] (aB.enc r.2.2.2) [.var (.st 3 [(eL 1 k8 r.1),(j64 r.2.1),(eB r.2.2.1)])]:=by
 unfold iR at h;refine At.f fZ hT hmo Tryz.func71 rfl h ?_;refine bi λr1 hr1=>?_;refine bi λr2 hr2=>?_;refine bi λr3 hr3=>?_;refine At.d 2 dE0 (dF 2 (j64 r1.2.2) [(0,.var (.st 3 [(eL 1 k8 r1.1),(j64 r1.2.1),(eB a0.gA)]))] [] (bG (aK [0] (iL hr1))) (dF 5 (j64 r2.2.2) [(0,.var (.st 3 [(eL 1 k8 r2.1),(j64 r2.2.1),(eB ((aA.mk r1.1 r1.2.1 a0.gA).gA))]))] [] (bG (aK [0] (iL hr2))) (dF 8 (j64 r3.2.2) [(0,.var (.st 3 [(eL 1 k8 r3.1),(j64 r3.2.1),(eB ((aA.mk r2.1 r2.2.1 ((aA.mk r1.1 r1.2.1 a0.gA).gA)).gA))]))] [] (bG (aK [0] (iL hr3))) dF0))) ?_;apply rt;exact At.r 0
def wG(N:Nat)(a0:Int)(a1:(List Int)):Option (aE×Int):=
 ae (ae (rO N a1) λr2=>
 cond (a0==1) (
  ae (xS N a1) λr3=>
  some ((r2,r3.1.gF,r3.1.gJ,r3.1.gI,0,[],0,#v[0,0,0],0,0,#v[0,0,0],0,0,0,0,0,0,0,0,0,r2,0,true,r3.2))) (
  cond (a0==2) (
   ae (uM N a1) λr4=>
   some ((r2,[],[],[],r4.1.gN,r4.1.gK,0,#v[0,0,0],0,0,#v[0,0,0],0,0,0,0,0,0,0,0,0,r2,0,true,r4.2))) (
   cond (a0==3) (
    ae (cR N 1 (aA.mk r2 0 true)) λr5=>
    ae (kR N 2 (aA.mk r5.1 r5.2.1 ((aA.mk r2 0 true).gA))) λr6=>
    ae (cR N 2 (aA.mk r6.1 r6.2.1 r6.2.2.1)) λr7=>
    ae (iB N (aA.mk r7.1 r7.2.1 ((aA.mk r6.1 r6.2.1 r6.2.2.1).gA))) λr8=>
    some ((r2,[],[],[],0,[],r5.2.2,r6.2.2.2,r7.2.2,0,#v[0,0,0],0,0,0,0,0,0,0,0,0,r7.1,r7.2.1,(aA.mk r6.1 r6.2.1 r6.2.2.1).gA,r8))) (
    cond (a0==4) (
     ae (cR N 1 (aA.mk r2 0 true)) λr9=>
     ae (kR N 4 (aA.mk r9.1 r9.2.1 ((aA.mk r2 0 true).gA))) λr10=>
     ae (iR N (aA.mk r10.1 r10.2.1 r10.2.2.1)) λr11=>
     ae (iR N (aA.mk r11.1 r11.2.1 r11.2.2.1)) λr12=>
     ae (iR N (aA.mk r12.1 r12.2.1 r12.2.2.1)) λr13=>
     ae (iB N (aA.mk r13.1 r13.2.1 r13.2.2.1)) λr14=>
     some ((r2,[],[],[],0,[],0,#v[0,0,0],0,r9.2.2,r10.2.2.2,r11.2.2.2.gX,r11.2.2.2.gY,r11.2.2.2.gZ,r12.2.2.2.gX,r12.2.2.2.gY,r12.2.2.2.gZ,r13.2.2.2.gX,r13.2.2.2.gY,r13.2.2.2.gZ,r13.1,r13.2.1,r13.2.2.1,r14))) (
     some ((r2,[],[],[],0,[],0,#v[0,0,0],0,0,#v[0,0,0],0,0,0,0,0,0,0,0,0,r2,0,true,0))))))) λp1=>
 aO p1.2.2.2.2.2.2.2.2.2.2.2.2.2.2.2.2.2.2.2.2.2.2.2 λx15=>
 cond (x15 != 0) (
  aO p1.2.2.2.2.2.2.2.2.2.2.2.2.2.2.2.2.2.2.2.2.2.2.2 λx16=>
  some ((aE.mk 0 (aM.mk [] [] []) (aI.mk 0 []) (aF.mk 0 (#v[0,0,0]) 0) (aJ.mk 0 (#v[0,0,0]) (aB.mk 0 0 0) (aB.mk 0 0 0) (aB.mk 0 0 0)),x16))) (
  ae (mD N (aE.mk a0 (aM.mk p1.2.1 p1.2.2.1 p1.2.2.2.1) (aI.mk p1.2.2.2.2.1 p1.2.2.2.2.2.1) (aF.mk p1.2.2.2.2.2.2.1 p1.2.2.2.2.2.2.2.1 p1.2.2.2.2.2.2.2.2.1) (aJ.mk p1.2.2.2.2.2.2.2.2.2.1 p1.2.2.2.2.2.2.2.2.2.2.1 (aB.mk p1.2.2.2.2.2.2.2.2.2.2.2.1 p1.2.2.2.2.2.2.2.2.2.2.2.2.1 p1.2.2.2.2.2.2.2.2.2.2.2.2.2.1) (aB.mk p1.2.2.2.2.2.2.2.2.2.2.2.2.2.2.1 p1.2.2.2.2.2.2.2.2.2.2.2.2.2.2.2.1 p1.2.2.2.2.2.2.2.2.2.2.2.2.2.2.2.2.1) (aB.mk p1.2.2.2.2.2.2.2.2.2.2.2.2.2.2.2.2.2.1 p1.2.2.2.2.2.2.2.2.2.2.2.2.2.2.2.2.2.2.1 p1.2.2.2.2.2.2.2.2.2.2.2.2.2.2.2.2.2.2.2.1)))) λr17=>
  cond (r17 != 0) (
   some ((aE.mk 0 (aM.mk [] [] []) (aI.mk 0 []) (aF.mk 0 (#v[0,0,0]) 0) (aJ.mk 0 (#v[0,0,0]) (aB.mk 0 0 0) (aB.mk 0 0 0) (aB.mk 0 0 0)),r17))) (
   some ((aE.mk a0 (aM.mk p1.2.1 p1.2.2.1 p1.2.2.2.1) (aI.mk p1.2.2.2.2.1 p1.2.2.2.2.2.1) (aF.mk p1.2.2.2.2.2.2.1 p1.2.2.2.2.2.2.2.1 p1.2.2.2.2.2.2.2.2.1) (aJ.mk p1.2.2.2.2.2.2.2.2.2.1 p1.2.2.2.2.2.2.2.2.2.2.1 (aB.mk p1.2.2.2.2.2.2.2.2.2.2.2.1 p1.2.2.2.2.2.2.2.2.2.2.2.2.1 p1.2.2.2.2.2.2.2.2.2.2.2.2.2.1) (aB.mk p1.2.2.2.2.2.2.2.2.2.2.2.2.2.2.1 p1.2.2.2.2.2.2.2.2.2.2.2.2.2.2.2.1 p1.2.2.2.2.2.2.2.2.2.2.2.2.2.2.2.2.1) (aB.mk p1.2.2.2.2.2.2.2.2.2.2.2.2.2.2.2.2.2.1 p1.2.2.2.2.2.2.2.2.2.2.2.2.2.2.2.2.2.2.1 p1.2.2.2.2.2.2.2.2.2.2.2.2.2.2.2.2.2.2.2.1)),0))))
theorem aEG{N a0 a1 r}(h:wG N a0 a1=some r):FnM Tryz.prog 39 [] [(j64 a0),(eL 1 k8 a1)] (.tup [(aE.enc r.1),(j64 r.2)]) []:=by
 unfold wG at h;refine At.f fZ hT hmo Tryz.func39 rfl h ?_;refine At.J 7 1 [4,6] 2 (λp1=>([(7,(j64 p1.2.2.2.2.2.2.2.2.2.2.2.2.2.2.2.2.2.2.2.2.2.2.2))],[(1,.var (.st 24 [(j64 a0),(.st 3 [(eL 3 aB.enc p1.2.1),(eL 2 (eA 2 1 j64) p1.2.2.1),(eL 3 (eA 3 1 j64) p1.2.2.2.1)]),(.st 2 [(j64 p1.2.2.2.2.1),(eL 3 (eA 3 1 j64) p1.2.2.2.2.2.1)]),(.st 5 [(j64 p1.2.2.2.2.2.2.1),(eA 3 1 j64 p1.2.2.2.2.2.2.2.1),(j64 p1.2.2.2.2.2.2.2.2.1)]),(.st 13 [(j64 p1.2.2.2.2.2.2.2.2.2.1),(eA 3 1 j64 p1.2.2.2.2.2.2.2.2.2.2.1),(.st 3 [(j64 p1.2.2.2.2.2.2.2.2.2.2.2.1),(j64 p1.2.2.2.2.2.2.2.2.2.2.2.2.1),(j64 p1.2.2.2.2.2.2.2.2.2.2.2.2.2.1)]),(.st 3 [(j64 p1.2.2.2.2.2.2.2.2.2.2.2.2.2.2.1),(j64 p1.2.2.2.2.2.2.2.2.2.2.2.2.2.2.2.1),(j64 p1.2.2.2.2.2.2.2.2.2.2.2.2.2.2.2.2.1)]),(.st 3 [(j64 p1.2.2.2.2.2.2.2.2.2.2.2.2.2.2.2.2.2.1),(j64 p1.2.2.2.2.2.2.2.2.2.2.2.2.2.2.2.2.2.2.1),(j64 p1.2.2.2.2.2.2.2.2.2.2.2.2.2.2.2.2.2.2.2.1)])])]))],[.tail (p1.1.length*1),.var (.st 3 [(eL 1 k8 p1.2.2.2.2.2.2.2.2.2.2.2.2.2.2.2.2.2.2.2.2.1),(j64 p1.2.2.2.2.2.2.2.2.2.2.2.2.2.2.2.2.2.2.2.2.2.1),(eB p1.2.2.2.2.2.2.2.2.2.2.2.2.2.2.2.2.2.2.2.2.2.2.1)]),.var (.st 1 [(.ref 3 [] 0)])])) (λp1=>?_) λp1=>?_
 ·refine At.b 1 (λ_ e=>aK [] (tL e)) λr2=>?_;refine At.c 6 ?_ ?_
  ·refine At.b 1 (λ_ e=>aK [] (aFE e)) λr3=>?_;apply rt;exact At.jn 6
  ·refine At.c 2 ?_ ?_
   ·refine At.b 1 (λ_ e=>aK [] (aCt e)) λr4=>?_;apply rt;exact At.jn 6
   ·refine At.c 2 ?_ ?_
    ·refine bi λr5 hr5=>?_;refine bi λr6 hr6=>?_;refine bi λr7 hr7=>?_;refine At.d 0 dE0 (dF 1 (j64 r5.2.2) [(3,.var (.st 3 [(eL 1 k8 r5.1),(j64 r5.2.1),(eB ((aA.mk r2 0 true).gA))]))] [] (bG (aK [3] (eK hr5))) (dF 3 (eA 3 1 j64 r6.2.2.2) [(3,.var (.st 3 [(eL 1 k8 r6.1),(j64 r6.2.1),(eB r6.2.2.1)]))] [] (bG (aK [3] (qX hr6))) (dF 5 (j64 r7.2.2) [(3,.var (.st 3 [(eL 1 k8 r7.1),(j64 r7.2.1),(eB ((aA.mk r6.1 r6.2.1 r6.2.2.1).gA))]))] [] (bG (aK [3] (eK hr7))) dF0))) ?_;refine At.b 2 (λ_ e=>aK [3] (lQ e)) λr8=>?_;apply rt;exact At.jn 1
    ·refine At.c 2 ?_ ?_
     ·refine bi λr9 hr9=>?_;refine bi λr10 hr10=>?_;refine bi λr11 hr11=>?_;refine bi λr12 hr12=>?_;refine bi λr13 hr13=>?_;refine At.d 0 dE0 (dF 1 (j64 r9.2.2) [(3,.var (.st 3 [(eL 1 k8 r9.1),(j64 r9.2.1),(eB ((aA.mk r2 0 true).gA))]))] [] (bG (aK [3] (eK hr9))) (dF 3 (eA 3 1 j64 r10.2.2.2) [(3,.var (.st 3 [(eL 1 k8 r10.1),(j64 r10.2.1),(eB r10.2.2.1)]))] [] (bG (aK [3] (qX hr10))) (dF 5 (aB.enc r11.2.2.2) [(3,.var (.st 3 [(eL 1 k8 r11.1),(j64 r11.2.1),(eB r11.2.2.1)]))] [] (bG (aK [3] (oE hr11))) (dF 7 (aB.enc r12.2.2.2) [(3,.var (.st 3 [(eL 1 k8 r12.1),(j64 r12.2.1),(eB r12.2.2.1)]))] [] (bG (aK [3] (oE hr12))) (dF 9 (aB.enc r13.2.2.2) [(3,.var (.st 3 [(eL 1 k8 r13.1),(j64 r13.2.1),(eB r13.2.2.1)]))] [] (bG (aK [3] (oE hr13))) dF0))))) ?_;refine At.b 2 (λ_ e=>aK [3] (lQ e)) λr14=>?_;apply rt;exact At.jn 1
     ·apply rt;exact At.jn 0
 ·refine lx ?_;intro x15;refine At.c 2 ?_ ?_
  ·refine lx ?_;intro x16;apply rt;exact At.r 4
  ·refine At.b 1 (λ_ e=>aK [] (aAV e)) λr17=>?_;refine At.c 3 ?_ ?_
   ·apply rt;exact At.r 4
   ·apply rt;exact At.r 3
def aGF : Nat->Bool:=imL [2]
def uI(N:Nat)(r1:aD×Int)(v4:(Vector Int 8))(a0:(Vector Int 32))(s5:(List Int)):Nat->(List Int)->(List Int)->Int->Bool->Int->Option (Sum ((List Int)×(List Int)×Int×Bool) (aD×aE×Int))
 | 0,_,_,_,_,_=>none
 | k+1,s9,s10,s11,s12,s13=>
  aO (decide (s13 < r1.1.gA3)) λx14=>
  cond x14 (
   ae (eF N v4 (I64 (s13+1))) λr15=>
   aO (I64 (r1.1.gP - ((s9.length:Int)))) λx16=>
   ae (qP N a0 r15 s5 s13 (lP 256 x16) (aA.mk s10 s11 s12)) λr17=>
   cond (r17.2.2.2.2 != 0) (
    ae (oO N r17.2.2.2.2) λr18=>
    some (Sum.inr ((r18.1,r18.2.1,r18.2.2)))) (
    ae (mH 1 s9 r17.2.2.2.1) λz19=>
    uI N r1 v4 a0 s5 k z19 r17.1 r17.2.1 r17.2.2.1 (I64 (s13+1)))) (
   some (Sum.inl ((s9,s10,s11,s12))))
def xP(N:Nat)(a0:(Vector Int 32))(a1:(List Int)):Option (aD×aE×Int):=
 ae (xQ N a0 a1) λr1=>
 cond (r1.2 != 0) (
  ae (oO N r1.2) λr2=>
  some ((r2.1,r2.2.1,r2.2.2))) (
  ae (eU a1 4 12) λs3=>
  ae (aD2 8 s3) λv4=>
  ae (eU a1 47 63) λs5=>
  ae (eU a1 63 ((a1.length:Int))) λs6=>
  ae (rO N s6) λr7=>
  ae (uI N r1 v4 a0 s5 N [] r7 0 true 0) λo=>oP o (λp8=>
   ae (qV N (aA.mk p8.2.1 p8.2.2.1 p8.2.2.2)) λr20=>
   cond (decide (r20 > 0)) (
    ae (oO N 7) λr21=>
    some ((r21.1,r21.2.1,r21.2.2))) (
    ae (wG N r1.1.gC p8.1) λr22=>
    cond (r22.2 != 0) (
     ae (oO N r22.2) λr23=>
     some ((r23.1,r23.2.1,r23.2.2))) (
     some ((r1.1,r22.1,0))))) (λr=>some r))
theorem aEh{N a0 a1 r}(h:xP N a0 a1=some r):FnM Tryz.prog 14 [] [(eA 32 1 k8 a0),(eL 1 k8 a1)] (.tup [(aD.enc r.1),(aE.enc r.2.1),(j64 r.2.2)]) []:=by
 unfold xP at h;refine At.f aGF hT hmo Tryz.func14 rfl h ?_;refine At.b 7 (λ_ e=>aK [] (aFj e)) λr1=>?_;refine At.c 8 ?_ ?_
 ·refine At.b 2 (λ_ e=>aK [] (rR e)) λr2=>?_;apply rt;exact At.r 6
 ·refine At.b 1 (λ_ e=>jV hT (k:=1) k8 e) λs3=>?_;refine At.b 0 (λv4 e=>aB4 hT k8 s3 v4 e rfl (by kernel_rfl) (by kernel_rfl)) λv4=>?_;refine At.b 4 (λ_ e=>jV hT (k:=1) k8 e) λs5=>?_;refine At.b 2 (λ_ e=>jV hT (k:=1) k8 e) λs6=>?_;refine At.b 0 (λ_ e=>aK [] (tL e)) λr7=>?_;refine At.ownn 5 13 1 ?_;refine At.LS 0 [4,5,7,8,12] 7 (λp8=>([(13,(eO 6 1 k8 p8.1))],[(5,.var (.st 3 [(eL 1 k8 p8.2.1),(j64 p8.2.2.1),(eB p8.2.2.2)])),(6,.tail (p8.1.length*1))],[])) (λop8 J k=>∃s9 s10 s11 s12 s13,uI N r1 v4 a0 s5 k s9 s10 s11 s12 s13=some op8/\J [2,4,5,7,8,10,11,12,42] 7 [(13,(eO 6 1 k8 s9)),(43,(j64 s13))] [(5,.var (.st 3 [(eL 1 k8 s10),(j64 s11),(eB s12)])),(6,.tail (s9.length*1))] []) N (λ_ h=>⟨_,_,_,_,_,h,jr⟩) (λop8 g8 k s hI=>?_) λp8=>?_
  ·obtain⟨s9,s10,s11,s12,s13,h,hj⟩:=hI;cases k with
   | zero=>cases h
   | succ k=>
    refine At.jr hj ?_ h;refine lx ?_;intro x14;refine At.c 1 ?_ ?_
    ·refine bi λr15 hr15=>?_;refine lx ?_;intro x16;refine bi λr17 hr17=>?_;refine At.d 2 (dE2 4 (eA 12 1 k8 r15) (λ_=>cM (oL hr15)) dE0) (dF 14 (.tup [(eL 1 k8 r17.2.2.2.1),(j64 r17.2.2.2.2)]) [(5,.var (.st 3 [(eL 1 k8 r17.1),(j64 r17.2.1),(eB r17.2.2.1)]))] [] (bG (aK [5] (yX hr17))) dF0) ?_;refine At.c 2 ?_ ?_
     ·refine At.b 2 (λ_ e=>aK [] (rR e)) λr18=>?_;intro e;apply wT g8 e;exact At.r 6
     ·refine At.b 2 (λ_ e=>cH hT k8 (id:=6) (k:=1) e) λz19=>?_;exact λh=>At.k 3 ⟨_,_,_,_,_,h,jr⟩
    ·apply rt;exact At.xs 0
  ·refine At.b 1 (λ_ e=>aK [5] (zM e)) λr20=>?_;refine At.c 1 ?_ ?_
   ·refine At.b 1 (λ_ e=>aK [] (rR e)) λr21=>?_;apply rt;exact At.r 6
   ·refine At.b 3 (λ_ e=>aK [] (aEG e)) λr22=>?_;refine At.c 8 ?_ ?_
    ·refine At.b 2 (λ_ e=>aK [] (rR e)) λr23=>?_;apply rt;exact At.r 6
    ·refine At.d 0 dE0 dF0 ?_;apply rt;exact At.r 0
def oD(N:Nat):Option (Bool):=
 ae (nL N ((ah 32 0).setIfInBounds 0 1) ((ah 8 0).setIfInBounds 0 2) (aD.mk 0 3 0 (ah 8 0) 0 0 0 0) (aE.mk 3 (aM.mk [] [] []) (aI.mk 0 []) (aF.mk 0 (#v[0,0,0]) 0) (aJ.mk 0 (#v[0,0,0]) (aB.mk 0 0 0) (aB.mk 0 0 0) (aB.mk 0 0 0)))) λr1=>
 ae (xP N ((ah 32 0).setIfInBounds 0 1) r1.1) λr2=>
 ae (aO (((r1.1.length:Int))==92) λx4=>
 aO (cond (r1.2==0) x4 false) λx5=>
 aO (cond x5 (r2.2.2==0) false) λx6=>
 cond x6 (
  aO (aD.eq r2.1 (aD.mk 0 3 0 (ah 8 0) 0 0 9 1)) λx7=>
  some x7) (
  some false)) λp3=>
 some p3
theorem aAw{N r}(h:oD N=some r):FnM Tryz.prog 11 [] [] (eB r) []:=by
 unfold oD at h;refine At.f fZ hT hmo Tryz.func11 rfl h ?_;refine At.b 5 (λ_ e=>aK [] (aAb e)) λr1=>?_;refine At.b 7 (λ_ e=>aK [] (aEh e)) λr2=>?_;refine At.J 9 0 [] 2 (λp3=>([(0,(eB p3))],[],[])) (λp3=>?_) λp3=>?_
 ·refine lx ?_;intro x4;refine lx ?_;intro x5;refine lx ?_;intro x6;refine At.s 32 12 ?_ ?_
  ·refine At.g [32] 2 ?_;refine At.o 0 (aHU aPg (r2.1:aD) (aD.mk 0 3 0 (ah 8 0) 0 0 9 1:aD) (by kernel_rfl) (by kernel_rfl) (λ_=>rfl) (λ_=>rfl) (by kernel_rfl) (by kernel_rfl)) ?_;refine lx ?_;intro x7;refine At.g [32] 2 ?_;apply rt;exact At.jn 0
  ·refine At.g [32] 5 ?_;apply rt;exact At.jn 0
 ·apply rt;exact At.r 0
def xT : Nat->Bool:=imL [3]
def mE(N:Nat)(a0:bU)(a1:aE)(a2:Int):Option (Bool):=
 ae (pR N a1) λr1=>
 ae (nL N a0.gA5 a0.gA4 a0.gM r1) λr2=>
 ae (oW N a0.gA5 a0.gA4 a0.gM r1) λr3=>
 ae (ae (pF N r2.1 r3.1) λr5=>
 cond r5 (
  cond (r2.2==r3.2) (
   ae (eF N a0.gA4 a2) λr6=>
   ae (iA N a0.gA4 a2) λr7=>
   aO ((eqV (λa b=>a==b)) r6 r7) λx8=>
   cond x8 (
    ae (oD N ) λr9=>
    some r9) (
    some false)) (
   some false)) (
  some false)) λp4=>
 some p4
theorem wS{N a0 a1 a2 r}(h:mE N a0 a1 a2=some r):FnM Tryz.prog 3 [] [(bU.enc a0),(aE.enc a1),(j64 a2)] (eB r) []:=by
 unfold mE at h;refine At.f xT hT hmo Tryz.func3 rfl h ?_;refine At.b 4 (λ_ e=>aK [] (aCW e)) λr1=>?_;refine At.b 8 (λ_ e=>aK [] (aAb e)) λr2=>?_;refine At.b 12 (λ_ e=>aK [] (aBi e)) λr3=>?_;refine At.J 5 0 [] 1 (λp4=>([(6,(eB p4))],[],[])) (λp4=>?_) λp4=>?_
 ·refine bi λr5 hr5=>?_;refine boI (λhc3=>?_) (λhc3=>?_)
  ·refine boI (λhc8=>?_) (λhc8=>?_)
   ·refine bi λr6 hr6=>?_;refine bi λr7 hr7=>?_;refine lx ?_;intro x8;refine boI (λhc19=>?_) (λhc19=>?_)
    ·refine bi λr9 hr9=>?_;refine At.d 0 (dE2 2 (eB r5) (λ_=>cM (pP hr5)) (dE1 3 (λ_=>qY hc3 rfl (oS hT (im:=false) (by kernel_rfl))) (dE1 8 (λ_=>qY hc8 rfl (oS hT (im:=false) (by kernel_rfl))) (dE2 12 (eA 12 1 k8 r6) (λ_=>cM (oL hr6)) (dE2 16 (eA 12 1 k8 r7) (λ_=>cM (pJ hr7)) (dE1 17 (λ_=>aHU aMg (r6:(Vector Int 12)) (r7:(Vector Int 12)) (by kernel_rfl) (by kernel_rfl) (λ_=>rfl) (λ_=>rfl) (by kernel_rfl) (by kernel_rfl)) (dE1 19 (λ_=>qY hc19 rfl (oS hT (im:=false) (by kernel_rfl))) (dE2 20 (eB r9) (λ_=>cM (aAw hr9)) dE0)))))))) dF0 ?_;apply rt;exact At.jn 0
    ·refine At.d 0 (dE2 2 (eB r5) (λ_=>cM (pP hr5)) (dE1 3 (λ_=>qY hc3 rfl (oS hT (im:=false) (by kernel_rfl))) (dE1 8 (λ_=>qY hc8 rfl (oS hT (im:=false) (by kernel_rfl))) (dE2 12 (eA 12 1 k8 r6) (λ_=>cM (oL hr6)) (dE2 16 (eA 12 1 k8 r7) (λ_=>cM (pJ hr7)) (dE1 17 (λ_=>aHU aMg (r6:(Vector Int 12)) (r7:(Vector Int 12)) (by kernel_rfl) (by kernel_rfl) (λ_=>rfl) (λ_=>rfl) (by kernel_rfl) (by kernel_rfl)) (dE1 19 (λ_=>qY hc19 rfl (oS hT (im:=false) (by kernel_rfl))) dE0))))))) dF0 ?_;apply rt;exact At.jn 0
   ·refine At.d 0 (dE2 2 (eB r5) (λ_=>cM (pP hr5)) (dE1 3 (λ_=>qY hc3 rfl (oS hT (im:=false) (by kernel_rfl))) (dE1 8 (λ_=>qY hc8 rfl (oS hT (im:=false) (by kernel_rfl))) dE0))) dF0 ?_;apply rt;exact At.jn 0
  ·refine At.d 0 (dE2 2 (eB r5) (λ_=>cM (pP hr5)) (dE1 3 (λ_=>qY hc3 rfl (oS hT (im:=false) (by kernel_rfl))) dE0)) dF0 ?_;apply rt;exact At.jn 0
 ·apply rt;exact At.r 0
end Go.UK
