/- A part of the proof: what the functions of the program compute. -/
import Derived.Test.YtfndgielkmppbaaDoorAJ1
open Option renaming bind→ae
open Vector renaming replicate→av
namespace Go.UK
open Go Go.Proofs Go.Sort Go.RowKit
set_option maxRecDepth 20000
set_option maxHeartbeats 40000000
set_option linter.all false
attribute [local irreducible] adv zN wG lL brPt aBh sH eY lJ aAu bS fE cN zK xO lPt owp awl aw FnM opS Stab TOK Big
def eZ(N:Nat)(a0:(List Int)):Nat->(List Int)->Int->Option ((List Int))
 | 0,_,_=>none
 | k+1,s3,s4=>
  cG (decide (s4 < ((a0.length:Int)))) λx5=>
  cond x5 (
   ae (idx a0 s4) λe6=>
   ae (idx aAx.data.toList (shr .u8 e6 4)) λc7=>
   ae (idx aAx.data.toList (aDu .u8 e6 15)) λc8=>
   ae (oD 1 s3 (([(UInt8.toNat c7:Int),(UInt8.toNat c8:Int)]:List Int))) λz9=>
   eZ N a0 k z9 (I64 (s4+1))) (
   some s3)
def jO(N:Nat)(a0:(List Int)):Option (ByteArray):=
 cG (((a0.length:Int))==0) λx1=>
 cond x1 (
  some (ByteArray.mk #[45])) (
  ae (eZ N a0 N [] 0) λp2=>
  some (mA p2))
theorem wQ{N a0 r}(h:jO N a0=some r):FnM Tryd.prog 17 [] [(eL 1 k8 a0)] (eS r) []:=by
 unfold jO at h;refine At.f iD hT hmo Tryd.func17 rfl h ?_;refine lx ?_;intro x1;refine At.c 4 ?_ ?_
 ·apply rt;exact At.r 1
 ·refine At.ownn 4 3 1 ?_;refine At.L 0 [] 1 (λp2=>([(3,(eO 0 1 k8 p2))],[(0,.tail (p2.length*1))],[])) (λp2 J k=>∃s3 s4,eZ N a0 k s3 s4=some p2/\J [9,10] 1 [(3,(eO 0 1 k8 s3)),(11,(j64 s4))] [(0,.tail (s3.length*1))] []) N (λ_ h=>⟨_,_,h,jr⟩) (λp2 k s hI=>?_) λp2=>?_
  ·obtain⟨s3,s4,h,hj⟩:=hI;cases k with
   | zero=>cases h
   | succ k=>
    refine At.jr hj ?_ h;refine lx ?_;intro x5;refine At.c 1 ?_ ?_
    ·refine At.b 0 (λ_ e=>iC hT k8 e) λe6=>?_;refine bi λc7 hc7=>?_;refine bi λc8 hc8=>?_;refine bi λz9 hz9=>?_;refine At.d 2 (dE1 3 (λ_=>aBA hT hc7 (by kernel_rfl) (by kernel_rfl)) (dE1 6 (λ_=>aBA hT hc8 (by kernel_rfl) (by kernel_rfl)) (dE1 7 (λ_=>bO hT (x:=(.sl 1 2 [(k8 ((UInt8.toNat c7:Int))),(k8 ((UInt8.toNat c8:Int)))]))) dE0))) (dF 8 (eO 0 1 k8 z9) [(0,.tail (z9.length*1))] [] (lD (iW hT k8 (id:=0) (k:=1) hz9)) dF0) ?_;exact λh=>At.k 2 ⟨_,_,h,jr⟩
    ·apply rt;exact At.x 0
  ·refine At.o 1 (wW hT p2 (v:=(eO 0 1 k8 p2)) (e:=5) (by kernel_rfl) (by kernel_rfl) (by kernel_rfl)) ?_;apply rt;exact At.r 1
def eF(N:Nat)(z2:(List Int)):Nat->(List Int)->Int->Option (Sum ((List Int)) ((List Int)×Bool))
 | 0,_,_=>none
 | k+1,s4,s5=>
  cG (decide (s5 < ((z2.length:Int)))) λx6=>
  cond x6 (
   ae (idx z2 s5) λe7=>
   cG (decide (e7 > 4611686018427387904)) λx8=>
   cG (decide (e7 < (-4611686018427387904))) λx9=>
   cond (cond x8 true x9) (
    some (Sum.inr (([],false)))) (
    ae (oD 8 s4 (([e7]:List Int))) λz10=>
    eF N z2 k z10 (I64 (s5+1)))) (
   some (Sum.inl s4))
def hU(N:Nat)(a0:aK):Option ((List Int)×Bool):=
 ae (oD 8 a0.gM.toList (([a0.gT.gX,a0.gT.gY,a0.gT.gZ]:List Int))) λz2=>
 ae (eF N z2 N [] 0) λo=>lM o (λp3=>
  some ((p3,true))) (λr=>some r)
theorem tV{N a0 r}(h:hU N a0=some r):FnM Tryd.prog 18 [] [(aK.enc a0)] (.tup [(eL 1 j64 r.1),(eB r.2)]) []:=by
 unfold hU at h;refine At.f iD hT hmo Tryd.func18 rfl h ?_;refine At.gz 4 0 ((aK.enc a0)) ?_;refine bi λz2 hz2=>?_;refine At.d 0 (dE1 11 (λ_=>bO hT (x:=(.sl 1 3 [(j64 a0.gT.gX),(j64 a0.gT.gY),(j64 a0.gT.gZ)]))) dE0) (dF 1 (eO 1 1 j64 a0.gM.toList) [] [.tail (a0.gM.toList.length*1)] (lD (aBk hT (N:=9) (k:=1) j64 a0.gM (by kernel_rfl) (by kernel_rfl))) (dF 12 (eO 1 1 j64 z2) [(1,.tail (z2.length*1))] [] (lD (iW hT j64 (id:=1) (k:=1) hz2)) dF0)) ?_;refine At.ownn 0 4 1 ?_;refine At.LS 0 [] 3 (λp3=>([(4,(eO 2 1 j64 p3))],[(2,.tail (p3.length*1))],[])) (λop3 J k=>∃s4 s5,eF N z2 k s4 s5=some op3/\J [19,20] 3 [(4,(eO 2 1 j64 s4)),(21,(j64 s5))] [(2,.tail (s4.length*1))] []) N (λ_ h=>⟨_,_,h,jr⟩) (λop3 g3 k s hI=>?_) λp3=>?_
 ·obtain⟨s4,s5,h,hj⟩:=hI;cases k with
  | zero=>cases h
  | succ k=>
   refine At.jr hj ?_ h;refine lx ?_;intro x6;refine At.c 1 ?_ ?_
   ·refine At.b 0 (λ_ e=>iC hT j64 e) λe7=>?_;refine lx ?_;intro x8;refine lx ?_;intro x9;refine At.c 8 ?_ ?_
    ·intro e;apply aAN g3 e;exact At.r 2
    ·refine At.o 2 (bO hT (x:=(.sl 1 1 [(j64 e7)]))) ?_;refine At.b 0 (λ_ e=>iW hT j64 (id:=2) (k:=1) e) λz10=>?_;exact λh=>At.k 3 ⟨_,_,h,jr⟩
   ·apply rt;exact At.xs 0
 ·apply rt;exact At.r 3
def dQ(N:Nat)(a0:(List aA)):Nat->(List Int)->Int->Option ((List Int))
 | 0,_,_=>none
 | k+1,s2,s3=>
  cG (decide (s3 < ((a0.length:Int)))) λx4=>
  cond x4 (
   ae (idx a0 s3) λe5=>
   ae (oD 8 s2 (([e5.gX,e5.gY,e5.gZ]:List Int))) λz6=>
   dQ N a0 k z6 (I64 (s3+1))) (
   some s2)
def fQ(N:Nat)(a0:(List aA)):Option ((List Int)):=
 ae (dQ N a0 N [] 0) λp1=>
 some p1
theorem rP{N a0 r}(h:fQ N a0=some r):FnM Tryd.prog 19 [] [(eL 3 aA.enc a0)] (eL 1 j64 r) []:=by
 unfold fQ at h;refine At.f iD hT hmo Tryd.func19 rfl h ?_;refine At.ownn 5 3 1 ?_;refine At.L 0 [] 1 (λp1=>([(3,(eO 0 1 j64 p1))],[(0,.tail (p1.length*1))],[])) (λp1 J k=>∃s2 s3,dQ N a0 k s2 s3=some p1/\J [6,7] 1 [(3,(eO 0 1 j64 s2)),(8,(j64 s3))] [(0,.tail (s2.length*1))] []) N (λ_ h=>⟨_,_,h,jr⟩) (λp1 k s hI=>?_) λp1=>?_
 ·obtain⟨s2,s3,h,hj⟩:=hI;cases k with
  | zero=>cases h
  | succ k=>
   refine At.jr hj ?_ h;refine lx ?_;intro x4;refine At.c 1 ?_ ?_
   ·refine At.b 0 (λ_ e=>iC hT aA.enc e) λe5=>?_;refine At.o 10 (bO hT (x:=(.sl 1 3 [(j64 e5.gX),(j64 e5.gY),(j64 e5.gZ)]))) ?_;refine At.b 0 (λ_ e=>iW hT j64 (id:=0) (k:=1) e) λz6=>?_;exact λh=>At.k 3 ⟨_,_,h,jr⟩
   ·apply rt;exact At.x 0
 ·apply rt;exact At.r 2
def uQ : Nat->Bool:=imL [1]
def aU(N:Nat)(a0:aD):Option (ByteArray×Int):=
 ae (aS N ([a0])) λr1=>
 cond (r1.2 != 0) (
  some ((ByteArray.mk #[],2))) (
  ae (hY N ) λr2=>
  ae (idx r2 a0.gD) λe3=>
  cond (a0.gD==1) (
   ae (jA e3 (([a0.gS]:List Int))) λr4=>
   ae (xC r4 (ByteArray.mk #[32])) λx5=>
   ae (jO N a0.gL) λr6=>
   ae (xC x5 r6) λx7=>
   some ((x7,0))) (
   cond (a0.gD==2) (
    ae (jA e3 (([a0.gS]:List Int))) λr8=>
    some ((r8,0))) (
    cond (a0.gD==3) (
     ae (hU N a0.gC.gT) λr9=>
     cond (!r9.2) (
      some ((ByteArray.mk #[],2))) (
      ae (jA e3 (([a0.gC.gA0,a0.gC.gV,a0.gC.gR,a0.gC.gN]:List Int))) λr10=>
      ae (jA r10 r9.1) λr11=>
      some ((r11,0)))) (
     cond (a0.gD==4) (
      ae (jA e3 (([a0.gC.gA0,a0.gC.gV,a0.gC.gR,a0.gC.gN]:List Int))) λr12=>
      some ((r12,0))) (
      cond (a0.gD==5) (
       ae (cond a0.gI.gA2 (some 1) (some 0)) λp13=>
       cG (shr .u64 a0.gI.gK 32) λx14=>
       cG (aDu .u64 a0.gI.gK 4294967295) λx15=>
       ae (jA e3 (([a0.gF,a0.gI.gW,a0.gI.gH,a0.gI.gA7,a0.gI.gA6,a0.gI.gA5,p13,I64 x14,I64 x15]:List Int))) λr16=>
       ae (fQ N ([a0.gI.gA.gJ,a0.gI.gA.gG,a0.gI.gA.gUp,a0.gI.gA.gE])) λr17=>
       ae (jA r16 r17) λr18=>
       cG a0.gI.gA.gP λx19=>
       ae (jA r18 (([a0.gI.gA.gQ,x19,a0.gA4]:List Int))) λr20=>
       some ((r20,0))) (
       cond (a0.gD==7) (
        ae (jA e3 (([a0.gF,a0.gU,I64 a0.gA1,a0.gA3]:List Int))) λr21=>
        some ((r21,0))) (
        cond (a0.gD==8) (
         ae (jA e3 (([a0.gF,a0.gU]:List Int))) λr22=>
         some ((r22,0))) (
         cond (a0.gD==10) (
          ae (jA e3 (([a0.gA8]:List Int))) λr23=>
          some ((r23,0))) (
          ae (jA e3 (([a0.gF]:List Int))) λr24=>
          some ((r24,0)))))))))))
theorem nH{N a0 r}(h:aU N a0=some r):FnM Tryd.prog 6 [] [(aD.enc a0)] (.tup [(eS r.1),(j64 r.2)]) []:=by
 unfold aU at h;refine At.f uQ hT hmo Tryd.func6 rfl h ?_;refine At.o 4 (bO hT (x:=(.sl 46 1 [(aD.enc a0)]))) ?_;refine At.b 0 (λ_ e=>aZ [] (jC e)) λr1=>?_;refine At.c 7 ?_ ?_
 ·apply rt;exact At.r 2
 ·refine At.d2 0 [false,false,false] dC0 (dS1 7 ⟨(.ref 0 [] 0),0,.var zD,.dead⟩ [[.dead,.dead,.dead],[.dead,.dead,.var aCz],[.dead,.var yU,.dead],[.dead,.var yU,.var aCz]] ⟨dT hT 0 (by kernel_rfl) (by kernel_rfl) (by kernel_rfl),dT hT 0 (by kernel_rfl) (by kernel_rfl) (by kernel_rfl),dT hT 0 (by kernel_rfl) (by kernel_rfl) (by kernel_rfl),dT hT 0 (by kernel_rfl) (by kernel_rfl) (by kernel_rfl),trivial⟩ (dS1 8 ⟨(.ref 1 [] 0),1,.var yU,.dead⟩ [[.dead,.dead,.dead],[.dead,.dead,.var aCz],[.var zD,.dead,.dead],[.var zD,.dead,.var aCz]] ⟨dT hT 1 (by kernel_rfl) (by kernel_rfl) (by kernel_rfl),dT hT 1 (by kernel_rfl) (by kernel_rfl) (by kernel_rfl),dT hT 1 (by kernel_rfl) (by kernel_rfl) (by kernel_rfl),dT hT 1 (by kernel_rfl) (by kernel_rfl) (by kernel_rfl),trivial⟩ (dS1 9 ⟨(.ref 2 [] 0),2,.var aCz,.dead⟩ [[.dead,.dead,.dead],[.dead,.var yU,.dead],[.var zD,.dead,.dead],[.var zD,.var yU,.dead]] ⟨dT hT 2 (by kernel_rfl) (by kernel_rfl) (by kernel_rfl),dT hT 2 (by kernel_rfl) (by kernel_rfl) (by kernel_rfl),dT hT 2 (by kernel_rfl) (by kernel_rfl) (by kernel_rfl),dT hT 2 (by kernel_rfl) (by kernel_rfl) (by kernel_rfl),trivial⟩ dS0))) ?_;refine bi λr2 hr2=>?_;refine bi λe3 he3=>?_;refine At.d 0 (dE2 0 (eL 1 eS r2) (λ_=>wX (nI hr2)) (dE1 3 (λ_=>iC hT eS he3) dE0)) dF0 ?_;refine At.c 4 ?_ ?_
  ·refine bi λr4 hr4=>?_;refine bi λx5 hx5=>?_;refine bi λr6 hr6=>?_;refine bi λx7 hx7=>?_;refine At.d 0 (dE1 3 (λ_=>bO hT (x:=(.sl 1 1 [(j64 a0.gS)]))) (dE2 4 (eS r4) (λ_=>nU (mN hr4) iB (by kernel_rfl) (by kernel_rfl) (by kernel_rfl)) (dE1 5 (λ_=>aBg hx5 (by kernel_rfl) (by kernel_rfl)) (dE2 8 (eS r6) (λ_=>wX (wQ hr6)) (dE1 9 (λ_=>aBg hx7 (by kernel_rfl) (by kernel_rfl)) dE0))))) dF0 ?_;apply rt;exact At.r 0
  ·refine At.c 2 ?_ ?_
   ·refine At.o 3 (bO hT (x:=(.sl 1 1 [(j64 a0.gS)]))) ?_;refine At.b 0 (λ_ e=>eK [] (mN e) iB) λr8=>?_;apply rt;exact At.r 2
   ·refine At.c 2 ?_ ?_
    ·refine At.b 2 (λ_ e=>aZ [] (tV e)) λr9=>?_;refine At.c 7 ?_ ?_
     ·apply rt;exact At.r 2
     ·refine At.o 9 (bO hT (x:=(.sl 1 4 [(j64 a0.gC.gA0),(j64 a0.gC.gV),(j64 a0.gC.gR),(j64 a0.gC.gN)]))) ?_;refine At.b 0 (λ_ e=>eK [] (mN e) iB) λr10=>?_;refine At.b 1 (λ_ e=>eK [] (mN e) iB) λr11=>?_;apply rt;exact At.r 2
    ·refine At.c 2 ?_ ?_
     ·refine At.o 9 (bO hT (x:=(.sl 1 4 [(j64 a0.gC.gA0),(j64 a0.gC.gV),(j64 a0.gC.gR),(j64 a0.gC.gN)]))) ?_;refine At.b 0 (λ_ e=>eK [] (mN e) iB) λr12=>?_;apply rt;exact At.r 2
     ·refine At.c 2 ?_ ?_
      ·refine At.J 1 1 [1,7,8,9] 3 (λp13=>([(12,(j64 p13))],[],[])) (λp13=>?_) λp13=>?_
       ·refine At.c 2 ?_ ?_
        ·apply rt;exact At.jn 1
        ·apply rt;exact At.jn 0
       ·refine lx ?_;intro x14;refine lx ?_;intro x15;refine At.o 22 (bO hT (x:=(.sl 1 9 [(j64 a0.gF),(j64 a0.gI.gW),(j64 a0.gI.gH),(j64 a0.gI.gA7),(j64 a0.gI.gA6),(j64 a0.gI.gA5),(j64 p13),(j64 (I64 x14)),(j64 (I64 x15))]))) ?_;refine At.b 0 (λ_ e=>eK [] (mN e) iB) λr16=>?_;refine bi λr17 hr17=>?_;refine bi λr18 hr18=>?_;refine lx ?_;intro x19;refine bi λr20 hr20=>?_;refine At.d 1 (dE1 9 (λ_=>bO hT (x:=(.sl 3 4 [(aA.enc a0.gI.gA.gJ),(aA.enc a0.gI.gA.gG),(aA.enc a0.gI.gA.gUp),(aA.enc a0.gI.gA.gE)]))) (dE2 10 (eL 1 j64 r17) (λ_=>wX (rP hr17)) (dE2 11 (eS r18) (λ_=>nU (mN hr18) iB (by kernel_rfl) (by kernel_rfl) (by kernel_rfl)) (dE1 18 (λ_=>bO hT (x:=(.sl 1 3 [(j64 a0.gI.gA.gQ),(j64 x19),(j64 a0.gA4)]))) (dE2 19 (eS r20) (λ_=>nU (mN hr20) iB (by kernel_rfl) (by kernel_rfl) (by kernel_rfl)) dE0))))) dF0 ?_;apply rt;exact At.r 0
      ·refine At.c 2 ?_ ?_
       ·refine At.o 10 (bO hT (x:=(.sl 1 4 [(j64 a0.gF),(j64 a0.gU),(j64 (I64 a0.gA1)),(j64 a0.gA3)]))) ?_;refine At.b 0 (λ_ e=>eK [] (mN e) iB) λr21=>?_;apply rt;exact At.r 2
       ·refine At.c 2 ?_ ?_
        ·refine At.o 5 (bO hT (x:=(.sl 1 2 [(j64 a0.gF),(j64 a0.gU)]))) ?_;refine At.b 0 (λ_ e=>eK [] (mN e) iB) λr22=>?_;apply rt;exact At.r 2
        ·refine At.c 2 ?_ ?_
         ·refine At.o 3 (bO hT (x:=(.sl 1 1 [(j64 a0.gA8)]))) ?_;refine At.b 0 (λ_ e=>eK [] (mN e) iB) λr23=>?_;apply rt;exact At.r 2
         ·refine At.o 3 (bO hT (x:=(.sl 1 1 [(j64 a0.gF)]))) ?_;refine At.b 0 (λ_ e=>eK [] (mN e) iB) λr24=>?_;apply rt;exact At.r 2
def aB2 : Go.Shelf.Ren:=⟨λ | 221=>37 | 268=>50 | 138=>51 | 143=>52 | 195=>63 | 197=>64 | 218=>65 | 219=>66 | 260=>77 | 217=>78 | 225=>79 | 224=>80 | 267=>81 | 266=>93 | 314=>94 | n=>n,λ | 9=>9 | 3=>3 | 31=>60 | 4=>4 | 0=>0 | 105=>123 | 21=>21 | 5=>5 | 46=>66 | 119=>149 | 139=>152 | 138=>151 | 146=>153 | 51=>38 | n=>n,λ | 1=>0 | 3=>2 | 4=>3 | n=>n⟩
theorem split : Lays.n221 Tryd.prog aB2 where
 mixed:=by kernel_rfl
 f138:=Tryd.func51.trans (congrArg some (by kernel_rfl))
 f143:=Tryd.func52.trans (congrArg some (by kernel_rfl))
 f195:=Tryd.func63.trans (congrArg some (by kernel_rfl))
 f197:=Tryd.func64.trans (congrArg some (by kernel_rfl))
 f217:=Tryd.func78.trans (congrArg some (by kernel_rfl))
 f218:=Tryd.func65.trans (congrArg some (by kernel_rfl))
 f219:=Tryd.func66.trans (congrArg some (by kernel_rfl))
 f221:=Tryd.func37.trans (congrArg some (by kernel_rfl))
 f224:=Tryd.func80.trans (congrArg some (by kernel_rfl))
 f225:=Tryd.func79.trans (congrArg some (by kernel_rfl))
 f260:=Tryd.func77.trans (congrArg some (by kernel_rfl))
 f266:=Tryd.func93.trans (congrArg some (by kernel_rfl))
 f267:=Tryd.func81.trans (congrArg some (by kernel_rfl))
 f268:=Tryd.func50.trans (congrArg some (by kernel_rfl))
 f314:=Tryd.func94.trans (congrArg some (by kernel_rfl))
 t0:=Tryd.underlying0
 a0:=Tryd.isAgg0
 z0:=Tryd.sizeOf0
 v0:=Tryd.zeroValue0
 t3:=Tryd.underlying3
 a3:=Tryd.isAgg3
 z3:=Tryd.sizeOf3
 v3:=Tryd.zeroValue3
 t4:=Tryd.underlying4
 a4:=Tryd.isAgg4
 z4:=Tryd.sizeOf4
 v4:=Tryd.zeroValue4
 t5:=Tryd.underlying5
 a5:=Tryd.isAgg5
 z5:=Tryd.sizeOf5
 v5:=Tryd.zeroValue5
 t9:=Tryd.underlying9
 a9:=Tryd.isAgg9
 z9:=Tryd.sizeOf9
 v9:=Tryd.zeroValue9
 t21:=Tryd.underlying21
 a21:=Tryd.isAgg21
 z21:=Tryd.sizeOf21
 v21:=Tryd.zeroValue21
 t31:=Tryd.underlying60
 a31:=Tryd.isAgg60
 z31:=Tryd.sizeOf60
 v31:=Tryd.zeroValue60
 t46:=Tryd.underlying66
 a46:=Tryd.isAgg66
 z46:=Tryd.sizeOf66
 v46:=Tryd.zeroValue66
 t51:=Tryd.underlying38
 a51:=Tryd.isAgg38
 z51:=Tryd.sizeOf38
 v51:=Tryd.zeroValue38
 t105:=Tryd.underlying123
 a105:=Tryd.isAgg123
 z105:=Tryd.sizeOf123
 v105:=Tryd.zeroValue123
 t119:=Tryd.underlying149
 a119:=Tryd.isAgg149
 z119:=Tryd.sizeOf149
 t138:=Tryd.underlying151
 a138:=Tryd.isAgg151
 z138:=Tryd.sizeOf151
 v138:=Tryd.zeroValue151
 t139:=Tryd.underlying152
 a139:=Tryd.isAgg152
 z139:=Tryd.sizeOf152
 v139:=Tryd.zeroValue152
 t146:=Tryd.underlying153
 a146:=Tryd.isAgg153
 z146:=Tryd.sizeOf153
 v146:=Tryd.zeroValue153
 g1:=by kernel_rfl
 g3:=by kernel_rfl
 g4:=by kernel_rfl
def aCN : Go.Shelf.Ren:=⟨λ | 143=>52 | 219=>66 | 217=>78 | 225=>79 | 224=>80 | 267=>81 | 266=>93 | 314=>94 | n=>n,λ | 9=>9 | 3=>3 | 4=>4 | 5=>5 | 46=>66 | 146=>153 | 51=>38 | n=>n,λ | 1=>0 | n=>n⟩
theorem index : Lays.n143 Tryd.prog aCN where
 mixed:=by kernel_rfl
 f143:=Tryd.func52.trans (congrArg some (by kernel_rfl))
 f217:=Tryd.func78.trans (congrArg some (by kernel_rfl))
 f219:=Tryd.func66.trans (congrArg some (by kernel_rfl))
 f224:=Tryd.func80.trans (congrArg some (by kernel_rfl))
 f225:=Tryd.func79.trans (congrArg some (by kernel_rfl))
 f266:=Tryd.func93.trans (congrArg some (by kernel_rfl))
 f267:=Tryd.func81.trans (congrArg some (by kernel_rfl))
 f314:=Tryd.func94.trans (congrArg some (by kernel_rfl))
 t3:=Tryd.underlying3
 a3:=Tryd.isAgg3
 z3:=Tryd.sizeOf3
 v3:=Tryd.zeroValue3
 t4:=Tryd.underlying4
 a4:=Tryd.isAgg4
 z4:=Tryd.sizeOf4
 v4:=Tryd.zeroValue4
 t5:=Tryd.underlying5
 a5:=Tryd.isAgg5
 z5:=Tryd.sizeOf5
 v5:=Tryd.zeroValue5
 t9:=Tryd.underlying9
 a9:=Tryd.isAgg9
 z9:=Tryd.sizeOf9
 v9:=Tryd.zeroValue9
 t46:=Tryd.underlying66
 a46:=Tryd.isAgg66
 z46:=Tryd.sizeOf66
 v46:=Tryd.zeroValue66
 t51:=Tryd.underlying38
 a51:=Tryd.isAgg38
 z51:=Tryd.sizeOf38
 v51:=Tryd.zeroValue38
 t146:=Tryd.underlying153
 a146:=Tryd.isAgg153
 z146:=Tryd.sizeOf153
 v146:=Tryd.zeroValue153
 g1:=by kernel_rfl
theorem lib37{s sep:ByteArray}{r:List ByteArray}(h:oM s sep=some r):FnM Tryd.prog 37 [] [eS s,eS sep,j64 0,j64 (-1)] (eL 1 eS r) []:=aDn split { split with } { split with } (by kernel_rfl) rfl h
theorem aE3 : fH Tryd.prog 37:=fB (by kernel_rfl)
def aN(N:Nat)(a0 a1:ByteArray):Option ((List ByteArray)):=
 ae (oM a0 a1) λr1=>
 some r1
theorem qO{N a0 a1 r}(h:aN N a0 a1=some r):FnM Tryd.prog 20 [] [(eS a0),(eS a1)] (eL 1 eS r) []:=by
 unfold aN at h;refine At.f iD hT hmo Tryd.func20 rfl h ?_;refine At.b 3 (λ_ e=>eK [] (lib37 e) aE3) λr1=>?_;apply rt;exact At.r 1
def bF(N:Nat)(a0:aF):Option (aF×ByteArray):=
 cG (((a0.gl.length:Int))==0) λx1=>
 cond x1 (
  some ((aF.mk a0.gl true,ByteArray.mk #[]))) (
  ae (idx a0.gl 0) λe2=>
  ae (qH a0.gl 1 ((a0.gl.length:Int))) λs3=>
  some ((aF.mk s3 a0.gA9,e2)))
theorem fM{N a0 r}(h:bF N a0=some r):FnM Tryd.prog 21 [.var (aF.enc a0)] [(.ref 0 [] 0)] (eS r.2) [.var (aF.enc r.1)]:=by
 unfold bF at h;refine At.f iD hT hmo Tryd.func21 rfl h ?_;refine lx ?_;intro x1;refine At.c 7 ?_ ?_
 ·apply rt;exact At.r 5
 ·refine At.b 4 (λ_ e=>iC hT eS e) λe2=>?_;refine At.b 7 (λ_ e=>aBP hT (k:=1) eS e) λs3=>?_;apply rt;exact At.r 5
def aCP : Go.Shelf.Ren:=⟨λ | 174=>54 | 247=>67 | 245=>68 | 287=>82 | 279=>83 | 280=>84 | 281=>85 | 282=>86 | 321=>95 | 322=>96 | 316=>97 | 171=>35 | 205=>98 | 243=>49 | 246=>62 | 283=>73 | 284=>74 | 285=>75 | 286=>76 | 129=>89 | 317=>88 | 318=>90 | 319=>91 | 320=>92 | 337=>99 | 338=>100 | n=>n,λ | 9=>9 | 3=>3 | 2=>2 | 75=>92 | 85=>113 | 4=>4 | 167=>137 | 5=>5 | 53=>31 | 175=>138 | 46=>66 | 168=>140 | 37=>22 | 0=>0 | 210=>159 | 21=>21 | 127=>110 | 145=>164 | 143=>162 | 171=>131 | 173=>134 | 212=>145 | 51=>38 | 20=>20 | 213=>146 | 232=>165 | 233=>166 | 80=>72 | n=>n,λ | 15=>4 | 16=>5 | 17=>1 | 18=>6 | 19=>7 | n=>n⟩
theorem aFc : LaysC.n174 Tryd.prog aCP where
 mixed:=by kernel_rfl
 f129:=Tryd.func89.trans (congrArg some (by kernel_rfl))
 f171:=Tryd.func35.trans (congrArg some (by kernel_rfl))
 f174:=Tryd.func54.trans (congrArg some (by kernel_rfl))
 f205:=Tryd.func98.trans (congrArg some (by kernel_rfl))
 f243:=Tryd.func49.trans (congrArg some (by kernel_rfl))
 f245:=Tryd.func68.trans (congrArg some (by kernel_rfl))
 f246:=Tryd.func62.trans (congrArg some (by kernel_rfl))
 f247:=Tryd.func67.trans (congrArg some (by kernel_rfl))
 f279:=Tryd.func83.trans (congrArg some (by kernel_rfl))
 f280:=Tryd.func84.trans (congrArg some (by kernel_rfl))
 f281:=Tryd.func85.trans (congrArg some (by kernel_rfl))
 f282:=Tryd.func86.trans (congrArg some (by kernel_rfl))
 f283:=Tryd.func73.trans (congrArg some (by kernel_rfl))
 f284:=Tryd.func74.trans (congrArg some (by kernel_rfl))
 f285:=Tryd.func75.trans (congrArg some (by kernel_rfl))
 f286:=Tryd.func76.trans (congrArg some (by kernel_rfl))
 f287:=Tryd.func82.trans (congrArg some (by kernel_rfl))
 f316:=Tryd.func97.trans (congrArg some (by kernel_rfl))
 f317:=Tryd.func88.trans (congrArg some (by kernel_rfl))
 f318:=Tryd.func90.trans (congrArg some (by kernel_rfl))
 f319:=Tryd.func91.trans (congrArg some (by kernel_rfl))
 f320:=Tryd.func92.trans (congrArg some (by kernel_rfl))
 f321:=Tryd.func95.trans (congrArg some (by kernel_rfl))
 f322:=Tryd.func96.trans (congrArg some (by kernel_rfl))
 f337:=Tryd.func99.trans (congrArg some (by kernel_rfl))
 f338:=Tryd.func100.trans (congrArg some (by kernel_rfl))
 t0:=Tryd.underlying0
 a0:=Tryd.isAgg0
 z0:=Tryd.sizeOf0
 v0:=Tryd.zeroValue0
 t2:=Tryd.underlying2
 a2:=Tryd.isAgg2
 z2:=Tryd.sizeOf2
 v2:=Tryd.zeroValue2
 t3:=Tryd.underlying3
 a3:=Tryd.isAgg3
 z3:=Tryd.sizeOf3
 v3:=Tryd.zeroValue3
 t4:=Tryd.underlying4
 a4:=Tryd.isAgg4
 z4:=Tryd.sizeOf4
 v4:=Tryd.zeroValue4
 t5:=Tryd.underlying5
 a5:=Tryd.isAgg5
 z5:=Tryd.sizeOf5
 v5:=Tryd.zeroValue5
 t9:=Tryd.underlying9
 a9:=Tryd.isAgg9
 z9:=Tryd.sizeOf9
 v9:=Tryd.zeroValue9
 t20:=Tryd.underlying20
 a20:=Tryd.isAgg20
 z20:=Tryd.sizeOf20
 v20:=Tryd.zeroValue20
 t21:=Tryd.underlying21
 a21:=Tryd.isAgg21
 z21:=Tryd.sizeOf21
 v21:=Tryd.zeroValue21
 t37:=Tryd.underlying22
 a37:=Tryd.isAgg22
 z37:=Tryd.sizeOf22
 v37:=Tryd.zeroValue22
 t46:=Tryd.underlying66
 a46:=Tryd.isAgg66
 z46:=Tryd.sizeOf66
 v46:=Tryd.zeroValue66
 t51:=Tryd.underlying38
 a51:=Tryd.isAgg38
 z51:=Tryd.sizeOf38
 v51:=Tryd.zeroValue38
 t53:=Tryd.underlying31
 a53:=Tryd.isAgg31
 z53:=Tryd.sizeOf31
 v53:=Tryd.zeroValue31
 t75:=Tryd.underlying92
 a75:=Tryd.isAgg92
 z75:=Tryd.sizeOf92
 v75:=Tryd.zeroValue92
 t85:=Tryd.underlying113
 a85:=Tryd.isAgg113
 z85:=Tryd.sizeOf113
 v85:=Tryd.zeroValue113
 t127:=Tryd.underlying110
 a127:=Tryd.isAgg110
 z127:=Tryd.sizeOf110
 v127:=Tryd.zeroValue110
 t143:=Tryd.underlying162
 a143:=Tryd.isAgg162
 z143:=Tryd.sizeOf162
 v143:=Tryd.zeroValue162
 t145:=Tryd.underlying164
 a145:=Tryd.isAgg164
 z145:=Tryd.sizeOf164
 v145:=Tryd.zeroValue164
 t167:=Tryd.underlying137
 a167:=Tryd.isAgg137
 z167:=Tryd.sizeOf137
 v167:=Tryd.zeroValue137
 t168:=Tryd.underlying140
 a168:=Tryd.isAgg140
 z168:=Tryd.sizeOf140
 v168:=Tryd.zeroValue140
 t171:=Tryd.underlying131
 a171:=Tryd.isAgg131
 z171:=Tryd.sizeOf131
 v171:=Tryd.zeroValue131
 t173:=Tryd.underlying134
 a173:=Tryd.isAgg134
 z173:=Tryd.sizeOf134
 v173:=Tryd.zeroValue134
 t175:=Tryd.underlying138
 a175:=Tryd.isAgg138
 z175:=Tryd.sizeOf138
 v175:=Tryd.zeroValue138
 t210:=Tryd.underlying159
 a210:=Tryd.isAgg159
 z210:=Tryd.sizeOf159
 v210:=Tryd.zeroValue159
 t212:=Tryd.underlying145
 a212:=Tryd.isAgg145
 z212:=Tryd.sizeOf145
 v212:=Tryd.zeroValue145
 t213:=Tryd.underlying146
 a213:=Tryd.isAgg146
 z213:=Tryd.sizeOf146
 t232:=Tryd.underlying165
 a232:=Tryd.isAgg165
 z232:=Tryd.sizeOf165
 v232:=Tryd.zeroValue165
 t233:=Tryd.underlying166
 a233:=Tryd.isAgg166
 z233:=Tryd.sizeOf166
 v233:=Tryd.zeroValue166
 g15:=by kernel_rfl
 g16:=by kernel_rfl
 g17:=by kernel_rfl
 g18:=by kernel_rfl
 g19:=by kernel_rfl
 t80:=Tryd.underlying72
 a80:=Tryd.isAgg72
 z80:=Tryd.sizeOf72
 v80:=Tryd.zeroValue72
 i0:=by kernel_rfl
 i2:=by kernel_rfl
 i3:=by kernel_rfl
 i4:=by kernel_rfl
 i5:=by kernel_rfl
 i9:=by kernel_rfl
 i20:=by kernel_rfl
 i21:=by kernel_rfl
 i37:=by kernel_rfl
 i46:=by kernel_rfl
 i51:=by kernel_rfl
 i53:=by kernel_rfl
 i75:=by kernel_rfl
 i80:=by kernel_rfl
 i85:=by kernel_rfl
 i127:=by kernel_rfl
 i143:=by kernel_rfl
 i145:=by kernel_rfl
 i167:=by kernel_rfl
 i168:=by kernel_rfl
 i171:=by kernel_rfl
 i173:=by kernel_rfl
 i175:=by kernel_rfl
 i210:=by kernel_rfl
 i212:=by kernel_rfl
 i232:=by kernel_rfl
 i233:=by kernel_rfl
 m15:=by kernel_rfl
 m16:=by kernel_rfl
 m17:=by kernel_rfl
 m18:=by kernel_rfl
 m19:=by kernel_rfl
 c0:=by kernel_rfl
 c2:=by kernel_rfl
 c3:=by kernel_rfl
 c4:=by kernel_rfl
 c5:=by kernel_rfl
 c9:=by kernel_rfl
 c20:=by kernel_rfl
 c21:=by kernel_rfl
 c37:=by kernel_rfl
 c46:=by kernel_rfl
 c51:=by kernel_rfl
 c53:=by kernel_rfl
 c75:=by kernel_rfl
 c80:=by kernel_rfl
 c85:=by kernel_rfl
 c127:=by kernel_rfl
 c143:=by kernel_rfl
 c145:=by kernel_rfl
 c167:=by kernel_rfl
 c168:=by kernel_rfl
 c171:=by kernel_rfl
 c173:=by kernel_rfl
 c175:=by kernel_rfl
 c210:=by kernel_rfl
 c212:=by kernel_rfl
 c213:=by kernel_rfl
 c232:=by kernel_rfl
 c233:=by kernel_rfl
theorem lib54{s:ByteArray}{v:Int}(h:lC s=some v):FnM Tryd.prog 54 [] [eS s,j64 10,j64 64] (.tup [j64 v,.v .nilIface]) []:=aDV aFc rfl h
theorem aA1 : fH Tryd.prog 54:=fB (by kernel_rfl)
theorem aEw{s:ByteArray}{v:Int}(h:kL s=some (.inr v)):FnM Tryd.prog 54 [] [eS s,j64 10,j64 64] (.tup [j64 v,.ifc 140 (.im (.v (.string qC)))]) []:=aCI aFc rfl rfl (g15:=4) (g16:=5) rfl rfl aGW aGk (aC7 h)
def aE7 : Go.Shelf.Ren:=⟨λ | 173=>55 | 246=>62 | 283=>73 | 284=>74 | 285=>75 | 286=>76 | 129=>89 | 317=>88 | 318=>90 | 319=>91 | 320=>92 | 337=>99 | 338=>100 | n=>n,λ | 2=>2 | 3=>3 | 9=>9 | 4=>4 | 171=>131 | 0=>0 | 53=>31 | 37=>22 | 5=>5 | 173=>134 | 212=>145 | 51=>38 | 20=>20 | 213=>146 | 46=>66 | 232=>165 | 233=>166 | n=>n,λ | 17=>1 | 18=>6 | 19=>7 | n=>n⟩
theorem fmt : LaysM.n173 Tryd.prog aE7 where
 mixed:=by kernel_rfl
 f129:=Tryd.func89.trans (congrArg some (by kernel_rfl))
 f173:=Tryd.func55.trans (congrArg some (by kernel_rfl))
 f246:=Tryd.func62.trans (congrArg some (by kernel_rfl))
 f283:=Tryd.func73.trans (congrArg some (by kernel_rfl))
 f284:=Tryd.func74.trans (congrArg some (by kernel_rfl))
 f285:=Tryd.func75.trans (congrArg some (by kernel_rfl))
 f286:=Tryd.func76.trans (congrArg some (by kernel_rfl))
 f317:=Tryd.func88.trans (congrArg some (by kernel_rfl))
 f318:=Tryd.func90.trans (congrArg some (by kernel_rfl))
 f319:=Tryd.func91.trans (congrArg some (by kernel_rfl))
 f320:=Tryd.func92.trans (congrArg some (by kernel_rfl))
 f337:=Tryd.func99.trans (congrArg some (by kernel_rfl))
 f338:=Tryd.func100.trans (congrArg some (by kernel_rfl))
 t0:=Tryd.underlying0
 a0:=Tryd.isAgg0
 z0:=Tryd.sizeOf0
 v0:=Tryd.zeroValue0
 t2:=Tryd.underlying2
 a2:=Tryd.isAgg2
 z2:=Tryd.sizeOf2
 v2:=Tryd.zeroValue2
 t3:=Tryd.underlying3
 a3:=Tryd.isAgg3
 z3:=Tryd.sizeOf3
 v3:=Tryd.zeroValue3
 t4:=Tryd.underlying4
 a4:=Tryd.isAgg4
 z4:=Tryd.sizeOf4
 v4:=Tryd.zeroValue4
 t5:=Tryd.underlying5
 a5:=Tryd.isAgg5
 z5:=Tryd.sizeOf5
 v5:=Tryd.zeroValue5
 t9:=Tryd.underlying9
 a9:=Tryd.isAgg9
 z9:=Tryd.sizeOf9
 v9:=Tryd.zeroValue9
 t20:=Tryd.underlying20
 a20:=Tryd.isAgg20
 z20:=Tryd.sizeOf20
 v20:=Tryd.zeroValue20
 t37:=Tryd.underlying22
 a37:=Tryd.isAgg22
 z37:=Tryd.sizeOf22
 v37:=Tryd.zeroValue22
 t46:=Tryd.underlying66
 a46:=Tryd.isAgg66
 z46:=Tryd.sizeOf66
 v46:=Tryd.zeroValue66
 t51:=Tryd.underlying38
 a51:=Tryd.isAgg38
 z51:=Tryd.sizeOf38
 v51:=Tryd.zeroValue38
 t53:=Tryd.underlying31
 a53:=Tryd.isAgg31
 z53:=Tryd.sizeOf31
 v53:=Tryd.zeroValue31
 t171:=Tryd.underlying131
 a171:=Tryd.isAgg131
 z171:=Tryd.sizeOf131
 v171:=Tryd.zeroValue131
 t173:=Tryd.underlying134
 a173:=Tryd.isAgg134
 z173:=Tryd.sizeOf134
 v173:=Tryd.zeroValue134
 t212:=Tryd.underlying145
 a212:=Tryd.isAgg145
 z212:=Tryd.sizeOf145
 v212:=Tryd.zeroValue145
 t213:=Tryd.underlying146
 a213:=Tryd.isAgg146
 z213:=Tryd.sizeOf146
 t232:=Tryd.underlying165
 a232:=Tryd.isAgg165
 z232:=Tryd.sizeOf165
 v232:=Tryd.zeroValue165
 t233:=Tryd.underlying166
 a233:=Tryd.isAgg166
 z233:=Tryd.sizeOf166
 v233:=Tryd.zeroValue166
 g17:=by kernel_rfl
 g18:=by kernel_rfl
 g19:=by kernel_rfl
 i0:=by kernel_rfl
 i2:=by kernel_rfl
 i3:=by kernel_rfl
 i4:=by kernel_rfl
 i5:=by kernel_rfl
 i9:=by kernel_rfl
 i20:=by kernel_rfl
 i37:=by kernel_rfl
 i46:=by kernel_rfl
 i51:=by kernel_rfl
 i53:=by kernel_rfl
 i171:=by kernel_rfl
 i173:=by kernel_rfl
 i212:=by kernel_rfl
 i232:=by kernel_rfl
 i233:=by kernel_rfl
 m17:=by kernel_rfl
 m18:=by kernel_rfl
 m19:=by kernel_rfl
theorem lib55{i:Int}{r:ByteArray}(h:aAA i=some r):FnM Tryd.prog 55 [] [j64 i,j64 10] (eS r) []:=aFC fmt rfl (g:=1) aA7 (by kernel_rfl) h
theorem aFE : fH Tryd.prog 55:=fB (by kernel_rfl)
def fS(N:Nat)(a0:ByteArray):Option (Int×Bool):=
 ae (kL a0) λq=>
 lM q (λr2=>
  ae (aAA r2) λr4=>
  cG (!(ByteArray.toList r4==ByteArray.toList a0)) λx5=>
  cG (decide (r2 > 4611686018427387904)) λx6=>
  cG (decide (r2 < (-4611686018427387904))) λx7=>
  cG (cond (cond x5 true x6) true x7) λx8=>
  cond x8 (some ((0,false))) (some ((r2,true)))) (λr3=>
  some ((0,false)))
theorem rN{N a0 r}(h:fS N a0=some r):FnM Tryd.prog 41 [] [(eS a0)] (.tup [(j64 r.1),(eB r.2)]) []:=by
 unfold fS at h;refine At.f iD hT hmo Tryd.func41 rfl h ?_;refine sumI (λr2 hr2=>?_) (λr3 hr3=>?_)
 ·refine At.o 3 (eK [] (lib54 (aDY hr2)) aA1) ?_;refine At.o 6 (aEo (t:=92) (by kernel_rfl) rfl rfl .neq false (by decide) (by kernel_rfl)) ?_;refine At.g [13] 2 ?_;refine At.b 0 (λ_ e=>eK [] (lib55 e) aFE) λr4=>?_;refine lx ?_;intro x5;refine lx ?_;intro x6;refine lx ?_;intro x7;refine lx ?_;intro x8;refine At.g [13] 11 ?_;refine At.c 0 ?_ ?_
  ·apply rt;exact At.r 2
  ·apply rt;exact At.r 3
 ·refine At.o 3 (eK [] (aEw hr3) aA1) ?_;refine At.o 6 (aEs (t:=92) (u:=140) (x:=(.im (.v (.string qC)))) (by kernel_rfl) rfl rfl .neq true (by decide) (by kernel_rfl)) ?_;refine At.g [13,19,23] 17 ?_;apply rt;exact At.r 0
def aI(N:Nat)(a0 a1:Int)(a2:aF):Option (aF×Int):=
 ae (bF N a2) λr1=>
 ae (fS N r1.2) λr2=>
 cG (cond (!r2.2) true (decide (r2.1 < a0))) λx3=>
 cG (cond x3 true (decide (r2.1 > a1))) λx4=>
 cond x4 (
  some ((aF.mk r1.1.gl true,0))) (
  some ((r1.1,r2.1)))
theorem cJ{N a0 a1 a2 r}(h:aI N a0 a1 a2=some r):FnM Tryd.prog 28 [.var (aF.enc a2)] [(.ref 0 [] 0),(j64 a0),(j64 a1)] (j64 r.2) [.var (aF.enc r.1)]:=by
 unfold aI at h;refine At.f iD hT hmo Tryd.func28 rfl h ?_;refine At.b 2 (λ_ e=>aZ [0] (fM e)) λr1=>?_;refine At.b 0 (λ_ e=>aZ [] (rN e)) λr2=>?_;refine lx ?_;intro x3;refine lx ?_;intro x4;refine At.c 17 ?_ ?_
 ·apply rt;exact At.r 5
 ·apply rt;exact At.r 2
def aC(N:Nat)(a0:aF):Option (aF×Int):=
 ae (aI N 0 4294967295 a0) λr1=>
 some ((r1.1,r1.2))
theorem bD{N a0 r}(h:aC N a0=some r):FnM Tryd.prog 22 [.var (aF.enc a0)] [(.ref 0 [] 0)] (j64 r.2) [.var (aF.enc r.1)]:=by
 unfold aC at h;refine At.f iD hT hmo Tryd.func22 rfl h ?_;refine At.b 2 (λ_ e=>aZ [0] (cJ e)) λr1=>?_;apply rt;exact At.r 1
def fJ(N:Nat)(a0:Int):Option (Int):=
 cG (cond (decide (a0>=48)) (decide (a0<=57)) false) λx1=>
 cond x1 (
  some (I64 (I32 (a0 - 48)))) (
  cG (cond (decide (a0>=97)) (decide (a0<=102)) false) λx2=>
  cond x2 (
   cG (I64 ((I64 (I32 (a0 - 97)))+10)) λx3=>
   some x3) (
   some (-1)))
theorem uC{N a0 r}(h:fJ N a0=some r):FnM Tryd.prog 38 [] [(j32 a0)] (j64 r) []:=by
 unfold fJ at h;refine At.f iD hT hmo Tryd.func38 rfl h ?_;refine lx ?_;intro x1;refine At.c 8 ?_ ?_
 ·apply rt;exact At.r 4
 ·refine lx ?_;intro x2;refine At.c 7 ?_ ?_
  ·refine lx ?_;intro x3;apply rt;exact At.r 5
  ·apply rt;exact At.r 1
def cV(N:Nat)(a0:ByteArray):Nat->(List Int)->Nat->Int->Option (Sum ((List Int)×Nat) ((List Int)×Int))
 | 0,_,_,_=>none
 | k+1,s8,s9,s10=>
  cond (decide (s9 < ByteArray.size a0)) (
   ae (fJ N (iS a0 s9)) λr11=>
   cond (decide (r11 < 0)) (
    some (Sum.inr (([],5)))) (
    cG (Int.tmod ((s9:Int)) 2) λx12=>
    cond (x12==0) (
     cV N a0 k s8 (fU a0 s9) r11) (
     cG (bor .i64 (shl .i64 s10 4) r11) λx13=>
     ae (oD 1 s8 (([U8 x13]:List Int))) λz14=>
     cV N a0 k z14 (fU a0 s9) s10))) (
   some (Sum.inl ((s8,s9))))
def eD(N:Nat)(a0:ByteArray):Option ((List Int)×Int):=
 cG (ByteArray.toList a0==ByteArray.toList (ByteArray.mk #[45])) λx1=>
 cond x1 (
  some (([],0))) (
  cG ((ByteArray.size a0:Int)) λx2=>
  cG ((ByteArray.size a0:Int)) λx3=>
  cG (cond (x2==0) true ((Int.tmod x3 2)==1)) λx4=>
  cond x4 (
   some (([],5))) (
   cG ((ByteArray.size a0:Int)) λx5=>
   ae (mkO 1 (I64 (Int.tdiv x5 2))) λ_=>
   ae (cV N a0 N [] 0 0) λo=>lM o (λp7=>
    some ((p7.1,0))) (λr=>some r)))
theorem tQ{N a0 r}(h:eD N a0=some r):FnM Tryd.prog 23 [] [(eS a0)] (.tup [(eL 1 k8 r.1),(j64 r.2)]) []:=by
 unfold eD at h;refine At.f iD hT hmo Tryd.func23 rfl h ?_;refine lx ?_;intro x1;refine At.c 4 ?_ ?_
 ·apply rt;exact At.r 2
 ·refine lx ?_;intro x2;refine lx ?_;intro x3;refine lx ?_;intro x4;refine At.c 9 ?_ ?_
  ·apply rt;exact At.r 2
  ·refine lx ?_;intro x5;refine At.b 3 (λ_ e=>aFD hT k8 (k:=1) (z:=(.v (.int .u8 0))) (kd := .int .u8) e (by kernel_rfl) (by kernel_rfl)) λu6=>?_;refine At.o 3 (aEX (t:=9) (s:=a0) rfl (by kernel_rfl) (by kernel_rfl)) ?_;refine At.LS 0 [] 2 (λp7=>([(4,(eO 0 1 k8 p7.1))],[(0,.tail (p7.1.length*1)),(1,.mp (.it a0 p7.2))],[])) (λop7 J k=>∃s8 s9 s10,cV N a0 k s8 s9 s10=some op7/\J [25] 2 [(4,(eO 0 1 k8 s8)),(5,(j64 s10))] [(0,.tail (s8.length*1)),(1,.mp (.it a0 s9))] []) N (λ_ h=>⟨_,_,_,h,jr⟩) (λop7 g7 k s hI=>?_) λp7=>?_
   ·obtain⟨s8,s9,s10,h,hj⟩:=hI;cases k with
    | zero=>cases h
    | succ k=>
     refine At.jr hj ?_ h;refine boI (λhc=>?_) (λhc=>?_)
     ·refine At.o 0 (aDK (s:=a0) (p:=s9) (id:=1) hc (by kernel_rfl) (by kernel_rfl) (by kernel_rfl)) ?_;refine At.b 7 (λ_ e=>aZ [] (uC e)) λr11=>?_;refine At.c 3 ?_ ?_
      ·intro e;apply aAN g7 e;exact At.r 2
      ·refine lx ?_;intro x12;refine At.c 3 ?_ ?_
       ·exact λh=>At.k 2 ⟨_,_,_,h,jr⟩
       ·refine lx ?_;intro x13;refine At.o 6 (bO hT (x:=(.sl 1 1 [(k8 (U8 x13))]))) ?_;refine At.b 0 (λ_ e=>iW hT k8 (id:=0) (k:=1) e) λz14=>?_;exact λh=>At.k 1 ⟨_,_,_,h,jr⟩
     ·refine At.o 0 (aDF (s:=a0) (p:=s9) (id:=1) hc (by kernel_rfl) (by kernel_rfl) (by kernel_rfl)) ?_;apply rt;exact At.xs 2
   ·apply rt;exact At.r 3
def bK(N:Nat)(a0:aF):Option (aF×aL):=
 ae (aC N a0) λr1=>
 ae (aC N r1.1) λr2=>
 ae (aC N r2.1) λr3=>
 ae (aC N r3.1) λr4=>
 some ((r4.1,aL.mk r1.2 r2.2 r3.2 r4.2 (aK.mk (av 9 0) (bG.mk 0 0 0))))
theorem iZ{N a0 r}(h:bK N a0=some r):FnM Tryd.prog 24 [.var (aF.enc a0)] [(.ref 0 [] 0)] (aL.enc r.2) [.var (aF.enc r.1)]:=by
 unfold bK at h;refine At.f iD hT hmo Tryd.func24 rfl h ?_;refine At.b 2 (λ_ e=>aZ [0] (bD e)) λr1=>?_;refine At.b 1 (λ_ e=>aZ [0] (bD e)) λr2=>?_;refine At.b 1 (λ_ e=>aZ [0] (bD e)) λr3=>?_;refine At.b 1 (λ_ e=>aZ [0] (bD e)) λr4=>?_;apply rt;exact At.r 2
def aW(N:Nat)(a0:aF):Option (aF×Int):=
 ae (aI N (-4611686018427387904) 4611686018427387904 a0) λr1=>
 some ((r1.1,r1.2))
theorem dI{N a0 r}(h:aW N a0=some r):FnM Tryd.prog 39 [.var (.ref 1 [] 0),.var (aF.enc a0)] [(.ref 0 [] 0)] (j64 r.2) [.var (.ref 1 [] 0),.var (aF.enc r.1)]:=by
 unfold aW at h;refine At.f iD hT hmo Tryd.func39 rfl h ?_;refine At.b 2 (λ_ e=>aZ [1] (cJ e)) λr1=>?_;apply rt;exact At.r 1
def bL(N:Nat)  : Nat->aF->(Vector Int 9)->Int->Option (aF×(Vector Int 9))
 | 0,_,_,_=>none
 | k+1,s2,s3,s4=>
  cond (decide (s4 < 9)) (
   ae (aW N s2) λr5=>
   ae (aCF s4 9) λ_=>
   ae (s3.toList[s4.toNat]?) λe7=>
   bL N k r5.1 (s3.setIfInBounds s4.toNat r5.2) (I64 (s4+1))) (
   some ((s2,s3)))
def bX(N:Nat)(a0:aF):Option (aF×aK):=
 ae (bL N N a0 (av 9 0) 0) λp1=>
 ae (aW N p1.1) λr8=>
 ae (aW N r8.1) λr9=>
 ae (aW N r9.1) λr10=>
 some ((r10.1,aK.mk p1.2 (bG.mk r8.2 r9.2 r10.2)))
theorem lT{N a0 r}(h:bX N a0=some r):FnM Tryd.prog 25 [.var (aF.enc a0)] [(.ref 0 [] 0)] (aK.enc r.2) [.var (aF.enc r.1)]:=by
 unfold bX at h;refine At.f iD hT hmo Tryd.func25 rfl h ?_;refine At.o 3 (aBf (x:=(.fn (.func 39) [] [(.ref 1 [] 0)])) (by kernel_rfl) (by kernel_rfl)) ?_;refine At.L 2 [2,3,4] 4 (λp1=>([],[(0,.var (aF.enc p1.1)),(3,.var (.st 12 [(eA 9 1 j64 p1.2),(.st 3 [(j64 0),(j64 0),(j64 0)])]))],[])) (λp1 J k=>∃s2 s3 s4,bL N k s2 s3 s4=some p1/\J [2,3,4] 4 [(7,(j64 s4))] [(0,.var (aF.enc s2)),(3,.var (.st 12 [(eA 9 1 j64 s3),(.st 3 [(j64 0),(j64 0),(j64 0)])]))] []) N (λ_ h=>⟨_,_,_,h,jr⟩) (λp1 k s hI=>?_) λp1=>?_
 ·obtain⟨s2,s3,s4,h,hj⟩:=hI;cases k with
  | zero=>cases h
  | succ k=>
   refine At.jr hj ?_ h;refine At.c 1 ?_ ?_
   ·refine At.b 4 (λ_ e=>aZ [1,0] (dI e)) λr5=>?_;refine At.b 1 (λ_ e=>aE1 hT (k:=1) 3 [0] 0 e) λu6=>?_;refine At.b 0 (λ_ e=>aES hT j64 1 s3 e r5.2 (by kernel_rfl) (by kernel_rfl) (H':=[.var (aF.enc r5.1),.var (.ref 0 [] 0),.var (.st 12 [(eA 9 1 j64 (av 9 0)),(.st 3 [(j64 0),(j64 0),(j64 0)])]),.var (.st 12 [(eA 9 1 j64 (s3.setIfInBounds s4.toNat r5.2)),(.st 3 [(j64 0),(j64 0),(j64 0)])])])) λe7=>?_;exact λh=>At.k 2 ⟨_,_,_,h,jr⟩
   ·apply rt;exact At.x 0
 ·refine At.b 1 (λ_ e=>aZ [1,0] (dI e)) λr8=>?_;refine At.b 1 (λ_ e=>aZ [1,0] (dI e)) λr9=>?_;refine At.b 1 (λ_ e=>aZ [1,0] (dI e)) λr10=>?_;apply rt;exact At.r 5
def aE(N:Nat)(a0:aF):Option (aF×Int):=
 ae (aI N 0 255 a0) λr1=>
 some ((r1.1,r1.2))
theorem bM{N a0 r}(h:aE N a0=some r):FnM Tryd.prog 26 [.var (aF.enc a0)] [(.ref 0 [] 0)] (j64 r.2) [.var (aF.enc r.1)]:=by
 unfold aE at h;refine At.f iD hT hmo Tryd.func26 rfl h ?_;refine At.b 2 (λ_ e=>aZ [0] (cJ e)) λr1=>?_;apply rt;exact At.r 1
def aV(N:Nat)(a0:aF):Option (aF×Int):=
 ae (aI N (-2147483648) 2147483647 a0) λr1=>
 some ((r1.1,r1.2))
theorem eW{N a0 r}(h:aV N a0=some r):FnM Tryd.prog 53 [.var (.ref 1 [] 0),.var (aF.enc a0)] [(.ref 0 [] 0)] (j64 r.2) [.var (.ref 1 [] 0),.var (aF.enc r.1)]:=by
 unfold aV at h;refine At.f iD hT hmo Tryd.func53 rfl h ?_;refine At.b 2 (λ_ e=>aZ [1] (cJ e)) λr1=>?_;apply rt;exact At.r 1
def aQ(N:Nat)(a0:aF):Option (aF×aA):=
 ae (aV N a0) λr1=>
 ae (aV N r1.1) λr2=>
 ae (aV N r2.1) λr3=>
 some ((r3.1,aA.mk r1.2 r2.2 r3.2))
theorem dX{N a0 r}(h:aQ N a0=some r):FnM Tryd.prog 40 [.var (aF.enc a0)] [(.ref 0 [] 0)] (aA.enc r.2) [.var (aF.enc r.1)]:=by
 unfold aQ at h;refine At.f iD hT hmo Tryd.func40 rfl h ?_;refine At.o 2 (aBf (x:=(.fn (.func 53) [] [(.ref 1 [] 0)])) (by kernel_rfl) (by kernel_rfl)) ?_;refine At.b 2 (λ_ e=>aZ [1,0] (eW e)) λr1=>?_;refine At.b 1 (λ_ e=>aZ [1,0] (eW e)) λr2=>?_;refine At.b 1 (λ_ e=>aZ [1,0] (eW e)) λr3=>?_;apply rt;exact At.r 2
def bY(N:Nat)(a0:aF):Option (aF×aP):=
 ae (aE N a0) λr1=>
 ae (aE N r1.1) λr2=>
 ae (aE N r2.1) λr3=>
 ae (aE N r3.1) λr4=>
 ae (aE N r4.1) λr5=>
 ae (aI N 0 1 r5.1) λr6=>
 ae (aC N r6.1) λr7=>
 ae (aC N r7.1) λr8=>
 cG (bor .u64 (shl .u64 (U64 r7.2) 32) (U64 r8.2)) λx9=>
 ae (aQ N r8.1) λr10=>
 ae (aQ N r10.1) λr11=>
 ae (aQ N r11.1) λr12=>
 ae (aQ N r12.1) λr13=>
 ae (aC N r13.1) λr14=>
 ae (aC N r14.1) λr15=>
 some ((r15.1,aP.mk r1.2 r2.2 r3.2 r4.2 r5.2 ((bor .u64 (shl .u64 (U64 r7.2) 32) (U64 r8.2))) (aR.mk r10.2 r11.2 r12.2 r13.2 r14.2 r15.2) (r6.2==1)))
theorem mU{N a0 r}(h:bY N a0=some r):FnM Tryd.prog 27 [.var (aF.enc a0)] [(.ref 0 [] 0)] (aP.enc r.2) [.var (aF.enc r.1)]:=by
 unfold bY at h;refine At.f iD hT hmo Tryd.func27 rfl h ?_;refine At.b 2 (λ_ e=>aZ [0] (bM e)) λr1=>?_;refine At.b 1 (λ_ e=>aZ [0] (bM e)) λr2=>?_;refine At.b 1 (λ_ e=>aZ [0] (bM e)) λr3=>?_;refine At.b 1 (λ_ e=>aZ [0] (bM e)) λr4=>?_;refine At.b 1 (λ_ e=>aZ [0] (bM e)) λr5=>?_;refine At.b 4 (λ_ e=>aZ [0] (cJ e)) λr6=>?_;refine At.b 4 (λ_ e=>aZ [0] (bD e)) λr7=>?_;refine At.b 5 (λ_ e=>aZ [0] (bD e)) λr8=>?_;refine lx ?_;intro x9;refine At.b 5 (λ_ e=>aZ [0] (dX e)) λr10=>?_;refine At.b 1 (λ_ e=>aZ [0] (dX e)) λr11=>?_;refine At.b 1 (λ_ e=>aZ [0] (dX e)) λr12=>?_;refine At.b 1 (λ_ e=>aZ [0] (dX e)) λr13=>?_;refine At.b 1 (λ_ e=>aZ [0] (bD e)) λr14=>?_;refine At.b 1 (λ_ e=>aZ [0] (bD e)) λr15=>?_;apply rt;exact At.r 5
def aJ(N:Nat)(r4:(List ByteArray))(r3:aF×ByteArray):Nat->Int->Int->Option (Int)
 | 0,_,_=>none
 | k+1,s6,s7=>
  cG (decide (s7 < ((r4.length:Int)))) λx8=>
  cond x8 (
   ae (ae (idx r4 s7) λe10=>
   cG (ByteArray.toList e10==ByteArray.toList r3.2) λx11=>
   cG (!(ByteArray.toList e10==ByteArray.toList (ByteArray.mk #[]))) λx12=>
   cond (cond x11 x12 false) (some s7) (some s6)) λp9=>
   aJ N r4 r3 k p9 (I64 (s7+1))) (
   some s6)
def aG(N:Nat)(a0:ByteArray):Option (aD×Int):=
 cG ((ByteArray.size a0:Int)) λx1=>
 cond (decide (x1 > 262144)) (
  some ((aD.mk 0 0 [] (aL.mk 0 0 0 0 (aK.mk (av 9 0) (bG.mk 0 0 0))) 0 (aP.mk 0 0 0 0 0 0 (aR.mk (aA.mk 0 0 0) (aA.mk 0 0 0) (aA.mk 0 0 0) (aA.mk 0 0 0) 0 0) false) 0 0 0 0 0,3))) (
  ae (aN N a0 (ByteArray.mk #[32])) λr2=>
  ae (bF N (aF.mk r2 false)) λr3=>
  ae (hY N ) λr4=>
  ae (aJ N r4 r3 N 0 0) λp5=>
  ae (cond (p5==1) (
   ae (aC N r3.1) λr14=>
   ae (bF N r14.1) λr15=>
   ae (eD N r15.2) λr16=>
   cG (cond r15.1.gA9 true (r16.2 != 0)) λx17=>
   cG (decide (((r16.1.length:Int)) > 65535)) λx18=>
   some ((aD.mk p5 r14.2 r16.1 (aL.mk 0 0 0 0 (aK.mk (av 9 0) (bG.mk 0 0 0))) 0 (aP.mk 0 0 0 0 0 0 (aR.mk (aA.mk 0 0 0) (aA.mk 0 0 0) (aA.mk 0 0 0) (aA.mk 0 0 0) 0 0) false) 0 0 0 0 0,aF.mk r15.1.gl (cond (cond r15.1.gA9 true (r16.2 != 0)) true (decide (((r16.1.length:Int)) > 65535)))))) (
   cond (p5==2) (
    ae (aC N r3.1) λr19=>
    some ((aD.mk p5 r19.2 [] (aL.mk 0 0 0 0 (aK.mk (av 9 0) (bG.mk 0 0 0))) 0 (aP.mk 0 0 0 0 0 0 (aR.mk (aA.mk 0 0 0) (aA.mk 0 0 0) (aA.mk 0 0 0) (aA.mk 0 0 0) 0 0) false) 0 0 0 0 0,r19.1))) (
    cond (p5==3) (
     ae (bK N r3.1) λr20=>
     ae (bX N r20.1) λr21=>
     some ((aD.mk p5 0 [] (aL.mk r20.2.gA0 r20.2.gV r20.2.gR r20.2.gN r21.2) 0 (aP.mk 0 0 0 0 0 0 (aR.mk (aA.mk 0 0 0) (aA.mk 0 0 0) (aA.mk 0 0 0) (aA.mk 0 0 0) 0 0) false) 0 0 0 0 0,r21.1))) (
     cond (p5==4) (
      ae (bK N r3.1) λr22=>
      some ((aD.mk p5 0 [] r22.2 0 (aP.mk 0 0 0 0 0 0 (aR.mk (aA.mk 0 0 0) (aA.mk 0 0 0) (aA.mk 0 0 0) (aA.mk 0 0 0) 0 0) false) 0 0 0 0 0,r22.1))) (
      cond (p5==5) (
       ae (aE N r3.1) λr23=>
       ae (bY N r23.1) λr24=>
       ae (aI N 0 65535 r24.1) λr25=>
       some ((aD.mk p5 0 [] (aL.mk 0 0 0 0 (aK.mk (av 9 0) (bG.mk 0 0 0))) r23.2 r24.2 r25.2 0 0 0 0,r25.1))) (
       ae (cond (p5==6) (some (p5==6)) (some (p5==9))) λp26=>
       cond p26 (
        ae (aE N r3.1) λr27=>
        some ((aD.mk p5 0 [] (aL.mk 0 0 0 0 (aK.mk (av 9 0) (bG.mk 0 0 0))) r27.2 (aP.mk 0 0 0 0 0 0 (aR.mk (aA.mk 0 0 0) (aA.mk 0 0 0) (aA.mk 0 0 0) (aA.mk 0 0 0) 0 0) false) 0 0 0 0 0,r27.1))) (
        cond (p5==7) (
         ae (aE N r3.1) λr28=>
         ae (aE N r28.1) λr29=>
         ae (aC N r29.1) λr30=>
         ae (aC N r30.1) λr31=>
         some ((aD.mk p5 0 [] (aL.mk 0 0 0 0 (aK.mk (av 9 0) (bG.mk 0 0 0))) r28.2 (aP.mk 0 0 0 0 0 0 (aR.mk (aA.mk 0 0 0) (aA.mk 0 0 0) (aA.mk 0 0 0) (aA.mk 0 0 0) 0 0) false) 0 r29.2 (U32 r30.2) r31.2 0,r31.1))) (
         cond (p5==8) (
          ae (aE N r3.1) λr32=>
          ae (aE N r32.1) λr33=>
          some ((aD.mk p5 0 [] (aL.mk 0 0 0 0 (aK.mk (av 9 0) (bG.mk 0 0 0))) r32.2 (aP.mk 0 0 0 0 0 0 (aR.mk (aA.mk 0 0 0) (aA.mk 0 0 0) (aA.mk 0 0 0) (aA.mk 0 0 0) 0 0) false) 0 r33.2 0 0 0,r33.1))) (
          cond (p5==10) (
           ae (aC N r3.1) λr34=>
           some ((aD.mk p5 0 [] (aL.mk 0 0 0 0 (aK.mk (av 9 0) (bG.mk 0 0 0))) 0 (aP.mk 0 0 0 0 0 0 (aR.mk (aA.mk 0 0 0) (aA.mk 0 0 0) (aA.mk 0 0 0) (aA.mk 0 0 0) 0 0) false) 0 0 0 0 r34.2,r34.1))) (
           some ((aD.mk p5 0 [] (aL.mk 0 0 0 0 (aK.mk (av 9 0) (bG.mk 0 0 0))) 0 (aP.mk 0 0 0 0 0 0 (aR.mk (aA.mk 0 0 0) (aA.mk 0 0 0) (aA.mk 0 0 0) (aA.mk 0 0 0) 0 0) false) 0 0 0 0 0,aF.mk r3.1.gl true)))))))))))) λp13=>
  cG ((p13.2.gl.length:Int)) λx35=>
  cG (cond p13.2.gA9 true (decide (x35 > 0))) λx36=>
  cond x36 (
   some ((aD.mk 0 0 [] (aL.mk 0 0 0 0 (aK.mk (av 9 0) (bG.mk 0 0 0))) 0 (aP.mk 0 0 0 0 0 0 (aR.mk (aA.mk 0 0 0) (aA.mk 0 0 0) (aA.mk 0 0 0) (aA.mk 0 0 0) 0 0) false) 0 0 0 0 0,5))) (
   some ((p13.1,0))))
theorem iV{N a0 r}(h:aG N a0=some r):FnM Tryd.prog 7 [] [(eS a0)] (.tup [(aD.enc r.1),(j64 r.2)]) []:=by
 unfold aG at h;refine At.f iD hT hmo Tryd.func7 rfl h ?_;refine lx ?_;intro x1;refine At.c 5 ?_ ?_
 ·apply rt;exact At.r 3
 ·refine At.b 1 (λ_ e=>aZ [] (qO e)) λr2=>?_;refine At.b 4 (λ_ e=>aZ [1] (fM e)) λr3=>?_;refine At.b 1 (λ_ e=>aZ [] (nI e)) λr4=>?_;refine At.L 2 [2,4] 2 (λp5=>([],[(0,.var (.st 46 [(j64 p5),(j64 0),(.v (.slice none 0 0)),zD,(j64 0),yU,(j64 0),(j64 0),(k32 0),(j64 0),(j64 0)]))],[])) (λp5 J k=>∃s6 s7,aJ N r4 r3 k s6 s7=some p5/\J [2,4,5,20,21] 2 [(22,(j64 s7))] [(0,.var (.st 46 [(j64 s6),(j64 0),(.v (.slice none 0 0)),zD,(j64 0),yU,(j64 0),(j64 0),(k32 0),(j64 0),(j64 0)]))] []) N (λ_ h=>⟨_,_,h,jr⟩) (λp5 k s hI=>?_) λp5=>?_
  ·obtain⟨s6,s7,h,hj⟩:=hI;cases k with
   | zero=>cases h
   | succ k=>
    refine At.jr hj ?_ h;refine lx ?_;intro x8;refine At.c 1 ?_ ?_
    ·refine At.J 0 2 [2,4,5,20,21,22] 2 (λp9=>([],[(0,.var (.st 46 [(j64 p9),(j64 0),(.v (.slice none 0 0)),zD,(j64 0),yU,(j64 0),(j64 0),(k32 0),(j64 0),(j64 0)]))],[])) (λp9=>?_) λp9=>?_
     ·refine At.b 1 (λ_ e=>iC hT eS e) λe10=>?_;refine lx ?_;intro x11;refine lx ?_;intro x12;refine At.c 10 ?_ ?_
      ·apply rt;exact At.jn 3
      ·apply rt;exact At.jn 0
     ·exact λh=>At.k 2 ⟨_,_,h,jr⟩
    ·apply rt;exact At.x 0
  ·refine At.J 0 1 [2,4] 2 (λp13=>([],[(0,.var (aD.enc p13.1)),(1,.var (aF.enc p13.2))],[])) (λp13=>?_) λp13=>?_
   ·refine At.c 4 ?_ ?_
    ·refine At.b 1 (λ_ e=>aZ [1] (bD e)) λr14=>?_;refine At.b 3 (λ_ e=>aZ [1] (fM e)) λr15=>?_;refine At.b 0 (λ_ e=>aZ [] (tQ e)) λr16=>?_;refine lx ?_;intro x17;refine lx ?_;intro x18;apply rt;exact At.jn 25
    ·refine At.c 2 ?_ ?_
     ·refine At.b 1 (λ_ e=>aZ [1] (bD e)) λr19=>?_;apply rt;exact At.jn 2
     ·refine At.c 2 ?_ ?_
      ·refine At.b 1 (λ_ e=>aZ [1] (iZ e)) λr20=>?_;refine At.b 3 (λ_ e=>aZ [1] (lT e)) λr21=>?_;apply rt;exact At.jn 3
      ·refine At.c 2 ?_ ?_
       ·refine At.b 1 (λ_ e=>aZ [1] (iZ e)) λr22=>?_;apply rt;exact At.jn 2
       ·refine At.c 2 ?_ ?_
        ·refine At.b 1 (λ_ e=>aZ [1] (bM e)) λr23=>?_;refine At.b 1 (λ_ e=>aZ [1] (mU e)) λr24=>?_;refine At.b 1 (λ_ e=>aZ [1] (cJ e)) λr25=>?_;apply rt;exact At.jn 6
        ·refine At.J 0 1 [2,4,38] 2 (λp26=>([(101,(eB p26))],[],[])) (λp26=>?_) λp26=>?_
         ·refine At.c 2 ?_ ?_
          ·apply rt;exact At.jn 0
          ·apply rt;exact At.jn 2
         ·refine At.c 0 ?_ ?_
          ·refine At.b 1 (λ_ e=>aZ [1] (bM e)) λr27=>?_;apply rt;exact At.jn 2
          ·refine At.c 2 ?_ ?_
           ·refine At.b 1 (λ_ e=>aZ [1] (bM e)) λr28=>?_;refine At.b 1 (λ_ e=>aZ [1] (bM e)) λr29=>?_;refine At.b 1 (λ_ e=>aZ [1] (bD e)) λr30=>?_;refine At.b 2 (λ_ e=>aZ [1] (bD e)) λr31=>?_;apply rt;exact At.jn 8
           ·refine At.c 2 ?_ ?_
            ·refine At.b 1 (λ_ e=>aZ [1] (bM e)) λr32=>?_;refine At.b 1 (λ_ e=>aZ [1] (bM e)) λr33=>?_;apply rt;exact At.jn 4
            ·refine At.c 2 ?_ ?_
             ·refine At.b 1 (λ_ e=>aZ [1] (bD e)) λr34=>?_;apply rt;exact At.jn 2
             ·apply rt;exact At.jn 4
   ·refine lx ?_;intro x35;refine lx ?_;intro x36;refine At.c 12 ?_ ?_
    ·apply rt;exact At.r 3
    ·apply rt;exact At.r 3
def fK(N:Nat)(a0 a1:(List Int)):Option (Bool):=
 cG (ByteArray.toList (mA a0)==ByteArray.toList (mA a1)) λx1=>
 some x1
theorem tW{N a0 a1 r}(h:fK N a0 a1=some r):FnM Tryd.prog 9 [] [(eL 1 k8 a0),(eL 1 k8 a1)] (eB r) []:=by
 unfold fK at h;refine At.f iD hT hmo Tryd.func9 rfl h ?_;refine At.o 2 (wW hT a0 (v:=(eL 1 k8 a0)) (e:=5) (by kernel_rfl) (by kernel_rfl) (by kernel_rfl)) ?_;refine At.o 1 (wW hT a1 (v:=(eL 1 k8 a1)) (e:=5) (by kernel_rfl) (by kernel_rfl) (by kernel_rfl)) ?_;refine lx ?_;intro x1;apply rt;exact At.r 2
def cU(N:Nat):Option (Bool):=
 ae (aG N str_7) λr1=>
 ae (aG N str_8) λr2=>
 cG (cond (r1.2==0) (r1.1.gD==9) false) λx3=>
 cG (cond x3 (r1.1.gF==3) false) λx4=>
 cG (cond x4 (r2.2==5) false) λx5=>
 some x5
theorem jW{N r}(h:cU N=some r):FnM Tryd.prog 10 [] [] (eB r) []:=by
 unfold cU at h;refine At.f iD hT hmo Tryd.func10 rfl h ?_;refine At.b 1 (λ_ e=>aZ [] (iV e)) λr1=>?_;refine At.b 6 (λ_ e=>aZ [] (iV e)) λr2=>?_;refine lx ?_;intro x3;refine lx ?_;intro x4;refine lx ?_;intro x5;apply rt;exact At.r 23
def dW(N:Nat)(a0:aD)(a1:ByteArray):Option (Bool):=
 ae (eX N a0) λr1=>
 cG ((ByteArray.size a1:Int)) λx2=>
 ae (aAF a1 0 (wD x2 1500)) λs3=>
 ae (ae (aU N r1) λr5=>
 cond (r5.2==0) (
  ae (aG N r5.1) λr6=>
  ae (aS N ([r1])) λr7=>
  ae (aS N ([r6.1])) λr8=>
  ae (cG (cond (r6.2 != 0) true (r7.2 != 0)) λx10=>
  cG (cond x10 true (r8.2 != 0)) λx11=>
  cond x11 (
   some true) (
   ae (fK N r7.1 r8.1) λr12=>
   some (!r12))) λp9=>
  cond p9 (some (Sum.inr false)) (some (Sum.inl (())))) (
  some (Sum.inl (())))) λo=>lM o (λp4=>
  ae (aG N s3) λr13=>
  cond (r13.2 != 0) (
   ae (cG ((r13.1.gL.length:Int)) λx15=>
   cG (cond (r13.1.gD==0) (x15==0) false) λx16=>
   cond x16 (
    ae (cU N ) λr17=>
    some r17) (
    some false)) λp14=>
   some p14) (
   ae (aU N r13.1) λr18=>
   ae (cG (ByteArray.toList r18.1==ByteArray.toList s3) λx20=>
   cG (cond (r18.2==0) x20 false) λx21=>
   cond x21 (
    ae (cU N ) λr22=>
    some r22) (
    some false)) λp19=>
   some p19)) (λr=>some r)
theorem lO{N a0 a1 r}(h:dW N a0 a1=some r):FnM Tryd.prog 3 [] [(aD.enc a0),(eS a1)] (eB r) []:=by
 unfold dW at h;refine At.f iD hT hmo Tryd.func3 rfl h ?_;refine bi λr1 hr1=>?_;refine lx ?_;intro x2;refine bi λs3 hs3=>?_;refine At.d 2 (dE2 1 (aD.enc r1) (λ_=>wX (pO hr1)) (dE1 6 (λ_=>aE9 hT hs3 (by kernel_rfl) (by kernel_rfl)) dE0)) dF0 ?_;refine At.JS 0 1 [1] 1 (λp4=>([],[],[])) (λop4 g4=>?_) λp4=>?_
 ·refine At.b 1 (λ_ e=>aZ [] (nH e)) λr5=>?_;refine At.c 7 ?_ ?_
  ·refine At.b 1 (λ_ e=>aZ [] (iV e)) λr6=>?_;refine At.o 7 (bO hT (x:=(.sl 46 1 [(aD.enc r1)]))) ?_;refine At.b 0 (λ_ e=>aZ [] (jC e)) λr7=>?_;refine At.o 6 (bO hT (x:=(.sl 46 1 [(aD.enc r6.1)]))) ?_;refine At.b 0 (λ_ e=>aZ [] (jC e)) λr8=>?_;refine At.J 5 0 [1] 2 (λp9=>([(63,(eB p9))],[],[])) (λp9=>?_) λp9=>?_
   ·refine lx ?_;intro x10;refine lx ?_;intro x11;refine At.s 58 11 ?_ ?_
    ·refine At.g [58] 5 ?_;apply rt;exact At.jn 0
    ·refine At.g [58] 2 ?_;refine At.b 0 (λ_ e=>aZ [] (tW e)) λr12=>?_;refine At.g [58] 2 ?_;apply rt;exact At.jn 0
   ·refine At.c 0 ?_ ?_
    ·intro e;apply aAN g4 e;exact At.r 1
    ·apply rt;exact At.jsn 0
  ·apply rt;exact At.jsn 0
 ·refine At.b 1 (λ_ e=>aZ [] (iV e)) λr13=>?_;refine At.c 8 ?_ ?_
  ·refine At.J 0 0 [] 2 (λp14=>([(4,(eB p14))],[],[])) (λp14=>?_) λp14=>?_
   ·refine lx ?_;intro x15;refine lx ?_;intro x16;refine At.s 80 10 ?_ ?_
    ·refine At.b 0 (λ_ e=>aZ [] (jW e)) λr17=>?_;refine At.g [80] 2 ?_;apply rt;exact At.jn 0
    ·refine At.g [80] 3 ?_;apply rt;exact At.jn 0
   ·apply rt;exact At.r 0
  ·refine At.b 1 (λ_ e=>aZ [] (nH e)) λr18=>?_;refine At.J 5 0 [] 2 (λp19=>([(4,(eB p19))],[],[])) (λp19=>?_) λp19=>?_
   ·refine lx ?_;intro x20;refine lx ?_;intro x21;refine At.s 95 8 ?_ ?_
    ·refine At.b 0 (λ_ e=>aZ [] (jW e)) λr22=>?_;refine At.g [95] 2 ?_;apply rt;exact At.jn 0
    ·refine At.g [95] 3 ?_;apply rt;exact At.jn 0
   ·apply rt;exact At.r 0
end Go.UK
