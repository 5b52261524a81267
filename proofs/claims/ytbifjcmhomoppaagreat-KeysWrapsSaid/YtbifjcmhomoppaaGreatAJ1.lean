/- A part of the proof: what the functions of the program compute. -/
import Derived.Test.YtbifjcmhomoppaaGreatWT
open Int renaming tdiv→cv,tmod→br,toNat→af
open List renaming length_map→cd,map→ek,replicate→ak
open Option renaming bind→ae
open Vector renaming replicate→ag
namespace Go.UK
open Go Go.Proofs
set_option maxRecDepth 20000
set_option maxHeartbeats 40000000
set_option linter.all false
attribute [local irreducible] adv aKp aFN aAk brPt aNx aIQ sJ aBF aNU dS qH fK aGb aLg aJ8 lPt owp awl aw FnM aLZ opS Stab TOK Big
def aFg : Nat->Bool:=imL [1]
def uO(N:Nat)(a0:aL):Option (aL):=
 aN ((a0.gG.length:Int)) λx1=>
 ae (dU a0.gG 0 (mY x1 70)) λs2=>
 aN (mY ((a0.gO.length:Int)) 70) λx3=>
 ae (dU a0.gO 0 x3) λs4=>
 aN ((a0.gK.length:Int)) λx5=>
 ae (dU a0.gK 0 (mY x5 70)) λs6=>
 some (aL.mk s2 s4 s6)
theorem aE8{N a0 r}(h:uO N a0=some r):FnM Tryz.prog 28 [] [(aL.enc a0)] (aL.enc r) []:=by
 unfold uO at h;refine At.f aFg hT hmo Tryz.func28 rfl h ?_;refine lx ?_;intro x1;refine bi λs2 hs2=>?_;refine lx ?_;intro x3;refine bi λs4 hs4=>?_;refine lx ?_;intro x5;refine bi λs6 hs6=>?_;refine At.d 2 (dE1 6 (λ_=>iE hT (k:=3) aB.enc hs2) (dE1 13 (λ_=>iE hT (k:=2) (eA 2 1 j64) hs4) (dE1 20 (λ_=>iE hT (k:=3) (eA 3 1 j64) hs6) dE0))) dF0 ?_;apply rt;exact At.r 0
def sG(N:Nat)(a0:fW):Option (fW):=
 ae (uO N a0.gA.gW) λr1=>
 aN ((a0.gA.gA1.gL.length:Int)) λx2=>
 ae (dU a0.gA.gA1.gL 0 (mY x2 260)) λs3=>
 some (fW.mk a0.gD a0.gB2 a0.gM (aF.mk a0.gA.gD r1 (aI.mk a0.gA.gA1.gQ s3) a0.gA.gJ a0.gA.gE) a0.gI)
theorem aEq{N a0 r}(h:sG N a0=some r):FnM Tryz.prog 7 [] [(fW.enc a0)] (fW.enc r) []:=by
 unfold sG at h;refine At.f dI hT hmo Tryz.func7 rfl h ?_;refine At.b 5 (λ_ e=>aH [] (aE8 e)) λr1=>?_;refine lx ?_;intro x2;refine At.b 13 (λ_ e=>iE hT (k:=3) (eA 3 1 j64) e) λs3=>?_;apply rt;exact At.r 6
def rW(N:Nat)(a0:Int):Option (Bool):=
 aN (cond (decide (a0>=1)) (decide (a0<=65535)) false) λx1=>
 some x1
theorem yT{N a0 r}(h:rW N a0=some r):FnM Tryz.prog 29 [] [(j64 a0)] (eB r) []:=by
 unfold rW at h;refine At.f dI hT hmo Tryz.func29 rfl h ?_;refine lx ?_;intro x1;apply rt;exact At.r 8
def fY(N:Nat)(a0:(List Int)):Option ((List Int)):=
 ae (iB 1 (([]:List Int)) a0) λz1=>
 some z1
theorem uW{N a0 r}(h:fY N a0=some r):FnM Tryz.prog 58 [] [(eL 1 k8 a0)] (eO 0 1 k8 r) [.tail (r.length*1)]:=by
 unfold fY at h;refine At.f dI hT hmo Tryz.func58 rfl h ?_;refine At.q hT 2 (d:=4) (t:=57) (e:=5) (z:=1) (x:=(eL 1 k8 a0)) (es:=ek k8 a0) rfl ?_ (λhe=>?_)
 ·refine At.o 1 (pM hT k8 (k:=1) ([]:List Int) (by kernel_rfl) (by kernel_rfl)) ?_;refine At.b 1 (λ_ e=>bN hT k8 (id:=0) (k:=1) e) λz1=>?_;apply rt;exact At.r 1
 ·have h0:a0=[]:=List.map_eq_nil_iff.1 he;subst h0;change some []=_->_;refine At.ownn 2 2 1 ?_;apply rt;exact At.r 0
def qA(N:Nat)(a1 e7:Int):Nat->(List Int)->Int->Option ((List Int))
 | 0,_,_=>none
 | k+1,s11,s12=>
  cond (decide (s12 < a1)) (
   ae (yW .u64 e7 (I64 (8*s12))) λx13=>
   ae (iB 1 s11 (([U8 x13]:List Int))) λz14=>
   qA N a1 e7 k z14 (I64 (s12+1))) (
   some s11)
def sD(N:Nat)(a2:(List Int))(a1:Int):Nat->(List Int)->Int->Option (Sum ((List Int)) ((List Int)×Int))
 | 0,_,_=>none
 | k+1,s4,s5=>
  aN (decide (s5 < ((a2.length:Int)))) λx6=>
  cond x6 (
   ae (idx a2 s5) λe7=>
   ae (cond (decide (a1 < 8)) (
    ae (yW .u64 e7 (I64 (8*a1))) λx9=>
    some (decide (x9 > 0))) (
    some false)) λp8=>
   cond p8 (
    some (Sum.inr (([],3)))) (
    ae (qA N a1 e7 N s4 0) λp10=>
    sD N a2 a1 k p10 (I64 (s5+1)))) (
   some (Sum.inl s4))
def bO(N:Nat)(a0:(List Int))(a1:Int)(a2:(List Int)):Option ((List Int)×Int):=
 aN (cond (decide (a1 < 1)) true (decide (a1 > 8))) λx1=>
 cond x1 (
  some (([],2))) (
  ae (fY N a0) λr2=>
  ae (sD N a2 a1 N r2 0) λo=>qS o (λp3=>
   some ((p3,0))) (λr=>some r))
theorem fO{N a0 a1 a2 r}(h:bO N a0 a1 a2=some r):FnM Tryz.prog 31 [] [(eL 1 k8 a0),(j64 a1),(eL 1 k64 a2)] (.tup [(eO 0 1 k8 r.1),(j64 r.2)]) [.tail (r.1.length*1)]:=by
 unfold bO at h;refine At.f dI hT hmo Tryz.func31 rfl h ?_;refine lx ?_;intro x1;refine At.c 8 ?_ ?_
 ·refine At.ownn 2 6 1 ?_;apply rt;exact At.r 0
 ·refine At.b 1 (λ_ e=>aH [] (uW e)) λr2=>?_;refine At.LS 4 [] 1 (λp3=>([(8,(eO 0 1 k8 p3))],[(0,.tail (p3.length*1))],[])) (λop3 J k=>∃s4 s5,sD N a2 a1 k s4 s5=some op3/\J [1,20,21] 1 [(8,(eO 0 1 k8 s4)),(22,(j64 s5))] [(0,.tail (s4.length*1))] []) N (λ_ h=>⟨_,_,h,jr⟩) (λop3 g3 k s hI=>?_) λp3=>?_
  ·obtain⟨s4,s5,h,hj⟩:=hI;cases k with
   | zero=>cases h
   | succ k=>
    refine At.jr hj ?_ h;refine lx ?_;intro x6;refine At.c 1 ?_ ?_
    ·refine At.b 0 (λ_ e=>bA hT k64 e) λe7=>?_;refine At.J 2 0 [1,8,10,20,21,22] 1 (λp8=>([(34,(eB p8))],[],[])) (λp8=>?_) λp8=>?_
     ·refine At.s 28 3 ?_ ?_
      ·refine At.g [28] 3 ?_;refine At.b 0 (λ_ e=>nN hT (k' := .i64) e (by kernel_rfl) (by kernel_rfl)) λx9=>?_;refine At.g [28] 2 ?_;apply rt;exact At.jn 0
      ·refine At.g [28] 6 ?_;apply rt;exact At.jn 0
     ·refine At.c 0 ?_ ?_
      ·refine At.ownn 2 6 1 ?_;refine At.sw 0 1 0 ?_;intro e;apply aAT g3 e;exact At.r 0
      ·refine At.L 2 [1,20,21,22] 1 (λp10=>([(8,(eO 0 1 k8 p10))],[(0,.tail (p10.length*1))],[])) (λp10 J k=>∃s11 s12,qA N a1 e7 k s11 s12=some p10/\J [1,10,20,21,22,35] 1 [(8,(eO 0 1 k8 s11)),(36,(j64 s12))] [(0,.tail (s11.length*1))] []) N (λ_ h=>⟨_,_,h,jr⟩) (λp10 k s hI=>?_) λp10=>?_
       ·obtain⟨s11,s12,h,hj⟩:=hI;cases k with
        | zero=>cases h
        | succ k=>
         refine At.jr hj ?_ h;refine At.c 1 ?_ ?_
         ·refine At.b 6 (λ_ e=>nN hT (k' := .i64) e (by kernel_rfl) (by kernel_rfl)) λx13=>?_;refine At.o 1 (aY hT (x:=(.sl 1 1 [(k8 (U8 x13))]))) ?_;refine At.b 0 (λ_ e=>bN hT k8 (id:=0) (k:=1) e) λz14=>?_;exact λh=>At.k 3 ⟨_,_,h,jr⟩
         ·apply rt;exact At.x 0
       ·exact λh=>At.k 2 ⟨_,_,h,jr⟩
    ·apply rt;exact At.xs 0
  ·apply rt;exact At.r 3
def uJ(N:Nat)(x2 a0:Int):Nat->(List Int)->Int->Option ((List Int))
 | 0,_,_=>none
 | k+1,s4,s5=>
  cond (decide (s5 < x2)) (
   ae (yW .i64 a0 (I64 (8*s5))) λx6=>
   ae (aP s5 (af 8)) λ_=>
   ae (s4[s5.toNat]?) λe8=>
   uJ N x2 a0 k (s4.set s5.toNat (U8 x6)) (I64 (s5+1))) (
   some s4)
def wD(N:Nat)(a0:Int):Option ((List Int)):=
 ae (mkO 1 8) λ_=>
 aN (((8:Int).toNat:Int)) λx2=>
 ae (uJ N x2 a0 N (ak (af 8) (0:Int)) 0) λp3=>
 ae (aGm p3 (af 8)) λ_=>
 some p3
theorem aED{N a0 r}(h:wD N a0=some r):FnM Tryz.prog 63 [] [(j64 a0)] (eL 1 k8 r) []:=by
 unfold wD at h;refine At.f dI hT hmo Tryz.func63 rfl h ?_;refine At.b 1 (λ_ e=>aMp hT k8 ((0:Int)) (k:=1) (kd := .int .u8) e (by kernel_rfl) (by kernel_rfl) rfl) λu1=>?_;refine lx ?_;intro x2;refine At.L 4 [3] 1 (λp3=>([],[(0,.var (.arr ((af 8)*1) 1 (ek k8 p3)))],[])) (λp3 J k=>∃s4 s5,uJ N x2 a0 k s4 s5=some p3/\J [0,3,7] 1 [(8,(j64 s5))] [(0,.var (.arr ((af 8)*1) 1 (ek k8 s4)))] []) N (λ_ h=>⟨_,_,h,jr⟩) (λp3 k s hI=>?_) λp3=>?_
 ·obtain⟨s4,s5,h,hj⟩:=hI;cases k with
  | zero=>cases h
  | succ k=>
   refine At.jr hj ?_ h;refine At.c 1 ?_ ?_
   ·refine At.b 7 (λ_ e=>nN hT (k' := .i64) e (by kernel_rfl) (by kernel_rfl)) λx6=>?_;refine At.b 1 (λ_ e=>aKV hT 0 [] 0 0 (af 8) (k:=1) e (by kernel_rfl) (by kernel_rfl)) λu7=>?_;refine At.b 0 (λ_ e=>aGv hT k8 0 e (U8 x6) (by kernel_rfl) (by kernel_rfl) (by kernel_rfl)) λe8=>?_;exact λh=>At.k 2 ⟨_,_,h,jr⟩
   ·apply rt;exact At.x 0
 ·refine bi λu9 hu9=>?_;refine At.fz 2 0 1 (af 8) _ (ek k8 p3) (cd _) (lenM k8 hu9) ?_;apply rt;exact At.r 0
def zY(N:Nat):Option (Unit):=
 some (())
theorem aIU{N r}(h:zY N=some r):FnM Tryz.prog 97 [] [] (.ref 0 [] 0) [.var (.st 73 [(.arr 8 1 [(k32 1779033703),(k32 3144134277),(k32 1013904242),(k32 2773480762),(k32 1359893119),(k32 2600822924),(k32 528734635),(k32 1541459225)]),(eA 64 1 k8 (ag 64 0)),(j64 0)])]:=by
 unfold zY at h;refine At.f dI hT hmo Tryz.func97 rfl h ?_;apply rt;exact At.r 5
def oB(N:Nat)(a0:cW):Option (Bool):=
 aN ((eqV (λa b=>a==b)) a0.gh (ag 8 0)) λx1=>
 aN (cond x1 (a0.gn==0) false) λx2=>
 some x2
theorem aAQ{N a0 r}(h:oB N a0=some r):FnM Tryz.prog 146 [.var (cW.enc a0)] [(.ref 0 [] 0)] (eB r) [.var (cW.enc a0)]:=by
 unfold oB at h;refine At.f dI hT hmo Tryz.func146 rfl h ?_;refine At.o 2 (aCg hT (t:=185) (x:=(.ref 0 [] 0)) (b:=true) (by kernel_rfl) rfl rfl (by kernel_rfl)) ?_;refine At.g [5] 6 ?_;refine At.o 0 (aKc aRR (a0.gh:(Vector Int 8)) (ag 8 0:(Vector Int 8)) (by kernel_rfl) (by kernel_rfl) (λ_=>rfl) (λ_=>rfl) (by kernel_rfl) (by kernel_rfl)) ?_;refine lx ?_;intro x1;refine lx ?_;intro x2;refine At.g [5] 9 ?_;apply rt;exact At.r 0
def bI(N:Nat)(a0 a1:Int):Option (Int):=
 ae (aFf .u32 a0 (cF .u64 (U64 a1) 31)) λx1=>
 aN (U64 (32 - (cF .u64 (U64 a1) 31))) λx2=>
 ae (yW .u32 a0 x2) λx3=>
 some (bor .u32 x1 x3)
theorem jK{N a0 a1 r}(h:bI N a0 a1=some r):FnM Tryz.prog 215 [] [(k32 a0),(j64 a1)] (k32 r) []:=by
 unfold bI at h;refine At.f dI hT hmo Tryz.func215 rfl h ?_;refine At.b 7 (λ_ e=>xU hT (k' := .u64) e (by kernel_rfl) (by kernel_rfl)) λx1=>?_;refine lx ?_;intro x2;refine At.b 3 (λ_ e=>nN hT (k' := .u64) e (by kernel_rfl) (by kernel_rfl)) λx3=>?_;apply rt;exact At.r 2
def iL(N:Nat)(a0 a1:Int):Option (Int):=
 ae (bI N a0 (I64 (0 - a1))) λr1=>
 some r1
theorem rL{N a0 a1 r}(h:iL N a0 a1=some r):FnM Tryz.prog 184 [] [(k32 a0),(j64 a1)] (k32 r) []:=by
 unfold iL at h;refine At.f dI hT hmo Tryz.func184 rfl h ?_;refine At.b 4 (λ_ e=>aH [] (jK e)) λr1=>?_;apply rt;exact At.r 1
def aH4 : Nat->Bool:=imL [2,3]
def cK : (Vector Int 64):=#v[1116352408,1899447441,3049323471,3921009573,961987163,1508970993,2453635748,2870763221,3624381080,310598401,607225278,1426881987,1925078388,2162078206,2614888103,3248222580,3835390401,4022224774,264347078,604807628,770255983,1249150122,1555081692,1996064986,2554220882,2821834349,2952996808,3210313671,3336571891,3584528711,113926993,338241895,666307205,773529912,1294757372,1396182291,1695183700,1986661051,2177026350,2456956037,2730485921,2820302411,3259730800,3345764771,3516065817,3600352804,4094571909,275423344,430227734,506948616,659060556,883997877,958139571,1322822218,1537002063,1747873779,1955562222,2024104815,2227730452,2361852424,2428436474,2756734187,3204031479,3329325298]
def mC(N:Nat)(a1:(Vector Int 64)):Nat->(Vector Int 64)->Int->Option ((Vector Int 64))
 | 0,_,_=>none
 | k+1,s2,s3=>
  cond (decide (s3 < 64)) (
   ae (cond (decide (s3 < 16)) (
    ae (idx a1.toList (I64 (4*s3))) λe5=>
    aN (I64 ((I64 (4*s3))+1)) λx6=>
    ae (idx a1.toList x6) λe7=>
    aN (bor .u32 (shl .u32 (U32 e5) 24) (shl .u32 (U32 e7) 16)) λx8=>
    aN (I64 ((I64 (4*s3))+2)) λx9=>
    ae (idx a1.toList x9) λe10=>
    aN (bor .u32 x8 (shl .u32 (U32 e10) 8)) λx11=>
    aN (I64 ((I64 (4*s3))+3)) λx12=>
    ae (idx a1.toList x12) λe13=>
    ae (aP s3 64) λ_=>
    ae (s2.toList[s3.toNat]?) λe15=>
    some (s2.setIfInBounds s3.toNat (bor .u32 x11 (U32 e13)))) (
    ae (aP (I64 (s3 - 15)) 64) λ_=>
    ae (s2.toList[(I64 (s3 - 15)).toNat]?) λe17=>
    ae (aP (I64 (s3 - 2)) 64) λ_=>
    ae (s2.toList[(I64 (s3 - 2)).toNat]?) λe19=>
    ae (aP (I64 (s3 - 16)) 64) λ_=>
    ae (s2.toList[(I64 (s3 - 16)).toNat]?) λe21=>
    ae (iL N e17 7) λr22=>
    ae (iL N e17 18) λr23=>
    aN (eZ .u32 (eZ .u32 r22 r23) (shr .u32 e17 3)) λx24=>
    ae (aP (I64 (s3 - 7)) 64) λ_=>
    ae (s2.toList[(I64 (s3 - 7)).toNat]?) λe26=>
    aN (U32 ((U32 (e21+x24))+e26)) λx27=>
    ae (iL N e19 17) λr28=>
    ae (iL N e19 19) λr29=>
    aN (eZ .u32 (eZ .u32 r28 r29) (shr .u32 e19 10)) λx30=>
    ae (aP s3 64) λ_=>
    ae (s2.toList[s3.toNat]?) λe32=>
    some (s2.setIfInBounds s3.toNat (U32 (x27+x30))))) λp4=>
   mC N a1 k p4 (I64 (s3+1))) (
   some s2)
def lR(N:Nat)(p1:(Vector Int 64)):Nat->(Vector Int 8)->Int->Option ((Vector Int 8))
 | 0,_,_=>none
 | k+1,s34,s35=>
  cond (decide (s35 < 64)) (
   ae (aP 0 8) λ_=>
   ae (s34.toList[(af 0)]?) λe37=>
   ae (aP 4 8) λ_=>
   ae (s34.toList[(af 4)]?) λe39=>
   ae (aP 7 8) λ_=>
   ae (s34.toList[(af 7)]?) λe41=>
   ae (iL N e39 6) λr42=>
   ae (iL N e39 11) λr43=>
   ae (iL N e39 25) λr44=>
   aN (eZ .u32 (eZ .u32 r42 r43) r44) λx45=>
   ae (aP 5 8) λ_=>
   ae (s34.toList[(af 5)]?) λe47=>
   ae (aP 6 8) λ_=>
   ae (s34.toList[(af 6)]?) λe49=>
   aN (cF .u32 (bnot .u32 e39) e49) λx50=>
   aN (eZ .u32 (cF .u32 e39 e47) x50) λx51=>
   aN (U32 ((U32 (e41+x45))+x51)) λx52=>
   ae (aP s35 64) λ_=>
   ae (cK.toList[s35.toNat]?) λe54=>
   ae (aP s35 64) λ_=>
   ae (p1.toList[s35.toNat]?) λe56=>
   aN (U32 ((U32 (x52+e54))+e56)) λx57=>
   ae (iL N e37 2) λr58=>
   ae (iL N e37 13) λr59=>
   ae (iL N e37 22) λr60=>
   aN (eZ .u32 (eZ .u32 r58 r59) r60) λx61=>
   ae (aP 1 8) λ_=>
   ae (s34.toList[(af 1)]?) λe63=>
   ae (aP 2 8) λ_=>
   ae (s34.toList[(af 2)]?) λe65=>
   aN (eZ .u32 (cF .u32 e37 e63) (cF .u32 e37 e65)) λx66=>
   ae (aP 1 8) λ_=>
   ae (s34.toList[(af 1)]?) λe68=>
   ae (aP 2 8) λ_=>
   ae (s34.toList[(af 2)]?) λe70=>
   aN (eZ .u32 x66 (cF .u32 e68 e70)) λx71=>
   aN (U32 (x57+(U32 (x61+x71)))) λx72=>
   ae (aP 0 8) λ_=>
   ae (s34.toList[(af 0)]?) λe74=>
   ae (aP 1 8) λ_=>
   ae (s34.toList[(af 1)]?) λe76=>
   ae (aP 2 8) λ_=>
   ae (s34.toList[(af 2)]?) λe78=>
   ae (aP 3 8) λ_=>
   ae (s34.toList[(af 3)]?) λe80=>
   ae (aP 4 8) λ_=>
   ae (s34.toList[(af 4)]?) λe82=>
   ae (aP 5 8) λ_=>
   ae (s34.toList[(af 5)]?) λe84=>
   ae (aP 6 8) λ_=>
   ae (s34.toList[(af 6)]?) λe86=>
   lR N p1 k (#v[x72,e74,e76,e78,U32 (e80+x57),e82,e84,e86]) (I64 (s35+1))) (
   some s34)
def qQ(N:Nat)(a0:(Vector Int 8)):Nat->(Vector Int 8)->Int->Option ((Vector Int 8))
 | 0,_,_=>none
 | k+1,s88,s89=>
  cond (decide (s89 < 8)) (
   ae (aP s89 8) λ_=>
   ae (s88.toList[s89.toNat]?) λe91=>
   ae (idx a0.toList s89) λe92=>
   ae (aP s89 8) λ_=>
   ae (s88.toList[s89.toNat]?) λe94=>
   qQ N a0 k (s88.setIfInBounds s89.toNat (U32 (e91+e92))) (I64 (s89+1))) (
   some s88)
def uC(N:Nat)(a0:(Vector Int 8))(a1:(Vector Int 64)):Option ((Vector Int 8)):=
 ae (mC N a1 N (ag 64 0) 0) λp1=>
 ae (lR N p1 N a0 0) λp33=>
 ae (qQ N a0 N p33 0) λp87=>
 some p87
theorem aGY{N a0 a1 r}(h:uC N a0 a1=some r):FnM Tryz.prog 147 [] [(eA 8 1 k32 a0),(eA 64 1 k8 a1)] (eA 8 1 k32 r) []:=by
 unfold uC at h;refine At.f aH4 hT hmo Tryz.func147 rfl h ?_;refine At.L 8 [2,4,5,6] 3 (λp1=>([],[(2,.var (eA 64 1 k32 p1))],[])) (λp1 J k=>∃s2 s3,mC N a1 k s2 s3=some p1/\J [2,3,4,5,6] 3 [(18,(j64 s3))] [(2,.var (eA 64 1 k32 s2))] []) N (λ_ h=>⟨_,_,h,jr⟩) (λp1 k s hI=>?_) λp1=>?_
 ·obtain⟨s2,s3,h,hj⟩:=hI;cases k with
  | zero=>cases h
  | succ k=>
   refine At.jr hj ?_ h;refine At.c 1 ?_ ?_
   ·refine At.J 0 2 [2,3,4,5,6,18] 3 (λp4=>([],[(2,.var (eA 64 1 k32 p4))],[])) (λp4=>?_) λp4=>?_
    ·refine At.c 4 ?_ ?_
     ·refine bi λe5 he5=>?_;refine lx ?_;intro x6;refine bi λe7 he7=>?_;refine lx ?_;intro x8;refine lx ?_;intro x9;refine bi λe10 he10=>?_;refine lx ?_;intro x11;refine lx ?_;intro x12;refine bi λe13 he13=>?_;refine bi λu14 hu14=>?_;refine bi λe15 he15=>?_;refine At.d 0 (dE1 3 (λ_=>bK hT (N:=64) (k:=1) k8 a1 he5) (dE1 10 (λ_=>bK hT (N:=64) (k:=1) k8 a1 he7) (dE1 18 (λ_=>bK hT (N:=64) (k:=1) k8 a1 he10) (dE1 26 (λ_=>bK hT (N:=64) (k:=1) k8 a1 he13) (dE1 30 (λ_=>aD hT (k:=1) 2 [] 0 hu14) dE0))))) (dF 31 (.v (.bool false)) [(2,.var (eA 64 1 k32 (s2.setIfInBounds s3.toNat (bor .u32 x11 (U32 e13)))))] [] (bG (bB hT k32 0 s2 he15 (bor .u32 x11 (U32 e13)) (by kernel_rfl) (by kernel_rfl) (H':=[.var (eA 8 1 k32 (ag 8 0)),.var (eA 64 1 k32 cK),.var (eA 64 1 k32 (s2.setIfInBounds s3.toNat (bor .u32 x11 (U32 e13))))]))) dF0) ?_;apply rt;exact At.jn 0
     ·refine bi λu16 hu16=>?_;refine bi λe17 he17=>?_;refine bi λu18 hu18=>?_;refine bi λe19 he19=>?_;refine At.d 0 (dE1 2 (λ_=>aD hT (k:=1) 2 [] 0 hu16) (dEL hT 3 (k32 e17) k32 0 he17 (dE1 6 (λ_=>aD hT (k:=1) 2 [] 0 hu18) (dEL hT 7 (k32 e19) k32 0 he19 dE0)))) dF0 ?_;refine bi λu20 hu20=>?_;refine bi λe21 he21=>?_;refine bi λr22 hr22=>?_;refine bi λr23 hr23=>?_;refine lx ?_;intro x24;refine bi λu25 hu25=>?_;refine bi λe26 he26=>?_;refine lx ?_;intro x27;refine bi λr28 hr28=>?_;refine bi λr29 hr29=>?_;refine lx ?_;intro x30;refine bi λu31 hu31=>?_;refine bi λe32 he32=>?_;refine At.d 0 (dE1 3 (λ_=>aD hT (k:=1) 2 [] 0 hu20) (dEL hT 4 (k32 e21) k32 0 he21 (dE2 6 (k32 r22) (λ_=>bM (rL hr22)) (dE2 8 (k32 r23) (λ_=>bM (rL hr23)) (dE1 16 (λ_=>aD hT (k:=1) 2 [] 0 hu25) (dEL hT 17 (k32 e26) k32 0 he26 (dE2 20 (k32 r28) (λ_=>bM (rL hr28)) (dE2 22 (k32 r29) (λ_=>bM (rL hr29)) (dE1 28 (λ_=>aD hT (k:=1) 2 [] 0 hu31) dE0))))))))) (dF 29 (.v (.bool false)) [(2,.var (eA 64 1 k32 (s2.setIfInBounds s3.toNat (U32 (x27+x30)))))] [] (bG (bB hT k32 0 s2 he32 (U32 (x27+x30)) (by kernel_rfl) (by kernel_rfl) (H':=[.var (eA 8 1 k32 (ag 8 0)),.var (eA 64 1 k32 cK),.var (eA 64 1 k32 (s2.setIfInBounds s3.toNat (U32 (x27+x30))))]))) dF0) ?_;apply rt;exact At.jn 0
    ·exact λh=>At.k 2 ⟨_,_,h,jr⟩
   ·apply rt;exact At.x 0
 ·refine At.L 4 [2,4,10] 4 (λp33=>([],[(3,.var (eA 8 1 k32 p33))],[])) (λp33 J k=>∃s34 s35,lR N p1 k s34 s35=some p33/\J [2,4,5,6,10] 4 [(93,(j64 s35))] [(3,.var (eA 8 1 k32 s34))] []) N (λ_ h=>⟨_,_,h,jr⟩) (λp33 k s hI=>?_) λp33=>?_
  ·obtain⟨s34,s35,h,hj⟩:=hI;cases k with
   | zero=>cases h
   | succ k=>
    refine At.jr hj ?_ h;refine At.c 1 ?_ ?_
    ·refine bi λu36 hu36=>?_;refine bi λe37 he37=>?_;refine bi λu38 hu38=>?_;refine bi λe39 he39=>?_;refine At.d 2 (dE1 0 (λ_=>aD hT (k:=1) 3 [] 0 hu36) (dEL hT 1 (k32 e37) k32 0 he37 (dE1 2 (λ_=>aD hT (k:=1) 3 [] 0 hu38) (dEL hT 3 (k32 e39) k32 0 he39 dE0)))) dF0 ?_;refine bi λu40 hu40=>?_;refine bi λe41 he41=>?_;refine bi λr42 hr42=>?_;refine bi λr43 hr43=>?_;refine bi λr44 hr44=>?_;refine lx ?_;intro x45;refine bi λu46 hu46=>?_;refine bi λe47 he47=>?_;refine bi λu48 hu48=>?_;refine bi λe49 he49=>?_;refine lx ?_;intro x50;refine lx ?_;intro x51;refine lx ?_;intro x52;refine bi λu53 hu53=>?_;refine bi λe54 he54=>?_;refine bi λu55 hu55=>?_;refine bi λe56 he56=>?_;refine lx ?_;intro x57;refine At.d 0 (dE1 0 (λ_=>aD hT (k:=1) 3 [] 0 hu40) (dEL hT 1 (k32 e41) k32 0 he41 (dE2 3 (k32 r42) (λ_=>bM (rL hr42)) (dE2 5 (k32 r43) (λ_=>bM (rL hr43)) (dE2 8 (k32 r44) (λ_=>bM (rL hr44)) (dE1 12 (λ_=>aD hT (k:=1) 3 [] 0 hu46) (dEL hT 13 (k32 e47) k32 0 he47 (dE1 17 (λ_=>aD hT (k:=1) 3 [] 0 hu48) (dEL hT 18 (k32 e49) k32 0 he49 (dE1 23 (λ_=>aD hT (k:=1) 1 [] 0 hu53) (dEL hT 24 (k32 e54) k32 0 he54 (dE1 27 (λ_=>aD hT (k:=1) 2 [] 0 hu55) (dEL hT 28 (k32 e56) k32 0 he56 dE0))))))))))))) dF0 ?_;refine bi λr58 hr58=>?_;refine bi λr59 hr59=>?_;refine bi λr60 hr60=>?_;refine lx ?_;intro x61;refine bi λu62 hu62=>?_;refine bi λe63 he63=>?_;refine bi λu64 hu64=>?_;refine bi λe65 he65=>?_;refine lx ?_;intro x66;refine bi λu67 hu67=>?_;refine bi λe68 he68=>?_;refine bi λu69 hu69=>?_;refine bi λe70 he70=>?_;refine lx ?_;intro x71;refine At.d 0 (dE2 1 (k32 r58) (λ_=>bM (rL hr58)) (dE2 3 (k32 r59) (λ_=>bM (rL hr59)) (dE2 6 (k32 r60) (λ_=>bM (rL hr60)) (dE1 9 (λ_=>aD hT (k:=1) 3 [] 0 hu62) (dEL hT 10 (k32 e63) k32 0 he63 (dE1 13 (λ_=>aD hT (k:=1) 3 [] 0 hu64) (dEL hT 14 (k32 e65) k32 0 he65 (dE1 17 (λ_=>aD hT (k:=1) 3 [] 0 hu67) (dEL hT 18 (k32 e68) k32 0 he68 (dE1 19 (λ_=>aD hT (k:=1) 3 [] 0 hu69) (dEL hT 20 (k32 e70) k32 0 he70 dE0))))))))))) dF0 ?_;refine lx ?_;intro x72;refine At.b 3 (λ_ e=>aD hT (k:=1) 3 [] 0 e) λu73=>?_;refine At.b 0 (λ_ e=>aV hT k32 0 e) λe74=>?_;refine At.b 0 (λ_ e=>aD hT (k:=1) 3 [] 0 e) λu75=>?_;refine At.b 0 (λ_ e=>aV hT k32 0 e) λe76=>?_;refine At.b 0 (λ_ e=>aD hT (k:=1) 3 [] 0 e) λu77=>?_;refine At.b 0 (λ_ e=>aV hT k32 0 e) λe78=>?_;refine At.b 0 (λ_ e=>aD hT (k:=1) 3 [] 0 e) λu79=>?_;refine At.b 0 (λ_ e=>aV hT k32 0 e) λe80=>?_;refine At.b 2 (λ_ e=>aD hT (k:=1) 3 [] 0 e) λu81=>?_;refine At.b 0 (λ_ e=>aV hT k32 0 e) λe82=>?_;refine At.b 0 (λ_ e=>aD hT (k:=1) 3 [] 0 e) λu83=>?_;refine At.b 0 (λ_ e=>aV hT k32 0 e) λe84=>?_;refine At.b 0 (λ_ e=>aD hT (k:=1) 3 [] 0 e) λu85=>?_;refine At.b 0 (λ_ e=>aV hT k32 0 e) λe86=>?_;exact λh=>At.k 4 ⟨_,_,h,jr⟩
    ·apply rt;exact At.x 0
  ·refine At.L 1 [4,10] 4 (λp87=>([],[(3,.var (eA 8 1 k32 p87))],[])) (λp87 J k=>∃s88 s89,qQ N a0 k s88 s89=some p87/\J [2,4,10] 4 [(175,(j64 s89))] [(3,.var (eA 8 1 k32 s88))] []) N (λ_ h=>⟨_,_,h,jr⟩) (λp87 k s hI=>?_) λp87=>?_
   ·obtain⟨s88,s89,h,hj⟩:=hI;cases k with
    | zero=>cases h
    | succ k=>
     refine At.jr hj ?_ h;refine At.c 1 ?_ ?_
     ·refine bi λu90 hu90=>?_;refine bi λe91 he91=>?_;refine bi λe92 he92=>?_;refine bi λu93 hu93=>?_;refine bi λe94 he94=>?_;refine At.d 2 (dE1 1 (λ_=>aD hT (k:=1) 3 [] 0 hu90) (dEL hT 2 (k32 e91) k32 0 he91 (dE1 4 (λ_=>bK hT (N:=8) (k:=1) k32 a0 he92) (dE1 7 (λ_=>aD hT (k:=1) 3 [] 0 hu93) dE0)))) (dF 8 (.v (.bool false)) [(3,.var (eA 8 1 k32 (s88.setIfInBounds s89.toNat (U32 (e91+e92)))))] [] (bG (bB hT k32 0 s88 he94 (U32 (e91+e92)) (by kernel_rfl) (by kernel_rfl) (H':=[.var (eA 8 1 k32 (ag 8 0)),.var (eA 64 1 k32 cK),.var (eA 64 1 k32 p1),.var (eA 8 1 k32 (s88.setIfInBounds s89.toNat (U32 (e91+e92))))]))) dF0) ?_;exact λh=>At.k 2 ⟨_,_,h,jr⟩
     ·apply rt;exact At.x 0
   ·apply rt;exact At.r 2
def jI(N:Nat)  : Nat->(Vector Int 8)->(Vector Int 64)->Int->(List Int)->Option ((Vector Int 8)×(Vector Int 64)×Int)
 | 0,_,_,_,_=>none
 | k+1,s10,s11,s12,s13=>
  aN (decide (((s13.length:Int)) > 0)) λx14=>
  cond x14 (
   ae (aQA 64 (br s12 64) 64) λ_=>
   ae (cpV s11 s13 ((br s12 64).toNat) ((64:Int).toNat - (br s12 64).toNat)) λv16=>
   aN (((min s13.length ((64:Int).toNat - (br s12 64).toNat):Nat):Int)) λx17=>
   ae (dU s13 x17 ((s13.length:Int))) λs18=>
   aN (br (I64 (s12+x17)) 64) λx19=>
   cond (x19==0) (
    ae (uC N s10 v16) λr20=>
    jI N k r20 v16 (I64 (s12+x17)) s18) (
    jI N k s10 v16 (I64 (s12+x17)) s18)) (
   some ((s10,s11,s12)))
def jA(N:Nat)(a0:(List (List Int))):Nat->(Vector Int 8)->(Vector Int 64)->Int->Int->Option ((Vector Int 8)×(Vector Int 64)×Int)
 | 0,_,_,_,_=>none
 | k+1,s3,s4,s5,s6=>
  aN (decide (s6 < ((a0.length:Int)))) λx7=>
  cond x7 (
   ae (idx a0 s6) λe8=>
   ae (jI N N s3 s4 s5 e8) λp9=>
   jA N a0 k p9.1 p9.2.1 p9.2.2 (I64 (s6+1))) (
   some ((s3,s4,s5)))
def dP(N:Nat)(a0:(List (List Int)))(a1:cW):Option ((Vector Int 8)×(Vector Int 64)×Int):=
 ae (oB N a1) λr1=>
 cond r1 (
  some ((a1.gh,a1.gB1,a1.gn))) (
  ae (jA N a0 N a1.gh a1.gB1 a1.gn 0) λp2=>
  some ((p2.1,p2.2.1,p2.2.2)))
theorem qO{N a0 a1 r}(h:dP N a0 a1=some r):FnM Tryz.prog 98 [.var (cW.enc a1)] [(.ref 0 [] 0),(eL 1 (eL 1 k8) a0)] (.tup []) [.var (.st 73 [(eA 8 1 k32 r.1),(eA 64 1 k8 r.2.1),(j64 r.2.2)])]:=by
 unfold dP at h;refine At.f dI hT hmo Tryz.func98 rfl h ?_;refine At.b 1 (λ_ e=>aH [0] (aAQ e)) λr1=>?_;refine At.c 0 ?_ ?_
 ·apply rt;exact At.r 0
 ·refine At.L 3 [] 1 (λp2=>([],[(0,.var (.st 73 [(eA 8 1 k32 p2.1),(eA 64 1 k8 p2.2.1),(j64 p2.2.2)]))],[])) (λp2 J k=>∃s3 s4 s5 s6,jA N a0 k s3 s4 s5 s6=some p2/\J [0,9,10] 1 [(11,(j64 s6))] [(0,.var (.st 73 [(eA 8 1 k32 s3),(eA 64 1 k8 s4),(j64 s5)]))] []) N (λ_ h=>⟨_,_,_,_,h,jr⟩) (λp2 k s hI=>?_) λp2=>?_
  ·obtain⟨s3,s4,s5,s6,h,hj⟩:=hI;cases k with
   | zero=>cases h
   | succ k=>
    refine At.jr hj ?_ h;refine lx ?_;intro x7;refine At.c 1 ?_ ?_
    ·refine At.b 0 (λ_ e=>bA hT (eL 1 k8) e) λe8=>?_;refine At.L 2 [0,9,10,11] 1 (λp9=>([],[(0,.var (.st 73 [(eA 8 1 k32 p9.1),(eA 64 1 k8 p9.2.1),(j64 p9.2.2)]))],[])) (λp9 J k=>∃s10 s11 s12 s13,jI N k s10 s11 s12 s13=some p9/\J [0,9,10,11] 1 [(5,(eL 1 k8 s13))] [(0,.var (.st 73 [(eA 8 1 k32 s10),(eA 64 1 k8 s11),(j64 s12)]))] []) N (λ_ h=>⟨_,_,_,_,h,jr⟩) (λp9 k s hI=>?_) λp9=>?_
     ·obtain⟨s10,s11,s12,s13,h,hj⟩:=hI;cases k with
      | zero=>cases h
      | succ k=>
       refine At.jr hj ?_ h;refine lx ?_;intro x14;refine At.c 3 ?_ ?_
       ·refine bi λs15 hs15=>?_;refine bi λv16 hv16=>?_;refine lx ?_;intro x17;refine At.d 0 (dE1 8 (λ_=>aP4 hT (k:=1) 0 [1] 8 hs15 (by kernel_rfl) (by kernel_rfl)) dE0) (dF 10 (j64 (((min s13.length ((64:Int).toNat - (br s12 64).toNat):Nat):Int))) [(0,.var (.st 73 [(eA 8 1 k32 s10),(eA 64 1 k8 v16),(j64 s12)]))] [] (bG (aCE hT k8 (id:=0) (path:=[1]) (off:=8) (H':=[.var (.st 73 [(eA 8 1 k32 s10),(eA 64 1 k8 v16),(j64 s12)])]) hv16 (by kernel_rfl) (by kernel_rfl) (by kernel_rfl))) dF0) ?_;refine At.b 11 (λ_ e=>iE hT (k:=1) k8 e) λs18=>?_;refine lx ?_;intro x19;refine At.c 7 ?_ ?_
        ·refine bi λr20 hr20=>?_;refine At.d 0 (dE2 9 (eA 8 1 k32 r20) (λ_=>bM (aGY hr20)) dE0) dF0 ?_;exact λh=>At.k 0 ⟨_,_,_,_,h,jr⟩
        ·exact λh=>At.k 0 ⟨_,_,_,_,h,jr⟩
       ·apply rt;exact At.x 0
     ·exact λh=>At.k 2 ⟨_,_,_,_,h,jr⟩
    ·apply rt;exact At.x 0
  ·apply rt;exact At.z 0
def sN(N:Nat)(x3 a0:Int):Nat->(List Int)->Int->Option ((List Int))
 | 0,_,_=>none
 | k+1,s8,s9=>
  cond (decide (s9 < 8)) (
   aN (I64 (((x3.toNat:Int)) - 1)) λx10=>
   aN (shl .u64 (U64 (vB a0 0)) 3) λx11=>
   ae (yW .u64 x11 (I64 (8*s9))) λx12=>
   ae (aP (I64 (x10 - s9)) x3.toNat) λ_=>
   ae (s8[(I64 (x10 - s9)).toNat]?) λe14=>
   sN N x3 a0 k (s8.set ((I64 (x10 - s9)).toNat) (U8 x12)) (I64 (s9+1))) (
   some s8)
def zX(N:Nat)(a0:Int):Option ((List Int)):=
 aN (br (vB a0 0) 64) λx1=>
 aN (br (I64 (119 - x1)) 64) λx2=>
 aN (I64 ((I64 (1+x2))+8)) λx3=>
 ae (mkO 1 x3) λ_=>
 ae (aP 0 x3.toNat) λ_=>
 ae ((ak x3.toNat (0:Int))[(af 0)]?) λe6=>
 ae (sN N x3 a0 N ((ak x3.toNat (0:Int)).set ((af 0)) 128) 0) λp7=>
 ae (aGm p7 x3.toNat) λ_=>
 some p7
theorem aMX{N a0 r}(h:zX N a0=some r):FnM Tryz.prog 148 [] [(j64 a0)] (eL 1 k8 r) []:=by
 unfold zX at h;refine At.f dI hT hmo Tryz.func148 rfl h ?_;refine lx ?_;intro x1;refine lx ?_;intro x2;refine lx ?_;intro x3;refine At.b 10 (λ_ e=>aMp hT k8 ((0:Int)) (k:=1) (kd := .int .u8) e (by kernel_rfl) (by kernel_rfl) rfl) λu4=>?_;refine At.b 2 (λ_ e=>aKV hT 0 [] 0 0 x3.toNat (k:=1) e (by kernel_rfl) (by kernel_rfl)) λu5=>?_;refine At.b 0 (λ_ e=>aGv hT k8 0 e 128 (by kernel_rfl) (by kernel_rfl) (by kernel_rfl)) λe6=>?_;refine At.L 1 [3] 1 (λp7=>([],[(0,.var (.arr (x3.toNat*1) 1 (ek k8 p7)))],[])) (λp7 J k=>∃s8 s9,sN N x3 a0 k s8 s9=some p7/\J [0,3] 1 [(16,(j64 s9))] [(0,.var (.arr (x3.toNat*1) 1 (ek k8 s8)))] []) N (λ_ h=>⟨_,_,h,jr⟩) (λp7 k s hI=>?_) λp7=>?_
 ·obtain⟨s8,s9,h,hj⟩:=hI;cases k with
  | zero=>cases h
  | succ k=>
   refine At.jr hj ?_ h;refine At.c 1 ?_ ?_
   ·refine lx ?_;intro x10;refine lx ?_;intro x11;refine At.b 13 (λ_ e=>nN hT (k' := .i64) e (by kernel_rfl) (by kernel_rfl)) λx12=>?_;refine At.b 1 (λ_ e=>aKV hT 0 [] 0 0 x3.toNat (k:=1) e (by kernel_rfl) (by kernel_rfl)) λu13=>?_;refine At.b 0 (λ_ e=>aGv hT k8 0 e (U8 x12) (by kernel_rfl) (by kernel_rfl) (by kernel_rfl)) λe14=>?_;exact λh=>At.k 2 ⟨_,_,h,jr⟩
   ·apply rt;exact At.x 0
 ·refine bi λu15 hu15=>?_;refine At.fz 2 0 1 x3.toNat _ (ek k8 p7) (cd _) (lenM k8 hu15) ?_;apply rt;exact At.r 0
def rN(N:Nat)(r3:(Vector Int 8)×(Vector Int 64)×Int):Nat->(Vector Int 32)->Int->Option ((Vector Int 32))
 | 0,_,_=>none
 | k+1,s5,s6=>
  cond (decide (s6 < 8)) (
   ae (idx r3.1.toList s6) λe7=>
   aN (I64 ((I64 (4*s6))+1)) λx8=>
   aN (I64 ((I64 (4*s6))+2)) λx9=>
   aN (I64 ((I64 (4*s6))+3)) λx10=>
   ae (aP (I64 (4*s6)) 32) λ_=>
   ae (s5.toList[(I64 (4*s6)).toNat]?) λe12=>
   ae (aP x8 32) λ_=>
   ae ((s5.setIfInBounds ((I64 (4*s6)).toNat) (U8 (shr .u32 e7 24))).toList[x8.toNat]?) λe14=>
   ae (aP x9 32) λ_=>
   ae (((s5.setIfInBounds ((I64 (4*s6)).toNat) (U8 (shr .u32 e7 24))).setIfInBounds x8.toNat (U8 (shr .u32 e7 16))).toList[x9.toNat]?) λe16=>
   ae (aP x10 32) λ_=>
   ae ((((s5.setIfInBounds ((I64 (4*s6)).toNat) (U8 (shr .u32 e7 24))).setIfInBounds x8.toNat (U8 (shr .u32 e7 16))).setIfInBounds x9.toNat (U8 (shr .u32 e7 8))).toList[x10.toNat]?) λe18=>
   rN N r3 k ((((s5.setIfInBounds ((I64 (4*s6)).toNat) (U8 (shr .u32 e7 24))).setIfInBounds x8.toNat (U8 (shr .u32 e7 16))).setIfInBounds x9.toNat (U8 (shr .u32 e7 8))).setIfInBounds x10.toNat (U8 e7)) (I64 (s6+1))) (
   some s5)
def nG(N:Nat)(a0:cW):Option ((Vector Int 32)):=
 ae (oB N a0) λr1=>
 cond r1 (
  some (ag 32 0)) (
  ae (zX N a0.gn) λr2=>
  ae (dP N ([r2]) a0) λr3=>
  ae (rN N r3 N (ag 32 0) 0) λp4=>
  some p4)
theorem aAi{N a0 r}(h:nG N a0=some r):FnM Tryz.prog 99 [.var (cW.enc a0)] [(.ref 0 [] 0)] (eA 32 1 k8 r) [.var (cW.enc a0)]:=by
 unfold nG at h;refine At.f dI hT hmo Tryz.func99 rfl h ?_;refine At.b 2 (λ_ e=>aH [0] (aAQ e)) λr1=>?_;refine At.c 0 ?_ ?_
 ·apply rt;exact At.r 2
 ·refine At.b 9 (λ_ e=>aH [] (aMX e)) λr2=>?_;refine At.o 0 (aY hT (x:=(.sl 1 1 [(eL 1 k8 r2)]))) ?_;refine At.b 0 (λ_ e=>aH [2] (qO e)) λr3=>?_;refine At.L 4 [2,4] 4 (λp4=>([],[(3,.var (eA 32 1 k8 p4))],[])) (λp4 J k=>∃s5 s6,rN N r3 k s5 s6=some p4/\J [2,4,21] 4 [(22,(j64 s6))] [(3,.var (eA 32 1 k8 s5))] []) N (λ_ h=>⟨_,_,h,jr⟩) (λp4 k s hI=>?_) λp4=>?_
  ·obtain⟨s5,s6,h,hj⟩:=hI;cases k with
   | zero=>cases h
   | succ k=>
    refine At.jr hj ?_ h;refine At.c 1 ?_ ?_
    ·refine At.b 1 (λ_ e=>aGx hT k32 r3.1 e (by kernel_rfl) (by kernel_rfl)) λe7=>?_;refine lx ?_;intro x8;refine lx ?_;intro x9;refine lx ?_;intro x10;refine At.b 24 (λ_ e=>aD hT (k:=1) 3 [] 0 e) λu11=>?_;refine At.b 0 (λ_ e=>bB hT k8 0 s5 e (U8 (shr .u32 e7 24)) (by kernel_rfl) (by kernel_rfl) (H':=[.var (cW.enc a0),.var (eA 32 1 k8 (ag 32 0)),.var (.st 73 [(eA 8 1 k32 r3.1),(eA 64 1 k8 r3.2.1),(j64 r3.2.2)]),.var (eA 32 1 k8 (s5.setIfInBounds ((I64 (4*s6)).toNat) (U8 (shr .u32 e7 24))))])) λe12=>?_;refine At.b 0 (λ_ e=>aD hT (k:=1) 3 [] 0 e) λu13=>?_;refine At.b 0 (λ_ e=>bB hT k8 0 (s5.setIfInBounds ((I64 (4*s6)).toNat) (U8 (shr .u32 e7 24))) e (U8 (shr .u32 e7 16)) (by kernel_rfl) (by kernel_rfl) (H':=[.var (cW.enc a0),.var (eA 32 1 k8 (ag 32 0)),.var (.st 73 [(eA 8 1 k32 r3.1),(eA 64 1 k8 r3.2.1),(j64 r3.2.2)]),.var (eA 32 1 k8 ((s5.setIfInBounds ((I64 (4*s6)).toNat) (U8 (shr .u32 e7 24))).setIfInBounds x8.toNat (U8 (shr .u32 e7 16))))])) λe14=>?_;refine At.b 0 (λ_ e=>aD hT (k:=1) 3 [] 0 e) λu15=>?_;refine At.b 0 (λ_ e=>bB hT k8 0 ((s5.setIfInBounds ((I64 (4*s6)).toNat) (U8 (shr .u32 e7 24))).setIfInBounds x8.toNat (U8 (shr .u32 e7 16))) e (U8 (shr .u32 e7 8)) (by kernel_rfl) (by kernel_rfl) (H':=[.var (cW.enc a0),.var (eA 32 1 k8 (ag 32 0)),.var (.st 73 [(eA 8 1 k32 r3.1),(eA 64 1 k8 r3.2.1),(j64 r3.2.2)]),.var (eA 32 1 k8 (((s5.setIfInBounds ((I64 (4*s6)).toNat) (U8 (shr .u32 e7 24))).setIfInBounds x8.toNat (U8 (shr .u32 e7 16))).setIfInBounds x9.toNat (U8 (shr .u32 e7 8))))])) λe16=>?_;refine At.b 0 (λ_ e=>aD hT (k:=1) 3 [] 0 e) λu17=>?_;refine At.b 0 (λ_ e=>bB hT k8 0 (((s5.setIfInBounds ((I64 (4*s6)).toNat) (U8 (shr .u32 e7 24))).setIfInBounds x8.toNat (U8 (shr .u32 e7 16))).setIfInBounds x9.toNat (U8 (shr .u32 e7 8))) e (U8 e7) (by kernel_rfl) (by kernel_rfl) (H':=[.var (cW.enc a0),.var (eA 32 1 k8 (ag 32 0)),.var (.st 73 [(eA 8 1 k32 r3.1),(eA 64 1 k8 r3.2.1),(j64 r3.2.2)]),.var (eA 32 1 k8 ((((s5.setIfInBounds ((I64 (4*s6)).toNat) (U8 (shr .u32 e7 24))).setIfInBounds x8.toNat (U8 (shr .u32 e7 16))).setIfInBounds x9.toNat (U8 (shr .u32 e7 8))).setIfInBounds x10.toNat (U8 e7)))])) λe18=>?_;exact λh=>At.k 2 ⟨_,_,h,jr⟩
    ·apply rt;exact At.x 0
  ·apply rt;exact At.r 2
def wJ(N:Nat)(a0:(List (List Int))):Option ((Vector Int 32)):=
 ae (zY N ) λr1=>
 ae (dP N a0 (cW.mk (#v[1779033703,3144134277,1013904242,2773480762,1359893119,2600822924,528734635,1541459225]) (ag 64 0) 0)) λr2=>
 ae (nG N (cW.mk r2.1 r2.2.1 r2.2.2)) λr3=>
 some r3
theorem aHO{N a0 r}(h:wJ N a0=some r):FnM Tryz.prog 100 [] [(eL 1 (eL 1 k8) a0)] (eA 32 1 k8 r) []:=by
 unfold wJ at h;refine At.f dI hT hmo Tryz.func100 rfl h ?_;refine At.b 1 (λ_ e=>aH [] (aIU e)) λr1=>?_;refine At.b 3 (λ_ e=>aH [1] (qO e)) λr2=>?_;refine At.b 1 (λ_ e=>aH [1] (aAi e)) λr3=>?_;apply rt;exact At.r 1
def tA(N:Nat)  : Nat->(Vector Int 64)->(Vector Int 64)->Int->Option ((Vector Int 64)×(Vector Int 64))
 | 0,_,_,_=>none
 | k+1,s9,s10,s11=>
  cond (decide (s11 < 64)) (
   ae (aP s11 64) λ_=>
   ae (s9.toList[s11.toNat]?) λe13=>
   ae (aP s11 64) λ_=>
   ae (s9.toList[s11.toNat]?) λe15=>
   ae (aP s11 64) λ_=>
   ae (s10.toList[s11.toNat]?) λe17=>
   ae (aP s11 64) λ_=>
   ae (s10.toList[s11.toNat]?) λe19=>
   tA N k (s9.setIfInBounds s11.toNat (eZ .u8 e13 54)) (s10.setIfInBounds s11.toNat (eZ .u8 e17 92)) (I64 (s11+1))) (
   some ((s9,s10)))
def aAI(N:Nat)(a0:(List Int)):Option ((Vector Int 64)×(Vector Int 64)):=
 ae (aN (decide (((a0.length:Int)) > 64)) λx2=>
 cond x2 (
  ae (wJ N ([a0])) λr3=>
  ae (dU r3.toList 0 32) λs5=>
  some s5) (
  some a0)) λp1=>
 ae (aEJ 64 0 64) λ_=>
 ae (cpV (ag 64 0) p1 0 64) λv7=>
 ae (tA N N v7 v7 0) λp8=>
 some ((p8.1,p8.2))
theorem aKl{N a0 r}(h:aAI N a0=some r):FnM Tryz.prog 96 [] [(eL 1 k8 a0)] (.tup [(eA 64 1 k8 r.1),(eA 64 1 k8 r.2)]) []:=by
 unfold aAI at h;refine At.f dI hT hmo Tryz.func96 rfl h ?_;refine At.J 2 1 [2,3] 2 (λp1=>([(0,(eL 1 k8 p1))],[],[])) (λp1=>?_) λp1=>?_
 ·refine lx ?_;intro x2;refine At.c 3 ?_ ?_
  ·refine At.o 1 (aY hT (x:=(.sl 1 1 [(eL 1 k8 a0)]))) ?_;refine At.b 0 (λ_ e=>aH [] (aHO e)) λr3=>?_;refine At.gz 2 2 ((eA 32 1 k8 r3)) ?_;refine At.b 0 (λ_ e=>jX hT (N:=32) (k:=1) k8 r3 e) λs5=>?_;apply rt;exact At.jn 1
  ·apply rt;exact At.jn 0
 ·refine At.b 0 (λ_ e=>aE0 hT (k:=1) 0 [] 0 e (by kernel_rfl) (by kernel_rfl) (by decide)) λs6=>?_;refine At.b 1 (λv7 e=>aCE hT k8 (id:=0) (path:=[]) (off:=0) (H':=[.var (eA 64 1 k8 v7),.var (eA 64 1 k8 (ag 64 0))]) e (by kernel_rfl) (by kernel_rfl) (by kernel_rfl)) λv7=>?_;refine At.L 3 [2,3] 2 (λp8=>([],[(0,.var (eA 64 1 k8 p8.1)),(1,.var (eA 64 1 k8 p8.2))],[])) (λp8 J k=>∃s9 s10 s11,tA N k s9 s10 s11=some p8/\J [2,3] 2 [(17,(j64 s11))] [(0,.var (eA 64 1 k8 s9)),(1,.var (eA 64 1 k8 s10))] []) N (λ_ h=>⟨_,_,_,h,jr⟩) (λp8 k s hI=>?_) λp8=>?_
  ·obtain⟨s9,s10,s11,h,hj⟩:=hI;cases k with
   | zero=>cases h
   | succ k=>
    refine At.jr hj ?_ h;refine At.c 1 ?_ ?_
    ·refine At.b 3 (λ_ e=>aD hT (k:=1) 0 [] 0 e) λu12=>?_;refine At.b 0 (λ_ e=>aV hT k8 0 e) λe13=>?_;refine At.b 1 (λ_ e=>aD hT (k:=1) 0 [] 0 e) λu14=>?_;refine At.b 0 (λ_ e=>bB hT k8 0 s9 e (eZ .u8 e13 54) (by kernel_rfl) (by kernel_rfl) (H':=[.var (eA 64 1 k8 (s9.setIfInBounds s11.toNat (eZ .u8 e13 54))),.var (eA 64 1 k8 s10)])) λe15=>?_;refine At.b 1 (λ_ e=>aD hT (k:=1) 1 [] 0 e) λu16=>?_;refine At.b 0 (λ_ e=>aV hT k8 0 e) λe17=>?_;refine At.b 1 (λ_ e=>aD hT (k:=1) 1 [] 0 e) λu18=>?_;refine At.b 0 (λ_ e=>bB hT k8 0 s10 e (eZ .u8 e17 92) (by kernel_rfl) (by kernel_rfl) (H':=[.var (eA 64 1 k8 (s9.setIfInBounds s11.toNat (eZ .u8 e13 54))),.var (eA 64 1 k8 (s10.setIfInBounds s11.toNat (eZ .u8 e17 92)))])) λe19=>?_;exact λh=>At.k 2 ⟨_,_,_,h,jr⟩
    ·apply rt;exact At.x 0
  ·refine At.d 0 dE0 dF0 ?_;apply rt;exact At.r 0
def aBD(N:Nat)(a0:(List Int))(a1:(List (List Int))):Option ((Vector Int 32)):=
 ae (aAI N a0) λr1=>
 ae (zY N ) λr2=>
 ae (dU r1.1.toList 0 64) λs4=>
 ae (dP N ([s4]) (cW.mk (#v[1779033703,3144134277,1013904242,2773480762,1359893119,2600822924,528734635,1541459225]) (ag 64 0) 0)) λr5=>
 ae (dP N a1 (cW.mk r5.1 r5.2.1 r5.2.2)) λr6=>
 ae (nG N (cW.mk r6.1 r6.2.1 r6.2.2)) λr7=>
 ae (dU r1.2.toList 0 64) λs8=>
 ae (dU r7.toList 0 32) λs9=>
 ae (wJ N ([s8,s9])) λr10=>
 some r10
theorem aM5{N a0 a1 r}(h:aBD N a0 a1=some r):FnM Tryz.prog 64 [] [(eL 1 k8 a0),(eL 1 (eL 1 k8) a1)] (eA 32 1 k8 r) []:=by
 unfold aBD at h;refine At.f dI hT hmo Tryz.func64 rfl h ?_;refine At.b 2 (λ_ e=>aH [] (aKl e)) λr1=>?_;refine At.b 7 (λ_ e=>aH [] (aIU e)) λr2=>?_;refine At.gz 2 1 ((eA 64 1 k8 r1.1)) ?_;refine At.b 0 (λ_ e=>jX hT (N:=64) (k:=1) k8 r1.1 e) λs4=>?_;refine At.o 0 (aY hT (x:=(.sl 1 1 [(eL 1 k8 s4)]))) ?_;refine At.b 0 (λ_ e=>aH [3] (qO e)) λr5=>?_;refine At.b 2 (λ_ e=>aH [3] (qO e)) λr6=>?_;refine At.b 1 (λ_ e=>aH [3] (aAi e)) λr7=>?_;refine At.gz 2 2 ((eA 64 1 k8 r1.2)) ?_;refine At.gz 0 4 ((eA 32 1 k8 r7)) ?_;refine bi λs8 hs8=>?_;refine bi λs9 hs9=>?_;refine bi λr10 hr10=>?_;refine At.d 0 (dE1 0 (λ_=>jX hT (N:=64) (k:=1) k8 r1.2 hs8) (dE1 1 (λ_=>jX hT (N:=32) (k:=1) k8 r7 hs9) (dE1 2 (λ_=>aY hT (x:=(.sl 1 2 [(eL 1 k8 s8),(eL 1 k8 s9)]))) (dE2 3 (eA 32 1 k8 r10) (λ_=>bM (aHO hr10)) dE0)))) dF0 ?_;apply rt;exact At.r 0
def aJn : Nat->Bool:=imL [3]
def qJ(N:Nat)(a2:(List (List Int))):Nat->(List (List Int))->Int->Option ((List (List Int)))
 | 0,_,_=>none
 | k+1,s4,s5=>
  aN (decide (s5 < ((a2.length:Int)))) λx6=>
  cond x6 (
   ae (idx a2 s5) λe7=>
   ae (wD N ((e7.length:Int))) λr8=>
   ae (iB 24 s4 (([r8,e7]:List (List Int)))) λz9=>
   qJ N a2 k z9 (I64 (s5+1))) (
   some s4)
def wO(N:Nat)(a0:(Vector Int 32))(a1:ByteArray)(a2:(List (List Int))):Option ((Vector Int 32)):=
 aN ((ByteArray.size a1:Int)) λx1=>
 ae (wD N x1) λr2=>
 ae (qJ N a2 N (([r2,uZ a1]:List (List Int))) 0) λp3=>
 ae (dU a0.toList 0 32) λs10=>
 ae (aBD N s10 p3) λr11=>
 some r11
theorem aId{N a0 a1 a2 r}(h:wO N a0 a1 a2=some r):FnM Tryz.prog 33 [] [(eA 32 1 k8 a0),(eS a1),(eL 1 (eL 1 k8) a2)] (eA 32 1 k8 r) []:=by
 unfold wO at h;refine At.f aJn hT hmo Tryz.func33 rfl h ?_;refine lx ?_;intro x1;refine At.b 4 (λ_ e=>aH [] (aED e)) λr2=>?_;refine At.o 1 (aN7 hT a1 (e:=5) (by kernel_rfl) (by kernel_rfl)) ?_;refine At.o 0 (pM hT (eL 1 k8) (k:=1) ([r2,uZ a1]:List (List Int)) (by kernel_rfl) (by kernel_rfl)) ?_;refine At.L 4 [3,6] 2 (λp3=>([(7,(eO 1 1 (eL 1 k8) p3))],[(1,.tail (p3.length*1))],[])) (λp3 J k=>∃s4 s5,qJ N a2 k s4 s5=some p3/\J [3,6,16,17] 2 [(7,(eO 1 1 (eL 1 k8) s4)),(18,(j64 s5))] [(1,.tail (s4.length*1))] []) N (λ_ h=>⟨_,_,h,jr⟩) (λp3 k s hI=>?_) λp3=>?_
 ·obtain⟨s4,s5,h,hj⟩:=hI;cases k with
  | zero=>cases h
  | succ k=>
   refine At.jr hj ?_ h;refine lx ?_;intro x6;refine At.c 1 ?_ ?_
   ·refine At.b 0 (λ_ e=>bA hT (eL 1 k8) e) λe7=>?_;refine At.b 5 (λ_ e=>aH [] (aED e)) λr8=>?_;refine At.o 1 (aY hT (x:=(.sl 1 2 [(eL 1 k8 r8),(eL 1 k8 e7)]))) ?_;refine At.b 0 (λ_ e=>bN hT (eL 1 k8) (id:=1) (k:=1) e) λz9=>?_;exact λh=>At.k 3 ⟨_,_,h,jr⟩
   ·apply rt;exact At.x 0
 ·refine At.b 0 (λ_ e=>jX hT (N:=32) (k:=1) k8 a0 e) λs10=>?_;refine At.b 1 (λ_ e=>aH [] (aM5 e)) λr11=>?_;apply rt;exact At.r 1
def aMP : Nat->Bool:=imL [3]
def vW(N:Nat)(a0:(Vector Int 32))(a1 a2:Int):Option ((Vector Int 32)):=
 aN (cF .u64 (U64 a1) 65535) λx1=>
 ae (bO N [] 2 ([x1])) λr2=>
 aN (cF .u64 (U64 a2) 4294967295) λx3=>
 ae (bO N [] 4 ([x3])) λr4=>
 ae (wO N a0 aLW ([r2.1,r4.1])) λr5=>
 some r5
theorem aAm{N a0 a1 a2 r}(h:vW N a0 a1 a2=some r):FnM Tryz.prog 11 [] [(eA 32 1 k8 a0),(j64 a1),(j64 a2)] (eA 32 1 k8 r) []:=by
 unfold vW at h;refine At.f aMP hT hmo Tryz.func11 rfl h ?_;refine lx ?_;intro x1;refine At.o 5 (aY hT (x:=(.sl 1 1 [(k64 x1)]))) ?_;refine At.b 0 (λ_ e=>aH [] (fO e)) λr2=>?_;refine lx ?_;intro x3;refine At.o 8 (aY hT (x:=(.sl 1 1 [(k64 x3)]))) ?_;refine At.b 0 (λ_ e=>aH [] (fO e)) λr4=>?_;refine At.wk 8 28 ((eL 1 k8 r2.1)) ?_;refine At.wk 0 29 ((eL 1 k8 r4.1)) ?_;refine At.o 0 (aY hT (x:=(.sl 1 2 [(eL 1 k8 r2.1),(eL 1 k8 r4.1)]))) ?_;refine At.b 0 (λ_ e=>aH [] (aId e)) λr5=>?_;apply rt;exact At.r 1
def aHG : Nat->Bool:=imL [1]
def pU(N:Nat)(a0:aB):Option (Bool):=
 ae (aN (decide ((vB (vB a0.gX a0.gY) a0.gZ) > 4096)) λx2=>
 cond x2 (
  some true) (
  aN (decide ((mY (mY a0.gX a0.gY) a0.gZ) < (-4096))) λx3=>
  some x3)) λp1=>
 some p1
theorem aGW{N a0 r}(h:pU N a0=some r):FnM Tryz.prog 186 [] [(aB.enc a0)] (eB r) []:=by
 unfold pU at h;refine At.f aHG hT hmo Tryz.func186 rfl h ?_;refine At.J 2 0 [] 0 (λp1=>([(2,(eB p1))],[],[])) (λp1=>?_) λp1=>?_
 ·refine At.o 6 (aFC (k := .i64) (i:=a0.gX) (j:=a0.gY) (l:=a0.gZ) (by kernel_rfl) (by kernel_rfl)) ?_;refine lx ?_;intro x2;refine At.s 11 2 ?_ ?_
  ·refine At.g [11] 10 ?_;apply rt;exact At.jn 0
  ·refine At.g [11] 6 ?_;refine At.o 0 (aEg (k := .i64) (i:=a0.gX) (j:=a0.gY) (l:=a0.gZ) (by kernel_rfl) (by kernel_rfl)) ?_;refine lx ?_;intro x3;refine At.g [11] 3 ?_;apply rt;exact At.jn 0
 ·apply rt;exact At.r 0
def aU(N:Nat)(a0:(List aB)):Nat->Int->Option (Sum (Unit) (Int))
 | 0,_=>none
 | k+1,s2=>
  aN (decide (s2 < ((a0.length:Int)))) λx3=>
  cond x3 (
   ae (idx a0 s2) λe4=>
   ae (pU N e4) λr5=>
   cond r5 (
    some (Sum.inr s2)) (
    aU N a0 k (I64 (s2+1)))) (
   some (Sum.inl (())))
def bX(N:Nat)(a0:(List aB)):Option (Int):=
 ae (aU N a0 N 0) λo=>qS o (λp1=>
  some (-1)) (λr=>some r)
theorem qV{N a0 r}(h:bX N a0=some r):FnM Tryz.prog 217 [] [(eL 3 aB.enc a0),(.fn (.func 186) [] [])] (j64 r) []:=by
 unfold bX at h;refine At.f dI hT hmo Tryz.func217 rfl h ?_;refine At.LS 4 [] 0 (λp1=>([],[],[])) (λop1 J k=>∃s2,aU N a0 k s2=some op1/\J [0,1,7] 0 [(8,(j64 s2))] [] []) N (λ_ h=>⟨_,h,jr⟩) (λop1 g1 k s hI=>?_) λp1=>?_
 ·obtain⟨s2,h,hj⟩:=hI;cases k with
  | zero=>cases h
  | succ k=>
   refine At.jr hj ?_ h;refine lx ?_;intro x3;refine At.c 1 ?_ ?_
   ·refine At.b 5 (λ_ e=>bA hT aB.enc e) λe4=>?_;refine At.b 1 (λ_ e=>aH [] (aGW e)) λr5=>?_;refine At.c 0 ?_ ?_
    ·intro e;apply aAT g1 e;exact At.r 2
    ·exact λh=>At.k 2 ⟨_,h,jr⟩
   ·apply rt;exact At.xs 0
 ·apply rt;exact At.r 1
def bS(N:Nat)(a0:(List aB)):Option (Bool):=
 ae (bX N a0) λr1=>
 some (decide (r1>=0))
theorem qB{N a0 r}(h:bS N a0=some r):FnM Tryz.prog 189 [] [(eL 3 aB.enc a0),(.fn (.func 186) [] [])] (eB r) []:=by
 unfold bS at h;refine At.f dI hT hmo Tryz.func189 rfl h ?_;refine At.b 3 (λ_ e=>aH [] (qV e)) λr1=>?_;apply rt;exact At.r 2
def aHd : Nat->Bool:=imL [1]
def pO(N:Nat)(a0:(Vector Int 2)):Option (Bool):=
 ae (ae (idx a0.toList 0) λe2=>
 ae (idx a0.toList 1) λe3=>
 aN (decide ((mY e2 e3) < 0)) λx4=>
 cond x4 (
  some true) (
  ae (idx a0.toList 0) λe5=>
  ae (idx a0.toList 1) λe6=>
  aN (decide ((vB e5 e6) > 65535)) λx7=>
  some x7)) λp1=>
 some p1
theorem aGa{N a0 r}(h:pO N a0=some r):FnM Tryz.prog 187 [] [(eA 2 1 j64 a0)] (eB r) []:=by
 unfold pO at h;refine At.f aHd hT hmo Tryz.func187 rfl h ?_;refine At.J 2 0 [] 0 (λp1=>([(2,(eB p1))],[],[])) (λp1=>?_) λp1=>?_
 ·refine At.b 0 (λ_ e=>bK hT (N:=2) (k:=1) j64 a0 e) λe2=>?_;refine At.b 1 (λ_ e=>bK hT (N:=2) (k:=1) j64 a0 e) λe3=>?_;refine lx ?_;intro x4;refine At.s 9 4 ?_ ?_
  ·refine At.g [9] 8 ?_;apply rt;exact At.jn 0
  ·refine At.b 0 (λ_ e=>bK hT (N:=2) (k:=1) j64 a0 e) λe5=>?_;refine At.g [9] 1 ?_;refine At.b 0 (λ_ e=>bK hT (N:=2) (k:=1) j64 a0 e) λe6=>?_;refine lx ?_;intro x7;refine At.g [9] 5 ?_;apply rt;exact At.jn 0
 ·apply rt;exact At.r 0
def bE(N:Nat)(a0:(List (Vector Int 2))):Nat->Int->Option (Sum (Unit) (Int))
 | 0,_=>none
 | k+1,s2=>
  aN (decide (s2 < ((a0.length:Int)))) λx3=>
  cond x3 (
   ae (idx a0 s2) λe4=>
   ae (pO N e4) λr5=>
   cond r5 (
    some (Sum.inr s2)) (
    bE N a0 k (I64 (s2+1)))) (
   some (Sum.inl (())))
def cS(N:Nat)(a0:(List (Vector Int 2))):Option (Int):=
 ae (bE N a0 N 0) λo=>qS o (λp1=>
  some (-1)) (λr=>some r)
theorem tS{N a0 r}(h:cS N a0=some r):FnM Tryz.prog 218 [] [(eL 2 (eA 2 1 j64) a0),(.fn (.func 187) [] [])] (j64 r) []:=by
 unfold cS at h;refine At.f dI hT hmo Tryz.func218 rfl h ?_;refine At.LS 4 [] 0 (λp1=>([],[],[])) (λop1 J k=>∃s2,bE N a0 k s2=some op1/\J [0,1,7] 0 [(8,(j64 s2))] [] []) N (λ_ h=>⟨_,h,jr⟩) (λop1 g1 k s hI=>?_) λp1=>?_
 ·obtain⟨s2,h,hj⟩:=hI;cases k with
  | zero=>cases h
  | succ k=>
   refine At.jr hj ?_ h;refine lx ?_;intro x3;refine At.c 1 ?_ ?_
   ·refine At.b 5 (λ_ e=>bA hT (eA 2 1 j64) e) λe4=>?_;refine At.b 1 (λ_ e=>aH [] (aGa e)) λr5=>?_;refine At.c 0 ?_ ?_
    ·intro e;apply aAT g1 e;exact At.r 2
    ·exact λh=>At.k 2 ⟨_,h,jr⟩
   ·apply rt;exact At.xs 0
 ·apply rt;exact At.r 1
def cI(N:Nat)(a0:(List (Vector Int 2))):Option (Bool):=
 ae (cS N a0) λr1=>
 some (decide (r1>=0))
theorem sR{N a0 r}(h:cI N a0=some r):FnM Tryz.prog 190 [] [(eL 2 (eA 2 1 j64) a0),(.fn (.func 187) [] [])] (eB r) []:=by
 unfold cI at h;refine At.f dI hT hmo Tryz.func190 rfl h ?_;refine At.b 3 (λ_ e=>aH [] (tS e)) λr1=>?_;apply rt;exact At.r 2
def aEI : Nat->Bool:=imL [2]
def mD(N:Nat)(a0:(Vector Int 3))(a1:aL):Option (Bool):=
 ae (ae (idx a0.toList 0) λe2=>
 ae (idx a0.toList 1) λe3=>
 ae (idx a0.toList 2) λe4=>
 aN (decide ((mY (mY e2 e3) e4) < 0)) λx5=>
 cond x5 (
  some true) (
  ae (idx a0.toList 0) λe6=>
  ae (idx a0.toList 1) λe7=>
  ae (idx a0.toList 2) λe8=>
  aN ((a1.gG.length:Int)) λx9=>
  aN (decide ((vB (vB e6 e7) e8)>=x9)) λx10=>
  cond x10 (
   some true) (
   ae (idx a0.toList 0) λe11=>
   ae (idx a0.toList 1) λe12=>
   cond (e11==e12) (
    some true) (
    ae (idx a0.toList 1) λe13=>
    ae (idx a0.toList 2) λe14=>
    cond (e13==e14) (
     some true) (
     ae (idx a0.toList 2) λe15=>
     ae (idx a0.toList 0) λe16=>
     some (e15==e16)))))) λp1=>
 some p1
theorem aDT{N a0 a1 r}(h:mD N a0 a1=some r):FnM Tryz.prog 188 [] [(eA 3 1 j64 a0),(.im (aL.enc a1))] (eB r) []:=by
 unfold mD at h;refine At.f aEI hT hmo Tryz.func188 rfl h ?_;refine At.J 2 0 [] 0 (λp1=>([(3,(eB p1))],[],[])) (λp1=>?_) λp1=>?_
 ·refine At.b 0 (λ_ e=>bK hT (N:=3) (k:=1) j64 a0 e) λe2=>?_;refine At.b 1 (λ_ e=>bK hT (N:=3) (k:=1) j64 a0 e) λe3=>?_;refine At.b 1 (λ_ e=>bK hT (N:=3) (k:=1) j64 a0 e) λe4=>?_;refine At.o 1 (aEg (k := .i64) (i:=e2) (j:=e3) (l:=e4) (by kernel_rfl) (by kernel_rfl)) ?_;refine lx ?_;intro x5;refine At.s 12 2 ?_ ?_
  ·refine At.g [12,25,32,39] 34 ?_;apply rt;exact At.jn 0
  ·refine At.b 0 (λ_ e=>bK hT (N:=3) (k:=1) j64 a0 e) λe6=>?_;refine At.g [12] 1 ?_;refine At.b 0 (λ_ e=>bK hT (N:=3) (k:=1) j64 a0 e) λe7=>?_;refine At.g [12] 1 ?_;refine At.b 0 (λ_ e=>bK hT (N:=3) (k:=1) j64 a0 e) λe8=>?_;refine At.g [12] 1 ?_;refine At.o 0 (aFC (k := .i64) (i:=e6) (j:=e7) (l:=e8) (by kernel_rfl) (by kernel_rfl)) ?_;refine lx ?_;intro x9;refine lx ?_;intro x10;refine At.g [12] 6 ?_;refine At.s 25 0 ?_ ?_
   ·refine At.g [25,32,39] 21 ?_;apply rt;exact At.jn 0
   ·refine At.b 0 (λ_ e=>bK hT (N:=3) (k:=1) j64 a0 e) λe11=>?_;refine At.g [25] 1 ?_;refine At.b 0 (λ_ e=>bK hT (N:=3) (k:=1) j64 a0 e) λe12=>?_;refine At.g [25] 4 ?_;refine At.s 32 0 ?_ ?_
    ·refine At.g [32,39] 14 ?_;apply rt;exact At.jn 0
    ·refine At.b 0 (λ_ e=>bK hT (N:=3) (k:=1) j64 a0 e) λe13=>?_;refine At.g [32] 1 ?_;refine At.b 0 (λ_ e=>bK hT (N:=3) (k:=1) j64 a0 e) λe14=>?_;refine At.g [32] 4 ?_;refine At.s 39 0 ?_ ?_
     ·refine At.g [39] 7 ?_;apply rt;exact At.jn 0
     ·refine At.b 0 (λ_ e=>bK hT (N:=3) (k:=1) j64 a0 e) λe15=>?_;refine At.g [39] 1 ?_;refine At.b 0 (λ_ e=>bK hT (N:=3) (k:=1) j64 a0 e) λe16=>?_;refine At.g [39] 4 ?_;apply rt;exact At.jn 0
 ·apply rt;exact At.r 0
def bD(N:Nat)(a0:(List (Vector Int 3)))(a1:aL):Nat->Int->Option (Sum (Unit) (Int))
 | 0,_=>none
 | k+1,s2=>
  aN (decide (s2 < ((a0.length:Int)))) λx3=>
  cond x3 (
   ae (idx a0 s2) λe4=>
   ae (mD N e4 a1) λr5=>
   cond r5 (
    some (Sum.inr s2)) (
    bD N a0 a1 k (I64 (s2+1)))) (
   some (Sum.inl (())))
def cQ(N:Nat)(a0:(List (Vector Int 3)))(a1:aL):Option (Int):=
 ae (bD N a0 a1 N 0) λo=>qS o (λp1=>
  some (-1)) (λr=>some r)
theorem tU{N a0 a1 r}(h:cQ N a0 a1=some r):FnM Tryz.prog 219 [] [(eL 3 (eA 3 1 j64) a0),(.fn (.func 188) [] [(.im (aL.enc a1))])] (j64 r) []:=by
 unfold cQ at h;refine At.f dI hT hmo Tryz.func219 rfl h ?_;refine At.LS 4 [] 0 (λp1=>([],[],[])) (λop1 J k=>∃s2,bD N a0 a1 k s2=some op1/\J [0,1,7] 0 [(8,(j64 s2))] [] []) N (λ_ h=>⟨_,h,jr⟩) (λop1 g1 k s hI=>?_) λp1=>?_
 ·obtain⟨s2,h,hj⟩:=hI;cases k with
  | zero=>cases h
  | succ k=>
   refine At.jr hj ?_ h;refine lx ?_;intro x3;refine At.c 1 ?_ ?_
   ·refine At.b 5 (λ_ e=>bA hT (eA 3 1 j64) e) λe4=>?_;refine At.b 1 (λ_ e=>aH [] (aDT e)) λr5=>?_;refine At.c 0 ?_ ?_
    ·intro e;apply aAT g1 e;exact At.r 2
    ·exact λh=>At.k 2 ⟨_,h,jr⟩
   ·apply rt;exact At.xs 0
 ·apply rt;exact At.r 1
def cJ(N:Nat)(a0:(List (Vector Int 3)))(a1:aL):Option (Bool):=
 ae (cQ N a0 a1) λr1=>
 some (decide (r1>=0))
theorem sQ{N a0 a1 r}(h:cJ N a0 a1=some r):FnM Tryz.prog 191 [] [(eL 3 (eA 3 1 j64) a0),(.fn (.func 188) [] [(.im (aL.enc a1))])] (eB r) []:=by
 unfold cJ at h;refine At.f dI hT hmo Tryz.func191 rfl h ?_;refine At.b 3 (λ_ e=>aH [] (tU e)) λr1=>?_;apply rt;exact At.r 2
def aKa : Nat->Bool:=imL [1]
def kP(N:Nat)(a0:aL):Option (Int):=
 aN ((a0.gG.length:Int)) λx1=>
 aN ((a0.gK.length:Int)) λx2=>
 aN (cond (decide (x1 > 64)) true (decide (x2 > 64))) λx3=>
 cond x3 (
  some 3) (
  aN ((a0.gG.length:Int)) λx4=>
  aN ((a0.gK.length:Int)) λx5=>
  aN (cond (x4==0) true (x5==0)) λx6=>
  aN ((a0.gG.length:Int)) λx7=>
  aN (((a0.gO.length:Int)) != x7) λx8=>
  cond (cond x6 true x8) (
   some 5) (
   ae (bS N a0.gG) λr9=>
   cond r9 (
    some 8) (
    ae (ae (cI N a0.gO) λr11=>
    cond r11 (
     some true) (
     ae (cJ N a0.gK a0) λr12=>
     some r12)) λp10=>
    cond p10 (some 5) (some 0))))
theorem aAy{N a0 r}(h:kP N a0=some r):FnM Tryz.prog 155 [] [(aL.enc a0)] (j64 r) []:=by
 unfold kP at h;refine At.f aKa hT hmo Tryz.func155 rfl h ?_;refine At.o 4 (aKX (x:=(.fn (.func 188) [] [(.im (aL.enc a0))])) (by kernel_rfl) (by kernel_rfl)) ?_;refine lx ?_;intro x1;refine lx ?_;intro x2;refine lx ?_;intro x3;refine At.c 12 ?_ ?_
 ·apply rt;exact At.r 1
 ·refine lx ?_;intro x4;refine lx ?_;intro x5;refine lx ?_;intro x6;refine lx ?_;intro x7;refine lx ?_;intro x8;refine At.c 20 ?_ ?_
  ·apply rt;exact At.r 1
  ·refine At.b 3 (λ_ e=>aH [] (qB e)) λr9=>?_;refine At.c 1 ?_ ?_
   ·apply rt;exact At.r 1
   ·refine At.J 0 0 [] 0 (λp10=>([(43,(eB p10))],[],[])) (λp10=>?_) λp10=>?_
    ·refine At.b 3 (λ_ e=>aH [] (sR e)) λr11=>?_;refine At.s 48 1 ?_ ?_
     ·refine At.g [48] 6 ?_;apply rt;exact At.jn 0
     ·refine At.g [48] 3 ?_;refine At.b 0 (λ_ e=>aH [] (sQ e)) λr12=>?_;refine At.g [48] 2 ?_;apply rt;exact At.jn 0
    ·refine At.c 0 ?_ ?_
     ·apply rt;exact At.r 1
     ·apply rt;exact At.r 1
def cY(N:Nat)(a0:(List Int))(a1:Int):Nat->Int->Option (Sum (Unit) (Int))
 | 0,_=>none
 | k+1,s2=>
  aN (decide (s2 < ((a0.length:Int)))) λx3=>
  cond x3 (
   ae (idx a0 s2) λe4=>
   cond (a1==e4) (
    some (Sum.inr s2)) (
    cY N a0 a1 k (I64 (s2+1)))) (
   some (Sum.inl (())))
def lX(N:Nat)(a0:(List Int))(a1:Int):Option (Int):=
 ae (cY N a0 a1 N 0) λo=>qS o (λp1=>
  some (-1)) (λr=>some r)
theorem aBJ{N a0 a1 r}(h:lX N a0 a1=some r):FnM Tryz.prog 220 [] [(eL 1 j64 a0),(j64 a1)] (j64 r) []:=by
 unfold lX at h;refine At.f dI hT hmo Tryz.func220 rfl h ?_;refine At.LS 4 [] 0 (λp1=>([],[],[])) (λop1 J k=>∃s2,cY N a0 a1 k s2=some op1/\J [0,1,7] 0 [(8,(j64 s2))] [] []) N (λ_ h=>⟨_,h,jr⟩) (λop1 g1 k s hI=>?_) λp1=>?_
 ·obtain⟨s2,h,hj⟩:=hI;cases k with
  | zero=>cases h
  | succ k=>
   refine At.jr hj ?_ h;refine lx ?_;intro x3;refine At.c 1 ?_ ?_
   ·refine At.b 5 (λ_ e=>bA hT j64 e) λe4=>?_;refine At.c 2 ?_ ?_
    ·intro e;apply aAT g1 e;exact At.r 2
    ·exact λh=>At.k 2 ⟨_,h,jr⟩
   ·apply rt;exact At.xs 0
 ·apply rt;exact At.r 1
def fL(N:Nat)(a0:(List Int))(a1:Int):Option (Bool):=
 ae (lX N a0 a1) λr1=>
 some (decide (r1>=0))
theorem aAO{N a0 a1 r}(h:fL N a0 a1=some r):FnM Tryz.prog 192 [] [(eL 1 j64 a0),(j64 a1)] (eB r) []:=by
 unfold fL at h;refine At.f dI hT hmo Tryz.func192 rfl h ?_;refine At.b 3 (λ_ e=>aH [] (aBJ e)) λr1=>?_;apply rt;exact At.r 2
def aGX : Nat->Bool:=imL [1]
def iT(N:Nat)(x5:Int)(a0:aI):Nat->Int->Option (Sum (Unit) (Int))
 | 0,_=>none
 | k+1,s7=>
  cond (decide (s7 < x5)) (
   ae (idx a0.gL s7) λe8=>
   ae (ae (aP 0 3) λ_=>
   ae (e8.toList[(af 0)]?) λe11=>
   ae (aP 1 3) λ_=>
   ae (e8.toList[(af 1)]?) λe13=>
   ae (aP 2 3) λ_=>
   ae (e8.toList[(af 2)]?) λe15=>
   aN (decide ((mY (mY e11 e13) e15) < 0)) λx16=>
   cond x16 (
    some true) (
    ae (aP 0 3) λ_=>
    ae (e8.toList[(af 0)]?) λe18=>
    ae (aP 1 3) λ_=>
    ae (e8.toList[(af 1)]?) λe20=>
    ae (aP 2 3) λ_=>
    ae (e8.toList[(af 2)]?) λe22=>
    aN (decide ((vB (vB e18 e20) e22) > 255)) λx23=>
    some x23)) λp9=>
   cond p9 (some (Sum.inr 5)) (iT N x5 a0 k (I64 (s7+1)))) (
   some (Sum.inl (())))
def dW(N:Nat)(a0:aI):Option (Int):=
 ae (fL N ([1,2,4,8,16]) a0.gQ) λr1=>
 aN ((a0.gL.length:Int)) λx2=>
 aN (I64 (a0.gQ*a0.gQ)) λx3=>
 aN (cond (!r1) true (x2 != x3)) λx4=>
 cond x4 (
  some 5) (
  aN ((a0.gL.length:Int)) λx5=>
  ae (iT N x5 a0 N 0) λo=>qS o (λp6=>
   some 0) (λr=>some r))
theorem xC{N a0 r}(h:dW N a0=some r):FnM Tryz.prog 156 [] [(aI.enc a0)] (j64 r) []:=by
 unfold dW at h;refine At.f aGX hT hmo Tryz.func156 rfl h ?_;refine At.o 2 (aY hT (x:=(.sl 1 5 [(j64 1),(j64 2),(j64 4),(j64 8),(j64 16)]))) ?_;refine At.b 2 (λ_ e=>aH [] (aAO e)) λr1=>?_;refine lx ?_;intro x2;refine lx ?_;intro x3;refine lx ?_;intro x4;refine At.c 12 ?_ ?_
 ·apply rt;exact At.r 1
 ·refine lx ?_;intro x5;refine At.LS 4 [] 0 (λp6=>([],[],[])) (λop6 J k=>∃s7,iT N x5 a0 k s7=some op6/\J [22,23] 0 [(24,(j64 s7))] [] []) N (λ_ h=>⟨_,h,jr⟩) (λop6 g6 k s hI=>?_) λp6=>?_
  ·obtain⟨s7,h,hj⟩:=hI;cases k with
   | zero=>cases h
   | succ k=>
    refine At.jr hj ?_ h;refine At.c 1 ?_ ?_
    ·refine At.b 0 (λ_ e=>bA hT (eA 3 1 j64) e) λe8=>?_;refine At.J 3 0 [22,23,24] 1 (λp9=>([(45,(eB p9))],[],[])) (λp9=>?_) λp9=>?_
     ·refine At.b 0 (λ_ e=>aD hT (k:=1) 0 [] 0 e) λu10=>?_;refine At.b 0 (λ_ e=>aV hT j64 0 e) λe11=>?_;refine At.b 0 (λ_ e=>aD hT (k:=1) 0 [] 0 e) λu12=>?_;refine At.b 0 (λ_ e=>aV hT j64 0 e) λe13=>?_;refine At.b 0 (λ_ e=>aD hT (k:=1) 0 [] 0 e) λu14=>?_;refine At.b 0 (λ_ e=>aV hT j64 0 e) λe15=>?_;refine At.o 0 (aEg (k := .i64) (i:=e11) (j:=e13) (l:=e15) (by kernel_rfl) (by kernel_rfl)) ?_;refine lx ?_;intro x16;refine At.s 36 2 ?_ ?_
      ·refine At.g [36] 9 ?_;apply rt;exact At.jn 0
      ·refine At.b 0 (λ_ e=>aD hT (k:=1) 0 [] 0 e) λu17=>?_;refine At.b 0 (λ_ e=>aV hT j64 0 e) λe18=>?_;refine At.b 0 (λ_ e=>aD hT (k:=1) 0 [] 0 e) λu19=>?_;refine At.b 0 (λ_ e=>aV hT j64 0 e) λe20=>?_;refine At.b 0 (λ_ e=>aD hT (k:=1) 0 [] 0 e) λu21=>?_;refine At.b 0 (λ_ e=>aV hT j64 0 e) λe22=>?_;refine At.o 0 (aFC (k := .i64) (i:=e18) (j:=e20) (l:=e22) (by kernel_rfl) (by kernel_rfl)) ?_;refine lx ?_;intro x23;refine At.g [36] 2 ?_;apply rt;exact At.jn 0
     ·refine At.c 0 ?_ ?_
      ·intro e;apply aAT g6 e;exact At.r 1
      ·exact λh=>At.k 2 ⟨_,h,jr⟩
    ·apply rt;exact At.xs 0
  ·apply rt;exact At.r 1
def qT(N:Nat)(a0 a1:Int):Option (Bool):=
 aN (cond (decide (a0 < 0)) true (decide (a0 > a1))) λx1=>
 some x1
theorem aBx{N a0 a1 r}(h:qT N a0 a1=some r):FnM Tryz.prog 226 [] [(j64 a0),(.im (j64 a1))] (eB r) []:=by
 unfold qT at h;refine At.f dI hT hmo Tryz.func226 rfl h ?_;refine lx ?_;intro x1;apply rt;exact At.r 9
def bJ(N:Nat)(a0:(List Int))(a1:Int):Nat->Int->Option (Sum (Unit) (Int))
 | 0,_=>none
 | k+1,s2=>
  aN (decide (s2 < ((a0.length:Int)))) λx3=>
  cond x3 (
   ae (idx a0 s2) λe4=>
   ae (qT N e4 a1) λr5=>
   cond r5 (
    some (Sum.inr s2)) (
    bJ N a0 a1 k (I64 (s2+1)))) (
   some (Sum.inl (())))
def dE(N:Nat)(a0:(List Int))(a1:Int):Option (Int):=
 ae (bJ N a0 a1 N 0) λo=>qS o (λp1=>
  some (-1)) (λr=>some r)
theorem uV{N a0 a1 r}(h:dE N a0 a1=some r):FnM Tryz.prog 233 [] [(eL 1 j64 a0),(.fn (.func 226) [] [(.im (j64 a1))])] (j64 r) []:=by
 unfold dE at h;refine At.f dI hT hmo Tryz.func233 rfl h ?_;refine At.LS 4 [] 0 (λp1=>([],[],[])) (λop1 J k=>∃s2,bJ N a0 a1 k s2=some op1/\J [0,1,7] 0 [(8,(j64 s2))] [] []) N (λ_ h=>⟨_,h,jr⟩) (λop1 g1 k s hI=>?_) λp1=>?_
 ·obtain⟨s2,h,hj⟩:=hI;cases k with
  | zero=>cases h
  | succ k=>
   refine At.jr hj ?_ h;refine lx ?_;intro x3;refine At.c 1 ?_ ?_
   ·refine At.b 5 (λ_ e=>bA hT j64 e) λe4=>?_;refine At.b 1 (λ_ e=>aH [] (aBx e)) λr5=>?_;refine At.c 0 ?_ ?_
    ·intro e;apply aAT g1 e;exact At.r 2
    ·exact λh=>At.k 2 ⟨_,h,jr⟩
   ·apply rt;exact At.xs 0
 ·apply rt;exact At.r 1
def cM(N:Nat)(a0:(List Int))(a1:Int):Option (Bool):=
 ae (dE N a0 a1) λr1=>
 some (decide (r1>=0))
theorem tF{N a0 a1 r}(h:cM N a0 a1=some r):FnM Tryz.prog 225 [] [(eL 1 j64 a0),(.fn (.func 226) [] [(.im (j64 a1))])] (eB r) []:=by
 unfold cM at h;refine At.f dI hT hmo Tryz.func225 rfl h ?_;refine At.b 3 (λ_ e=>aH [] (uV e)) λr1=>?_;apply rt;exact At.r 2
def aGk : Nat->Bool:=imL [2]
def iU(N:Nat)(a0:Int)(a1:(List Int)):Option (Bool):=
 ae (cM N a1 a0) λr1=>
 some r1
theorem uM{N a0 a1 r}(h:iU N a0 a1=some r):FnM Tryz.prog 206 [] [(j64 a0),(eL 1 j64 a1)] (eB r) []:=by
 unfold iU at h;refine At.f aGk hT hmo Tryz.func206 rfl h ?_;refine At.o 3 (aKX (x:=(.fn (.func 226) [] [(.im (j64 a0))])) (by kernel_rfl) (by kernel_rfl)) ?_;refine At.b 0 (λ_ e=>aH [] (tF e)) λr1=>?_;apply rt;exact At.r 1
def aFe : Nat->Bool:=imL [1]
def nI(N:Nat)(a0:aG):Option (Int):=
 ae (ae (iU N 4 ([a0.gD])) λr2=>
 cond r2 (
  some true) (
  ae (idx a0.gF.toList 0) λe3=>
  ae (idx a0.gF.toList 1) λe4=>
  ae (idx a0.gF.toList 2) λe5=>
  ae (iU N 65535 ([e3,e4,e5,a0.gA5])) λr6=>
  some r6)) λp1=>
 cond p1 (some 5) (some 0)
theorem aE7{N a0 r}(h:nI N a0=some r):FnM Tryz.prog 176 [] [(aG.enc a0)] (j64 r) []:=by
 unfold nI at h;refine At.f aFe hT hmo Tryz.func176 rfl h ?_;refine At.J 2 0 [] 0 (λp1=>([(21,(eB p1))],[],[])) (λp1=>?_) λp1=>?_
 ·refine At.o 2 (aY hT (x:=(.sl 1 1 [(j64 a0.gD)]))) ?_;refine At.b 0 (λ_ e=>aH [] (uM e)) λr2=>?_;refine At.s 7 1 ?_ ?_
  ·refine At.g [7] 14 ?_;apply rt;exact At.jn 0
  ·refine At.g [7] 1 ?_;refine At.b 0 (λ_ e=>bK hT (N:=3) (k:=1) j64 a0.gF e) λe3=>?_;refine At.g [7] 2 ?_;refine At.b 0 (λ_ e=>bK hT (N:=3) (k:=1) j64 a0.gF e) λe4=>?_;refine At.g [7] 2 ?_;refine At.b 0 (λ_ e=>bK hT (N:=3) (k:=1) j64 a0.gF e) λe5=>?_;refine At.g [7] 3 ?_;refine At.o 0 (aY hT (x:=(.sl 1 4 [(j64 e3),(j64 e4),(j64 e5),(j64 a0.gA5)]))) ?_;refine At.b 0 (λ_ e=>aH [] (uM e)) λr6=>?_;refine At.g [7] 1 ?_;apply rt;exact At.jn 0
 ·refine At.c 0 ?_ ?_
  ·apply rt;exact At.r 1
  ·apply rt;exact At.r 1
def aGe : Nat->Bool:=imL [1]
def oD(N:Nat)(a0:aB):Option (Bool):=
 ae (aN (decide ((vB (vB a0.gX a0.gY) a0.gZ) > 4096)) λx2=>
 cond x2 (
  some true) (
  aN (decide ((mY (mY a0.gX a0.gY) a0.gZ) < (-4096))) λx3=>
  some x3)) λp1=>
 some p1
theorem xG{N a0 r}(h:oD N a0=some r):FnM Tryz.prog 207 [] [(aB.enc a0)] (eB r) []:=by
 unfold oD at h;refine At.f aGe hT hmo Tryz.func207 rfl h ?_;refine At.J 2 0 [] 0 (λp1=>([(2,(eB p1))],[],[])) (λp1=>?_) λp1=>?_
 ·refine At.o 6 (aFC (k := .i64) (i:=a0.gX) (j:=a0.gY) (l:=a0.gZ) (by kernel_rfl) (by kernel_rfl)) ?_;refine lx ?_;intro x2;refine At.s 11 2 ?_ ?_
  ·refine At.g [11] 10 ?_;apply rt;exact At.jn 0
  ·refine At.g [11] 6 ?_;refine At.o 0 (aEg (k := .i64) (i:=a0.gX) (j:=a0.gY) (l:=a0.gZ) (by kernel_rfl) (by kernel_rfl)) ?_;refine lx ?_;intro x3;refine At.g [11] 3 ?_;apply rt;exact At.jn 0
 ·apply rt;exact At.r 0
def aI8 : Nat->Bool:=imL [1]
def rJ(N:Nat)(a0:aK):Option (Int):=
 ae (ae (iU N 2 ([a0.gD])) λr2=>
 cond r2 (
  some true) (
  ae (dU a0.gF.toList 0 3) λs3=>
  ae (iU N 1048576 s3) λr4=>
  some r4)) λp1=>
 cond p1 (
  some 5) (
  ae (ae (oD N a0.gAt) λr6=>
  cond r6 (
   some true) (
   ae (oD N a0.gU) λr7=>
   cond r7 (
    some true) (
    ae (oD N a0.gV) λr8=>
    some r8))) λp5=>
  cond p5 (
   some 8) (
   ae (cond (a0.gD==2) (
    cond (!(aB.eq a0.gAt (aB.mk 0 0 0))) (
     some (Sum.inr 5)) (
     ae (aN (!(aB.eq a0.gU (aB.mk 0 0 0))) λx11=>
     cond x11 (
      some true) (
      some (!(aB.eq a0.gV (aB.mk 0 0 0))))) λp10=>
     cond p10 (some (Sum.inr 5)) (some (Sum.inl (()))))) (
    cond (a0.gD==0) (
     ae (aN (!(aB.eq a0.gU (aB.mk 0 0 0))) λx13=>
     cond x13 (
      some true) (
      some (!(aB.eq a0.gV (aB.mk 0 0 0))))) λp12=>
     cond p12 (some (Sum.inr 5)) (some (Sum.inl (())))) (
     some (Sum.inl (()))))) λo=>qS o (λp9=>
    some 0) (λr=>some r)))
theorem aHx{N a0 r}(h:rJ N a0=some r):FnM Tryz.prog 177 [] [(aK.enc a0)] (j64 r) []:=by
 unfold rJ at h;refine At.f aI8 hT hmo Tryz.func177 rfl h ?_;refine At.J 6 0 [1,3,4] 1 (λp1=>([(6,(eB p1))],[],[])) (λp1=>?_) λp1=>?_
 ·refine At.o 2 (aY hT (x:=(.sl 1 1 [(j64 a0.gD)]))) ?_;refine At.b 0 (λ_ e=>aH [] (uM e)) λr2=>?_;refine At.s 11 1 ?_ ?_
  ·refine At.g [11] 5 ?_;apply rt;exact At.jn 0
  ·refine At.g [11] 1 ?_;refine At.b 0 (λ_ e=>jX hT (N:=3) (k:=1) j64 a0.gF e) λs3=>?_;refine At.b 0 (λ_ e=>aH [] (uM e)) λr4=>?_;refine At.g [11] 2 ?_;apply rt;exact At.jn 0
 ·refine At.c 0 ?_ ?_
  ·apply rt;exact At.r 1
  ·refine At.J 0 0 [1,4] 1 (λp5=>([(16,(eB p5))],[],[])) (λp5=>?_) λp5=>?_
   ·refine At.b 3 (λ_ e=>aH [] (xG e)) λr6=>?_;refine At.s 21 1 ?_ ?_
    ·refine At.g [21,27] 12 ?_;apply rt;exact At.jn 0
    ·refine At.g [21] 3 ?_;refine At.b 0 (λ_ e=>aH [] (xG e)) λr7=>?_;refine At.g [21] 2 ?_;refine At.s 27 0 ?_ ?_
     ·refine At.g [27] 6 ?_;apply rt;exact At.jn 0
     ·refine At.g [27] 3 ?_;refine At.b 0 (λ_ e=>aH [] (xG e)) λr8=>?_;refine At.g [27] 2 ?_;apply rt;exact At.jn 0
   ·refine At.c 0 ?_ ?_
    ·apply rt;exact At.r 1
    ·refine At.JS 0 1 [] 1 (λp9=>([],[],[])) (λop9 g9=>?_) λp9=>?_
     ·refine At.c 4 ?_ ?_
      ·refine At.o 3 (nK wS (a0.gAt:aB) (aB.mk 0 0 0:aB) (by kernel_rfl) (by kernel_rfl) (λ_=>rfl) (λ_=>rfl) (by kernel_rfl) (by kernel_rfl)) ?_;refine At.c 0 ?_ ?_
       ·intro e;apply aAT g9 e;exact At.r 1
       ·refine At.J 0 0 [] 1 (λp10=>([(52,(eB p10))],[],[])) (λp10=>?_) λp10=>?_
        ·refine At.o 3 (nK wS (a0.gU:aB) (aB.mk 0 0 0:aB) (by kernel_rfl) (by kernel_rfl) (λ_=>rfl) (λ_=>rfl) (by kernel_rfl) (by kernel_rfl)) ?_;refine lx ?_;intro x11;refine At.s 47 1 ?_ ?_
         ·refine At.g [47] 5 ?_;apply rt;exact At.jn 0
         ·refine At.g [47] 3 ?_;refine At.o 0 (nK wS (a0.gV:aB) (aB.mk 0 0 0:aB) (by kernel_rfl) (by kernel_rfl) (λ_=>rfl) (λ_=>rfl) (by kernel_rfl) (by kernel_rfl)) ?_;refine At.g [47] 1 ?_;apply rt;exact At.jn 0
        ·refine At.c 0 ?_ ?_
         ·intro e;apply aAT g9 e;exact At.r 1
         ·apply rt;exact At.jsn 0
      ·refine At.c 2 ?_ ?_
       ·refine At.J 0 0 [] 1 (λp12=>([(52,(eB p12))],[],[])) (λp12=>?_) λp12=>?_
        ·refine At.o 3 (nK wS (a0.gU:aB) (aB.mk 0 0 0:aB) (by kernel_rfl) (by kernel_rfl) (λ_=>rfl) (λ_=>rfl) (by kernel_rfl) (by kernel_rfl)) ?_;refine lx ?_;intro x13;refine At.s 47 1 ?_ ?_
         ·refine At.g [47] 5 ?_;apply rt;exact At.jn 0
         ·refine At.g [47] 3 ?_;refine At.o 0 (nK wS (a0.gV:aB) (aB.mk 0 0 0:aB) (by kernel_rfl) (by kernel_rfl) (λ_=>rfl) (λ_=>rfl) (by kernel_rfl) (by kernel_rfl)) ?_;refine At.g [47] 1 ?_;apply rt;exact At.jn 0
        ·refine At.c 0 ?_ ?_
         ·intro e;apply aAT g9 e;exact At.r 1
         ·apply rt;exact At.jsn 0
       ·apply rt;exact At.jsn 0
     ·apply rt;exact At.r 1
def aLr : Nat->Bool:=imL [1]
def nT(N:Nat)(a0:aF):Option (Int):=
 cond (a0.gD==1) (
  ae (kP N a0.gW) λr1=>
  some r1) (
  cond (a0.gD==2) (
   ae (dW N a0.gA1) λr2=>
   some r2) (
   cond (a0.gD==3) (
    ae (nI N a0.gJ) λr3=>
    some r3) (
    cond (a0.gD==4) (
     ae (rJ N a0.gE) λr4=>
     some r4) (
     some 12))))
theorem aKN{N a0 r}(h:nT N a0=some r):FnM Tryz.prog 125 [] [(aF.enc a0)] (j64 r) []:=by
 unfold nT at h;refine At.f aLr hT hmo Tryz.func125 rfl h ?_;refine At.c 6 ?_ ?_
 ·refine At.b 2 (λ_ e=>aH [] (aAy e)) λr1=>?_;apply rt;exact At.r 1
 ·refine At.c 2 ?_ ?_
  ·refine At.b 2 (λ_ e=>aH [] (xC e)) λr2=>?_;apply rt;exact At.r 1
  ·refine At.c 2 ?_ ?_
   ·refine At.b 2 (λ_ e=>aH [] (aE7 e)) λr3=>?_;apply rt;exact At.r 1
   ·refine At.c 2 ?_ ?_
    ·refine At.b 2 (λ_ e=>aH [] (aHx e)) λr4=>?_;apply rt;exact At.r 1
    ·apply rt;exact At.r 1
def wR(N:Nat)(a0:aF):Option (aF):=
 ae (cond (a0.gD==1) (
  some (([],[],[],a0.gA1.gQ,a0.gA1.gL,a0.gJ.gD,a0.gJ.gF,a0.gJ.gA5,a0.gE.gD,a0.gE.gF,a0.gE.gAt.gX,a0.gE.gAt.gY,a0.gE.gAt.gZ,a0.gE.gU.gX,a0.gE.gU.gY,a0.gE.gU.gZ,a0.gE.gV.gX,a0.gE.gV.gY,a0.gE.gV.gZ))) (
  cond (a0.gD==2) (
   some ((a0.gW.gG,a0.gW.gO,a0.gW.gK,0,[],a0.gJ.gD,a0.gJ.gF,a0.gJ.gA5,a0.gE.gD,a0.gE.gF,a0.gE.gAt.gX,a0.gE.gAt.gY,a0.gE.gAt.gZ,a0.gE.gU.gX,a0.gE.gU.gY,a0.gE.gU.gZ,a0.gE.gV.gX,a0.gE.gV.gY,a0.gE.gV.gZ))) (
   cond (a0.gD==3) (
    some ((a0.gW.gG,a0.gW.gO,a0.gW.gK,a0.gA1.gQ,a0.gA1.gL,0,#v[0,0,0],0,a0.gE.gD,a0.gE.gF,a0.gE.gAt.gX,a0.gE.gAt.gY,a0.gE.gAt.gZ,a0.gE.gU.gX,a0.gE.gU.gY,a0.gE.gU.gZ,a0.gE.gV.gX,a0.gE.gV.gY,a0.gE.gV.gZ))) (
    cond (a0.gD==4) (
     some ((a0.gW.gG,a0.gW.gO,a0.gW.gK,a0.gA1.gQ,a0.gA1.gL,a0.gJ.gD,a0.gJ.gF,a0.gJ.gA5,0,#v[0,0,0],0,0,0,0,0,0,0,0,0))) (
     some ((a0.gW.gG,a0.gW.gO,a0.gW.gK,a0.gA1.gQ,a0.gA1.gL,a0.gJ.gD,a0.gJ.gF,a0.gJ.gA5,a0.gE.gD,a0.gE.gF,a0.gE.gAt.gX,a0.gE.gAt.gY,a0.gE.gAt.gZ,a0.gE.gU.gX,a0.gE.gU.gY,a0.gE.gU.gZ,a0.gE.gV.gX,a0.gE.gV.gY,a0.gE.gV.gZ))))))) λp1=>
 some (aF.mk a0.gD (aL.mk p1.1 p1.2.1 p1.2.2.1) (aI.mk p1.2.2.2.1 p1.2.2.2.2.1) (aG.mk p1.2.2.2.2.2.1 p1.2.2.2.2.2.2.1 p1.2.2.2.2.2.2.2.1) (aK.mk p1.2.2.2.2.2.2.2.2.1 p1.2.2.2.2.2.2.2.2.2.1 (aB.mk p1.2.2.2.2.2.2.2.2.2.2.1 p1.2.2.2.2.2.2.2.2.2.2.2.1 p1.2.2.2.2.2.2.2.2.2.2.2.2.1) (aB.mk p1.2.2.2.2.2.2.2.2.2.2.2.2.2.1 p1.2.2.2.2.2.2.2.2.2.2.2.2.2.2.1 p1.2.2.2.2.2.2.2.2.2.2.2.2.2.2.2.1) (aB.mk p1.2.2.2.2.2.2.2.2.2.2.2.2.2.2.2.2.1 p1.2.2.2.2.2.2.2.2.2.2.2.2.2.2.2.2.2.1 p1.2.2.2.2.2.2.2.2.2.2.2.2.2.2.2.2.2.2)))
theorem aIt{N a0 r}(h:wR N a0=some r):FnM Tryz.prog 126 [] [(aF.enc a0)] (aF.enc r) []:=by
 unfold wR at h;refine At.f dI hT hmo Tryz.func126 rfl h ?_;refine At.J 2 1 [1,2] 2 (λp1=>([],[(0,.var (.st 24 [(j64 a0.gD),(.st 3 [(eL 3 aB.enc p1.1),(eL 2 (eA 2 1 j64) p1.2.1),(eL 3 (eA 3 1 j64) p1.2.2.1)]),(.st 2 [(j64 p1.2.2.2.1),(eL 3 (eA 3 1 j64) p1.2.2.2.2.1)]),(.st 5 [(j64 p1.2.2.2.2.2.1),(eA 3 1 j64 p1.2.2.2.2.2.2.1),(j64 p1.2.2.2.2.2.2.2.1)]),(.st 13 [(j64 p1.2.2.2.2.2.2.2.2.1),(eA 3 1 j64 p1.2.2.2.2.2.2.2.2.2.1),(.st 3 [(j64 p1.2.2.2.2.2.2.2.2.2.2.1),(j64 p1.2.2.2.2.2.2.2.2.2.2.2.1),(j64 p1.2.2.2.2.2.2.2.2.2.2.2.2.1)]),(.st 3 [(j64 p1.2.2.2.2.2.2.2.2.2.2.2.2.2.1),(j64 p1.2.2.2.2.2.2.2.2.2.2.2.2.2.2.1),(j64 p1.2.2.2.2.2.2.2.2.2.2.2.2.2.2.2.1)]),(.st 3 [(j64 p1.2.2.2.2.2.2.2.2.2.2.2.2.2.2.2.2.1),(j64 p1.2.2.2.2.2.2.2.2.2.2.2.2.2.2.2.2.2.1),(j64 p1.2.2.2.2.2.2.2.2.2.2.2.2.2.2.2.2.2.2)])])]))],[])) (λp1=>?_) λp1=>?_
 ·refine At.c 4 ?_ ?_
  ·apply rt;exact At.jn 3
  ·refine At.c 2 ?_ ?_
   ·apply rt;exact At.jn 3
   ·refine At.c 2 ?_ ?_
    ·apply rt;exact At.jn 3
    ·refine At.c 2 ?_ ?_
     ·apply rt;exact At.jn 3
     ·apply rt;exact At.jn 0
 ·apply rt;exact At.r 2
def eW(N:Nat)(a0 a1:(List aB)):Nat->Int->Option (Sum (Unit) (Bool))
 | 0,_=>none
 | k+1,s3=>
  aN (decide (s3 < ((a0.length:Int)))) λx4=>
  cond x4 (
   ae (idx a0 s3) λe5=>
   ae (idx a1 s3) λe6=>
   cond (!(aB.eq e5 e6)) (
    some (Sum.inr false)) (
    eW N a0 a1 k (I64 (s3+1)))) (
   some (Sum.inl (())))
def lM(N:Nat)(a0 a1:(List aB)):Option (Bool):=
 aN (((a0.length:Int)) != ((a1.length:Int))) λx1=>
 cond x1 (
  some false) (
  ae (eW N a0 a1 N 0) λo=>qS o (λp2=>
   some true) (λr=>some r))
theorem aAs{N a0 a1 r}(h:lM N a0 a1=some r):FnM Tryz.prog 45 [] [(eL 3 aB.enc a0),(eL 3 aB.enc a1)] (eB r) []:=by
 unfold lM at h;refine At.f dI hT hmo Tryz.func45 rfl h ?_;refine lx ?_;intro x1;refine At.c 6 ?_ ?_
 ·apply rt;exact At.r 1
 ·refine At.LS 3 [] 0 (λp2=>([],[],[])) (λop2 J k=>∃s3,eW N a0 a1 k s3=some op2/\J [0,1,12] 0 [(13,(j64 s3))] [] []) N (λ_ h=>⟨_,h,jr⟩) (λop2 g2 k s hI=>?_) λp2=>?_
  ·obtain⟨s3,h,hj⟩:=hI;cases k with
   | zero=>cases h
   | succ k=>
    refine At.jr hj ?_ h;refine lx ?_;intro x4;refine At.c 1 ?_ ?_
    ·refine bi λe5 he5=>?_;refine bi λe6 he6=>?_;refine At.d 2 (dE1 2 (λ_=>bA hT aB.enc he5) (dE1 6 (λ_=>bA hT aB.enc he6) (dE1 8 (λ_=>nK wS (e5:aB) (e6:aB) (by kernel_rfl) (by kernel_rfl) (λ_=>rfl) (λ_=>rfl) (by kernel_rfl) (by kernel_rfl)) dE0))) dF0 ?_;refine At.c 0 ?_ ?_
     ·intro e;apply aAT g2 e;exact At.r 1
     ·exact λh=>At.k 2 ⟨_,h,jr⟩
    ·apply rt;exact At.xs 0
  ·apply rt;exact At.r 1
def jB(N:Nat)(a0 a1:(List (Vector Int 2))):Nat->Int->Option (Sum (Unit) (Bool))
 | 0,_=>none
 | k+1,s3=>
  aN (decide (s3 < ((a0.length:Int)))) λx4=>
  cond x4 (
   ae (idx a0 s3) λe5=>
   ae (idx a1 s3) λe6=>
   cond (!((eqV (λa b=>a==b)) e5 e6)) (
    some (Sum.inr false)) (
    jB N a0 a1 k (I64 (s3+1)))) (
   some (Sum.inl (())))
def oP(N:Nat)(a0 a1:(List (Vector Int 2))):Option (Bool):=
 aN (((a0.length:Int)) != ((a1.length:Int))) λx1=>
 cond x1 (
  some false) (
  ae (jB N a0 a1 N 0) λo=>qS o (λp2=>
   some true) (λr=>some r))
theorem aCK{N a0 a1 r}(h:oP N a0 a1=some r):FnM Tryz.prog 46 [] [(eL 2 (eA 2 1 j64) a0),(eL 2 (eA 2 1 j64) a1)] (eB r) []:=by
 unfold oP at h;refine At.f dI hT hmo Tryz.func46 rfl h ?_;refine lx ?_;intro x1;refine At.c 6 ?_ ?_
 ·apply rt;exact At.r 1
 ·refine At.LS 3 [] 0 (λp2=>([],[],[])) (λop2 J k=>∃s3,jB N a0 a1 k s3=some op2/\J [0,1,12] 0 [(13,(j64 s3))] [] []) N (λ_ h=>⟨_,h,jr⟩) (λop2 g2 k s hI=>?_) λp2=>?_
  ·obtain⟨s3,h,hj⟩:=hI;cases k with
   | zero=>cases h
   | succ k=>
    refine At.jr hj ?_ h;refine lx ?_;intro x4;refine At.c 1 ?_ ?_
    ·refine bi λe5 he5=>?_;refine bi λe6 he6=>?_;refine At.d 2 (dE1 2 (λ_=>bA hT (eA 2 1 j64) he5) (dE1 6 (λ_=>bA hT (eA 2 1 j64) he6) (dE1 8 (λ_=>nK aRo (e5:(Vector Int 2)) (e6:(Vector Int 2)) (by kernel_rfl) (by kernel_rfl) (λ_=>rfl) (λ_=>rfl) (by kernel_rfl) (by kernel_rfl)) dE0))) dF0 ?_;refine At.c 0 ?_ ?_
     ·intro e;apply aAT g2 e;exact At.r 1
     ·exact λh=>At.k 2 ⟨_,h,jr⟩
    ·apply rt;exact At.xs 0
  ·apply rt;exact At.r 1
def jJ(N:Nat)(a0 a1:(List (Vector Int 3))):Nat->Int->Option (Sum (Unit) (Bool))
 | 0,_=>none
 | k+1,s3=>
  aN (decide (s3 < ((a0.length:Int)))) λx4=>
  cond x4 (
   ae (idx a0 s3) λe5=>
   ae (idx a1 s3) λe6=>
   cond (!((eqV (λa b=>a==b)) e5 e6)) (
    some (Sum.inr false)) (
    jJ N a0 a1 k (I64 (s3+1)))) (
   some (Sum.inl (())))
def mM(N:Nat)(a0 a1:(List (Vector Int 3))):Option (Bool):=
 aN (((a0.length:Int)) != ((a1.length:Int))) λx1=>
 cond x1 (
  some false) (
  ae (jJ N a0 a1 N 0) λo=>qS o (λp2=>
   some true) (λr=>some r))
theorem yI{N a0 a1 r}(h:mM N a0 a1=some r):FnM Tryz.prog 47 [] [(eL 3 (eA 3 1 j64) a0),(eL 3 (eA 3 1 j64) a1)] (eB r) []:=by
 unfold mM at h;refine At.f dI hT hmo Tryz.func47 rfl h ?_;refine lx ?_;intro x1;refine At.c 6 ?_ ?_
 ·apply rt;exact At.r 1
 ·refine At.LS 3 [] 0 (λp2=>([],[],[])) (λop2 J k=>∃s3,jJ N a0 a1 k s3=some op2/\J [0,1,12] 0 [(13,(j64 s3))] [] []) N (λ_ h=>⟨_,h,jr⟩) (λop2 g2 k s hI=>?_) λp2=>?_
  ·obtain⟨s3,h,hj⟩:=hI;cases k with
   | zero=>cases h
   | succ k=>
    refine At.jr hj ?_ h;refine lx ?_;intro x4;refine At.c 1 ?_ ?_
    ·refine bi λe5 he5=>?_;refine bi λe6 he6=>?_;refine At.d 2 (dE1 2 (λ_=>bA hT (eA 3 1 j64) he5) (dE1 6 (λ_=>bA hT (eA 3 1 j64) he6) (dE1 8 (λ_=>nK aL4 (e5:(Vector Int 3)) (e6:(Vector Int 3)) (by kernel_rfl) (by kernel_rfl) (λ_=>rfl) (λ_=>rfl) (by kernel_rfl) (by kernel_rfl)) dE0))) dF0 ?_;refine At.c 0 ?_ ?_
     ·intro e;apply aAT g2 e;exact At.r 1
     ·exact λh=>At.k 2 ⟨_,h,jr⟩
    ·apply rt;exact At.xs 0
  ·apply rt;exact At.r 1
def aKC : Nat->Bool:=imL [2,3]
def sV(N:Nat)(a0 a1:aF):Option (Bool):=
 ae (cond (a0.gD != a1.gD) (
  some true) (
  aN (!(aG.eq a0.gJ a1.gJ)) λx2=>
  cond x2 (
   some true) (
   aN (!(aK.eq a0.gE a1.gE)) λx3=>
   aN (a0.gA1.gQ != a1.gA1.gQ) λx4=>
   some (cond x3 true x4)))) λp1=>
 cond p1 (
  some false) (
  ae (ae (lM N a0.gW.gG a1.gW.gG) λr6=>
  cond r6 (
   ae (oP N a0.gW.gO a1.gW.gO) λr7=>
   cond r7 (
    ae (mM N a0.gW.gK a1.gW.gK) λr8=>
    cond r8 (
     ae (mM N a0.gA1.gL a1.gA1.gL) λr9=>
     some r9) (
     some false)) (
    some false)) (
   some false)) λp5=>
  some p5)
theorem aIb{N a0 a1 r}(h:sV N a0 a1=some r):FnM Tryz.prog 25 [] [(aF.enc a0),(aF.enc a1)] (eB r) []:=by
 unfold sV at h;refine At.f aKC hT hmo Tryz.func25 rfl h ?_;refine At.J 3 0 [2,3] 0 (λp1=>([(32,(eB p1))],[],[])) (λp1=>?_) λp1=>?_
 ·refine At.s 10 6 ?_ ?_
  ·refine At.g [10,17,24] 22 ?_;apply rt;exact At.jn 0
  ·refine At.g [10] 4 ?_;refine At.o 0 (nK aJf (a0.gJ:aG) (a1.gJ:aG) (by kernel_rfl) (by kernel_rfl) (λ_=>rfl) (λ_=>rfl) (by kernel_rfl) (by kernel_rfl)) ?_;refine lx ?_;intro x2;refine At.g [10] 2 ?_;refine At.s 17 0 ?_ ?_
   ·refine At.g [17,24] 15 ?_;apply rt;exact At.jn 0
   ·refine At.g [17] 4 ?_;refine At.o 0 (nK aJo (a0.gE:aK) (a1.gE:aK) (by kernel_rfl) (by kernel_rfl) (λ_=>rfl) (λ_=>rfl) (by kernel_rfl) (by kernel_rfl)) ?_;refine lx ?_;intro x3;refine lx ?_;intro x4;refine At.g [17] 10 ?_;apply rt;exact At.jn 0
 ·refine At.c 0 ?_ ?_
  ·apply rt;exact At.r 1
  ·refine At.J 0 0 [] 0 (λp5=>([(4,(eB p5))],[],[])) (λp5=>?_) λp5=>?_
   ·refine At.b 6 (λ_ e=>aH [] (aAs e)) λr6=>?_;refine At.s 40 1 ?_ ?_
    ·refine At.g [40] 6 ?_;refine At.b 0 (λ_ e=>aH [] (aCK e)) λr7=>?_;refine At.g [40] 2 ?_;refine At.s 49 0 ?_ ?_
     ·refine At.g [49] 6 ?_;refine At.b 0 (λ_ e=>aH [] (yI e)) λr8=>?_;refine At.g [49] 2 ?_;refine At.s 58 0 ?_ ?_
      ·refine At.g [58] 6 ?_;refine At.b 0 (λ_ e=>aH [] (yI e)) λr9=>?_;refine At.g [58] 2 ?_;apply rt;exact At.jn 0
      ·refine At.g [58] 9 ?_;apply rt;exact At.jn 0
     ·refine At.g [49,58] 18 ?_;apply rt;exact At.jn 0
    ·refine At.g [40,49,58] 27 ?_;apply rt;exact At.jn 0
   ·apply rt;exact At.r 0
def nZ(N:Nat)(a2:(List Int))(a1:Int):Nat->(List Int)->Int->Option (Sum ((List Int)) ((List Int)×Int))
 | 0,_,_=>none
 | k+1,s3,s4=>
  aN (decide (s4 < ((a2.length:Int)))) λx5=>
  cond x5 (
   ae (idx a2 s4) λe6=>
   aN (I64 (64 - (I64 (8*a1)))) λx7=>
   ae (aFf .i64 e6 x7) λx8=>
   aN (I64 (64 - (I64 (8*a1)))) λx9=>
   ae (yW .i64 x8 x9) λx10=>
   cond (x10 != e6) (
    some (Sum.inr (([],3)))) (
    aN (I64 (64 - (I64 (8*a1)))) λx11=>
    ae (aFf .u64 (U64 e6) x11) λx12=>
    aN (I64 (64 - (I64 (8*a1)))) λx13=>
    ae (yW .u64 x12 x13) λx14=>
    ae (iB 8 s3 (([x14]:List Int))) λz15=>
    nZ N a2 a1 k z15 (I64 (s4+1)))) (
   some (Sum.inl s3))
def lW(N:Nat)(a0:(List Int))(a1:Int)(a2:(List Int)):Option ((List Int)×Int):=
 aN (cond (decide (a1 < 1)) true (decide (a1 > 8))) λx1=>
 cond x1 (
  some (([],2))) (
  ae (nZ N a2 a1 N [] 0) λo=>qS o (λp2=>
   ae (bO N a0 a1 p2) λr16=>
   some ((r16.1,r16.2))) (λr=>some r))
theorem aBu{N a0 a1 a2 r}(h:lW N a0 a1 a2=some r):FnM Tryz.prog 130 [] [(eL 1 k8 a0),(j64 a1),(eL 1 j64 a2)] (.tup [(eO 0 1 k8 r.1),(j64 r.2)]) [.tail (r.1.length*1)]:=by
 unfold lW at h;refine At.f dI hT hmo Tryz.func130 rfl h ?_;refine lx ?_;intro x1;refine At.c 8 ?_ ?_
 ·refine At.ownn 2 6 1 ?_;apply rt;exact At.r 0
 ·refine At.ownn 4 8 1 ?_;refine At.LS 0 [0,1] 1 (λp2=>([(8,(eO 0 1 k64 p2))],[(0,.tail (p2.length*1))],[])) (λop2 J k=>∃s3 s4,nZ N a2 a1 k s3 s4=some op2/\J [0,1,18,19] 1 [(8,(eO 0 1 k64 s3)),(20,(j64 s4))] [(0,.tail (s3.length*1))] []) N (λ_ h=>⟨_,_,h,jr⟩) (λop2 g2 k s hI=>?_) λp2=>?_
  ·obtain⟨s3,s4,h,hj⟩:=hI;cases k with
   | zero=>cases h
   | succ k=>
    refine At.jr hj ?_ h;refine lx ?_;intro x5;refine At.c 1 ?_ ?_
    ·refine At.b 0 (λ_ e=>bA hT j64 e) λe6=>?_;refine lx ?_;intro x7;refine At.b 6 (λ_ e=>xU hT (k' := .i64) e (by kernel_rfl) (by kernel_rfl)) λx8=>?_;refine lx ?_;intro x9;refine At.b 3 (λ_ e=>nN hT (k' := .i64) e (by kernel_rfl) (by kernel_rfl)) λx10=>?_;refine At.c 4 ?_ ?_
     ·refine At.ownn 2 6 1 ?_;refine At.sw 0 1 0 ?_;intro e;apply aAT g2 e;exact At.r 0
     ·refine lx ?_;intro x11;refine At.b 6 (λ_ e=>xU hT (k' := .i64) e (by kernel_rfl) (by kernel_rfl)) λx12=>?_;refine lx ?_;intro x13;refine At.b 3 (λ_ e=>nN hT (k' := .i64) e (by kernel_rfl) (by kernel_rfl)) λx14=>?_;refine At.o 0 (aY hT (x:=(.sl 1 1 [(k64 x14)]))) ?_;refine At.b 0 (λ_ e=>bN hT k64 (id:=0) (k:=1) e) λz15=>?_;exact λh=>At.k 3 ⟨_,_,h,jr⟩
    ·apply rt;exact At.xs 0
  ·refine At.b 3 (λ_ e=>aH [] (fO e)) λr16=>?_;refine At.sw 4 1 0 ?_;apply rt;exact At.r 0
def aIX : Nat->Bool:=imL [1]
def pD(N:Nat)(x4:Int)(a0:aL):Nat->(List Int)->Int->Option ((List Int))
 | 0,_,_=>none
 | k+1,s6,s7=>
  cond (decide (s7 < x4)) (
   ae (idx a0.gG s7) λe8=>
   ae (lW N s6 2 ([e8.gX,e8.gY,e8.gZ])) λr9=>
   pD N x4 a0 k r9.1 (I64 (s7+1))) (
   some s6)
def pE(N:Nat)(a0:aL):Nat->(List Int)->Int->Option ((List Int))
 | 0,_,_=>none
 | k+1,s11,s12=>
  aN (decide (s12 < ((a0.gO.length:Int)))) λx13=>
  cond x13 (
   ae (idx a0.gO s12) λe14=>
   ae (aP 0 2) λ_=>
   ae (e14.toList[(af 0)]?) λe16=>
   ae (aP 1 2) λ_=>
   ae (e14.toList[(af 1)]?) λe18=>
   ae (bO N s11 2 ([U64 e16,U64 e18])) λr19=>
   pE N a0 k r19.1 (I64 (s12+1))) (
   some s11)
def lJ(N:Nat)(x20:Int)(a0:aL):Nat->(List Int)->Int->Option ((List Int))
 | 0,_,_=>none
 | k+1,s22,s23=>
  cond (decide (s23 < x20)) (
   ae (idx a0.gK s23) λe24=>
   ae (aP 0 3) λ_=>
   ae (e24.toList[(af 0)]?) λe26=>
   ae (aP 1 3) λ_=>
   ae (e24.toList[(af 1)]?) λe28=>
   ae (aP 2 3) λ_=>
   ae (e24.toList[(af 2)]?) λe30=>
   ae (iB 1 s22 (([U8 e26,U8 e28,U8 e30]:List Int))) λz31=>
   lJ N x20 a0 k z31 (I64 (s23+1))) (
   some s22)
def vL(N:Nat)(a0:aL):Option ((List Int)×Int):=
 ae (kP N a0) λr1=>
 cond (r1 != 0) (
  some (([],r1))) (
  aN ((a0.gG.length:Int)) λx2=>
  aN ((a0.gK.length:Int)) λx3=>
  aN ((a0.gG.length:Int)) λx4=>
  ae (pD N x4 a0 N (([U8 x2,U8 x3]:List Int)) 0) λp5=>
  ae (pE N a0 N p5 0) λp10=>
  aN ((a0.gK.length:Int)) λx20=>
  ae (lJ N x20 a0 N p10 0) λp21=>
  some ((p21,0)))
theorem aIL{N a0 r}(h:vL N a0=some r):FnM Tryz.prog 128 [] [(aL.enc a0)] (.tup [(eL 1 k8 r.1),(j64 r.2)]) []:=by
 unfold vL at h;refine At.f aIX hT hmo Tryz.func128 rfl h ?_;refine At.b 4 (λ_ e=>aH [] (aAy e)) λr1=>?_;refine At.c 3 ?_ ?_
 ·apply rt;exact At.r 3
 ·refine lx ?_;intro x2;refine lx ?_;intro x3;refine At.o 8 (pM hT k8 (k:=1) ([U8 x2,U8 x3]:List Int) (by kernel_rfl) (by kernel_rfl)) ?_;refine lx ?_;intro x4;refine At.L 5 [1] 1 (λp5=>([(5,(eO 0 1 k8 p5))],[(0,.tail (p5.length*1))],[])) (λp5 J k=>∃s6 s7,pD N x4 a0 k s6 s7=some p5/\J [1,27,28] 1 [(5,(eO 0 1 k8 s6)),(29,(j64 s7))] [(0,.tail (s6.length*1))] []) N (λ_ h=>⟨_,_,h,jr⟩) (λp5 k s hI=>?_) λp5=>?_
  ·obtain⟨s6,s7,h,hj⟩:=hI;cases k with
   | zero=>cases h
   | succ k=>
    refine At.jr hj ?_ h;refine At.c 1 ?_ ?_
    ·refine At.b 0 (λ_ e=>bA hT aB.enc e) λe8=>?_;refine At.o 10 (aY hT (x:=(.sl 1 3 [(j64 e8.gX),(j64 e8.gY),(j64 e8.gZ)]))) ?_;refine At.b 0 (λ_ e=>aH [] (aBu e)) λr9=>?_;exact λh=>At.k 6 ⟨_,_,h,(aLa 2 0 (by kernel_rfl) jr)⟩
    ·apply rt;exact At.x 0
  ·refine At.L 4 [1] 1 (λp10=>([(5,(eO 0 1 k8 p10))],[(0,.tail (p10.length*1))],[])) (λp10 J k=>∃s11 s12,pE N a0 k s11 s12=some p10/\J [1,47,48] 1 [(5,(eO 0 1 k8 s11)),(49,(j64 s12))] [(0,.tail (s11.length*1))] []) N (λ_ h=>⟨_,_,h,jr⟩) (λp10 k s hI=>?_) λp10=>?_
   ·obtain⟨s11,s12,h,hj⟩:=hI;cases k with
    | zero=>cases h
    | succ k=>
     refine At.jr hj ?_ h;refine lx ?_;intro x13;refine At.c 1 ?_ ?_
     ·refine At.b 0 (λ_ e=>bA hT (eA 2 1 j64) e) λe14=>?_;refine At.b 4 (λ_ e=>aD hT (k:=1) 1 [] 0 e) λu15=>?_;refine At.b 0 (λ_ e=>aV hT j64 0 e) λe16=>?_;refine At.b 1 (λ_ e=>aD hT (k:=1) 1 [] 0 e) λu17=>?_;refine At.b 0 (λ_ e=>aV hT j64 0 e) λe18=>?_;refine At.o 1 (aY hT (x:=(.sl 1 2 [(k64 (U64 e16)),(k64 (U64 e18))]))) ?_;refine At.b 0 (λ_ e=>aH [] (fO e)) λr19=>?_;exact λh=>At.k 6 ⟨_,_,h,(aLa 2 0 (by kernel_rfl) jr)⟩
     ·apply rt;exact At.x 0
   ·refine lx ?_;intro x20;refine At.L 4 [] 1 (λp21=>([(5,(eO 0 1 k8 p21))],[(0,.tail (p21.length*1))],[])) (λp21 J k=>∃s22 s23,lJ N x20 a0 k s22 s23=some p21/\J [67,68] 1 [(5,(eO 0 1 k8 s22)),(69,(j64 s23))] [(0,.tail (s22.length*1))] []) N (λ_ h=>⟨_,_,h,jr⟩) (λp21 k s hI=>?_) λp21=>?_
    ·obtain⟨s22,s23,h,hj⟩:=hI;cases k with
     | zero=>cases h
     | succ k=>
      refine At.jr hj ?_ h;refine At.c 1 ?_ ?_
      ·refine At.b 0 (λ_ e=>bA hT (eA 3 1 j64) e) λe24=>?_;refine At.b 4 (λ_ e=>aD hT (k:=1) 1 [] 0 e) λu25=>?_;refine At.b 0 (λ_ e=>aV hT j64 0 e) λe26=>?_;refine At.b 1 (λ_ e=>aD hT (k:=1) 1 [] 0 e) λu27=>?_;refine At.b 0 (λ_ e=>aV hT j64 0 e) λe28=>?_;refine At.b 1 (λ_ e=>aD hT (k:=1) 1 [] 0 e) λu29=>?_;refine At.b 0 (λ_ e=>aV hT j64 0 e) λe30=>?_;refine At.o 1 (aY hT (x:=(.sl 1 3 [(k8 (U8 e26)),(k8 (U8 e28)),(k8 (U8 e30))]))) ?_;refine At.b 0 (λ_ e=>bN hT k8 (id:=0) (k:=1) e) λz31=>?_;exact λh=>At.k 3 ⟨_,_,h,jr⟩
      ·apply rt;exact At.x 0
    ·apply rt;exact At.r 3
def aFJ : Nat->Bool:=imL [1]
def hZ(N:Nat)(x2:Int)(a0:aI):Nat->(List Int)->Int->Option ((List Int))
 | 0,_,_=>none
 | k+1,s4,s5=>
  cond (decide (s5 < x2)) (
   ae (idx a0.gL s5) λe6=>
   ae (aP 0 3) λ_=>
   ae (e6.toList[(af 0)]?) λe8=>
   ae (aP 1 3) λ_=>
   ae (e6.toList[(af 1)]?) λe10=>
   ae (aP 2 3) λ_=>
   ae (e6.toList[(af 2)]?) λe12=>
   ae (iB 1 s4 (([U8 e8,U8 e10,U8 e12]:List Int))) λz13=>
   hZ N x2 a0 k z13 (I64 (s5+1))) (
   some s4)
def sF(N:Nat)(a0:aI):Option ((List Int)×Int):=
 ae (dW N a0) λr1=>
 cond (r1 != 0) (
  some (([],r1))) (
  aN ((a0.gL.length:Int)) λx2=>
  ae (hZ N x2 a0 N (([U8 a0.gQ]:List Int)) 0) λp3=>
  some ((p3,0)))
theorem aEl{N a0 r}(h:sF N a0=some r):FnM Tryz.prog 129 [] [(aI.enc a0)] (.tup [(eL 1 k8 r.1),(j64 r.2)]) []:=by
 unfold sF at h;refine At.f aFJ hT hmo Tryz.func129 rfl h ?_;refine At.b 4 (λ_ e=>aH [] (xC e)) λr1=>?_;refine At.c 3 ?_ ?_
 ·apply rt;exact At.r 3
 ·refine At.o 3 (pM hT k8 (k:=1) ([U8 a0.gQ]:List Int) (by kernel_rfl) (by kernel_rfl)) ?_;refine lx ?_;intro x2;refine At.L 5 [] 1 (λp3=>([(5,(eO 0 1 k8 p3))],[(0,.tail (p3.length*1))],[])) (λp3 J k=>∃s4 s5,hZ N x2 a0 k s4 s5=some p3/\J [18,19] 1 [(5,(eO 0 1 k8 s4)),(20,(j64 s5))] [(0,.tail (s4.length*1))] []) N (λ_ h=>⟨_,_,h,jr⟩) (λp3 k s hI=>?_) λp3=>?_
  ·obtain⟨s4,s5,h,hj⟩:=hI;cases k with
   | zero=>cases h
   | succ k=>
    refine At.jr hj ?_ h;refine At.c 1 ?_ ?_
    ·refine At.b 0 (λ_ e=>bA hT (eA 3 1 j64) e) λe6=>?_;refine At.b 4 (λ_ e=>aD hT (k:=1) 1 [] 0 e) λu7=>?_;refine At.b 0 (λ_ e=>aV hT j64 0 e) λe8=>?_;refine At.b 1 (λ_ e=>aD hT (k:=1) 1 [] 0 e) λu9=>?_;refine At.b 0 (λ_ e=>aV hT j64 0 e) λe10=>?_;refine At.b 1 (λ_ e=>aD hT (k:=1) 1 [] 0 e) λu11=>?_;refine At.b 0 (λ_ e=>aV hT j64 0 e) λe12=>?_;refine At.o 1 (aY hT (x:=(.sl 1 3 [(k8 (U8 e8)),(k8 (U8 e10)),(k8 (U8 e12))]))) ?_;refine At.b 0 (λ_ e=>bN hT k8 (id:=0) (k:=1) e) λz13=>?_;exact λh=>At.k 3 ⟨_,_,h,jr⟩
    ·apply rt;exact At.x 0
  ·apply rt;exact At.r 3
def aHt : Nat->Bool:=imL [1]
def nV(N:Nat)(e4 e6 e8:Int)(a0:aF):Nat->(List Int)->Int->Option ((List Int))
 | 0,_,_=>none
 | k+1,s10,s11=>
  cond (decide (s11 < 4)) (
   ae (idx ([e4,e6,e8,a0.gJ.gA5]) s11) λe12=>
   ae (bO N s10 2 ([U64 e12])) λr13=>
   nV N e4 e6 e8 a0 k r13.1 (I64 (s11+1))) (
   some s10)
def nY(N:Nat)(a0:aF):Nat->(List Int)->Int->Option ((List Int))
 | 0,_,_=>none
 | k+1,s22,s23=>
  cond (decide (s23 < 3)) (
   ae (idx ([a0.gE.gAt,a0.gE.gU,a0.gE.gV]) s23) λe24=>
   ae (lW N s22 2 ([e24.gX,e24.gY,e24.gZ])) λr25=>
   nY N a0 k r25.1 (I64 (s23+1))) (
   some s22)
def rS(N:Nat)(a0:aF):Option ((List Int)):=
 cond (a0.gD==1) (
  ae (vL N a0.gW) λr1=>
  some r1.1) (
  cond (a0.gD==2) (
   ae (sF N a0.gA1) λr2=>
   some r2.1) (
   cond (a0.gD==3) (
    ae (aP 0 3) λ_=>
    ae (a0.gJ.gF.toList[(af 0)]?) λe4=>
    ae (aP 1 3) λ_=>
    ae (a0.gJ.gF.toList[(af 1)]?) λe6=>
    ae (aP 2 3) λ_=>
    ae (a0.gJ.gF.toList[(af 2)]?) λe8=>
    ae (nV N e4 e6 e8 a0 N ([U8 a0.gJ.gD]) 0) λp9=>
    some p9) (
    ae (aP 0 3) λ_=>
    ae (a0.gE.gF.toList[(af 0)]?) λe15=>
    ae (aP 1 3) λ_=>
    ae (a0.gE.gF.toList[(af 1)]?) λe17=>
    ae (aP 2 3) λ_=>
    ae (a0.gE.gF.toList[(af 2)]?) λe19=>
    ae (bO N ([U8 a0.gE.gD]) 4 ([U64 e15,U64 e17,U64 e19])) λr20=>
    ae (nY N a0 N r20.1 0) λp21=>
    some p21)))
theorem aBo{N a0 r}(h:rS N a0=some r):FnM Tryz.prog 85 [] [(aF.enc a0)] (eL 1 k8 r) []:=by
 unfold rS at h;refine At.f aHt hT hmo Tryz.func85 rfl h ?_;refine At.c 6 ?_ ?_
 ·refine At.b 2 (λ_ e=>aH [] (aIL e)) λr1=>?_;apply rt;exact At.r 7
 ·refine At.c 2 ?_ ?_
  ·refine At.b 2 (λ_ e=>aH [] (aEl e)) λr2=>?_;apply rt;exact At.r 7
  ·refine At.c 2 ?_ ?_
   ·refine At.o 7 (aY hT (x:=(.sl 1 1 [(k8 (U8 a0.gJ.gD))]))) ?_;refine At.b 2 (λ_ e=>aD hT (k:=1) 0 [1] 1 e) λu3=>?_;refine At.b 0 (λ_ e=>aV hT j64 1 e) λe4=>?_;refine At.b 1 (λ_ e=>aD hT (k:=1) 0 [1] 1 e) λu5=>?_;refine At.b 0 (λ_ e=>aV hT j64 1 e) λe6=>?_;refine At.b 1 (λ_ e=>aD hT (k:=1) 0 [1] 1 e) λu7=>?_;refine At.b 0 (λ_ e=>aV hT j64 1 e) λe8=>?_;refine At.o 2 (aY hT (x:=(.sl 1 4 [(j64 e4),(j64 e6),(j64 e8),(j64 a0.gJ.gA5)]))) ?_;refine At.L 2 [] 1 (λp9=>([(8,(eL 1 k8 p9))],[],[])) (λp9 J k=>∃s10 s11,nV N e4 e6 e8 a0 k s10 s11=some p9/\J [55,56] 1 [(8,(eL 1 k8 s10)),(57,(j64 s11))] [] []) N (λ_ h=>⟨_,_,h,jr⟩) (λp9 k s hI=>?_) λp9=>?_
    ·obtain⟨s10,s11,h,hj⟩:=hI;cases k with
     | zero=>cases h
     | succ k=>
      refine At.jr hj ?_ h;refine At.c 1 ?_ ?_
      ·refine At.b 0 (λ_ e=>bA hT j64 e) λe12=>?_;refine At.o 5 (aY hT (x:=(.sl 1 1 [(k64 (U64 e12))]))) ?_;refine At.b 0 (λ_ e=>aH [] (fO e)) λr13=>?_;exact λh=>At.k 6 ⟨_,_,h,jr⟩
      ·apply rt;exact At.x 0
    ·apply rt;exact At.r 2
   ·refine At.o 7 (aY hT (x:=(.sl 1 1 [(k8 (U8 a0.gE.gD))]))) ?_;refine At.b 1 (λ_ e=>aD hT (k:=1) 0 [1] 1 e) λu14=>?_;refine At.b 0 (λ_ e=>aV hT j64 1 e) λe15=>?_;refine At.b 2 (λ_ e=>aD hT (k:=1) 0 [1] 1 e) λu16=>?_;refine At.b 0 (λ_ e=>aV hT j64 1 e) λe17=>?_;refine At.b 2 (λ_ e=>aD hT (k:=1) 0 [1] 1 e) λu18=>?_;refine At.b 0 (λ_ e=>aV hT j64 1 e) λe19=>?_;refine At.o 1 (aY hT (x:=(.sl 1 3 [(k64 (U64 e15)),(k64 (U64 e17)),(k64 (U64 e19))]))) ?_;refine At.b 0 (λ_ e=>aH [] (fO e)) λr20=>?_;refine At.o 11 (aY hT (x:=(.sl 3 3 [(aB.enc a0.gE.gAt),(aB.enc a0.gE.gU),(aB.enc a0.gE.gV)]))) ?_;refine At.L 2 [] 2 (λp21=>([(12,(eO 1 1 k8 p21))],[(1,.tail (p21.length*1))],[])) (λp21 J k=>∃s22 s23,nY N a0 k s22 s23=some p21/\J [100,101] 2 [(12,(eO 1 1 k8 s22)),(102,(j64 s23))] [(1,.tail (s22.length*1))] []) N (λ_ h=>⟨_,_,h,jr⟩) (λp21 k s hI=>?_) λp21=>?_
    ·obtain⟨s22,s23,h,hj⟩:=hI;cases k with
     | zero=>cases h
     | succ k=>
      refine At.jr hj ?_ h;refine At.c 1 ?_ ?_
      ·refine At.b 0 (λ_ e=>bA hT aB.enc e) λe24=>?_;refine At.o 10 (aY hT (x:=(.sl 1 3 [(j64 e24.gX),(j64 e24.gY),(j64 e24.gZ)]))) ?_;refine At.b 0 (λ_ e=>aH [] (aBu e)) λr25=>?_;exact λh=>At.k 6 ⟨_,_,h,(aLa 3 1 (by kernel_rfl) jr)⟩
      ·apply rt;exact At.x 0
    ·apply rt;exact At.r 2
def sH(N:Nat)(a0:Int):Option (Int):=
 aN (cond (decide (a0 < 0)) true (decide (a0>=5))) λx1=>
 cond x1 (
  some 0) (
  ae (aP a0 5) λ_=>
  ae ((#v[0,2048,1024,64,64]).toList[a0.toNat]?) λe3=>
  some e3)
theorem aBq{N a0 r}(h:sH N a0=some r):FnM Tryz.prog 127 [] [(j64 a0)] (j64 r) []:=by
 unfold sH at h;refine At.f dI hT hmo Tryz.func127 rfl h ?_;refine lx ?_;intro x1;refine At.c 10 ?_ ?_
 ·apply rt;exact At.r 1
 ·refine At.b 1 (λ_ e=>aD hT (k:=1) 0 [] 0 e) λu2=>?_;refine At.b 0 (λ_ e=>aV hT j64 0 e) λe3=>?_;apply rt;exact At.r 1
def aIc : Nat->Bool:=imL [1]
def nL(N:Nat)(a0:aF):Option (Int):=
 ae (nT N a0) λr1=>
 cond (r1 != 0) (
  some r1) (
  ae (wR N a0) λr2=>
  ae (sV N r2 (aF.mk a0.gD (aL.mk [] [] []) (aI.mk 0 []) (aG.mk 0 (#v[0,0,0]) 0) (aK.mk 0 (#v[0,0,0]) (aB.mk 0 0 0) (aB.mk 0 0 0) (aB.mk 0 0 0)))) λr3=>
  cond (!r3) (
   some 5) (
   ae (rS N a0) λr4=>
   ae (sH N a0.gD) λr5=>
   aN (decide (((r4.length:Int)) > r5)) λx6=>
   cond x6 (some 9) (some 0)))
theorem aCB{N a0 r}(h:nL N a0=some r):FnM Tryz.prog 84 [] [(aF.enc a0)] (j64 r) []:=by
 unfold nL at h;refine At.f aIc hT hmo Tryz.func84 rfl h ?_;refine At.b 3 (λ_ e=>aH [] (aKN e)) λr1=>?_;refine At.c 3 ?_ ?_
 ·apply rt;exact At.r 2
 ·refine bi λr2 hr2=>?_;refine bi λr3 hr3=>?_;refine At.d 0 (dE2 1 (aF.enc r2) (λ_=>bM (aIt hr2)) (dE2 5 (eB r3) (λ_=>bM (aIb hr3)) dE0)) dF0 ?_;refine At.c 0 ?_ ?_
  ·apply rt;exact At.r 1
  ·refine bi λr4 hr4=>?_;refine bi λr5 hr5=>?_;refine lx ?_;intro x6;refine At.d 0 (dE2 1 (eL 1 k8 r4) (λ_=>bM (aBo hr4)) (dE2 5 (j64 r5) (λ_=>bM (aBq hr5)) dE0)) dF0 ?_;refine At.c 0 ?_ ?_
   ·apply rt;exact At.r 1
   ·apply rt;exact At.r 1
def aIE : Nat->Bool:=imL [1]
def pW(N:Nat)(a0:aF):Option ((List Int)×Int):=
 ae (nL N a0) λr1=>
 cond (r1 != 0) (
  some (([],r1))) (
  ae (rS N a0) λr2=>
  some ((r2,0)))
theorem aGZ{N a0 r}(h:pW N a0=some r):FnM Tryz.prog 51 [] [(aF.enc a0)] (.tup [(eL 1 k8 r.1),(j64 r.2)]) []:=by
 unfold pW at h;refine At.f aIE hT hmo Tryz.func51 rfl h ?_;refine At.b 4 (λ_ e=>aH [] (aCB e)) λr1=>?_;refine At.c 3 ?_ ?_
 ·apply rt;exact At.r 3
 ·refine At.b 1 (λ_ e=>aH [] (aBo e)) λr2=>?_;apply rt;exact At.r 2
def nW(N:Nat)(a0:Int):Option (Int):=
 cond (decide (a0 < 1)) (
  some 0) (
  aN (I64 (cv (I64 (a0 - 1)) 256)) λx1=>
  some (I64 (x1+1)))
theorem aAL{N a0 r}(h:nW N a0=some r):FnM Tryz.prog 52 [] [(j64 a0)] (j64 r) []:=by
 unfold nW at h;refine At.f dI hT hmo Tryz.func52 rfl h ?_;refine At.c 3 ?_ ?_
 ·apply rt;exact At.r 1
 ·refine lx ?_;intro x1;apply rt;exact At.r 5
def aFI : Nat->Bool:=imL [1]
def jP(N:Nat)(a0:aE):Nat->Int->Option (Sum (Unit) (Int))
 | 0,_=>none
 | k+1,s3=>
  cond (decide (s3 < 8)) (
   ae (idx a0.gA3.toList s3) λe4=>
   cond (decide (e4 > 15)) (some (Sum.inr 5)) (jP N a0 k (I64 (s3+1)))) (
   some (Sum.inl (())))
def pH(N:Nat)(a0:aE):Option (Int):=
 ae (sH N a0.gD) λr1=>
 cond (r1==0) (
  some 12) (
  ae (jP N a0 N 0) λo=>qS o (λp2=>
   aN (decide (a0.gA4 > a0.gTo)) λx5=>
   aN (cond x5 true (decide (a0.gA0 < 1))) λx6=>
   cond x6 (
    some 5) (
    cond (decide (a0.gA0 > r1)) (
     some 9) (
     ae (nW N a0.gA0) λr7=>
     cond (a0.gA7 != r7) (some 5) (some 0)))) (λr=>some r))
theorem aAY{N a0 r}(h:pH N a0=some r):FnM Tryz.prog 86 [] [(aE.enc a0)] (j64 r) []:=by
 unfold pH at h;refine At.f aFI hT hmo Tryz.func86 rfl h ?_;refine At.b 4 (λ_ e=>aH [] (aBq e)) λr1=>?_;refine At.c 3 ?_ ?_
 ·apply rt;exact At.r 1
 ·refine At.LS 3 [1,3] 0 (λp2=>([],[],[])) (λop2 J k=>∃s3,jP N a0 k s3=some op2/\J [1,3,12] 0 [(13,(j64 s3))] [] []) N (λ_ h=>⟨_,h,jr⟩) (λop2 g2 k s hI=>?_) λp2=>?_
  ·obtain⟨s3,h,hj⟩:=hI;cases k with
   | zero=>cases h
   | succ k=>
    refine At.jr hj ?_ h;refine At.c 1 ?_ ?_
    ·refine At.b 0 (λ_ e=>aGx hT k8 a0.gA3 e (by kernel_rfl) (by kernel_rfl)) λe4=>?_;refine At.c 3 ?_ ?_
     ·intro e;apply aAT g2 e;exact At.r 1
     ·exact λh=>At.k 2 ⟨_,h,jr⟩
    ·apply rt;exact At.xs 0
  ·refine lx ?_;intro x5;refine lx ?_;intro x6;refine At.c 11 ?_ ?_
   ·apply rt;exact At.r 1
   ·refine At.c 5 ?_ ?_
    ·apply rt;exact At.r 1
    ·refine bi λr7 hr7=>?_;refine At.d 0 (dE2 4 (j64 r7) (λ_=>bM (aAL hr7)) dE0) dF0 ?_;refine At.c 0 ?_ ?_
     ·apply rt;exact At.r 1
     ·apply rt;exact At.r 1
def aEk : Nat->Bool:=imL [1]
def lP(N:Nat)(a0:aE):Option ((List Int)×Int):=
 ae (pH N a0) λr1=>
 cond (r1 != 0) (
  some (([],r1))) (
  ae (bO N [] 8 ([a0.gId])) λr2=>
  ae (bO N r2.1 1 ([U64 a0.gD])) λr3=>
  ae (bO N r3.1 4 ([U64 a0.gA6])) λr4=>
  ae (dU a0.gA3.toList 0 8) λs5=>
  ae (iB 1 r4.1 s5) λz6=>
  ae (bO N z6 4 ([U64 a0.gA4,U64 a0.gTo,U64 a0.gA0])) λr7=>
  ae (bO N r7.1 2 ([U64 a0.gA7])) λr8=>
  some ((r8.1,r8.2)))
theorem aDu{N a0 r}(h:lP N a0=some r):FnM Tryz.prog 53 [] [(aE.enc a0)] (.tup [(eL 1 k8 r.1),(j64 r.2)]) []:=by
 unfold lP at h;refine At.f aEk hT hmo Tryz.func53 rfl h ?_;refine At.b 4 (λ_ e=>aH [] (aAY e)) λr1=>?_;refine At.c 3 ?_ ?_
 ·apply rt;exact At.r 3
 ·refine At.o 2 (aY hT (x:=(.sl 1 1 [(k64 a0.gId)]))) ?_;refine At.b 0 (λ_ e=>aH [] (fO e)) λr2=>?_;refine At.o 9 (aY hT (x:=(.sl 1 1 [(k64 (U64 a0.gD))]))) ?_;refine At.b 0 (λ_ e=>aH [] (fO e)) λr3=>?_;refine At.o 8 (aY hT (x:=(.sl 1 1 [(k64 (U64 a0.gA6))]))) ?_;refine At.b 0 (λ_ e=>aH [] (fO e)) λr4=>?_;refine At.b 6 (λ_ e=>jX hT (N:=8) (k:=1) k8 a0.gA3 e) λs5=>?_;refine At.b 0 (λ_ e=>bN hT k8 (id:=2) (k:=1) e) λz6=>?_;refine At.o 11 (aY hT (x:=(.sl 1 3 [(k64 (U64 a0.gA4)),(k64 (U64 a0.gTo)),(k64 (U64 a0.gA0))]))) ?_;refine At.b 0 (λ_ e=>aH [] (fO e)) λr7=>?_;refine At.o 8 (aY hT (x:=(.sl 1 1 [(k64 (U64 a0.gA7))]))) ?_;refine At.b 0 (λ_ e=>aH [] (fO e)) λr8=>?_;apply rt;exact At.r 4
def aR0 : Go.Shelf.Ren:=⟨λ | 4=>87 | n=>n,λ | 0=>0 | 3=>3 | 4=>4 | 9=>9 | 20=>20 | 22=>57 | 25=>5 | n=>n,λn=>n⟩
theorem aRY : Lays8.n4 Tryz.prog aR0:={ mixed:=by kernel_rfl,f4:=⟨Tryz.f87.name,by decide,Tryz.func87.trans (congrArg some (by kernel_rfl))⟩,t0:=Tryz.underlying0,a0:=Tryz.isAgg0,z0:=Tryz.sizeOf0,v0:=Tryz.zeroValue0,t3:=Tryz.underlying3,a3:=Tryz.isAgg3,z3:=Tryz.sizeOf3,v3:=Tryz.zeroValue3,t4:=Tryz.underlying4,a4:=Tryz.isAgg4,z4:=Tryz.sizeOf4,v4:=Tryz.zeroValue4,t9:=Tryz.underlying9,a9:=Tryz.isAgg9,z9:=Tryz.sizeOf9,v9:=Tryz.zeroValue9,t20:=Tryz.underlying20,a20:=Tryz.isAgg20,z20:=Tryz.sizeOf20,v20:=Tryz.zeroValue20,t22:=Tryz.underlying57,a22:=Tryz.isAgg57,z22:=Tryz.sizeOf57,v22:=Tryz.zeroValue57 }
theorem aSQ{n:Int}{r:List Int}(h:aIB Int 1 n=some r):FnM Tryz.prog 87 [] [.v (.slice none 0 0),.v (.int .i64 n)] (eO 0 1 k8 r) [.tail (r.length*1)]:=
 aSR (i0:=Tryz.t5) aRY rfl k8 (by kernel_rfl) rfl (by kernel_rfl) (by kernel_rfl) (by kernel_rfl) (by decide) h
theorem aOs : vH Tryz.prog 87:=wL (show zU Tryz.prog 87=true by kernel_rfl)
def fU(N:Nat)(a0:(List (List Int))):Nat->Int->Int->Option (Int)
 | 0,_,_=>none
 | k+1,s2,s3=>
  aN (decide (s3 < ((a0.length:Int)))) λx4=>
  cond x4 (
   ae (idx a0 s3) λe5=>
   aN (I64 (s2+((e5.length:Int)))) λx6=>
   cond (decide (x6 < 0)) (none) (fU N a0 k x6 (I64 (s3+1)))) (
   some s2)
def dX(N:Nat)(a0:(List (List Int))):Nat->(List Int)->Int->Option ((List Int))
 | 0,_,_=>none
 | k+1,s9,s10=>
  aN (decide (s10 < ((a0.length:Int)))) λx11=>
  cond x11 (
   ae (idx a0 s10) λe12=>
   ae (iB 1 s9 e12) λz13=>
   dX N a0 k z13 (I64 (s10+1))) (
   some s9)
def dA(N:Nat)(a0:(List (List Int))):Option ((List Int)):=
 ae (fU N a0 N 0 0) λp1=>
 ae (aIB Int 1 p1) λr7=>
 ae (dX N a0 N r7 0) λp8=>
 some p8
theorem lZ{N a0 r}(h:dA N a0=some r):FnM Tryz.prog 54 [] [(eL 1 (eL 1 k8) a0)] (eO 0 1 k8 r) [.tail (r.length*1)]:=by
 unfold dA at h;refine At.f dI hT hmo Tryz.func54 rfl h ?_;refine At.L 5 [0] 0 (λp1=>([(3,(j64 p1))],[],[])) (λp1 J k=>∃s2 s3,fU N a0 k s2 s3=some p1/\J [0,9,10] 0 [(3,(j64 s2)),(11,(j64 s3))] [] []) N (λ_ h=>⟨_,_,h,jr⟩) (λp1 k s hI=>?_) λp1=>?_
 ·obtain⟨s2,s3,h,hj⟩:=hI;cases k with
  | zero=>cases h
  | succ k=>
   refine At.jr hj ?_ h;refine lx ?_;intro x4;refine At.c 1 ?_ ?_
   ·refine At.b 0 (λ_ e=>bA hT (eL 1 k8) e) λe5=>?_;refine lx ?_;intro x6;refine At.c 9 ?_ ?_
    ·exact nn
    ·exact λh=>At.k 2 ⟨_,_,h,jr⟩
   ·apply rt;exact At.x 0
 ·refine At.b 1 (λ_ e=>aHY [] (aSQ e) aOs) λr7=>?_;refine At.L 4 [] 1 (λp8=>([(6,(eO 0 1 k8 p8))],[(0,.tail (p8.length*1))],[])) (λp8 J k=>∃s9 s10,dX N a0 k s9 s10=some p8/\J [25,26] 1 [(6,(eO 0 1 k8 s9)),(27,(j64 s10))] [(0,.tail (s9.length*1))] []) N (λ_ h=>⟨_,_,h,jr⟩) (λp8 k s hI=>?_) λp8=>?_
  ·obtain⟨s9,s10,h,hj⟩:=hI;cases k with
   | zero=>cases h
   | succ k=>
    refine At.jr hj ?_ h;refine lx ?_;intro x11;refine At.c 1 ?_ ?_
    ·refine At.b 0 (λ_ e=>bA hT (eL 1 k8) e) λe12=>?_;refine At.b 4 (λ_ e=>bN hT k8 (id:=0) (k:=1) e) λz13=>?_;exact λh=>At.k 3 ⟨_,_,h,jr⟩
    ·apply rt;exact At.x 0
  ·apply rt;exact At.r 2
def aID : Nat->Bool:=imL [2]
def iJ(N:Nat)(a1:Int):Nat->(Vector Int 12)->Int->Option ((Vector Int 12))
 | 0,_,_=>none
 | k+1,s5,s6=>
  cond (decide (s6 < 4)) (
   ae (yW .i64 a1 (I64 (8*s6))) λx7=>
   ae (aP (I64 (8+s6)) 12) λ_=>
   ae (s5.toList[(I64 (8+s6)).toNat]?) λe9=>
   iJ N a1 k (s5.setIfInBounds ((I64 (8+s6)).toNat) (U8 x7)) (I64 (s6+1))) (
   some s5)
def fV(N:Nat)(a0:(Vector Int 8))(a1:Int):Option ((Vector Int 12)):=
 ae (aEJ 12 0 12) λ_=>
 ae (dU a0.toList 0 8) λs2=>
 ae (cpV (ag 12 0) s2 0 12) λv3=>
 ae (iJ N a1 N v3 0) λp4=>
 some p4
theorem vP{N a0 a1 r}(h:fV N a0 a1=some r):FnM Tryz.prog 56 [] [(eA 8 1 k8 a0),(j64 a1)] (eA 12 1 k8 r) []:=by
 unfold fV at h;refine At.f aID hT hmo Tryz.func56 rfl h ?_;refine bi λs1 hs1=>?_;refine bi λs2 hs2=>?_;refine bi λv3 hv3=>?_;refine At.d 3 (dE1 0 (λ_=>aE0 hT (k:=1) 1 [] 0 hs1 (by kernel_rfl) (by kernel_rfl) (by decide)) (dE1 1 (λ_=>jX hT (N:=8) (k:=1) k8 a0 hs2) dE0)) (dF 2 (j64 (((min s2.length 12:Nat):Int))) [(1,.var (eA 12 1 k8 v3))] [] (bG (aCE hT k8 (id:=1) (path:=[]) (off:=0) (H':=[.var (eA 12 1 k8 (ag 12 0)),.var (eA 12 1 k8 v3)]) hv3 (by kernel_rfl) (by kernel_rfl) (by kernel_rfl))) dF0) ?_;refine At.L 1 [4,5] 2 (λp4=>([],[(1,.var (eA 12 1 k8 p4))],[])) (λp4 J k=>∃s5 s6,iJ N a1 k s5 s6=some p4/\J [1,4,5] 2 [(10,(j64 s6))] [(1,.var (eA 12 1 k8 s5))] []) N (λ_ h=>⟨_,_,h,jr⟩) (λp4 k s hI=>?_) λp4=>?_
 ·obtain⟨s5,s6,h,hj⟩:=hI;cases k with
  | zero=>cases h
  | succ k=>
   refine At.jr hj ?_ h;refine At.c 1 ?_ ?_
   ·refine At.b 7 (λ_ e=>nN hT (k' := .i64) e (by kernel_rfl) (by kernel_rfl)) λx7=>?_;refine At.b 1 (λ_ e=>aD hT (k:=1) 1 [] 0 e) λu8=>?_;refine At.b 0 (λ_ e=>bB hT k8 0 s5 e (U8 x7) (by kernel_rfl) (by kernel_rfl) (H':=[.var (eA 12 1 k8 (ag 12 0)),.var (eA 12 1 k8 (s5.setIfInBounds ((I64 (8+s6)).toNat) (U8 x7)))])) λe9=>?_;exact λh=>At.k 2 ⟨_,_,h,jr⟩
   ·apply rt;exact At.x 0
 ·apply rt;exact At.r 2
def kO(N:Nat)(a0:(List Int)):Option (Int):=
 ae (idx a0 0) λe1=>
 ae (idx a0 1) λe2=>
 aN (bor .u32 (U32 e1) (shl .u32 (U32 e2) 8)) λx3=>
 ae (idx a0 2) λe4=>
 aN (bor .u32 x3 (shl .u32 (U32 e4) 16)) λx5=>
 ae (idx a0 3) λe6=>
 aN (bor .u32 x5 (shl .u32 (U32 e6) 24)) λx7=>
 some x7
theorem aBP{N a0 r}(h:kO N a0=some r):FnM Tryz.prog 227 [] [(eL 1 k8 a0)] (k32 r) []:=by
 unfold kO at h;refine At.f dI hT hmo Tryz.func227 rfl h ?_;refine bi λe1 he1=>?_;refine bi λe2 he2=>?_;refine lx ?_;intro x3;refine bi λe4 he4=>?_;refine lx ?_;intro x5;refine bi λe6 he6=>?_;refine lx ?_;intro x7;refine At.d 1 (dE1 1 (λ_=>bA hT k8 he1) (dE1 5 (λ_=>bA hT k8 he2) (dE1 11 (λ_=>bA hT k8 he4) (dE1 17 (λ_=>bA hT k8 he6) dE0)))) dF0 ?_;apply rt;exact At.r 0
def aH9 : Nat->Bool:=imL [3,5]
def eD(N:Nat)(a0:(Vector Int 32)):Nat->(Vector Int 16)->Int->Option ((Vector Int 16))
 | 0,_,_=>none
 | k+1,s2,s3=>
  cond (decide (s3 < 8)) (
   ae (dU a0.toList (I64 (4*s3)) 32) λs4=>
   ae (kO N s4) λr5=>
   ae (aP (I64 (4+s3)) 16) λ_=>
   ae (s2.toList[(I64 (4+s3)).toNat]?) λe7=>
   eD N a0 k (s2.setIfInBounds ((I64 (4+s3)).toNat) r5) (I64 (s3+1))) (
   some s2)
def dZ(N:Nat)(a2:(Vector Int 12)):Nat->(Vector Int 16)->Int->Option ((Vector Int 16))
 | 0,_,_=>none
 | k+1,s9,s10=>
  cond (decide (s10 < 3)) (
   ae (dU a2.toList (I64 (4*s10)) 12) λs11=>
   ae (kO N s11) λr12=>
   ae (aP (I64 (13+s10)) 16) λ_=>
   ae (s9.toList[(I64 (13+s10)).toNat]?) λe14=>
   dZ N a2 k (s9.setIfInBounds ((I64 (13+s10)).toNat) r12) (I64 (s10+1))) (
   some s9)
def qC(N:Nat)(a0:(Vector Int 32))(a1:Int)(a2:(Vector Int 12)):Option ((Vector Int 16)):=
 ae (eD N a0 N (#v[1634760805,857760878,2036477234,1797285236,0,0,0,0,0,0,0,0,a1,0,0,0]) 0) λp1=>
 ae (dZ N a2 N p1 0) λp8=>
 some p8
theorem aGo{N a0 a1 a2 r}(h:qC N a0 a1 a2=some r):FnM Tryz.prog 208 [] [(eA 32 1 k8 a0),(k32 a1),(eA 12 1 k8 a2)] (eA 16 1 k32 r) []:=by
 unfold qC at h;refine At.f aH9 hT hmo Tryz.func208 rfl h ?_;refine At.L 8 [5,6,7] 2 (λp1=>([],[(1,.var (eA 16 1 k32 p1))],[])) (λp1 J k=>∃s2 s3,eD N a0 k s2 s3=some p1/\J [3,5,6,7] 2 [(12,(j64 s3))] [(1,.var (eA 16 1 k32 s2))] []) N (λ_ h=>⟨_,_,h,jr⟩) (λp1 k s hI=>?_) λp1=>?_
 ·obtain⟨s2,s3,h,hj⟩:=hI;cases k with
  | zero=>cases h
  | succ k=>
   refine At.jr hj ?_ h;refine At.c 1 ?_ ?_
   ·refine At.b 6 (λ_ e=>jX hT (N:=32) (k:=1) k8 a0 e) λs4=>?_;refine At.b 0 (λ_ e=>aH [] (aBP e)) λr5=>?_;refine At.b 0 (λ_ e=>aD hT (k:=1) 1 [] 0 e) λu6=>?_;refine At.b 0 (λ_ e=>bB hT k32 0 s2 e r5 (by kernel_rfl) (by kernel_rfl) (H':=[.var (eA 16 1 k32 (ag 16 0)),.var (eA 16 1 k32 (s2.setIfInBounds ((I64 (4+s3)).toNat) r5))])) λe7=>?_;exact λh=>At.k 2 ⟨_,_,h,jr⟩
   ·apply rt;exact At.x 0
 ·refine At.L 1 [6,7] 2 (λp8=>([],[(1,.var (eA 16 1 k32 p8))],[])) (λp8 J k=>∃s9 s10,dZ N a2 k s9 s10=some p8/\J [5,6,7] 2 [(23,(j64 s10))] [(1,.var (eA 16 1 k32 s9))] []) N (λ_ h=>⟨_,_,h,jr⟩) (λp8 k s hI=>?_) λp8=>?_
  ·obtain⟨s9,s10,h,hj⟩:=hI;cases k with
   | zero=>cases h
   | succ k=>
    refine At.jr hj ?_ h;refine At.c 1 ?_ ?_
    ·refine At.b 6 (λ_ e=>jX hT (N:=12) (k:=1) k8 a2 e) λs11=>?_;refine At.b 0 (λ_ e=>aH [] (aBP e)) λr12=>?_;refine At.b 0 (λ_ e=>aD hT (k:=1) 1 [] 0 e) λu13=>?_;refine At.b 0 (λ_ e=>bB hT k32 0 s9 e r12 (by kernel_rfl) (by kernel_rfl) (H':=[.var (eA 16 1 k32 (ag 16 0)),.var (eA 16 1 k32 (s9.setIfInBounds ((I64 (13+s10)).toNat) r12))])) λe14=>?_;exact λh=>At.k 2 ⟨_,_,h,jr⟩
    ·apply rt;exact At.x 0
  ·apply rt;exact At.r 2
def aFL : Nat->Bool:=imL [1]
def nJ(N:Nat)(a0:(Vector Int 4)):Option ((Vector Int 4)):=
 ae (idx a0.toList 0) λe1=>
 ae (idx a0.toList 1) λe2=>
 ae (idx a0.toList 2) λe3=>
 ae (idx a0.toList 3) λe4=>
 aN (eZ .u32 e4 (U32 (e1+e2))) λx5=>
 ae (bI N x5 16) λr6=>
 aN (eZ .u32 e2 (U32 (e3+r6))) λx7=>
 ae (bI N x7 12) λr8=>
 aN (U32 ((U32 (e1+e2))+r8)) λx9=>
 ae (bI N (eZ .u32 r6 x9) 8) λr10=>
 aN (U32 ((U32 (e3+r6))+r10)) λx11=>
 ae (bI N (eZ .u32 r8 x11) 7) λr12=>
 some (#v[x9,r12,x11,r10])
theorem aE2{N a0 r}(h:nJ N a0=some r):FnM Tryz.prog 209 [] [(eA 4 1 k32 a0)] (eA 4 1 k32 r) []:=by
 unfold nJ at h;refine At.f aFL hT hmo Tryz.func209 rfl h ?_;refine bi λe1 he1=>?_;refine bi λe2 he2=>?_;refine bi λe3 he3=>?_;refine bi λe4 he4=>?_;refine At.d 2 (dE1 0 (λ_=>bK hT (N:=4) (k:=1) k32 a0 he1) (dE1 2 (λ_=>bK hT (N:=4) (k:=1) k32 a0 he2) (dE1 4 (λ_=>bK hT (N:=4) (k:=1) k32 a0 he3) (dE1 6 (λ_=>bK hT (N:=4) (k:=1) k32 a0 he4) dE0)))) dF0 ?_;refine lx ?_;intro x5;refine At.b 7 (λ_ e=>aH [] (jK e)) λr6=>?_;refine lx ?_;intro x7;refine At.b 8 (λ_ e=>aH [] (jK e)) λr8=>?_;refine lx ?_;intro x9;refine At.b 8 (λ_ e=>aH [] (jK e)) λr10=>?_;refine lx ?_;intro x11;refine At.b 8 (λ_ e=>aH [] (jK e)) λr12=>?_;apply rt;exact At.r 7
def aIV : Nat->Bool:=imL [3,5]
def aW(N:Nat)  : Nat->(Vector Int 16)->Int->Option ((Vector Int 16))
 | 0,_,_=>none
 | k+1,s6,s7=>
  cond (decide (s7 < 8)) (
   ae (idx (#v[#v[0,4,8,12],#v[1,5,9,13],#v[2,6,10,14],#v[3,7,11,15],#v[0,5,10,15],#v[1,6,11,12],#v[2,7,8,13],#v[3,4,9,14]]).toList s7) λe8=>
   ae (aP 0 4) λ_=>
   ae (e8.toList[(af 0)]?) λe10=>
   ae (aP e10 16) λ_=>
   ae (s6.toList[e10.toNat]?) λe12=>
   ae (aP 1 4) λ_=>
   ae (e8.toList[(af 1)]?) λe14=>
   ae (aP e14 16) λ_=>
   ae (s6.toList[e14.toNat]?) λe16=>
   ae (aP 2 4) λ_=>
   ae (e8.toList[(af 2)]?) λe18=>
   ae (aP e18 16) λ_=>
   ae (s6.toList[e18.toNat]?) λe20=>
   ae (aP 3 4) λ_=>
   ae (e8.toList[(af 3)]?) λe22=>
   ae (aP e22 16) λ_=>
   ae (s6.toList[e22.toNat]?) λe24=>
   ae (nJ N (#v[e12,e16,e20,e24])) λr25=>
   ae (aP 0 4) λ_=>
   ae (e8.toList[(af 0)]?) λe27=>
   ae (aP 1 4) λ_=>
   ae (e8.toList[(af 1)]?) λe29=>
   ae (aP 2 4) λ_=>
   ae (e8.toList[(af 2)]?) λe31=>
   ae (aP 3 4) λ_=>
   ae (e8.toList[(af 3)]?) λe33=>
   ae (aP 0 4) λ_=>
   ae (r25.toList[(af 0)]?) λe35=>
   ae (aP 1 4) λ_=>
   ae (r25.toList[(af 1)]?) λe37=>
   ae (aP 2 4) λ_=>
   ae (r25.toList[(af 2)]?) λe39=>
   ae (aP 3 4) λ_=>
   ae (r25.toList[(af 3)]?) λe41=>
   ae (aP e27 16) λ_=>
   ae (s6.toList[e27.toNat]?) λe43=>
   ae (aP e29 16) λ_=>
   ae ((s6.setIfInBounds e27.toNat e35).toList[e29.toNat]?) λe45=>
   ae (aP e31 16) λ_=>
   ae (((s6.setIfInBounds e27.toNat e35).setIfInBounds e29.toNat e37).toList[e31.toNat]?) λe47=>
   ae (aP e33 16) λ_=>
   ae ((((s6.setIfInBounds e27.toNat e35).setIfInBounds e29.toNat e37).setIfInBounds e31.toNat e39).toList[e33.toNat]?) λe49=>
   aW N k ((((s6.setIfInBounds e27.toNat e35).setIfInBounds e29.toNat e37).setIfInBounds e31.toNat e39).setIfInBounds e33.toNat e41) (I64 (s7+1))) (
   some s6)
def iH(N:Nat)  : Nat->(Vector Int 16)->Int->Option ((Vector Int 16))
 | 0,_,_=>none
 | k+1,s3,s4=>
  cond (decide (s4 < 10)) (
   ae (aW N N s3 0) λp5=>
   iH N k p5 (I64 (s4+1))) (
   some s3)
def fD(N:Nat)(p2 r1:(Vector Int 16)):Nat->(Vector Int 64)->Int->Option ((Vector Int 64))
 | 0,_,_=>none
 | k+1,s51,s52=>
  cond (decide (s52 < 16)) (
   ae (idx p2.toList s52) λe53=>
   ae (aP s52 16) λ_=>
   ae (r1.toList[s52.toNat]?) λe55=>
   aN (I64 ((I64 (4*s52))+1)) λx56=>
   aN (I64 ((I64 (4*s52))+2)) λx57=>
   aN (I64 ((I64 (4*s52))+3)) λx58=>
   aN (shr .u32 (U32 (e53+e55)) 8) λx59=>
   aN (shr .u32 (U32 (e53+e55)) 16) λx60=>
   aN (shr .u32 (U32 (e53+e55)) 24) λx61=>
   ae (aP (I64 (4*s52)) 64) λ_=>
   ae (s51.toList[(I64 (4*s52)).toNat]?) λe63=>
   ae (aP x56 64) λ_=>
   ae ((s51.setIfInBounds ((I64 (4*s52)).toNat) (U8 (U32 (e53+e55)))).toList[x56.toNat]?) λe65=>
   ae (aP x57 64) λ_=>
   ae (((s51.setIfInBounds ((I64 (4*s52)).toNat) (U8 (U32 (e53+e55)))).setIfInBounds x56.toNat (U8 x59)).toList[x57.toNat]?) λe67=>
   ae (aP x58 64) λ_=>
   ae ((((s51.setIfInBounds ((I64 (4*s52)).toNat) (U8 (U32 (e53+e55)))).setIfInBounds x56.toNat (U8 x59)).setIfInBounds x57.toNat (U8 x60)).toList[x58.toNat]?) λe69=>
   fD N p2 r1 k ((((s51.setIfInBounds ((I64 (4*s52)).toNat) (U8 (U32 (e53+e55)))).setIfInBounds x56.toNat (U8 x59)).setIfInBounds x57.toNat (U8 x60)).setIfInBounds x58.toNat (U8 x61)) (I64 (s52+1))) (
   some s51)
def kM(N:Nat)(a0:(Vector Int 32))(a1:Int)(a2:(Vector Int 12)):Option ((Vector Int 64)):=
 ae (qC N a0 a1 a2) λr1=>
 ae (iH N N r1 0) λp2=>
 ae (fD N p2 r1 N (ag 64 0) 0) λp50=>
 some p50
theorem aBm{N a0 a1 a2 r}(h:kM N a0 a1 a2=some r):FnM Tryz.prog 178 [] [(eA 32 1 k8 a0),(k32 a1),(eA 12 1 k8 a2)] (eA 64 1 k8 r) []:=by
 unfold kM at h;refine At.f aIV hT hmo Tryz.func178 rfl h ?_;refine At.b 6 (λ_ e=>aH [] (aGo e)) λr1=>?_;refine At.L 17 [6,7,8] 4 (λp2=>([],[(2,.var (eA 16 1 k32 p2))],[])) (λp2 J k=>∃s3 s4,iH N k s3 s4=some p2/\J [6,7,8,9] 4 [(30,(j64 s4))] [(2,.var (eA 16 1 k32 s3))] []) N (λ_ h=>⟨_,_,h,jr⟩) (λp2 k s hI=>?_) λp2=>?_
 ·obtain⟨s3,s4,h,hj⟩:=hI;cases k with
  | zero=>cases h
  | succ k=>
   refine At.jr hj ?_ h;refine At.c 1 ?_ ?_
   ·refine At.L 2 [6,7,8,9,30] 4 (λp5=>([],[(2,.var (eA 16 1 k32 p5))],[])) (λp5 J k=>∃s6 s7,aW N k s6 s7=some p5/\J [6,7,8,9,30,32] 4 [(33,(j64 s7))] [(2,.var (eA 16 1 k32 s6))] []) N (λ_ h=>⟨_,_,h,jr⟩) (λp5 k s hI=>?_) λp5=>?_
    ·obtain⟨s6,s7,h,hj⟩:=hI;cases k with
     | zero=>cases h
     | succ k=>
      refine At.jr hj ?_ h;refine At.c 1 ?_ ?_
      ·refine At.b 0 (λ_ e=>aGx hT (eA 4 1 j64) (#v[#v[0,4,8,12],#v[1,5,9,13],#v[2,6,10,14],#v[3,7,11,15],#v[0,5,10,15],#v[1,6,11,12],#v[2,7,8,13],#v[3,4,9,14]]) e (by kernel_rfl) (by kernel_rfl)) λe8=>?_;refine bi λu9 hu9=>?_;refine bi λe10 he10=>?_;refine bi λu11 hu11=>?_;refine bi λe12 he12=>?_;refine bi λu13 hu13=>?_;refine bi λe14 he14=>?_;refine bi λu15 hu15=>?_;refine bi λe16 he16=>?_;refine bi λu17 hu17=>?_;refine bi λe18 he18=>?_;refine bi λu19 hu19=>?_;refine bi λe20 he20=>?_;refine bi λu21 hu21=>?_;refine bi λe22 he22=>?_;refine bi λu23 hu23=>?_;refine bi λe24 he24=>?_;refine bi λr25 hr25=>?_;refine At.d 2 (dE1 0 (λ_=>aD hT (k:=1) 4 [] 0 hu9) (dEL hT 1 (j64 e10) j64 0 he10 (dE1 2 (λ_=>aD hT (k:=1) 2 [] 0 hu11) (dEL hT 3 (k32 e12) k32 0 he12 (dE1 4 (λ_=>aD hT (k:=1) 4 [] 0 hu13) (dEL hT 5 (j64 e14) j64 0 he14 (dE1 6 (λ_=>aD hT (k:=1) 2 [] 0 hu15) (dEL hT 7 (k32 e16) k32 0 he16 (dE1 8 (λ_=>aD hT (k:=1) 4 [] 0 hu17) (dEL hT 9 (j64 e18) j64 0 he18 (dE1 10 (λ_=>aD hT (k:=1) 2 [] 0 hu19) (dEL hT 11 (k32 e20) k32 0 he20 (dE1 12 (λ_=>aD hT (k:=1) 4 [] 0 hu21) (dEL hT 13 (j64 e22) j64 0 he22 (dE1 14 (λ_=>aD hT (k:=1) 2 [] 0 hu23) (dEL hT 15 (k32 e24) k32 0 he24 (dE2 17 (eA 4 1 k32 r25) (λ_=>bM (aE2 hr25)) dE0))))))))))))))))) dF0 ?_;refine bi λu26 hu26=>?_;refine bi λe27 he27=>?_;refine bi λu28 hu28=>?_;refine bi λe29 he29=>?_;refine bi λu30 hu30=>?_;refine bi λe31 he31=>?_;refine bi λu32 hu32=>?_;refine bi λe33 he33=>?_;refine bi λu34 hu34=>?_;refine bi λe35 he35=>?_;refine bi λu36 hu36=>?_;refine bi λe37 he37=>?_;refine bi λu38 hu38=>?_;refine bi λe39 he39=>?_;refine bi λu40 hu40=>?_;refine bi λe41 he41=>?_;refine bi λu42 hu42=>?_;refine bi λe43 he43=>?_;refine bi λu44 hu44=>?_;refine bi λe45 he45=>?_;refine bi λu46 hu46=>?_;refine bi λe47 he47=>?_;refine bi λu48 hu48=>?_;refine bi λe49 he49=>?_;refine At.d 0 (dE1 0 (λ_=>aD hT (k:=1) 4 [] 0 hu26) (dEL hT 1 (j64 e27) j64 0 he27 (dE1 2 (λ_=>aD hT (k:=1) 4 [] 0 hu28) (dEL hT 3 (j64 e29) j64 0 he29 (dE1 4 (λ_=>aD hT (k:=1) 4 [] 0 hu30) (dEL hT 5 (j64 e31) j64 0 he31 (dE1 6 (λ_=>aD hT (k:=1) 4 [] 0 hu32) (dEL hT 7 (j64 e33) j64 0 he33 (dE1 8 (λ_=>aD hT (k:=1) 5 [] 0 hu34) (dEL hT 9 (k32 e35) k32 0 he35 (dE1 10 (λ_=>aD hT (k:=1) 5 [] 0 hu36) (dEL hT 11 (k32 e37) k32 0 he37 (dE1 12 (λ_=>aD hT (k:=1) 5 [] 0 hu38) (dEL hT 13 (k32 e39) k32 0 he39 (dE1 14 (λ_=>aD hT (k:=1) 5 [] 0 hu40) (dEL hT 15 (k32 e41) k32 0 he41 (dE1 16 (λ_=>aD hT (k:=1) 2 [] 0 hu42) (dE1 18 (λ_=>aD hT (k:=1) 2 [] 0 hu44) (dE1 20 (λ_=>aD hT (k:=1) 2 [] 0 hu46) (dE1 22 (λ_=>aD hT (k:=1) 2 [] 0 hu48) dE0)))))))))))))))))))) (dF 17 (.v (.bool false)) [(2,.var (eA 16 1 k32 (s6.setIfInBounds e27.toNat e35)))] [] (bG (bB hT k32 0 s6 he43 e35 (by kernel_rfl) (by kernel_rfl) (H':=[.var (eA 64 1 k8 (ag 64 0)),.var (eA 16 1 k32 r1),.var (eA 16 1 k32 (s6.setIfInBounds e27.toNat e35)),.var aKq,.var (eA 4 1 j64 e8),.var (eA 4 1 k32 r25)]))) (dF 19 (.v (.bool false)) [(2,.var (eA 16 1 k32 ((s6.setIfInBounds e27.toNat e35).setIfInBounds e29.toNat e37)))] [] (bG (bB hT k32 0 (s6.setIfInBounds e27.toNat e35) he45 e37 (by kernel_rfl) (by kernel_rfl) (H':=[.var (eA 64 1 k8 (ag 64 0)),.var (eA 16 1 k32 r1),.var (eA 16 1 k32 ((s6.setIfInBounds e27.toNat e35).setIfInBounds e29.toNat e37)),.var aKq,.var (eA 4 1 j64 e8),.var (eA 4 1 k32 r25)]))) (dF 21 (.v (.bool false)) [(2,.var (eA 16 1 k32 (((s6.setIfInBounds e27.toNat e35).setIfInBounds e29.toNat e37).setIfInBounds e31.toNat e39)))] [] (bG (bB hT k32 0 ((s6.setIfInBounds e27.toNat e35).setIfInBounds e29.toNat e37) he47 e39 (by kernel_rfl) (by kernel_rfl) (H':=[.var (eA 64 1 k8 (ag 64 0)),.var (eA 16 1 k32 r1),.var (eA 16 1 k32 (((s6.setIfInBounds e27.toNat e35).setIfInBounds e29.toNat e37).setIfInBounds e31.toNat e39)),.var aKq,.var (eA 4 1 j64 e8),.var (eA 4 1 k32 r25)]))) (dF 23 (.v (.bool false)) [(2,.var (eA 16 1 k32 ((((s6.setIfInBounds e27.toNat e35).setIfInBounds e29.toNat e37).setIfInBounds e31.toNat e39).setIfInBounds e33.toNat e41)))] [] (bG (bB hT k32 0 (((s6.setIfInBounds e27.toNat e35).setIfInBounds e29.toNat e37).setIfInBounds e31.toNat e39) he49 e41 (by kernel_rfl) (by kernel_rfl) (H':=[.var (eA 64 1 k8 (ag 64 0)),.var (eA 16 1 k32 r1),.var (eA 16 1 k32 ((((s6.setIfInBounds e27.toNat e35).setIfInBounds e29.toNat e37).setIfInBounds e31.toNat e39).setIfInBounds e33.toNat e41)),.var aKq,.var (eA 4 1 j64 e8),.var (eA 4 1 k32 r25)]))) dF0)))) ?_;exact λh=>At.k 2 ⟨_,_,h,jr⟩
      ·apply rt;exact At.x 0
    ·exact λh=>At.k 2 ⟨_,_,h,jr⟩
   ·apply rt;exact At.x 0
 ·refine At.L 3 [6,13] 5 (λp50=>([],[(4,.var (eA 64 1 k8 p50))],[])) (λp50 J k=>∃s51 s52,fD N p2 r1 k s51 s52=some p50/\J [6,7,13,76] 5 [(77,(j64 s52))] [(4,.var (eA 64 1 k8 s51))] []) N (λ_ h=>⟨_,_,h,jr⟩) (λp50 k s hI=>?_) λp50=>?_
  ·obtain⟨s51,s52,h,hj⟩:=hI;cases k with
   | zero=>cases h
   | succ k=>
    refine At.jr hj ?_ h;refine At.c 1 ?_ ?_
    ·refine At.b 1 (λ_ e=>aGx hT k32 p2 e (by kernel_rfl) (by kernel_rfl)) λe53=>?_;refine At.b 4 (λ_ e=>aD hT (k:=1) 1 [] 0 e) λu54=>?_;refine At.b 0 (λ_ e=>aV hT k32 0 e) λe55=>?_;refine lx ?_;intro x56;refine lx ?_;intro x57;refine lx ?_;intro x58;refine lx ?_;intro x59;refine lx ?_;intro x60;refine lx ?_;intro x61;refine At.b 24 (λ_ e=>aD hT (k:=1) 4 [] 0 e) λu62=>?_;refine At.b 0 (λ_ e=>bB hT k8 0 s51 e (U8 (U32 (e53+e55))) (by kernel_rfl) (by kernel_rfl) (H':=[.var (eA 64 1 k8 (ag 64 0)),.var (eA 16 1 k32 r1),.var (eA 16 1 k32 p2),.var aKq,.var (eA 64 1 k8 (s51.setIfInBounds ((I64 (4*s52)).toNat) (U8 (U32 (e53+e55)))))])) λe63=>?_;refine At.b 0 (λ_ e=>aD hT (k:=1) 4 [] 0 e) λu64=>?_;refine At.b 0 (λ_ e=>bB hT k8 0 (s51.setIfInBounds ((I64 (4*s52)).toNat) (U8 (U32 (e53+e55)))) e (U8 x59) (by kernel_rfl) (by kernel_rfl) (H':=[.var (eA 64 1 k8 (ag 64 0)),.var (eA 16 1 k32 r1),.var (eA 16 1 k32 p2),.var aKq,.var (eA 64 1 k8 ((s51.setIfInBounds ((I64 (4*s52)).toNat) (U8 (U32 (e53+e55)))).setIfInBounds x56.toNat (U8 x59)))])) λe65=>?_;refine At.b 0 (λ_ e=>aD hT (k:=1) 4 [] 0 e) λu66=>?_;refine At.b 0 (λ_ e=>bB hT k8 0 ((s51.setIfInBounds ((I64 (4*s52)).toNat) (U8 (U32 (e53+e55)))).setIfInBounds x56.toNat (U8 x59)) e (U8 x60) (by kernel_rfl) (by kernel_rfl) (H':=[.var (eA 64 1 k8 (ag 64 0)),.var (eA 16 1 k32 r1),.var (eA 16 1 k32 p2),.var aKq,.var (eA 64 1 k8 (((s51.setIfInBounds ((I64 (4*s52)).toNat) (U8 (U32 (e53+e55)))).setIfInBounds x56.toNat (U8 x59)).setIfInBounds x57.toNat (U8 x60)))])) λe67=>?_;refine At.b 0 (λ_ e=>aD hT (k:=1) 4 [] 0 e) λu68=>?_;refine At.b 0 (λ_ e=>bB hT k8 0 (((s51.setIfInBounds ((I64 (4*s52)).toNat) (U8 (U32 (e53+e55)))).setIfInBounds x56.toNat (U8 x59)).setIfInBounds x57.toNat (U8 x60)) e (U8 x61) (by kernel_rfl) (by kernel_rfl) (H':=[.var (eA 64 1 k8 (ag 64 0)),.var (eA 16 1 k32 r1),.var (eA 16 1 k32 p2),.var aKq,.var (eA 64 1 k8 ((((s51.setIfInBounds ((I64 (4*s52)).toNat) (U8 (U32 (e53+e55)))).setIfInBounds x56.toNat (U8 x59)).setIfInBounds x57.toNat (U8 x60)).setIfInBounds x58.toNat (U8 x61)))])) λe69=>?_;exact λh=>At.k 2 ⟨_,_,h,jr⟩
    ·apply rt;exact At.x 0
  ·apply rt;exact At.r 2
def aGj : Nat->Bool:=imL [4,6]
def kX(N:Nat)(a3:Int)(a0:(Vector Int 32))(a2:(Vector Int 12)):Nat->(List Int)->Int->Option ((List Int))
 | 0,_,_=>none
 | k+1,s2,s3=>
  aN (decide (((s2.length:Int)) < (mY a3 65536))) λx4=>
  cond x4 (
   ae (kM N a0 s3 a2) λr5=>
   aN (I64 ((mY a3 65536) - ((s2.length:Int)))) λx6=>
   ae (dU r5.toList 0 (mY 64 x6)) λs8=>
   ae (iB 1 s2 s8) λz9=>
   kX N a3 a0 a2 k z9 (U32 (s3+1))) (
   some s2)
def kU(N:Nat)(a0:(Vector Int 32))(a1:Int)(a2:(Vector Int 12))(a3:Int):Option ((List Int)):=
 ae (kX N a3 a0 a2 N [] a1) λp1=>
 some p1
theorem aFE{N a0 a1 a2 a3 r}(h:kU N a0 a1 a2 a3=some r):FnM Tryz.prog 131 [] [(eA 32 1 k8 a0),(k32 a1),(eA 12 1 k8 a2),(j64 a3)] (eL 1 k8 r) []:=by
 unfold kU at h;refine At.f aGj hT hmo Tryz.func131 rfl h ?_;refine At.ownn 7 9 1 ?_;refine At.L 0 [] 1 (λp1=>([(9,(eO 0 1 k8 p1))],[(0,.tail (p1.length*1))],[])) (λp1 J k=>∃s2 s3,kX N a3 a0 a2 k s2 s3=some p1/\J [3,4,6] 1 [(1,(k32 s3)),(9,(eO 0 1 k8 s2))] [(0,.tail (s2.length*1))] []) N (λ_ h=>⟨_,_,h,jr⟩) (λp1 k s hI=>?_) λp1=>?_
 ·obtain⟨s2,s3,h,hj⟩:=hI;cases k with
  | zero=>cases h
  | succ k=>
   refine At.jr hj ?_ h;refine lx ?_;intro x4;refine At.c 4 ?_ ?_
   ·refine At.b 3 (λ_ e=>aH [] (aBm e)) λr5=>?_;refine lx ?_;intro x6;refine At.gz 8 1 ((eA 64 1 k8 r5)) ?_;refine At.b 0 (λ_ e=>jX hT (N:=64) (k:=1) k8 r5 e) λs8=>?_;refine At.b 0 (λ_ e=>bN hT k8 (id:=0) (k:=1) e) λz9=>?_;exact λh=>At.k 4 ⟨_,_,h,jr⟩
   ·apply rt;exact At.x 0
 ·apply rt;exact At.r 2
def aKA : Nat->Bool:=imL [4,6]
def mS(N:Nat)(a3:(List (List Int))):Nat->(List Int)->Int->Option ((List Int))
 | 0,_,_=>none
 | k+1,s2,s3=>
  aN (decide (s3 < ((a3.length:Int)))) λx4=>
  cond x4 (
   ae (idx a3 s3) λe5=>
   aN (I64 (65536 - ((s2.length:Int)))) λx6=>
   aN (mY ((e5.length:Int)) x6) λx7=>
   ae (dU e5 0 x7) λs8=>
   ae (iB 1 s2 s8) λz9=>
   mS N a3 k z9 (I64 (s3+1))) (
   some s2)
def qK(N:Nat)(r10:(List Int)):Nat->(List Int)->Int->Option ((List Int))
 | 0,_,_=>none
 | k+1,s12,s13=>
  aN (decide (s13 < ((r10.length:Int)))) λx14=>
  cond x14 (
   ae (idx r10 s13) λe15=>
   ae (aP s13 s12.length) λ_=>
   ae (s12[s13.toNat]?) λe17=>
   ae (aP s13 s12.length) λ_=>
   ae (aOr s12 s13.toNat (eZ .u8 e17 e15)) λz19=>
   qK N r10 k z19 (I64 (s13+1))) (
   some s12)
def uR(N:Nat)(a0:(Vector Int 32))(a1:Int)(a2:(Vector Int 12))(a3:(List (List Int))):Option ((List Int)):=
 ae (mS N a3 N [] 0) λp1=>
 ae (kU N a0 a1 a2 ((p1.length:Int))) λr10=>
 ae (qK N r10 N p1 0) λp11=>
 some p11
theorem aDF{N a0 a1 a2 a3 r}(h:uR N a0 a1 a2 a3=some r):FnM Tryz.prog 88 [] [(eA 32 1 k8 a0),(k32 a1),(eA 12 1 k8 a2),(eL 1 (eL 1 k8) a3)] (eL 1 k8 r) []:=by
 unfold uR at h;refine At.f aKA hT hmo Tryz.func88 rfl h ?_;refine At.gron 7 9 1 ?_;refine At.L 0 [1,4,6] 1 (λp1=>([(9,(.gro 0 1 p1.length .all))],[(0,.gro 1 (ek k8 p1))],[])) (λp1 J k=>∃s2 s3,mS N a3 k s2 s3=some p1/\J [1,4,6,14,15] 1 [(9,(.gro 0 1 s2.length .all)),(16,(j64 s3))] [(0,.gro 1 (ek k8 s2))] []) N (λ_ h=>⟨_,_,h,jr⟩) (λp1 k s hI=>?_) λp1=>?_
 ·obtain⟨s2,s3,h,hj⟩:=hI;cases k with
  | zero=>cases h
  | succ k=>
   refine At.jr hj ?_ h;refine lx ?_;intro x4;refine At.c 1 ?_ ?_
   ·refine At.b 0 (λ_ e=>bA hT (eL 1 k8) e) λe5=>?_;refine lx ?_;intro x6;refine lx ?_;intro x7;refine At.b 10 (λ_ e=>iE hT (k:=1) k8 e) λs8=>?_;refine At.b 0 (λz9 e=>aO5 hT k8 (id:=0) (k:=1) e (by kernel_rfl) (by kernel_rfl) (H':=[.gro 1 (ek k8 z9)]) (by kernel_rfl)) λz9=>?_;exact λh=>At.k 3 ⟨_,_,h,jr⟩
   ·apply rt;exact At.x 0
 ·refine At.b 5 (λ_ e=>aH [] (aFE e)) λr10=>?_;refine At.L 2 [] 1 (λp11=>([(9,(.gro 0 1 p11.length .all))],[(0,.gro 1 (ek k8 p11))],[])) (λp11 J k=>∃s12 s13,qK N r10 k s12 s13=some p11/\J [36,37] 1 [(9,(.gro 0 1 s12.length .all)),(38,(j64 s13))] [(0,.gro 1 (ek k8 s12))] []) N (λ_ h=>⟨_,_,h,jr⟩) (λp11 k s hI=>?_) λp11=>?_
  ·obtain⟨s12,s13,h,hj⟩:=hI;cases k with
   | zero=>cases h
   | succ k=>
    refine At.jr hj ?_ h;refine lx ?_;intro x14;refine At.c 1 ?_ ?_
    ·refine At.b 1 (λ_ e=>bA hT k8 e) λe15=>?_;refine At.b 5 (λ_ e=>aNP hT (id:=0) (k:=1) e (by kernel_rfl) (by kernel_rfl)) λu16=>?_;refine At.b 0 (λ_ e=>aSJ hT k8 [] e rfl (by kernel_rfl) (by kernel_rfl)) λe17=>?_;refine At.b 2 (λ_ e=>aNP hT (id:=0) (k:=1) e (by kernel_rfl) (by kernel_rfl)) λu18=>?_;refine bi λz19 hz19=>?_;refine At.o 0 (aQm hT k8 (k:=1) (eZ .u8 e17 e15) hz19 rfl (by kernel_rfl) (λ_=>by kernel_rfl) (by kernel_rfl) (H':=[.gro 1 (ek k8 z19)]) (by kernel_rfl)) ?_;refine At.gl 0 [9,49] [] 0 s12.length z19.length ((aQ0 hz19).2.2) ?_;exact λh=>At.k 2 ⟨_,_,h,jr⟩
    ·apply rt;exact At.x 0
  ·refine At.fz 2 0 1 p11.length _ (ek k8 p11) (cd _) (cd _) ?_;apply rt;exact At.r 0
def aMT : Nat->Bool:=imL [2,3]
def vT(N:Nat)(a0:(Vector Int 32))(a1:(Vector Int 12)):Option ((Vector Int 32)):=
 ae (kM N a0 0 a1) λr1=>
 ae (dU r1.toList 0 32) λs3=>
 ae (aGi 32 s3) λv4=>
 some v4
theorem aL0{N a0 a1 r}(h:vT N a0 a1=some r):FnM Tryz.prog 134 [] [(eA 32 1 k8 a0),(eA 12 1 k8 a1)] (eA 32 1 k8 r) []:=by
 unfold vT at h;refine At.f aMT hT hmo Tryz.func134 rfl h ?_;refine At.b 5 (λ_ e=>aH [] (aBm e)) λr1=>?_;refine At.gz 2 1 ((eA 64 1 k8 r1)) ?_;refine At.b 0 (λ_ e=>jX hT (N:=64) (k:=1) k8 r1 e) λs3=>?_;refine At.b 0 (λv4 e=>aEL hT k8 s3 v4 e rfl (by kernel_rfl) (by kernel_rfl)) λv4=>?_;apply rt;exact At.r 2
def rB(N:Nat)(a0:(List Int)):Option ((List Int)):=
 aN (br ((a0.length:Int)) 16) λx1=>
 aN (br (I64 (16 - x1)) 16) λx2=>
 ae (mkO 1 x2) λ_=>
 ae (aGm (ak x2.toNat (0:Int)) x2.toNat) λ_=>
 some (ak x2.toNat (0:Int))
theorem aDK{N a0 r}(h:rB N a0=some r):FnM Tryz.prog 132 [] [(eL 1 k8 a0)] (eL 1 k8 r) []:=by
 unfold rB at h;refine At.f dI hT hmo Tryz.func132 rfl h ?_;refine lx ?_;intro x1;refine lx ?_;intro x2;refine At.b 6 (λ_ e=>aMp hT k8 ((0:Int)) (k:=1) (kd := .int .u8) e (by kernel_rfl) (by kernel_rfl) rfl) λu3=>?_;refine bi λu4 hu4=>?_;refine At.fz 1 0 1 x2.toNat _ (ek k8 (ak x2.toNat (0:Int))) (cd _) (lenM k8 hu4) ?_;apply rt;exact At.r 0
def kT(N:Nat)  : Nat->(Vector Int 16)->Int->Option ((Vector Int 16))
 | 0,_,_=>none
 | k+1,s2,s3=>
  cond (decide (s3 < 4)) (
   ae (aN (I64 ((I64 (4*s3))+3)) λx5=>
   ae (aP x5 16) λ_=>
   ae (s2.toList[x5.toNat]?) λe7=>
   ae (aP x5 16) λ_=>
   ae (s2.toList[x5.toNat]?) λe9=>
   cond (decide (s3 > 0)) (
    ae (aP (I64 (4*s3)) 16) λ_=>
    ae ((s2.setIfInBounds x5.toNat (cF .u8 e7 15)).toList[(I64 (4*s3)).toNat]?) λe11=>
    ae (aP (I64 (4*s3)) 16) λ_=>
    ae ((s2.setIfInBounds x5.toNat (cF .u8 e7 15)).toList[(I64 (4*s3)).toNat]?) λe13=>
    some ((s2.setIfInBounds x5.toNat (cF .u8 e7 15)).setIfInBounds ((I64 (4*s3)).toNat) (cF .u8 e11 252))) (
    some (s2.setIfInBounds x5.toNat (cF .u8 e7 15)))) λp4=>
   kT N k p4 (I64 (s3+1))) (
   some s2)
def qY(N:Nat)(a0:(Vector Int 16)):Option ((Vector Int 16)):=
 ae (kT N N a0 0) λp1=>
 some p1
theorem aIZ{N a0 r}(h:qY N a0=some r):FnM Tryz.prog 210 [] [(eA 16 1 k8 a0)] (eA 16 1 k8 r) []:=by
 unfold qY at h;refine At.f dI hT hmo Tryz.func210 rfl h ?_;refine At.L 3 [1,2] 2 (λp1=>([],[(0,.var (eA 16 1 k8 p1))],[])) (λp1 J k=>∃s2 s3,kT N k s2 s3=some p1/\J [1,2] 2 [(4,(j64 s3))] [(0,.var (eA 16 1 k8 s2))] []) N (λ_ h=>⟨_,_,h,jr⟩) (λp1 k s hI=>?_) λp1=>?_
 ·obtain⟨s2,s3,h,hj⟩:=hI;cases k with
  | zero=>cases h
  | succ k=>
   refine At.jr hj ?_ h;refine At.c 1 ?_ ?_
   ·refine At.J 0 2 [1,2,4] 2 (λp4=>([],[(0,.var (eA 16 1 k8 p4))],[])) (λp4=>?_) λp4=>?_
    ·refine lx ?_;intro x5;refine At.b 5 (λ_ e=>aD hT (k:=1) 0 [] 0 e) λu6=>?_;refine At.b 0 (λ_ e=>aV hT k8 0 e) λe7=>?_;refine At.b 1 (λ_ e=>aD hT (k:=1) 0 [] 0 e) λu8=>?_;refine At.b 0 (λ_ e=>bB hT k8 0 s2 e (cF .u8 e7 15) (by kernel_rfl) (by kernel_rfl) (H':=[.var (eA 16 1 k8 (s2.setIfInBounds x5.toNat (cF .u8 e7 15))),.var (eA 16 1 k8 (ag 16 0))])) λe9=>?_;refine At.c 2 ?_ ?_
     ·refine At.b 2 (λ_ e=>aD hT (k:=1) 0 [] 0 e) λu10=>?_;refine At.b 0 (λ_ e=>aV hT k8 0 e) λe11=>?_;refine At.b 1 (λ_ e=>aD hT (k:=1) 0 [] 0 e) λu12=>?_;refine At.b 0 (λ_ e=>bB hT k8 0 (s2.setIfInBounds x5.toNat (cF .u8 e7 15)) e (cF .u8 e11 252) (by kernel_rfl) (by kernel_rfl) (H':=[.var (eA 16 1 k8 ((s2.setIfInBounds x5.toNat (cF .u8 e7 15)).setIfInBounds ((I64 (4*s3)).toNat) (cF .u8 e11 252))),.var (eA 16 1 k8 (ag 16 0))])) λe13=>?_;apply rt;exact At.jn 0
     ·apply rt;exact At.jn 0
    ·exact λh=>At.k 2 ⟨_,_,h,jr⟩
   ·apply rt;exact At.x 0
 ·apply rt;exact At.r 2
def jD(N:Nat)(a0:(List Int)):Nat->Int->Int->Option (Int)
 | 0,_,_=>none
 | k+1,s2,s3=>
  cond (decide (s3 < 8)) (
   ae (idx a0 s3) λe4=>
   ae (aFf .u64 (U64 e4) (I64 (8*s3))) λx5=>
   jD N a0 k (bor .u64 s2 x5) (I64 (s3+1))) (
   some s2)
def cV(N:Nat)(a0:(List Int)):Option (Int):=
 ae (jD N a0 N 0 0) λp1=>
 some p1
theorem nS{N a0 r}(h:cV N a0=some r):FnM Tryz.prog 211 [] [(eL 1 k8 a0)] (k64 r) []:=by
 unfold cV at h;refine At.f dI hT hmo Tryz.func211 rfl h ?_;refine At.L 3 [] 0 (λp1=>([(3,(k64 p1))],[],[])) (λp1 J k=>∃s2 s3,jD N a0 k s2 s3=some p1/\J [0] 0 [(3,(k64 s2)),(5,(j64 s3))] [] []) N (λ_ h=>⟨_,_,h,jr⟩) (λp1 k s hI=>?_) λp1=>?_
 ·obtain⟨s2,s3,h,hj⟩:=hI;cases k with
  | zero=>cases h
  | succ k=>
   refine At.jr hj ?_ h;refine At.c 1 ?_ ?_
   ·refine At.b 5 (λ_ e=>bA hT k8 e) λe4=>?_;refine At.b 4 (λ_ e=>xU hT (k' := .i64) e (by kernel_rfl) (by kernel_rfl)) λx5=>?_;exact λh=>At.k 4 ⟨_,_,h,jr⟩
   ·apply rt;exact At.x 0
 ·apply rt;exact At.r 2
def aMZ : Nat->Bool:=imL [1]
def vX(N:Nat)(a0:(Vector Int 32)):Option (Int×Int×Int×Int):=
 ae (dU a0.toList 0 16) λs1=>
 ae (aGi 16 s1) λv2=>
 ae (qY N v2) λr3=>
 ae (dU r3.toList 0 16) λs4=>
 ae (cV N s4) λr5=>
 ae (dU r3.toList 8 16) λs6=>
 ae (cV N s6) λr7=>
 ae (dU a0.toList 16 32) λs8=>
 ae (cV N s8) λr9=>
 ae (dU a0.toList 24 32) λs10=>
 ae (cV N s10) λr11=>
 some ((r5,r7,r9,r11))
theorem aK7{N a0 r}(h:vX N a0=some r):FnM Tryz.prog 179 [] [(eA 32 1 k8 a0)] (.ref 1 [] 0) [.dead,.var (.st 10 [(.st 3 [(.arr 3 1 [(k64 0),(k64 0),(k64 0)])]),(eB true),(k64 r.1),(k64 r.2.1),(k64 r.2.2.1),(k64 r.2.2.2),(.v (.slice none 0 0)),(j64 0)])]:=by
 unfold vX at h;refine At.f aMZ hT hmo Tryz.func179 rfl h ?_;refine At.b 2 (λ_ e=>jX hT (N:=32) (k:=1) k8 a0 e) λs1=>?_;refine At.b 0 (λv2 e=>aEL hT k8 s1 v2 e rfl (by kernel_rfl) (by kernel_rfl)) λv2=>?_;refine At.b 1 (λ_ e=>aH [] (aIZ e)) λr3=>?_;refine At.gz 2 0 ((eA 16 1 k8 r3)) ?_;refine bi λs4 hs4=>?_;refine bi λr5 hr5=>?_;refine bi λs6 hs6=>?_;refine bi λr7 hr7=>?_;refine bi λs8 hs8=>?_;refine bi λr9 hr9=>?_;refine bi λs10 hs10=>?_;refine bi λr11 hr11=>?_;refine At.d 0 (dE1 0 (λ_=>jX hT (N:=16) (k:=1) k8 r3 hs4) (dE2 1 (k64 r5) (λ_=>bM (nS hr5)) (dE1 2 (λ_=>jX hT (N:=16) (k:=1) k8 r3 hs6) (dE2 3 (k64 r7) (λ_=>bM (nS hr7)) (dE1 4 (λ_=>jX hT (N:=32) (k:=1) k8 a0 hs8) (dE2 5 (k64 r9) (λ_=>bM (nS hr9)) (dE1 6 (λ_=>jX hT (N:=32) (k:=1) k8 a0 hs10) (dE2 7 (k64 r11) (λ_=>bM (nS hr11)) dE0)))))))) dF0 ?_;apply rt;exact At.r 0
def lH(N:Nat)  : Nat->(List (Vector Int 17))->(List Int)->Option ((List (Vector Int 17)))
 | 0,_,_=>none
 | k+1,s4,s5=>
  aN (decide (((s5.length:Int)) > 0)) λx6=>
  cond x6 (
   ae (aEJ 17 0 16) λ_=>
   ae (cpV (ag 17 0) s5 0 16) λv8=>
   aN (((min s5.length 16:Nat):Int)) λx9=>
   ae (aP x9 17) λ_=>
   ae (v8.toList[x9.toNat]?) λe11=>
   ae (iB 17 s4 (([v8.setIfInBounds x9.toNat 1]:List (Vector Int 17)))) λz12=>
   ae (dU s5 x9 ((s5.length:Int))) λs13=>
   lH N k z12 s13) (
   some s4)
def kL(N:Nat)(a0:(List Int)):Option ((List (Vector Int 17))):=
 aN (mY ((a0.length:Int)) 65536) λx1=>
 ae (dU a0 0 x1) λs2=>
 ae (lH N N [] s2) λp3=>
 some p3
theorem aCD{N a0 r}(h:kL N a0=some r):FnM Tryz.prog 213 [] [(eL 1 k8 a0)] (eL 17 (eA 17 1 k8) r) []:=by
 unfold kL at h;refine At.f dI hT hmo Tryz.func213 rfl h ?_;refine lx ?_;intro x1;refine At.b 5 (λ_ e=>iE hT (k:=1) k8 e) λs2=>?_;refine At.ownn 2 3 17 ?_;refine At.L 0 [] 1 (λp3=>([(3,(eO 0 17 (eA 17 1 k8) p3))],[(0,.tail (p3.length*17))],[])) (λp3 J k=>∃s4 s5,lH N k s4 s5=some p3/\J [] 1 [(0,(eL 1 k8 s5)),(3,(eO 0 17 (eA 17 1 k8) s4))] [(0,.tail (s4.length*17))] []) N (λ_ h=>⟨_,_,h,jr⟩) (λp3 k s hI=>?_) λp3=>?_
 ·obtain⟨s4,s5,h,hj⟩:=hI;cases k with
  | zero=>cases h
  | succ k=>
   refine At.jr hj ?_ h;refine lx ?_;intro x6;refine At.c 3 ?_ ?_
   ·refine At.b 1 (λ_ e=>aE0 hT (k:=1) 1 [] 0 e (by kernel_rfl) (by kernel_rfl) (by decide)) λs7=>?_;refine At.b 1 (λv8 e=>aCE hT k8 (id:=1) (path:=[]) (off:=0) (H':=[.tail (s4.length*17),.var (eA 17 1 k8 v8)]) e (by kernel_rfl) (by kernel_rfl) (by kernel_rfl)) λv8=>?_;refine lx ?_;intro x9;refine At.b 2 (λ_ e=>aD hT (k:=1) 1 [] 0 e) λu10=>?_;refine At.b 0 (λ_ e=>bB hT k8 0 v8 e 1 (by kernel_rfl) (by kernel_rfl) (H':=[.tail (s4.length*17),.var (eA 17 1 k8 (v8.setIfInBounds x9.toNat 1))])) λe11=>?_;refine At.o 2 (aY hT (x:=(.sl 17 1 [(eA 17 1 k8 (v8.setIfInBounds x9.toNat 1))]))) ?_;refine At.b 0 (λ_ e=>bN hT (eA 17 1 k8) (id:=0) (k:=17) e) λz12=>?_;refine At.b 3 (λ_ e=>iE hT (k:=1) k8 e) λs13=>?_;exact λh=>At.k 1 ⟨_,_,h,jr⟩
   ·apply rt;exact At.x 0
 ·apply rt;exact At.r 2
theorem fB{x y c:Int}{r:Int×Int}(h:dC x y c=some r):aLZ Tryz.prog 228 [.int .u64 x,.int .u64 y,.int .u64 c] (.tuple #[.int .u64 r.1,.int .u64 r.2]):=
 aO8 Tryz.func228 (by kernel_rfl) (by kernel_rfl) (by kernel_rfl) (by kernel_rfl) h
def cA(N:Nat)(a0 a1:Int):Option (Int×Int):=
 aN (cF .u64 a0 4294967295) λx1=>
 aN (cF .u64 a1 4294967295) λx2=>
 aN (U64 ((shr .u64 a0 32)*x2)) λx3=>
 aN (shr .u64 (U64 (x1*x2)) 32) λx4=>
 aN (cF .u64 (U64 (x3+x4)) 4294967295) λx5=>
 aN (shr .u64 (U64 (x3+x4)) 32) λx6=>
 aN (U64 (x1*(shr .u64 a1 32))) λx7=>
 aN (U64 ((shr .u64 a0 32)*(shr .u64 a1 32))) λx8=>
 aN (shr .u64 (U64 (x5+x7)) 32) λx9=>
 aN (U64 ((U64 (x8+x6))+x9)) λx10=>
 some ((x10,U64 (a0*a1)))
theorem iN{N a0 a1 r}(h:cA N a0 a1=some r):FnM Tryz.prog 229 [] [(k64 a0),(k64 a1)] (.tup [(k64 r.1),(k64 r.2)]) []:=by
 unfold cA at h;refine At.f dI hT hmo Tryz.func229 rfl h ?_;refine lx ?_;intro x1;refine lx ?_;intro x2;refine lx ?_;intro x3;refine lx ?_;intro x4;refine lx ?_;intro x5;refine lx ?_;intro x6;refine lx ?_;intro x7;refine lx ?_;intro x8;refine lx ?_;intro x9;refine lx ?_;intro x10;apply rt;exact At.r 50
def fJ(N:Nat)(a0 a1:Int)(a2:aO):Option ((Vector Int 3)):=
 ae (aP 0 3) λ_=>
 ae (a2.gA2.gh.toList[(af 0)]?) λe2=>
 ae (dC e2 a0 0) λr3=>
 ae (aP 0 3) λ_=>
 ae (a2.gA2.gh.toList[(af 0)]?) λe5=>
 ae (aP 1 3) λ_=>
 ae ((a2.gA2.gh.setIfInBounds ((af 0)) r3.1).toList[(af 1)]?) λe7=>
 ae (dC e7 a1 r3.2) λr8=>
 ae (aP 1 3) λ_=>
 ae ((a2.gA2.gh.setIfInBounds ((af 0)) r3.1).toList[(af 1)]?) λe10=>
 ae (aP 2 3) λ_=>
 ae (((a2.gA2.gh.setIfInBounds ((af 0)) r3.1).setIfInBounds ((af 1)) r8.1).toList[(af 2)]?) λe12=>
 ae (aP 2 3) λ_=>
 ae (((a2.gA2.gh.setIfInBounds ((af 0)) r3.1).setIfInBounds ((af 1)) r8.1).toList[(af 2)]?) λe14=>
 some (((a2.gA2.gh.setIfInBounds ((af 0)) r3.1).setIfInBounds ((af 1)) r8.1).setIfInBounds ((af 2)) (U64 (e12+r8.2)))
theorem wY{N a0 a1 a2 r}(h:fJ N a0 a1 a2=some r):FnM Tryz.prog 230 [.var (aO.enc a2)] [(.ref 0 [0] 0),(k64 a0),(k64 a1)] (.tup []) [.var (.st 10 [(.st 3 [(eA 3 1 k64 r)]),(eB a2.gC),(k64 a2.gr0),(k64 a2.gr1),(k64 a2.gs0),(k64 a2.gs1),(eL 1 k8 a2.gP),(j64 a2.gR)])]:=by
 unfold fJ at h;refine At.f dI hT hmo Tryz.func230 rfl h ?_;refine bi λu1 hu1=>?_;refine bi λe2 he2=>?_;refine bi λr3 hr3=>?_;refine bi λu4 hu4=>?_;refine bi λe5 he5=>?_;refine At.d 1 (dE1 4 (λ_=>aD hT (k:=1) 0 [0,0] 0 hu1) (dEL hT 5 (k64 e2) k64 2 he2 (dE1 7 (λ_=>fC (fB hr3) (λ_=>fG)) (dE1 13 (λ_=>aD hT (k:=1) 0 [0,0] 0 hu4) dE0)))) (dF 14 (.v (.bool false)) [(0,.var (.st 10 [(.st 3 [(eA 3 1 k64 (a2.gA2.gh.setIfInBounds ((af 0)) r3.1))]),(eB a2.gC),(k64 a2.gr0),(k64 a2.gr1),(k64 a2.gs0),(k64 a2.gs1),(eL 1 k8 a2.gP),(j64 a2.gR)]))] [] (bG (bB hT k64 2 a2.gA2.gh he5 r3.1 (by kernel_rfl) (by kernel_rfl) (H':=[.var (.st 10 [(.st 3 [(eA 3 1 k64 (a2.gA2.gh.setIfInBounds ((af 0)) r3.1))]),(eB a2.gC),(k64 a2.gr0),(k64 a2.gr1),(k64 a2.gs0),(k64 a2.gs1),(eL 1 k8 a2.gP),(j64 a2.gR)])]))) dF0) ?_;refine bi λu6 hu6=>?_;refine bi λe7 he7=>?_;refine bi λr8 hr8=>?_;refine bi λu9 hu9=>?_;refine bi λe10 he10=>?_;refine At.d 0 (dE1 4 (λ_=>aD hT (k:=1) 0 [0,0] 0 hu6) (dEL hT 5 (k64 e7) k64 2 he7 (dE1 8 (λ_=>fC (fB hr8) (λ_=>fG)) (dE1 14 (λ_=>aD hT (k:=1) 0 [0,0] 0 hu9) dE0)))) (dF 15 (.v (.bool false)) [(0,.var (.st 10 [(.st 3 [(eA 3 1 k64 ((a2.gA2.gh.setIfInBounds ((af 0)) r3.1).setIfInBounds ((af 1)) r8.1))]),(eB a2.gC),(k64 a2.gr0),(k64 a2.gr1),(k64 a2.gs0),(k64 a2.gs1),(eL 1 k8 a2.gP),(j64 a2.gR)]))] [] (bG (bB hT k64 2 (a2.gA2.gh.setIfInBounds ((af 0)) r3.1) he10 r8.1 (by kernel_rfl) (by kernel_rfl) (H':=[.var (.st 10 [(.st 3 [(eA 3 1 k64 ((a2.gA2.gh.setIfInBounds ((af 0)) r3.1).setIfInBounds ((af 1)) r8.1))]),(eB a2.gC),(k64 a2.gr0),(k64 a2.gr1),(k64 a2.gs0),(k64 a2.gs1),(eL 1 k8 a2.gP),(j64 a2.gR)])]))) dF0) ?_;refine bi λu11 hu11=>?_;refine bi λe12 he12=>?_;refine bi λu13 hu13=>?_;refine bi λe14 he14=>?_;refine At.d 0 (dE1 3 (λ_=>aD hT (k:=1) 0 [0,0] 0 hu11) (dEL hT 4 (k64 e12) k64 2 he12 (dE1 9 (λ_=>aD hT (k:=1) 0 [0,0] 0 hu13) dE0))) (dF 10 (.v (.bool false)) [(0,.var (.st 10 [(.st 3 [(eA 3 1 k64 (((a2.gA2.gh.setIfInBounds ((af 0)) r3.1).setIfInBounds ((af 1)) r8.1).setIfInBounds ((af 2)) (U64 (e12+r8.2))))]),(eB a2.gC),(k64 a2.gr0),(k64 a2.gr1),(k64 a2.gs0),(k64 a2.gs1),(eL 1 k8 a2.gP),(j64 a2.gR)]))] [] (bG (bB hT k64 2 ((a2.gA2.gh.setIfInBounds ((af 0)) r3.1).setIfInBounds ((af 1)) r8.1) he14 (U64 (e12+r8.2)) (by kernel_rfl) (by kernel_rfl) (H':=[.var (.st 10 [(.st 3 [(eA 3 1 k64 (((a2.gA2.gh.setIfInBounds ((af 0)) r3.1).setIfInBounds ((af 1)) r8.1).setIfInBounds ((af 2)) (U64 (e12+r8.2))))]),(eB a2.gC),(k64 a2.gr0),(k64 a2.gr1),(k64 a2.gs0),(k64 a2.gs1),(eL 1 k8 a2.gP),(j64 a2.gR)])]))) dF0) ?_;apply rt;exact At.z 0
def aBY : Nat->Bool:=imL [5]
def fQ(N:Nat)(a0:(Vector Int 17))(a1 a2:Int)(a3:aO):Option ((Vector Int 3)×Bool×Int×Int×Int×Int×(List Int)×Int):=
 ae (aP 0 3) λ_=>
 ae (a3.gA2.gh.toList[(af 0)]?) λe2=>
 ae (dU a0.toList 0 8) λs3=>
 ae (cV N s3) λr4=>
 ae (dC e2 r4 0) λr5=>
 ae (aP 0 3) λ_=>
 ae (a3.gA2.gh.toList[(af 0)]?) λe7=>
 ae (aP 1 3) λ_=>
 ae ((a3.gA2.gh.setIfInBounds ((af 0)) r5.1).toList[(af 1)]?) λe9=>
 ae (dU a0.toList 8 16) λs10=>
 ae (cV N s10) λr11=>
 ae (dC e9 r11 r5.2) λr12=>
 ae (aP 1 3) λ_=>
 ae ((a3.gA2.gh.setIfInBounds ((af 0)) r5.1).toList[(af 1)]?) λe14=>
 ae (aP 2 3) λ_=>
 ae (((a3.gA2.gh.setIfInBounds ((af 0)) r5.1).setIfInBounds ((af 1)) r12.1).toList[(af 2)]?) λe16=>
 ae (idx a0.toList 16) λe17=>
 aN (U64 ((U64 e17)+r12.2)) λx18=>
 ae (aP 2 3) λ_=>
 ae (((a3.gA2.gh.setIfInBounds ((af 0)) r5.1).setIfInBounds ((af 1)) r12.1).toList[(af 2)]?) λe20=>
 ae (aP 0 3) λ_=>
 ae ((((a3.gA2.gh.setIfInBounds ((af 0)) r5.1).setIfInBounds ((af 1)) r12.1).setIfInBounds ((af 2)) (U64 (e16+x18))).toList[(af 0)]?) λe22=>
 ae (cA N e22 a1) λr23=>
 ae (aP 1 3) λ_=>
 ae ((((a3.gA2.gh.setIfInBounds ((af 0)) r5.1).setIfInBounds ((af 1)) r12.1).setIfInBounds ((af 2)) (U64 (e16+x18))).toList[(af 1)]?) λe25=>
 ae (cA N e25 a1) λr26=>
 ae (aP 0 3) λ_=>
 ae ((((a3.gA2.gh.setIfInBounds ((af 0)) r5.1).setIfInBounds ((af 1)) r12.1).setIfInBounds ((af 2)) (U64 (e16+x18))).toList[(af 0)]?) λe28=>
 ae (cA N e28 a2) λr29=>
 ae (aP 1 3) λ_=>
 ae ((((a3.gA2.gh.setIfInBounds ((af 0)) r5.1).setIfInBounds ((af 1)) r12.1).setIfInBounds ((af 2)) (U64 (e16+x18))).toList[(af 1)]?) λe31=>
 ae (cA N e31 a2) λr32=>
 ae (aP 2 3) λ_=>
 ae ((((a3.gA2.gh.setIfInBounds ((af 0)) r5.1).setIfInBounds ((af 1)) r12.1).setIfInBounds ((af 2)) (U64 (e16+x18))).toList[(af 2)]?) λe34=>
 ae (aP 2 3) λ_=>
 ae ((((a3.gA2.gh.setIfInBounds ((af 0)) r5.1).setIfInBounds ((af 1)) r12.1).setIfInBounds ((af 2)) (U64 (e16+x18))).toList[(af 2)]?) λe36=>
 ae (dC r26.2 r29.2 0) λr37=>
 ae (dC r26.1 r29.1 r37.2) λr38=>
 ae (dC 0 0 r38.2) λr39=>
 ae (dC r38.1 r32.2 0) λr40=>
 ae (dC r39.1 r32.1 r40.2) λr41=>
 ae (dC r40.1 (U64 (e34*a1)) 0) λr42=>
 ae (dC r41.1 (U64 (e36*a2)) r42.2) λr43=>
 ae (dC r37.1 r23.1 0) λr44=>
 ae (dC r42.1 0 r44.2) λr45=>
 ae (dC r43.1 0 r45.2) λr46=>
 ae (fJ N (aHi .u64 r45.1 3) r46.1 (aO.mk (aJ.mk (#v[r23.2,r44.1,cF .u64 r45.1 3])) a3.gC a3.gr0 a3.gr1 a3.gs0 a3.gs1 a3.gP a3.gR)) λr47=>
 aN (bor .u64 (shr .u64 r45.1 2) (shl .u64 r46.1 62)) λx48=>
 ae (fJ N x48 (shr .u64 r46.1 2) (aO.mk (aJ.mk r47) ((aO.mk (aJ.mk (#v[r23.2,r44.1,cF .u64 r45.1 3])) a3.gC a3.gr0 a3.gr1 a3.gs0 a3.gs1 a3.gP a3.gR).gC) ((aO.mk (aJ.mk (#v[r23.2,r44.1,cF .u64 r45.1 3])) a3.gC a3.gr0 a3.gr1 a3.gs0 a3.gs1 a3.gP a3.gR).gr0) ((aO.mk (aJ.mk (#v[r23.2,r44.1,cF .u64 r45.1 3])) a3.gC a3.gr0 a3.gr1 a3.gs0 a3.gs1 a3.gP a3.gR).gr1) ((aO.mk (aJ.mk (#v[r23.2,r44.1,cF .u64 r45.1 3])) a3.gC a3.gr0 a3.gr1 a3.gs0 a3.gs1 a3.gP a3.gR).gs0) ((aO.mk (aJ.mk (#v[r23.2,r44.1,cF .u64 r45.1 3])) a3.gC a3.gr0 a3.gr1 a3.gs0 a3.gs1 a3.gP a3.gR).gs1) ((aO.mk (aJ.mk (#v[r23.2,r44.1,cF .u64 r45.1 3])) a3.gC a3.gr0 a3.gr1 a3.gs0 a3.gs1 a3.gP a3.gR).gP) ((aO.mk (aJ.mk (#v[r23.2,r44.1,cF .u64 r45.1 3])) a3.gC a3.gr0 a3.gr1 a3.gs0 a3.gs1 a3.gP a3.gR).gR))) λr49=>
 some ((r49,(aO.mk (aJ.mk r47) ((aO.mk (aJ.mk (#v[r23.2,r44.1,cF .u64 r45.1 3])) a3.gC a3.gr0 a3.gr1 a3.gs0 a3.gs1 a3.gP a3.gR).gC) ((aO.mk (aJ.mk (#v[r23.2,r44.1,cF .u64 r45.1 3])) a3.gC a3.gr0 a3.gr1 a3.gs0 a3.gs1 a3.gP a3.gR).gr0) ((aO.mk (aJ.mk (#v[r23.2,r44.1,cF .u64 r45.1 3])) a3.gC a3.gr0 a3.gr1 a3.gs0 a3.gs1 a3.gP a3.gR).gr1) ((aO.mk (aJ.mk (#v[r23.2,r44.1,cF .u64 r45.1 3])) a3.gC a3.gr0 a3.gr1 a3.gs0 a3.gs1 a3.gP a3.gR).gs0) ((aO.mk (aJ.mk (#v[r23.2,r44.1,cF .u64 r45.1 3])) a3.gC a3.gr0 a3.gr1 a3.gs0 a3.gs1 a3.gP a3.gR).gs1) ((aO.mk (aJ.mk (#v[r23.2,r44.1,cF .u64 r45.1 3])) a3.gC a3.gr0 a3.gr1 a3.gs0 a3.gs1 a3.gP a3.gR).gP) ((aO.mk (aJ.mk (#v[r23.2,r44.1,cF .u64 r45.1 3])) a3.gC a3.gr0 a3.gr1 a3.gs0 a3.gs1 a3.gP a3.gR).gR)).gC,(aO.mk (aJ.mk r47) ((aO.mk (aJ.mk (#v[r23.2,r44.1,cF .u64 r45.1 3])) a3.gC a3.gr0 a3.gr1 a3.gs0 a3.gs1 a3.gP a3.gR).gC) ((aO.mk (aJ.mk (#v[r23.2,r44.1,cF .u64 r45.1 3])) a3.gC a3.gr0 a3.gr1 a3.gs0 a3.gs1 a3.gP a3.gR).gr0) ((aO.mk (aJ.mk (#v[r23.2,r44.1,cF .u64 r45.1 3])) a3.gC a3.gr0 a3.gr1 a3.gs0 a3.gs1 a3.gP a3.gR).gr1) ((aO.mk (aJ.mk (#v[r23.2,r44.1,cF .u64 r45.1 3])) a3.gC a3.gr0 a3.gr1 a3.gs0 a3.gs1 a3.gP a3.gR).gs0) ((aO.mk (aJ.mk (#v[r23.2,r44.1,cF .u64 r45.1 3])) a3.gC a3.gr0 a3.gr1 a3.gs0 a3.gs1 a3.gP a3.gR).gs1) ((aO.mk (aJ.mk (#v[r23.2,r44.1,cF .u64 r45.1 3])) a3.gC a3.gr0 a3.gr1 a3.gs0 a3.gs1 a3.gP a3.gR).gP) ((aO.mk (aJ.mk (#v[r23.2,r44.1,cF .u64 r45.1 3])) a3.gC a3.gr0 a3.gr1 a3.gs0 a3.gs1 a3.gP a3.gR).gR)).gr0,(aO.mk (aJ.mk r47) ((aO.mk (aJ.mk (#v[r23.2,r44.1,cF .u64 r45.1 3])) a3.gC a3.gr0 a3.gr1 a3.gs0 a3.gs1 a3.gP a3.gR).gC) ((aO.mk (aJ.mk (#v[r23.2,r44.1,cF .u64 r45.1 3])) a3.gC a3.gr0 a3.gr1 a3.gs0 a3.gs1 a3.gP a3.gR).gr0) ((aO.mk (aJ.mk (#v[r23.2,r44.1,cF .u64 r45.1 3])) a3.gC a3.gr0 a3.gr1 a3.gs0 a3.gs1 a3.gP a3.gR).gr1) ((aO.mk (aJ.mk (#v[r23.2,r44.1,cF .u64 r45.1 3])) a3.gC a3.gr0 a3.gr1 a3.gs0 a3.gs1 a3.gP a3.gR).gs0) ((aO.mk (aJ.mk (#v[r23.2,r44.1,cF .u64 r45.1 3])) a3.gC a3.gr0 a3.gr1 a3.gs0 a3.gs1 a3.gP a3.gR).gs1) ((aO.mk (aJ.mk (#v[r23.2,r44.1,cF .u64 r45.1 3])) a3.gC a3.gr0 a3.gr1 a3.gs0 a3.gs1 a3.gP a3.gR).gP) ((aO.mk (aJ.mk (#v[r23.2,r44.1,cF .u64 r45.1 3])) a3.gC a3.gr0 a3.gr1 a3.gs0 a3.gs1 a3.gP a3.gR).gR)).gr1,(aO.mk (aJ.mk r47) ((aO.mk (aJ.mk (#v[r23.2,r44.1,cF .u64 r45.1 3])) a3.gC a3.gr0 a3.gr1 a3.gs0 a3.gs1 a3.gP a3.gR).gC) ((aO.mk (aJ.mk (#v[r23.2,r44.1,cF .u64 r45.1 3])) a3.gC a3.gr0 a3.gr1 a3.gs0 a3.gs1 a3.gP a3.gR).gr0) ((aO.mk (aJ.mk (#v[r23.2,r44.1,cF .u64 r45.1 3])) a3.gC a3.gr0 a3.gr1 a3.gs0 a3.gs1 a3.gP a3.gR).gr1) ((aO.mk (aJ.mk (#v[r23.2,r44.1,cF .u64 r45.1 3])) a3.gC a3.gr0 a3.gr1 a3.gs0 a3.gs1 a3.gP a3.gR).gs0) ((aO.mk (aJ.mk (#v[r23.2,r44.1,cF .u64 r45.1 3])) a3.gC a3.gr0 a3.gr1 a3.gs0 a3.gs1 a3.gP a3.gR).gs1) ((aO.mk (aJ.mk (#v[r23.2,r44.1,cF .u64 r45.1 3])) a3.gC a3.gr0 a3.gr1 a3.gs0 a3.gs1 a3.gP a3.gR).gP) ((aO.mk (aJ.mk (#v[r23.2,r44.1,cF .u64 r45.1 3])) a3.gC a3.gr0 a3.gr1 a3.gs0 a3.gs1 a3.gP a3.gR).gR)).gs0,(aO.mk (aJ.mk r47) ((aO.mk (aJ.mk (#v[r23.2,r44.1,cF .u64 r45.1 3])) a3.gC a3.gr0 a3.gr1 a3.gs0 a3.gs1 a3.gP a3.gR).gC) ((aO.mk (aJ.mk (#v[r23.2,r44.1,cF .u64 r45.1 3])) a3.gC a3.gr0 a3.gr1 a3.gs0 a3.gs1 a3.gP a3.gR).gr0) ((aO.mk (aJ.mk (#v[r23.2,r44.1,cF .u64 r45.1 3])) a3.gC a3.gr0 a3.gr1 a3.gs0 a3.gs1 a3.gP a3.gR).gr1) ((aO.mk (aJ.mk (#v[r23.2,r44.1,cF .u64 r45.1 3])) a3.gC a3.gr0 a3.gr1 a3.gs0 a3.gs1 a3.gP a3.gR).gs0) ((aO.mk (aJ.mk (#v[r23.2,r44.1,cF .u64 r45.1 3])) a3.gC a3.gr0 a3.gr1 a3.gs0 a3.gs1 a3.gP a3.gR).gs1) ((aO.mk (aJ.mk (#v[r23.2,r44.1,cF .u64 r45.1 3])) a3.gC a3.gr0 a3.gr1 a3.gs0 a3.gs1 a3.gP a3.gR).gP) ((aO.mk (aJ.mk (#v[r23.2,r44.1,cF .u64 r45.1 3])) a3.gC a3.gr0 a3.gr1 a3.gs0 a3.gs1 a3.gP a3.gR).gR)).gs1,(aO.mk (aJ.mk r47) ((aO.mk (aJ.mk (#v[r23.2,r44.1,cF .u64 r45.1 3])) a3.gC a3.gr0 a3.gr1 a3.gs0 a3.gs1 a3.gP a3.gR).gC) ((aO.mk (aJ.mk (#v[r23.2,r44.1,cF .u64 r45.1 3])) a3.gC a3.gr0 a3.gr1 a3.gs0 a3.gs1 a3.gP a3.gR).gr0) ((aO.mk (aJ.mk (#v[r23.2,r44.1,cF .u64 r45.1 3])) a3.gC a3.gr0 a3.gr1 a3.gs0 a3.gs1 a3.gP a3.gR).gr1) ((aO.mk (aJ.mk (#v[r23.2,r44.1,cF .u64 r45.1 3])) a3.gC a3.gr0 a3.gr1 a3.gs0 a3.gs1 a3.gP a3.gR).gs0) ((aO.mk (aJ.mk (#v[r23.2,r44.1,cF .u64 r45.1 3])) a3.gC a3.gr0 a3.gr1 a3.gs0 a3.gs1 a3.gP a3.gR).gs1) ((aO.mk (aJ.mk (#v[r23.2,r44.1,cF .u64 r45.1 3])) a3.gC a3.gr0 a3.gr1 a3.gs0 a3.gs1 a3.gP a3.gR).gP) ((aO.mk (aJ.mk (#v[r23.2,r44.1,cF .u64 r45.1 3])) a3.gC a3.gr0 a3.gr1 a3.gs0 a3.gs1 a3.gP a3.gR).gR)).gP,(aO.mk (aJ.mk r47) ((aO.mk (aJ.mk (#v[r23.2,r44.1,cF .u64 r45.1 3])) a3.gC a3.gr0 a3.gr1 a3.gs0 a3.gs1 a3.gP a3.gR).gC) ((aO.mk (aJ.mk (#v[r23.2,r44.1,cF .u64 r45.1 3])) a3.gC a3.gr0 a3.gr1 a3.gs0 a3.gs1 a3.gP a3.gR).gr0) ((aO.mk (aJ.mk (#v[r23.2,r44.1,cF .u64 r45.1 3])) a3.gC a3.gr0 a3.gr1 a3.gs0 a3.gs1 a3.gP a3.gR).gr1) ((aO.mk (aJ.mk (#v[r23.2,r44.1,cF .u64 r45.1 3])) a3.gC a3.gr0 a3.gr1 a3.gs0 a3.gs1 a3.gP a3.gR).gs0) ((aO.mk (aJ.mk (#v[r23.2,r44.1,cF .u64 r45.1 3])) a3.gC a3.gr0 a3.gr1 a3.gs0 a3.gs1 a3.gP a3.gR).gs1) ((aO.mk (aJ.mk (#v[r23.2,r44.1,cF .u64 r45.1 3])) a3.gC a3.gr0 a3.gr1 a3.gs0 a3.gs1 a3.gP a3.gR).gP) ((aO.mk (aJ.mk (#v[r23.2,r44.1,cF .u64 r45.1 3])) a3.gC a3.gr0 a3.gr1 a3.gs0 a3.gs1 a3.gP a3.gR).gR)).gR))
theorem aA4{N a0 a1 a2 a3 r}(h:fQ N a0 a1 a2 a3=some r):FnM Tryz.prog 212 [.var (aO.enc a3)] [(.ref 0 [0] 0),(eA 17 1 k8 a0),(k64 a1),(k64 a2)] (.tup []) [.var (.st 10 [(.st 3 [(eA 3 1 k64 r.1)]),(eB r.2.1),(k64 r.2.2.1),(k64 r.2.2.2.1),(k64 r.2.2.2.2.1),(k64 r.2.2.2.2.2.1),(eL 1 k8 r.2.2.2.2.2.2.1),(j64 r.2.2.2.2.2.2.2)])]:=by
 unfold fQ at h;refine At.f aBY hT hmo Tryz.func212 rfl h ?_;refine bi λu1 hu1=>?_;refine bi λe2 he2=>?_;refine bi λs3 hs3=>?_;refine bi λr4 hr4=>?_;refine bi λr5 hr5=>?_;refine bi λu6 hu6=>?_;refine bi λe7 he7=>?_;refine At.d 8 (dE1 0 (λ_=>aD hT (k:=1) 1 [] 0 hu1) (dEL hT 1 (k64 e2) k64 0 he2 (dE1 2 (λ_=>jX hT (N:=17) (k:=1) k8 a0 hs3) (dE2 3 (k64 r4) (λ_=>bM (nS hr4)) (dE1 4 (λ_=>fC (fB hr5) (λ_=>fG)) (dE1 8 (λ_=>aD hT (k:=1) 1 [] 0 hu6) dE0)))))) (dF 9 (.v (.bool false)) [(1,.var (eA 3 1 k64 (a3.gA2.gh.setIfInBounds ((af 0)) r5.1)))] [] (bG (bB hT k64 0 a3.gA2.gh he7 r5.1 (by kernel_rfl) (by kernel_rfl) (H':=[.var (aO.enc a3),.var (eA 3 1 k64 (a3.gA2.gh.setIfInBounds ((af 0)) r5.1))]))) dF0) ?_;refine bi λu8 hu8=>?_;refine bi λe9 he9=>?_;refine bi λs10 hs10=>?_;refine bi λr11 hr11=>?_;refine bi λr12 hr12=>?_;refine bi λu13 hu13=>?_;refine bi λe14 he14=>?_;refine At.d 0 (dE1 0 (λ_=>aD hT (k:=1) 1 [] 0 hu8) (dEL hT 1 (k64 e9) k64 0 he9 (dE1 2 (λ_=>jX hT (N:=17) (k:=1) k8 a0 hs10) (dE2 3 (k64 r11) (λ_=>bM (nS hr11)) (dE1 5 (λ_=>fC (fB hr12) (λ_=>fG)) (dE1 9 (λ_=>aD hT (k:=1) 1 [] 0 hu13) dE0)))))) (dF 10 (.v (.bool false)) [(1,.var (eA 3 1 k64 ((a3.gA2.gh.setIfInBounds ((af 0)) r5.1).setIfInBounds ((af 1)) r12.1)))] [] (bG (bB hT k64 0 (a3.gA2.gh.setIfInBounds ((af 0)) r5.1) he14 r12.1 (by kernel_rfl) (by kernel_rfl) (H':=[.var (aO.enc a3),.var (eA 3 1 k64 ((a3.gA2.gh.setIfInBounds ((af 0)) r5.1).setIfInBounds ((af 1)) r12.1))]))) dF0) ?_;refine At.b 0 (λ_ e=>aD hT (k:=1) 1 [] 0 e) λu15=>?_;refine At.b 0 (λ_ e=>aV hT k64 0 e) λe16=>?_;refine At.b 0 (λ_ e=>bK hT (N:=17) (k:=1) k8 a0 e) λe17=>?_;refine lx ?_;intro x18;refine At.b 5 (λ_ e=>aD hT (k:=1) 1 [] 0 e) λu19=>?_;refine At.b 0 (λ_ e=>bB hT k64 0 ((a3.gA2.gh.setIfInBounds ((af 0)) r5.1).setIfInBounds ((af 1)) r12.1) e (U64 (e16+x18)) (by kernel_rfl) (by kernel_rfl) (H':=[.var (aO.enc a3),.var (eA 3 1 k64 (((a3.gA2.gh.setIfInBounds ((af 0)) r5.1).setIfInBounds ((af 1)) r12.1).setIfInBounds ((af 2)) (U64 (e16+x18))))])) λe20=>?_;refine At.b 0 (λ_ e=>aD hT (k:=1) 1 [] 0 e) λu21=>?_;refine At.b 0 (λ_ e=>aV hT k64 0 e) λe22=>?_;refine At.b 1 (λ_ e=>aH [] (iN e)) λr23=>?_;refine At.b 5 (λ_ e=>aD hT (k:=1) 1 [] 0 e) λu24=>?_;refine At.b 0 (λ_ e=>aV hT k64 0 e) λe25=>?_;refine At.b 1 (λ_ e=>aH [] (iN e)) λr26=>?_;refine At.b 5 (λ_ e=>aD hT (k:=1) 1 [] 0 e) λu27=>?_;refine At.b 0 (λ_ e=>aV hT k64 0 e) λe28=>?_;refine At.b 1 (λ_ e=>aH [] (iN e)) λr29=>?_;refine At.b 5 (λ_ e=>aD hT (k:=1) 1 [] 0 e) λu30=>?_;refine At.b 0 (λ_ e=>aV hT k64 0 e) λe31=>?_;refine At.b 1 (λ_ e=>aH [] (iN e)) λr32=>?_;refine bi λu33 hu33=>?_;refine bi λe34 he34=>?_;refine bi λu35 hu35=>?_;refine bi λe36 he36=>?_;refine At.d 5 (dE1 0 (λ_=>aD hT (k:=1) 1 [] 0 hu33) (dEL hT 1 (k64 e34) k64 0 he34 (dE1 4 (λ_=>aD hT (k:=1) 1 [] 0 hu35) (dEL hT 5 (k64 e36) k64 0 he36 dE0)))) dF0 ?_;refine At.b 2 (λ_ e=>fC (fB e) (λ_=>fG)) λr37=>?_;refine At.b 8 (λ_ e=>fC (fB e) (λ_=>fG)) λr38=>?_;refine At.b 6 (λ_ e=>fC (fB e) (λ_=>fG)) λr39=>?_;refine At.b 7 (λ_ e=>fC (fB e) (λ_=>fG)) λr40=>?_;refine At.b 8 (λ_ e=>fC (fB e) (λ_=>fG)) λr41=>?_;refine At.b 6 (λ_ e=>fC (fB e) (λ_=>fG)) λr42=>?_;refine At.b 8 (λ_ e=>fC (fB e) (λ_=>fG)) λr43=>?_;refine At.b 8 (λ_ e=>fC (fB e) (λ_=>fG)) λr44=>?_;refine At.b 7 (λ_ e=>fC (fB e) (λ_=>fG)) λr45=>?_;refine At.b 7 (λ_ e=>fC (fB e) (λ_=>fG)) λr46=>?_;refine At.b 18 (λ_ e=>aH [0] (wY e)) λr47=>?_;refine lx ?_;intro x48;refine At.b 8 (λ_ e=>aH [0] (wY e)) λr49=>?_;apply rt;exact At.z 0
def fI(N:Nat)(a1:(List (List Int))):Nat->(List Int)->Int->Int->Option ((List Int)×Int)
 | 0,_,_,_=>none
 | k+1,s2,s3,s4=>
  aN (decide (s4 < ((a1.length:Int)))) λx5=>
  cond x5 (
   ae (idx a1 s4) λe6=>
   aN (mY ((e6.length:Int)) (I64 (65536 - s3))) λx7=>
   ae (dU e6 0 x7) λs8=>
   aN (I64 (s3+((s8.length:Int)))) λx9=>
   ae (iB 1 s2 s8) λz10=>
   fI N a1 k z10 ((I64 (s3+((s8.length:Int))))) (I64 (s4+1))) (
   some ((s2,s3)))
def fH(N:Nat)  : Nat->(Vector Int 3)->Bool->Int->Int->Int->Int->(List Int)->Int->Option ((Vector Int 3)×Bool×Int×Int×Int×Int×(List Int)×Int)
 | 0,_,_,_,_,_,_,_,_=>none
 | k+1,s12,s13,s14,s15,s16,s17,s18,s19=>
  aN (decide (((s18.length:Int))>=16)) λx20=>
  cond x20 (
   ae (dU s18 0 16) λs21=>
   ae (kL N s21) λr22=>
   ae (idx r22 0) λe23=>
   ae (fQ N e23 s14 s15 (aO.mk (aJ.mk s12) s13 s14 s15 s16 s17 s18 s19)) λr24=>
   ae (dU r24.2.2.2.2.2.2.1 16 ((r24.2.2.2.2.2.2.1.length:Int))) λs25=>
   fH N k r24.1 r24.2.1 r24.2.2.1 r24.2.2.2.1 r24.2.2.2.2.1 r24.2.2.2.2.2.1 s25 r24.2.2.2.2.2.2.2) (
   some ((s12,s13,s14,s15,s16,s17,s18,s19)))
def qW(N:Nat)(b1:(List Int))(a1:(List (List Int)))(a2:aJ)(a3:Bool)(a4 a5 a6 a7 a8:Int):Option ((List Int)×(Vector Int 3)×Bool×Int×Int×Int×Int×(List Int)×Int):=
 cond (!a3) (
  some ((b1,a2.gh,a3,a4,a5,a6,a7,b1,a8))) (
  ae (fI N a1 N b1 a8 0) λp1=>
  ae (fH N N a2.gh a3 a4 a5 a6 a7 p1.1 p1.2) λp11=>
  some ((p1.1,p11.1,p11.2.1,p11.2.2.1,p11.2.2.2.1,p11.2.2.2.2.1,p11.2.2.2.2.2.1,p11.2.2.2.2.2.2.1,p11.2.2.2.2.2.2.2)))
theorem aDS{N b1 a1 a2 a3 a4 a5 a6 a7 a8 r}(h:qW N b1 a1 a2 a3 a4 a5 a6 a7 a8=some r):FnM Tryz.prog 180 [.var (.st 10 [(aJ.enc a2),(eB a3),(k64 a4),(k64 a5),(k64 a6),(k64 a7),(eO 1 1 k8 b1),(j64 a8)]),.tail (b1.length*1)] [(.ref 0 [] 0),(eL 1 (eL 1 k8) a1)] (.tup []) [.var (.st 10 [(.st 3 [(eA 3 1 k64 r.2.1)]),(eB r.2.2.1),(k64 r.2.2.2.1),(k64 r.2.2.2.2.1),(k64 r.2.2.2.2.2.1),(k64 r.2.2.2.2.2.2.1),(eL 1 k8 r.2.2.2.2.2.2.2.1),(j64 r.2.2.2.2.2.2.2.2)]),.tail (r.1.length*1)]:=by
 unfold qW at h;refine At.f dI hT hmo Tryz.func180 rfl h ?_;refine At.o 1 (aCg hT (t:=256) (x:=(.ref 0 [] 0)) (b:=true) (by kernel_rfl) rfl rfl (by kernel_rfl)) ?_;refine At.g [8] 7 ?_;refine At.c 0 ?_ ?_
 ·apply rt;exact At.r 0
 ·refine At.L 3 [0] 2 (λp1=>([],[(0,.var (.st 10 [(aJ.enc a2),(eB a3),(k64 a4),(k64 a5),(k64 a6),(k64 a7),(eO 1 1 k8 p1.1),(j64 p1.2)])),(1,.tail (p1.1.length*1))],[])) (λp1 J k=>∃s2 s3 s4,fI N a1 k s2 s3 s4=some p1/\J [0,15,16] 2 [(17,(j64 s4))] [(0,.var (.st 10 [(aJ.enc a2),(eB a3),(k64 a4),(k64 a5),(k64 a6),(k64 a7),(eO 1 1 k8 s2),(j64 s3)])),(1,.tail (s2.length*1))] []) N (λ_ h=>⟨_,_,_,h,jr⟩) (λp1 k s hI=>?_) λp1=>?_
  ·obtain⟨s2,s3,s4,h,hj⟩:=hI;cases k with
   | zero=>cases h
   | succ k=>
    refine At.jr hj ?_ h;refine lx ?_;intro x5;refine At.c 1 ?_ ?_
    ·refine At.b 0 (λ_ e=>bA hT (eL 1 k8) e) λe6=>?_;refine lx ?_;intro x7;refine At.b 11 (λ_ e=>iE hT (k:=1) k8 e) λs8=>?_;refine lx ?_;intro x9;refine At.b 17 (λ_ e=>bN hT k8 (id:=1) (k:=1) e) λz10=>?_;exact λh=>At.k 5 ⟨_,_,_,h,jr⟩
    ·apply rt;exact At.x 0
  ·refine At.L 0 [] 2 (λp11=>([],[(0,.var (.st 10 [(.st 3 [(eA 3 1 k64 p11.1)]),(eB p11.2.1),(k64 p11.2.2.1),(k64 p11.2.2.2.1),(k64 p11.2.2.2.2.1),(k64 p11.2.2.2.2.2.1),(eL 1 k8 p11.2.2.2.2.2.2.1),(j64 p11.2.2.2.2.2.2.2)]))],[])) (λp11 J k=>∃s12 s13 s14 s15 s16 s17 s18 s19,fH N k s12 s13 s14 s15 s16 s17 s18 s19=some p11/\J [0] 2 [] [(0,.var (.st 10 [(.st 3 [(eA 3 1 k64 s12)]),(eB s13),(k64 s14),(k64 s15),(k64 s16),(k64 s17),(eL 1 k8 s18),(j64 s19)]))] []) N (λ_ h=>⟨_,_,_,_,_,_,_,_,h,jr⟩) (λp11 k s hI=>?_) λp11=>?_
   ·obtain⟨s12,s13,s14,s15,s16,s17,s18,s19,h,hj⟩:=hI;cases k with
    | zero=>cases h
    | succ k=>
     refine At.jr hj ?_ h;refine lx ?_;intro x20;refine At.c 6 ?_ ?_
     ·refine bi λs21 hs21=>?_;refine bi λr22 hr22=>?_;refine bi λe23 he23=>?_;refine bi λr24 hr24=>?_;refine At.d 0 (dE1 7 (λ_=>iE hT (k:=1) k8 hs21) (dE2 8 (eL 17 (eA 17 1 k8) r22) (λ_=>bM (aCD hr22)) (dE1 9 (λ_=>bA hT (eA 17 1 k8) he23) dE0))) (dF 19 (.tup []) [(0,.var (.st 10 [(.st 3 [(eA 3 1 k64 r24.1)]),(eB r24.2.1),(k64 r24.2.2.1),(k64 r24.2.2.2.1),(k64 r24.2.2.2.2.1),(k64 r24.2.2.2.2.2.1),(eL 1 k8 r24.2.2.2.2.2.2.1),(j64 r24.2.2.2.2.2.2.2)]))] [] (bG (aH [0] (aA4 hr24))) dF0) ?_;refine At.b 5 (λ_ e=>iE hT (k:=1) k8 e) λs25=>?_;exact λh=>At.k 3 ⟨_,_,_,_,_,_,_,_,h,jr⟩
     ·apply rt;exact At.x 0
   ·apply rt;exact At.z 0
def bZ(N:Nat)(a0 a1:Int)(a2:aJ):Option ((Vector Int 3)):=
 ae (aP 0 3) λ_=>
 ae (a2.gh.toList[(af 0)]?) λe2=>
 ae (dC e2 a0 0) λr3=>
 ae (aP 0 3) λ_=>
 ae (a2.gh.toList[(af 0)]?) λe5=>
 ae (aP 1 3) λ_=>
 ae ((a2.gh.setIfInBounds ((af 0)) r3.1).toList[(af 1)]?) λe7=>
 ae (dC e7 a1 r3.2) λr8=>
 ae (aP 1 3) λ_=>
 ae ((a2.gh.setIfInBounds ((af 0)) r3.1).toList[(af 1)]?) λe10=>
 ae (aP 2 3) λ_=>
 ae (((a2.gh.setIfInBounds ((af 0)) r3.1).setIfInBounds ((af 1)) r8.1).toList[(af 2)]?) λe12=>
 ae (aP 2 3) λ_=>
 ae (((a2.gh.setIfInBounds ((af 0)) r3.1).setIfInBounds ((af 1)) r8.1).toList[(af 2)]?) λe14=>
 some (((a2.gh.setIfInBounds ((af 0)) r3.1).setIfInBounds ((af 1)) r8.1).setIfInBounds ((af 2)) (U64 (e12+r8.2)))
theorem wA{N a0 a1 a2 r}(h:bZ N a0 a1 a2=some r):FnM Tryz.prog 230 [.var (aJ.enc a2)] [(.ref 0 [] 0),(k64 a0),(k64 a1)] (.tup []) [.var (.st 3 [(eA 3 1 k64 r)])]:=by
 unfold bZ at h;refine At.f dI hT hmo Tryz.func230 rfl h ?_;refine bi λu1 hu1=>?_;refine bi λe2 he2=>?_;refine bi λr3 hr3=>?_;refine bi λu4 hu4=>?_;refine bi λe5 he5=>?_;refine At.d 1 (dE1 4 (λ_=>aD hT (k:=1) 0 [0] 0 hu1) (dEL hT 5 (k64 e2) k64 1 he2 (dE1 7 (λ_=>fC (fB hr3) (λ_=>fG)) (dE1 13 (λ_=>aD hT (k:=1) 0 [0] 0 hu4) dE0)))) (dF 14 (.v (.bool false)) [(0,.var (.st 3 [(eA 3 1 k64 (a2.gh.setIfInBounds ((af 0)) r3.1))]))] [] (bG (bB hT k64 1 a2.gh he5 r3.1 (by kernel_rfl) (by kernel_rfl) (H':=[.var (.st 3 [(eA 3 1 k64 (a2.gh.setIfInBounds ((af 0)) r3.1))])]))) dF0) ?_;refine bi λu6 hu6=>?_;refine bi λe7 he7=>?_;refine bi λr8 hr8=>?_;refine bi λu9 hu9=>?_;refine bi λe10 he10=>?_;refine At.d 0 (dE1 4 (λ_=>aD hT (k:=1) 0 [0] 0 hu6) (dEL hT 5 (k64 e7) k64 1 he7 (dE1 8 (λ_=>fC (fB hr8) (λ_=>fG)) (dE1 14 (λ_=>aD hT (k:=1) 0 [0] 0 hu9) dE0)))) (dF 15 (.v (.bool false)) [(0,.var (.st 3 [(eA 3 1 k64 ((a2.gh.setIfInBounds ((af 0)) r3.1).setIfInBounds ((af 1)) r8.1))]))] [] (bG (bB hT k64 1 (a2.gh.setIfInBounds ((af 0)) r3.1) he10 r8.1 (by kernel_rfl) (by kernel_rfl) (H':=[.var (.st 3 [(eA 3 1 k64 ((a2.gh.setIfInBounds ((af 0)) r3.1).setIfInBounds ((af 1)) r8.1))])]))) dF0) ?_;refine bi λu11 hu11=>?_;refine bi λe12 he12=>?_;refine bi λu13 hu13=>?_;refine bi λe14 he14=>?_;refine At.d 0 (dE1 3 (λ_=>aD hT (k:=1) 0 [0] 0 hu11) (dEL hT 4 (k64 e12) k64 1 he12 (dE1 9 (λ_=>aD hT (k:=1) 0 [0] 0 hu13) dE0))) (dF 10 (.v (.bool false)) [(0,.var (.st 3 [(eA 3 1 k64 (((a2.gh.setIfInBounds ((af 0)) r3.1).setIfInBounds ((af 1)) r8.1).setIfInBounds ((af 2)) (U64 (e12+r8.2))))]))] [] (bG (bB hT k64 1 ((a2.gh.setIfInBounds ((af 0)) r3.1).setIfInBounds ((af 1)) r8.1) he14 (U64 (e12+r8.2)) (by kernel_rfl) (by kernel_rfl) (H':=[.var (.st 3 [(eA 3 1 k64 (((a2.gh.setIfInBounds ((af 0)) r3.1).setIfInBounds ((af 1)) r8.1).setIfInBounds ((af 2)) (U64 (e12+r8.2))))])]))) dF0) ?_;apply rt;exact At.z 0
def aAv : Nat->Bool:=imL [5]
def cP(N:Nat)(a0:(Vector Int 17))(a1 a2:Int)(a3:aJ):Option ((Vector Int 3)):=
 ae (aP 0 3) λ_=>
 ae (a3.gh.toList[(af 0)]?) λe2=>
 ae (dU a0.toList 0 8) λs3=>
 ae (cV N s3) λr4=>
 ae (dC e2 r4 0) λr5=>
 ae (aP 0 3) λ_=>
 ae (a3.gh.toList[(af 0)]?) λe7=>
 ae (aP 1 3) λ_=>
 ae ((a3.gh.setIfInBounds ((af 0)) r5.1).toList[(af 1)]?) λe9=>
 ae (dU a0.toList 8 16) λs10=>
 ae (cV N s10) λr11=>
 ae (dC e9 r11 r5.2) λr12=>
 ae (aP 1 3) λ_=>
 ae ((a3.gh.setIfInBounds ((af 0)) r5.1).toList[(af 1)]?) λe14=>
 ae (aP 2 3) λ_=>
 ae (((a3.gh.setIfInBounds ((af 0)) r5.1).setIfInBounds ((af 1)) r12.1).toList[(af 2)]?) λe16=>
 ae (idx a0.toList 16) λe17=>
 aN (U64 ((U64 e17)+r12.2)) λx18=>
 ae (aP 2 3) λ_=>
 ae (((a3.gh.setIfInBounds ((af 0)) r5.1).setIfInBounds ((af 1)) r12.1).toList[(af 2)]?) λe20=>
 ae (aP 0 3) λ_=>
 ae ((((a3.gh.setIfInBounds ((af 0)) r5.1).setIfInBounds ((af 1)) r12.1).setIfInBounds ((af 2)) (U64 (e16+x18))).toList[(af 0)]?) λe22=>
 ae (cA N e22 a1) λr23=>
 ae (aP 1 3) λ_=>
 ae ((((a3.gh.setIfInBounds ((af 0)) r5.1).setIfInBounds ((af 1)) r12.1).setIfInBounds ((af 2)) (U64 (e16+x18))).toList[(af 1)]?) λe25=>
 ae (cA N e25 a1) λr26=>
 ae (aP 0 3) λ_=>
 ae ((((a3.gh.setIfInBounds ((af 0)) r5.1).setIfInBounds ((af 1)) r12.1).setIfInBounds ((af 2)) (U64 (e16+x18))).toList[(af 0)]?) λe28=>
 ae (cA N e28 a2) λr29=>
 ae (aP 1 3) λ_=>
 ae ((((a3.gh.setIfInBounds ((af 0)) r5.1).setIfInBounds ((af 1)) r12.1).setIfInBounds ((af 2)) (U64 (e16+x18))).toList[(af 1)]?) λe31=>
 ae (cA N e31 a2) λr32=>
 ae (aP 2 3) λ_=>
 ae ((((a3.gh.setIfInBounds ((af 0)) r5.1).setIfInBounds ((af 1)) r12.1).setIfInBounds ((af 2)) (U64 (e16+x18))).toList[(af 2)]?) λe34=>
 ae (aP 2 3) λ_=>
 ae ((((a3.gh.setIfInBounds ((af 0)) r5.1).setIfInBounds ((af 1)) r12.1).setIfInBounds ((af 2)) (U64 (e16+x18))).toList[(af 2)]?) λe36=>
 ae (dC r26.2 r29.2 0) λr37=>
 ae (dC r26.1 r29.1 r37.2) λr38=>
 ae (dC 0 0 r38.2) λr39=>
 ae (dC r38.1 r32.2 0) λr40=>
 ae (dC r39.1 r32.1 r40.2) λr41=>
 ae (dC r40.1 (U64 (e34*a1)) 0) λr42=>
 ae (dC r41.1 (U64 (e36*a2)) r42.2) λr43=>
 ae (dC r37.1 r23.1 0) λr44=>
 ae (dC r42.1 0 r44.2) λr45=>
 ae (dC r43.1 0 r45.2) λr46=>
 ae (bZ N (aHi .u64 r45.1 3) r46.1 (aJ.mk (#v[r23.2,r44.1,cF .u64 r45.1 3]))) λr47=>
 aN (bor .u64 (shr .u64 r45.1 2) (shl .u64 r46.1 62)) λx48=>
 ae (bZ N x48 (shr .u64 r46.1 2) (aJ.mk r47)) λr49=>
 some r49
theorem aAU{N a0 a1 a2 a3 r}(h:cP N a0 a1 a2 a3=some r):FnM Tryz.prog 212 [.var (aJ.enc a3)] [(.ref 0 [] 0),(eA 17 1 k8 a0),(k64 a1),(k64 a2)] (.tup []) [.var (.st 3 [(eA 3 1 k64 r)])]:=by
 unfold cP at h;refine At.f aAv hT hmo Tryz.func212 rfl h ?_;refine bi λu1 hu1=>?_;refine bi λe2 he2=>?_;refine bi λs3 hs3=>?_;refine bi λr4 hr4=>?_;refine bi λr5 hr5=>?_;refine bi λu6 hu6=>?_;refine bi λe7 he7=>?_;refine At.d 8 (dE1 0 (λ_=>aD hT (k:=1) 1 [] 0 hu1) (dEL hT 1 (k64 e2) k64 0 he2 (dE1 2 (λ_=>jX hT (N:=17) (k:=1) k8 a0 hs3) (dE2 3 (k64 r4) (λ_=>bM (nS hr4)) (dE1 4 (λ_=>fC (fB hr5) (λ_=>fG)) (dE1 8 (λ_=>aD hT (k:=1) 1 [] 0 hu6) dE0)))))) (dF 9 (.v (.bool false)) [(1,.var (eA 3 1 k64 (a3.gh.setIfInBounds ((af 0)) r5.1)))] [] (bG (bB hT k64 0 a3.gh he7 r5.1 (by kernel_rfl) (by kernel_rfl) (H':=[.var (aJ.enc a3),.var (eA 3 1 k64 (a3.gh.setIfInBounds ((af 0)) r5.1))]))) dF0) ?_;refine bi λu8 hu8=>?_;refine bi λe9 he9=>?_;refine bi λs10 hs10=>?_;refine bi λr11 hr11=>?_;refine bi λr12 hr12=>?_;refine bi λu13 hu13=>?_;refine bi λe14 he14=>?_;refine At.d 0 (dE1 0 (λ_=>aD hT (k:=1) 1 [] 0 hu8) (dEL hT 1 (k64 e9) k64 0 he9 (dE1 2 (λ_=>jX hT (N:=17) (k:=1) k8 a0 hs10) (dE2 3 (k64 r11) (λ_=>bM (nS hr11)) (dE1 5 (λ_=>fC (fB hr12) (λ_=>fG)) (dE1 9 (λ_=>aD hT (k:=1) 1 [] 0 hu13) dE0)))))) (dF 10 (.v (.bool false)) [(1,.var (eA 3 1 k64 ((a3.gh.setIfInBounds ((af 0)) r5.1).setIfInBounds ((af 1)) r12.1)))] [] (bG (bB hT k64 0 (a3.gh.setIfInBounds ((af 0)) r5.1) he14 r12.1 (by kernel_rfl) (by kernel_rfl) (H':=[.var (aJ.enc a3),.var (eA 3 1 k64 ((a3.gh.setIfInBounds ((af 0)) r5.1).setIfInBounds ((af 1)) r12.1))]))) dF0) ?_;refine At.b 0 (λ_ e=>aD hT (k:=1) 1 [] 0 e) λu15=>?_;refine At.b 0 (λ_ e=>aV hT k64 0 e) λe16=>?_;refine At.b 0 (λ_ e=>bK hT (N:=17) (k:=1) k8 a0 e) λe17=>?_;refine lx ?_;intro x18;refine At.b 5 (λ_ e=>aD hT (k:=1) 1 [] 0 e) λu19=>?_;refine At.b 0 (λ_ e=>bB hT k64 0 ((a3.gh.setIfInBounds ((af 0)) r5.1).setIfInBounds ((af 1)) r12.1) e (U64 (e16+x18)) (by kernel_rfl) (by kernel_rfl) (H':=[.var (aJ.enc a3),.var (eA 3 1 k64 (((a3.gh.setIfInBounds ((af 0)) r5.1).setIfInBounds ((af 1)) r12.1).setIfInBounds ((af 2)) (U64 (e16+x18))))])) λe20=>?_;refine At.b 0 (λ_ e=>aD hT (k:=1) 1 [] 0 e) λu21=>?_;refine At.b 0 (λ_ e=>aV hT k64 0 e) λe22=>?_;refine At.b 1 (λ_ e=>aH [] (iN e)) λr23=>?_;refine At.b 5 (λ_ e=>aD hT (k:=1) 1 [] 0 e) λu24=>?_;refine At.b 0 (λ_ e=>aV hT k64 0 e) λe25=>?_;refine At.b 1 (λ_ e=>aH [] (iN e)) λr26=>?_;refine At.b 5 (λ_ e=>aD hT (k:=1) 1 [] 0 e) λu27=>?_;refine At.b 0 (λ_ e=>aV hT k64 0 e) λe28=>?_;refine At.b 1 (λ_ e=>aH [] (iN e)) λr29=>?_;refine At.b 5 (λ_ e=>aD hT (k:=1) 1 [] 0 e) λu30=>?_;refine At.b 0 (λ_ e=>aV hT k64 0 e) λe31=>?_;refine At.b 1 (λ_ e=>aH [] (iN e)) λr32=>?_;refine bi λu33 hu33=>?_;refine bi λe34 he34=>?_;refine bi λu35 hu35=>?_;refine bi λe36 he36=>?_;refine At.d 5 (dE1 0 (λ_=>aD hT (k:=1) 1 [] 0 hu33) (dEL hT 1 (k64 e34) k64 0 he34 (dE1 4 (λ_=>aD hT (k:=1) 1 [] 0 hu35) (dEL hT 5 (k64 e36) k64 0 he36 dE0)))) dF0 ?_;refine At.b 2 (λ_ e=>fC (fB e) (λ_=>fG)) λr37=>?_;refine At.b 8 (λ_ e=>fC (fB e) (λ_=>fG)) λr38=>?_;refine At.b 6 (λ_ e=>fC (fB e) (λ_=>fG)) λr39=>?_;refine At.b 7 (λ_ e=>fC (fB e) (λ_=>fG)) λr40=>?_;refine At.b 8 (λ_ e=>fC (fB e) (λ_=>fG)) λr41=>?_;refine At.b 6 (λ_ e=>fC (fB e) (λ_=>fG)) λr42=>?_;refine At.b 8 (λ_ e=>fC (fB e) (λ_=>fG)) λr43=>?_;refine At.b 8 (λ_ e=>fC (fB e) (λ_=>fG)) λr44=>?_;refine At.b 7 (λ_ e=>fC (fB e) (λ_=>fG)) λr45=>?_;refine At.b 7 (λ_ e=>fC (fB e) (λ_=>fG)) λr46=>?_;refine At.b 18 (λ_ e=>aH [0] (wA e)) λr47=>?_;refine lx ?_;intro x48;refine At.b 8 (λ_ e=>aH [0] (wA e)) λr49=>?_;apply rt;exact At.z 0
def aII : Nat->Bool:=imL [3]
def dY(N:Nat)  : Nat->(Vector Int 3)->Int->Option ((Vector Int 3))
 | 0,_,_=>none
 | k+1,s2,s3=>
  cond (decide (s3 < 2)) (
   ae (ae (aP 0 3) λ_=>
   ae (s2.toList[(af 0)]?) λe6=>
   ae (dC e6 5 0) λr7=>
   ae (aP 1 3) λ_=>
   ae (s2.toList[(af 1)]?) λe9=>
   ae (dC e9 0 r7.2) λr10=>
   ae (aP 2 3) λ_=>
   ae (s2.toList[(af 2)]?) λe12=>
   aN (decide ((U64 (e12+r10.2))>=4)) λx13=>
   cond x13 (
    aN (U64 ((U64 (e12+r10.2)) - 4)) λx14=>
    some (#v[r7.1,r10.1,(U64 ((U64 (e12+r10.2)) - 4))])) (
    some s2)) λp4=>
   dY N k p4 (I64 (s3+1))) (
   some s2)
def fA(N:Nat)(r17 r20:Int×Int):Nat->(Vector Int 16)->Int->Option ((Vector Int 16))
 | 0,_,_=>none
 | k+1,s22,s23=>
  cond (decide (s23 < 8)) (
   ae (yW .u64 r17.1 (I64 (8*s23))) λx24=>
   ae (yW .u64 r20.1 (I64 (8*s23))) λx25=>
   ae (aP s23 16) λ_=>
   ae (s22.toList[s23.toNat]?) λe27=>
   ae (aP (I64 (8+s23)) 16) λ_=>
   ae ((s22.setIfInBounds s23.toNat (U8 x24)).toList[(I64 (8+s23)).toNat]?) λe29=>
   fA N r17 r20 k ((s22.setIfInBounds s23.toNat (U8 x24)).setIfInBounds ((I64 (8+s23)).toNat) (U8 x25)) (I64 (s23+1))) (
   some s22)
def pR(N:Nat)(a0:aJ)(a1 a2:Int):Option ((Vector Int 16)):=
 ae (dY N N a0.gh 0) λp1=>
 ae (aP 0 3) λ_=>
 ae (p1.toList[(af 0)]?) λe16=>
 ae (dC e16 a1 0) λr17=>
 ae (aP 1 3) λ_=>
 ae (p1.toList[(af 1)]?) λe19=>
 ae (dC e19 a2 r17.2) λr20=>
 ae (fA N r17 r20 N (ag 16 0) 0) λp21=>
 some p21
theorem aGl{N a0 a1 a2 r}(h:pR N a0 a1 a2=some r):FnM Tryz.prog 214 [] [(aJ.enc a0),(k64 a1),(k64 a2)] (eA 16 1 k8 r) []:=by
 unfold pR at h;refine At.f aII hT hmo Tryz.func214 rfl h ?_;refine At.L 7 [1,2,6,7] 2 (λp1=>([],[(1,.var (eA 3 1 k64 p1))],[])) (λp1 J k=>∃s2 s3,dY N k s2 s3=some p1/\J [1,2,6,7] 2 [(20,(j64 s3))] [(1,.var (eA 3 1 k64 s2))] []) N (λ_ h=>⟨_,_,h,jr⟩) (λp1 k s hI=>?_) λp1=>?_
 ·obtain⟨s2,s3,h,hj⟩:=hI;cases k with
  | zero=>cases h
  | succ k=>
   refine At.jr hj ?_ h;refine At.c 1 ?_ ?_
   ·refine At.J 0 2 [1,2,6,7,20] 2 (λp4=>([],[(1,.var (eA 3 1 k64 p4))],[])) (λp4=>?_) λp4=>?_
    ·refine At.b 0 (λ_ e=>aD hT (k:=1) 1 [] 0 e) λu5=>?_;refine At.b 0 (λ_ e=>aV hT k64 0 e) λe6=>?_;refine At.b 0 (λ_ e=>fC (fB e) (λ_=>fG)) λr7=>?_;refine At.b 5 (λ_ e=>aD hT (k:=1) 1 [] 0 e) λu8=>?_;refine At.b 0 (λ_ e=>aV hT k64 0 e) λe9=>?_;refine At.b 1 (λ_ e=>fC (fB e) (λ_=>fG)) λr10=>?_;refine At.b 5 (λ_ e=>aD hT (k:=1) 1 [] 0 e) λu11=>?_;refine At.b 0 (λ_ e=>aV hT k64 0 e) λe12=>?_;refine lx ?_;intro x13;refine At.c 5 ?_ ?_
     ·refine lx ?_;intro x14;apply rt;exact At.jn 6
     ·apply rt;exact At.jn 0
    ·exact λh=>At.k 2 ⟨_,_,h,jr⟩
   ·apply rt;exact At.x 0
 ·refine At.b 0 (λ_ e=>aD hT (k:=1) 1 [] 0 e) λu15=>?_;refine At.b 0 (λ_ e=>aV hT k64 0 e) λe16=>?_;refine At.b 1 (λ_ e=>fC (fB e) (λ_=>fG)) λr17=>?_;refine At.b 5 (λ_ e=>aD hT (k:=1) 1 [] 0 e) λu18=>?_;refine At.b 0 (λ_ e=>aV hT k64 0 e) λe19=>?_;refine At.b 2 (λ_ e=>fC (fB e) (λ_=>fG)) λr20=>?_;refine At.L 7 [6,16] 3 (λp21=>([],[(2,.var (eA 16 1 k8 p21))],[])) (λp21 J k=>∃s22 s23,fA N r17 r20 k s22 s23=some p21/\J [6,12,14,16] 3 [(62,(j64 s23))] [(2,.var (eA 16 1 k8 s22))] []) N (λ_ h=>⟨_,_,h,jr⟩) (λp21 k s hI=>?_) λp21=>?_
  ·obtain⟨s22,s23,h,hj⟩:=hI;cases k with
   | zero=>cases h
   | succ k=>
    refine At.jr hj ?_ h;refine At.c 1 ?_ ?_
    ·refine bi λx24 hx24=>?_;refine bi λx25 hx25=>?_;refine bi λu26 hu26=>?_;refine bi λe27 he27=>?_;refine bi λu28 hu28=>?_;refine bi λe29 he29=>?_;refine At.d 2 (dE1 6 (λ_=>nN hT (k' := .i64) hx24 (by kernel_rfl) (by kernel_rfl)) (dE1 11 (λ_=>nN hT (k' := .i64) hx25 (by kernel_rfl) (by kernel_rfl)) (dE1 13 (λ_=>aD hT (k:=1) 2 [] 0 hu26) (dE1 15 (λ_=>aD hT (k:=1) 2 [] 0 hu28) dE0)))) (dF 14 (.v (.bool false)) [(2,.var (eA 16 1 k8 (s22.setIfInBounds s23.toNat (U8 x24))))] [] (bG (bB hT k8 0 s22 he27 (U8 x24) (by kernel_rfl) (by kernel_rfl) (H':=[.var (eA 16 1 k8 (ag 16 0)),.var (eA 3 1 k64 p1),.var (eA 16 1 k8 (s22.setIfInBounds s23.toNat (U8 x24)))]))) (dF 16 (.v (.bool false)) [(2,.var (eA 16 1 k8 ((s22.setIfInBounds s23.toNat (U8 x24)).setIfInBounds ((I64 (8+s23)).toNat) (U8 x25))))] [] (bG (bB hT k8 0 (s22.setIfInBounds s23.toNat (U8 x24)) he29 (U8 x25) (by kernel_rfl) (by kernel_rfl) (H':=[.var (eA 16 1 k8 (ag 16 0)),.var (eA 3 1 k64 p1),.var (eA 16 1 k8 ((s22.setIfInBounds s23.toNat (U8 x24)).setIfInBounds ((I64 (8+s23)).toNat) (U8 x25)))]))) dF0)) ?_;exact λh=>At.k 2 ⟨_,_,h,jr⟩
    ·apply rt;exact At.x 0
  ·apply rt;exact At.r 2
def jT(N:Nat)(r1:(List (Vector Int 17)))(a0:aO):Nat->(Vector Int 3)->Int->Option ((Vector Int 3))
 | 0,_,_=>none
 | k+1,s3,s4=>
  aN (decide (s4 < ((r1.length:Int)))) λx5=>
  cond x5 (
   ae (idx r1 s4) λe6=>
   ae (cP N e6 a0.gr0 a0.gr1 (aJ.mk s3)) λr7=>
   jT N r1 a0 k r7 (I64 (s4+1))) (
   some s3)
def pJ(N:Nat)(a0:aO):Option ((Vector Int 16)):=
 cond (!a0.gC) (
  some (ag 16 0)) (
  ae (kL N a0.gP) λr1=>
  ae (jT N r1 a0 N a0.gA2.gh 0) λp2=>
  ae (pR N (aJ.mk p2) a0.gs0 a0.gs1) λr8=>
  some r8)
theorem aE6{N a0 r}(h:pJ N a0=some r):FnM Tryz.prog 181 [.var (aO.enc a0)] [(.ref 0 [] 0)] (eA 16 1 k8 r) [.var (aO.enc a0)]:=by
 unfold pJ at h;refine At.f dI hT hmo Tryz.func181 rfl h ?_;refine At.o 2 (aCg hT (t:=256) (x:=(.ref 0 [] 0)) (b:=true) (by kernel_rfl) rfl rfl (by kernel_rfl)) ?_;refine At.g [8] 7 ?_;refine At.c 0 ?_ ?_
 ·apply rt;exact At.r 2
 ·refine At.b 10 (λ_ e=>aH [] (aCD e)) λr1=>?_;refine At.L 2 [0,2,3] 3 (λp2=>([],[(2,.var (.st 3 [(eA 3 1 k64 p2)]))],[])) (λp2 J k=>∃s3 s4,jT N r1 a0 k s3 s4=some p2/\J [0,2,3,24,25] 3 [(26,(j64 s4))] [(2,.var (.st 3 [(eA 3 1 k64 s3)]))] []) N (λ_ h=>⟨_,_,h,jr⟩) (λp2 k s hI=>?_) λp2=>?_
  ·obtain⟨s3,s4,h,hj⟩:=hI;cases k with
   | zero=>cases h
   | succ k=>
    refine At.jr hj ?_ h;refine lx ?_;intro x5;refine At.c 1 ?_ ?_
    ·refine At.b 0 (λ_ e=>bA hT (eA 17 1 k8) e) λe6=>?_;refine bi λr7 hr7=>?_;refine At.d 3 dE0 (dF 9 (.tup []) [(2,.var (.st 3 [(eA 3 1 k64 r7)]))] [] (bG (aH [2] (aAU hr7))) dF0) ?_;exact λh=>At.k 2 ⟨_,_,h,jr⟩
    ·apply rt;exact At.x 0
  ·refine bi λr8 hr8=>?_;refine At.d 0 (dE2 9 (eA 16 1 k8 r8) (λ_=>bM (aGl hr8)) dE0) dF0 ?_;apply rt;exact At.r 0
def aM6 : Nat->Bool:=imL [2]
def uI(N:Nat)(a0:(Vector Int 32))(a1:(List (List Int))):Option ((Vector Int 16)):=
 ae (vX N a0) λr1=>
 ae (qW N [] a1 (aJ.mk (#v[0,0,0])) true r1.1 r1.2.1 r1.2.2.1 r1.2.2.2 0) λr2=>
 ae (pJ N (aO.mk (aJ.mk r2.2.1) r2.2.2.1 r2.2.2.2.1 r2.2.2.2.2.1 r2.2.2.2.2.2.1 r2.2.2.2.2.2.2.1 r2.2.2.2.2.2.2.2.1 r2.2.2.2.2.2.2.2.2)) λr3=>
 some r3
theorem aLs{N a0 a1 r}(h:uI N a0 a1=some r):FnM Tryz.prog 133 [] [(eA 32 1 k8 a0),(eL 1 (eL 1 k8) a1)] (eA 16 1 k8 r) []:=by
 unfold uI at h;refine At.f aM6 hT hmo Tryz.func133 rfl h ?_;refine At.b 3 (λ_ e=>aH [] (aK7 e)) λr1=>?_;refine At.ownb 3 2 1 [6] ?_;refine At.b 0 (λ_ e=>aH [2,3] (aDS e)) λr2=>?_;refine At.b 1 (λ_ e=>aH [2] (aE6 e)) λr3=>?_;apply rt;exact At.r 1
def aL1 : Nat->Bool:=imL [4,5]
def lN(N:Nat)(a2 a3:(List Int)):Nat->(Vector Int 16)->Int->Option ((Vector Int 16))
 | 0,_,_=>none
 | k+1,s2,s3=>
  cond (decide (s3 < 8)) (
   ae (yW .i64 ((a2.length:Int)) (I64 (8*s3))) λx4=>
   ae (yW .i64 ((a3.length:Int)) (I64 (8*s3))) λx5=>
   ae (aP s3 16) λ_=>
   ae (s2.toList[s3.toNat]?) λe7=>
   ae (aP (I64 (8+s3)) 16) λ_=>
   ae ((s2.setIfInBounds s3.toNat (U8 x4)).toList[(I64 (8+s3)).toNat]?) λe9=>
   lN N a2 a3 k ((s2.setIfInBounds s3.toNat (U8 x4)).setIfInBounds ((I64 (8+s3)).toNat) (U8 x5)) (I64 (s3+1))) (
   some s2)
def rH(N:Nat)(a0:(Vector Int 32))(a1:(Vector Int 12))(a2 a3:(List Int)):Option ((Vector Int 16)):=
 ae (lN N a2 a3 N (ag 16 0) 0) λp1=>
 ae (vT N a0 a1) λr10=>
 ae (rB N a2) λr11=>
 ae (rB N a3) λr12=>
 ae (dU p1.toList 0 16) λs13=>
 ae (uI N r10 ([a2,r11,a3,r12,s13])) λr14=>
 some r14
theorem aF1{N a0 a1 a2 a3 r}(h:rH N a0 a1 a2 a3=some r):FnM Tryz.prog 89 [] [(eA 32 1 k8 a0),(eA 12 1 k8 a1),(eL 1 k8 a2),(eL 1 k8 a3)] (eA 16 1 k8 r) []:=by
 unfold rH at h;refine At.f aL1 hT hmo Tryz.func89 rfl h ?_;refine At.L 6 [2,3,4,5,8,9,10] 2 (λp1=>([],[(1,.var (eA 16 1 k8 p1))],[])) (λp1 J k=>∃s2 s3,lN N a2 a3 k s2 s3=some p1/\J [2,3,4,5,8,9,10] 2 [(12,(j64 s3))] [(1,.var (eA 16 1 k8 s2))] []) N (λ_ h=>⟨_,_,h,jr⟩) (λp1 k s hI=>?_) λp1=>?_
 ·obtain⟨s2,s3,h,hj⟩:=hI;cases k with
  | zero=>cases h
  | succ k=>
   refine At.jr hj ?_ h;refine At.c 1 ?_ ?_
   ·refine bi λx4 hx4=>?_;refine bi λx5 hx5=>?_;refine bi λu6 hu6=>?_;refine bi λe7 he7=>?_;refine bi λu8 hu8=>?_;refine bi λe9 he9=>?_;refine At.d 2 (dE1 7 (λ_=>nN hT (k' := .i64) hx4 (by kernel_rfl) (by kernel_rfl)) (dE1 13 (λ_=>nN hT (k' := .i64) hx5 (by kernel_rfl) (by kernel_rfl)) (dE1 15 (λ_=>aD hT (k:=1) 1 [] 0 hu6) (dE1 17 (λ_=>aD hT (k:=1) 1 [] 0 hu8) dE0)))) (dF 16 (.v (.bool false)) [(1,.var (eA 16 1 k8 (s2.setIfInBounds s3.toNat (U8 x4))))] [] (bG (bB hT k8 0 s2 he7 (U8 x4) (by kernel_rfl) (by kernel_rfl) (H':=[.var (eA 16 1 k8 (ag 16 0)),.var (eA 16 1 k8 (s2.setIfInBounds s3.toNat (U8 x4)))]))) (dF 18 (.v (.bool false)) [(1,.var (eA 16 1 k8 ((s2.setIfInBounds s3.toNat (U8 x4)).setIfInBounds ((I64 (8+s3)).toNat) (U8 x5))))] [] (bG (bB hT k8 0 (s2.setIfInBounds s3.toNat (U8 x4)) he9 (U8 x5) (by kernel_rfl) (by kernel_rfl) (H':=[.var (eA 16 1 k8 (ag 16 0)),.var (eA 16 1 k8 ((s2.setIfInBounds s3.toNat (U8 x4)).setIfInBounds ((I64 (8+s3)).toNat) (U8 x5)))]))) dF0)) ?_;exact λh=>At.k 2 ⟨_,_,h,jr⟩
   ·apply rt;exact At.x 0
 ·refine At.gz 0 1 ((eA 16 1 k8 p1)) ?_;refine bi λr10 hr10=>?_;refine bi λr11 hr11=>?_;refine bi λr12 hr12=>?_;refine bi λs13 hs13=>?_;refine bi λr14 hr14=>?_;refine At.d 0 (dE2 2 (eA 32 1 k8 r10) (λ_=>bM (aL0 hr10)) (dE2 6 (eL 1 k8 r11) (λ_=>bM (aDK hr11)) (dE2 10 (eL 1 k8 r12) (λ_=>bM (aDK hr12)) (dE1 11 (λ_=>jX hT (N:=16) (k:=1) k8 p1 hs13) (dE1 12 (λ_=>aY hT (x:=(.sl 1 5 [(eL 1 k8 a2),(eL 1 k8 r11),(eL 1 k8 a3),(eL 1 k8 r12),(eL 1 k8 s13)]))) (dE2 13 (eA 16 1 k8 r14) (λ_=>bM (aLs hr14)) dE0)))))) dF0 ?_;apply rt;exact At.r 0
def aLo : Nat->Bool:=imL [4,5]
def wC(N:Nat)(a0:(Vector Int 32))(a1:(Vector Int 12))(a2 a3:(List Int)):Option ((List Int)×Int):=
 aN (decide (((a2.length:Int)) > 16384)) λx1=>
 aN (decide (((a3.length:Int)) > 16384)) λx2=>
 cond (cond x1 true x2) (
  some (([],3))) (
  ae (uR N a0 1 a1 ([a3])) λr3=>
  ae (rH N a0 a1 a2 r3) λr4=>
  ae (dU r4.toList 0 16) λs6=>
  ae (dA N ([r3,s6])) λr7=>
  some ((r7,0)))
theorem aEx{N a0 a1 a2 a3 r}(h:wC N a0 a1 a2 a3=some r):FnM Tryz.prog 55 [] [(eA 32 1 k8 a0),(eA 12 1 k8 a1),(eL 1 k8 a2),(eL 1 k8 a3)] (.tup [(eL 1 k8 r.1),(j64 r.2)]) []:=by
 unfold wC at h;refine At.f aLo hT hmo Tryz.func55 rfl h ?_;refine lx ?_;intro x1;refine lx ?_;intro x2;refine At.c 12 ?_ ?_
 ·apply rt;exact At.r 2
 ·refine At.o 3 (aY hT (x:=(.sl 1 1 [(eL 1 k8 a3)]))) ?_;refine At.b 0 (λ_ e=>aH [] (aDF e)) λr3=>?_;refine At.b 5 (λ_ e=>aH [] (aF1 e)) λr4=>?_;refine At.gz 3 0 ((eA 16 1 k8 r4)) ?_;refine At.b 0 (λ_ e=>jX hT (N:=16) (k:=1) k8 r4 e) λs6=>?_;refine At.o 0 (aY hT (x:=(.sl 1 2 [(eL 1 k8 r3),(eL 1 k8 s6)]))) ?_;refine At.b 0 (λ_ e=>aH [] (lZ e)) λr7=>?_;apply rt;exact At.r 2
def vS(N:Nat)(a0:(List Int)):Option (Unit):=
 some (())
theorem aFS{N a0 r}(h:vS N a0=some r):FnM Tryz.prog 57 [] [(eL 1 k8 a0)] (.fn (.func 90) [] [(.ref 0 [] 0)]) [.var (eL 1 k8 a0)]:=by
 unfold vS at h;refine At.f dI hT hmo Tryz.func57 rfl h ?_;refine At.o 2 (aKX (x:=(.fn (.func 90) [] [(.ref 0 [] 0)])) (by kernel_rfl) (by kernel_rfl)) ?_;apply rt;exact At.r 1
def aFl : Nat->Bool:=imL [4,5,7]
def sB(N:Nat)(b3:(List Int))(a1:(Vector Int 32))(a2:(Vector Int 8))(a3 a4:(List Int))(a5:Int)(a6:(List Int)):Option ((List Int)):=
 aN (U64 ((a6.length:Int))) λx1=>
 ae (bO N [] 2 ([U64 a5,x1])) λr2=>
 ae (fV N a2 (I64 (a5+1))) λr3=>
 ae (dA N ([r2.1,a3])) λr4=>
 ae (wC N a1 r3 r4 a6) λr5=>
 ae (iB 1 b3 r2.1) λz6=>
 ae (iB 1 z6 r5.1) λz7=>
 some z7
theorem aEM{N:Nat}{b3:(List Int)}{a1:(Vector Int 32)}{a2:(Vector Int 8)}{a3:(List Int)}{a4:(List Int)}{a5:Int}{a6:(List Int)}{r:(List Int)}(h:sB N b3 a1 a2 a3 a4 a5 a6=some r):YldM Tryz.prog (aQf 101 Tryz.f30.body [1,1,1,1,1,1,1,1,1,1,0,1,0]) [en 4 (.im (eA 32 1 k8 a1)),en 5 (.im (eA 8 1 k8 a2)),en 13 (.ref 0 [] 0),en 14 (.ref 1 [] 0)] [.var (eO 3 1 k8 b3),.var (eL 1 k8 a3),.var (eL 1 k8 a4),.tail (b3.length*1)] [(j64 a5),(eL 1 k8 a6)] [.var (eO 3 1 k8 r),.var (eL 1 k8 a3),.var (eL 1 k8 a4),.tail (r.length*1)] none:=by
 unfold sB at h;refine aM0 (lo:=5) (by kernel_rfl) (λbk rl=>At.of aFl hT hmo h ?_)
 refine At.to 0 ⟨[en 4 (.im (eA 32 1 k8 a1)),en 5 (.im (eA 8 1 k8 a2)),en 13 (.ref 0 [] 0),en 14 (.ref 1 [] 0),en 69 (j64 a5),en 70 (eL 1 k8 a6)],[.var (eO 3 1 k8 b3),.var (eL 1 k8 a3),.var (eL 1 k8 a4),.tail (b3.length*1),.loop rl]⟩ ?_;refine At.mid 2 (λrl2=>?_)
 refine lx ?_;intro x1;refine At.o 5 (aY hT (x:=(.sl 1 2 [(k64 (U64 a5)),(k64 x1)]))) ?_;refine At.b 0 (λ_ e=>aH [] (fO e)) λr2=>?_;refine At.wk 5 18 ((eL 1 k8 r2.1)) ?_;refine bi λr3 hr3=>?_;refine bi λr4 hr4=>?_;refine bi λr5 hr5=>?_;refine At.d 0 (dE2 4 (eA 12 1 k8 r3) (λ_=>bM (vP hr3)) (dE1 7 (λ_=>aY hT (x:=(.sl 1 2 [(eL 1 k8 r2.1),(eL 1 k8 a3)]))) (dE2 10 (.tup [(eL 1 k8 r5.1),(j64 r5.2)]) (λ_=>bM (aEx hr5)) dE0))) (dF 8 (eO 6 1 k8 r4) [] [.tail (r4.length*1)] (bG (aH [] (lZ hr4))) dF0) ?_;refine At.b 2 (λ_ e=>bN hT k8 (id:=3) (k:=1) e) λz6=>?_;refine At.b 1 (λ_ e=>bN hT k8 (id:=3) (k:=1) e) λz7=>?_;apply rt;exact At.rnd 1
def cN(N:Nat)(a1:(Vector Int 32))(a2:(Vector Int 8))(a3:(List Int)):Nat->(List Int)->(List Int)->Int->Option ((List Int)×(List Int))
 | 0,_,_,_=>none
 | k+1,s2,s3,s4=>
  aN (decide (((s3.length:Int)) > 0)) λx5=>
  cond x5 (
   aN (mY ((s3.length:Int)) 256) λx6=>
   ae (aIK s3 0 x6 x6) λs7=>
   ae (sB N s2 a1 a2 a3 s3 s4 s7) λr8=>
   ae (dU s3 x6 ((s3.length:Int))) λs9=>
   cN N a1 a2 a3 k r8 s9 (I64 (s4+1))) (
   some ((s2,s3)))
def eU(N:Nat)(b3:(List Int))(a1:(Vector Int 32))(a2:(Vector Int 8))(a3 a4:(List Int)):Option ((List Int)×(List Int)):=
 ae (cN N a1 a2 a3 N b3 a4 0) λp1=>
 some ((p1.1,p1.2))
theorem uS{N:Nat}{b3:(List Int)}{a1:(Vector Int 32)}{a2:(Vector Int 8)}{a3:(List Int)}{a4:(List Int)}{r:(List Int)×(List Int)}(h:eU N b3 a1 a2 a3 a4=some r):ItM Tryz.prog 90 (aQf 101 Tryz.f30.body [1,1,1,1,1,1,1,1,1,1,0,1,0]) [en 4 (.im (eA 32 1 k8 a1)),en 5 (.im (eA 8 1 k8 a2)),en 13 (.ref 0 [] 0),en 14 (.ref 1 [] 0)] [.var (eO 3 1 k8 b3),.var (eL 1 k8 a3),.var (eL 1 k8 a4),.tail (b3.length*1)] [(.yld 4),(.ref 2 [] 0)] (.tup []) [.var (eO 3 1 k8 r.1),.var (eL 1 k8 a3),.var (eL 1 k8 r.2),.tail (r.1.length*1)] none:=by
 unfold eU at h;refine aOK (m:=24) (lo:=5) (rs:=[]) hT Tryz.func90 rfl (by kernel_rfl) rfl (λfn tmps D hsz=>At.of dI hT hmo h ?_)
 refine At.L 1 [] 5 (λp1=>([],[(0,.var (eO 3 1 k8 p1.1)),(2,.var (eL 1 k8 p1.2)),(3,.tail (p1.1.length*1))],[])) (λp1 J k=>∃s2 s3 s4,cN N a1 a2 a3 k s2 s3 s4=some p1/\J [0,1] 5 [(3,(j64 s4))] [(0,.var (eO 3 1 k8 s2)),(2,.var (eL 1 k8 s3)),(3,.tail (s2.length*1))] []) N (λ_ h=>⟨_,_,_,h,jr⟩) (λp1 k s hI=>?_) λp1=>?_
 ·obtain⟨s2,s3,s4,h,hj⟩:=hI;cases k with
  | zero=>cases h
  | succ k=>
   refine At.jr hj ?_ h;refine lx ?_;intro x5;refine At.c 3 ?_ ?_
   ·refine lx ?_;intro x6;refine At.b 9 (λ_ e=>aLT hT (k:=1) k8 e (by kernel_rfl) (by kernel_rfl)) λs7=>?_;refine At.b 0 (λ_ e=>aR6 (aEM e) (fn:=fn) (D:=D) hsz rfl (List.mem_singleton.2 rfl) (by kernel_rfl) (by kernel_rfl)) λr8=>?_;refine At.b 4 (λ_ e=>iE hT (k:=1) k8 e) λs9=>?_;exact λh=>At.k 4 ⟨_,_,_,h,jr⟩
   ·apply rt;exact At.x 0
 ·apply rt;exact At.z 0
theorem tT : vH Tryz.prog 90:=wL (show zU Tryz.prog 90=true by kernel_rfl)
def aIp : Nat->Bool:=imL [4,5,7]
def rF(N:Nat)(a0:(Vector Int 32))(a1:(Vector Int 8))(a2:aE)(a3:aF):Option ((List Int)×Int):=
 ae (pW N a3) λr1=>
 cond (r1.2 != 0) (
  some (([],r1.2))) (
  cond (a2.gD != a3.gD) (
   some (([],12))) (
   ae (nW N ((r1.1.length:Int))) λr2=>
   ae (lP N (aE.mk a2.gId a2.gD a2.gA6 a2.gA3 a2.gA4 a2.gTo ((r1.1.length:Int)) r2)) λr3=>
   cond (r3.2 != 0) (
    some (([],r3.2))) (
    ae (dU a1.toList 0 8) λs4=>
    ae (dA N ([([85,77,66,49]:List Int),s4,r3.1])) λr5=>
    ae (fV N a1 0) λr6=>
    ae (wC N a0 r6 r5 []) λr7=>
    ae (iB 1 r5 r7.1) λz8=>
    ae (vS N r1.1) λr9=>
    ae (eU N z8 a0 a1 r7.1 r1.1) λr10=>
    some ((r10.1,0)))))
theorem aHL{N a0 a1 a2 a3 r}(h:rF N a0 a1 a2 a3=some r):FnM Tryz.prog 30 [] [(eA 32 1 k8 a0),(eA 8 1 k8 a1),(aE.enc a2),(aF.enc a3)] (.tup [(eL 1 k8 r.1),(j64 r.2)]) []:=by
 unfold rF at h;refine At.fR aIp hT hmo Tryz.func30 rfl h ?_;refine At.b 7 (λ_ e=>aH [] (aGZ e)) λr1=>?_;refine At.c 7 ?_ ?_
 ·apply rt;exact At.r 3
 ·refine At.c 5 ?_ ?_
  ·apply rt;exact At.r 2
  ·refine At.b 4 (λ_ e=>aH [] (aAL e)) λr2=>?_;refine At.b 5 (λ_ e=>aH [] (aDu e)) λr3=>?_;refine At.c 7 ?_ ?_
   ·apply rt;exact At.r 3
   ·refine At.l2 hT 0 (d1:=50) (d2:=51) (t:=57) (e:=5) k8 (z:=1) ([85,77,66,49]:List Int) rfl rfl rfl ?_;refine At.b 0 (λ_ e=>jX hT (N:=8) (k:=1) k8 a1 e) λs4=>?_;refine At.wk 1 51 ((eL 1 k8 (([85,77,66,49]:List Int)))) ?_;refine At.o 0 (aY hT (x:=(.sl 1 3 [(eL 1 k8 (([85,77,66,49]:List Int))),(eL 1 k8 s4),(eL 1 k8 r3.1)]))) ?_;refine At.b 0 (λ_ e=>aH [] (lZ e)) λr5=>?_;refine bi λr6 hr6=>?_;refine bi λr7 hr7=>?_;refine At.d 2 (dE2 2 (eA 12 1 k8 r6) (λ_=>bM (vP hr6)) (dE2 4 (.tup [(eL 1 k8 r7.1),(j64 r7.2)]) (λ_=>bM (aEx hr7)) dE0)) dF0 ?_;refine At.b 2 (λ_ e=>bN hT k8 (id:=2) (k:=1) e) λz8=>?_;refine At.b 2 (λ_ e=>aH [] (aFS e)) λr9=>?_;refine bi λr10 hr10=>?_;refine At.rg 0 (uS hr10) tT (.tmp 68) [3,4,5,2] ⟨[en 13 (.ref 3 [] 0)],[.var (.st 15 [(k64 a2.gId),(j64 a2.gD),(k32 a2.gA6),(eA 8 1 k8 a2.gA3),(k32 a2.gA4),(k32 a2.gTo),(j64 ((r1.1.length:Int))),(j64 r2)]),.tail ((([85,77,66,49]:List Int)).length*1),.tail (r10.1.length*1),.var (eO 2 1 k8 r10.1),.var (eL 1 k8 r7.1),.var (eL 1 k8 r10.2)]⟩ [(.ref 5 [] 0)] ?_;apply rt;exact At.r 3
def aLj : Nat->Bool:=imL [6,9,10,11]
def wG(N:Nat)(a0:(Vector Int 32))(a1 a2:Int)(a3:(Vector Int 8))(a4:aE)(a5:aF):Option ((List Int)×Int):=
 ae (ae (rW N a1) λr2=>
 cond (!r2) (
  some true) (
  ae (rW N a2) λr3=>
  some (!r3))) λp1=>
 cond p1 (
  some (([],2))) (
  ae (vW N a0 a1 a2) λr4=>
  ae (rF N r4 a3 a4 a5) λr5=>
  cond (r5.2 != 0) (
   some (([],r5.2))) (
   ae (bO N (([85,77,75,49]:List Int)) 2 ([U64 a1])) λr6=>
   ae (bO N r6.1 4 ([U64 a2])) λr7=>
   ae (iB 1 r7.1 r5.1) λz8=>
   some ((z8,0))))
theorem aEc{N a0 a1 a2 a3 a4 a5 r}(h:wG N a0 a1 a2 a3 a4 a5=some r):FnM Tryz.prog 8 [] [(eA 32 1 k8 a0),(j64 a1),(j64 a2),(eA 8 1 k8 a3),(aE.enc a4),(aF.enc a5)] (.tup [(eL 1 k8 r.1),(j64 r.2)]) []:=by
 unfold wG at h;refine At.f aLj hT hmo Tryz.func8 rfl h ?_;refine At.J 6 0 [1,2,6,9,10,11] 0 (λp1=>([(25,(eB p1))],[],[])) (λp1=>?_) λp1=>?_
 ·refine At.b 1 (λ_ e=>aH [] (yT e)) λr2=>?_;refine At.s 21 2 ?_ ?_
  ·refine At.g [21] 4 ?_;apply rt;exact At.jn 0
  ·refine At.g [21] 1 ?_;refine At.b 0 (λ_ e=>aH [] (yT e)) λr3=>?_;refine At.g [21] 2 ?_;apply rt;exact At.jn 0
 ·refine At.c 0 ?_ ?_
  ·apply rt;exact At.r 2
  ·refine bi λr4 hr4=>?_;refine bi λr5 hr5=>?_;refine At.d 0 (dE2 3 (eA 32 1 k8 r4) (λ_=>bM (aAm hr4)) (dE2 7 (.tup [(eL 1 k8 r5.1),(j64 r5.2)]) (λ_=>bM (aHL hr5)) dE0)) dF0 ?_;refine At.c 2 ?_ ?_
   ·apply rt;exact At.r 3
   ·refine At.l2 hT 0 (d1:=41) (d2:=42) (t:=57) (e:=5) k8 (z:=1) ([85,77,75,49]:List Int) rfl rfl rfl ?_;refine At.o 2 (aY hT (x:=(.sl 1 1 [(k64 (U64 a1))]))) ?_;refine At.b 0 (λ_ e=>aH [] (fO e)) λr6=>?_;refine At.o 8 (aY hT (x:=(.sl 1 1 [(k64 (U64 a2))]))) ?_;refine At.b 0 (λ_ e=>aH [] (fO e)) λr7=>?_;refine At.b 6 (λ_ e=>bN hT k8 (id:=2) (k:=1) e) λz8=>?_;apply rt;exact At.r 2
def lY(N:Nat)  : Nat->(List Int)->Int->Int->Option ((List Int))
 | 0,_,_,_=>none
 | k+1,s2,s3,s4=>
  cond (decide (s4 < 8)) (
   ae (iB 1 s2 (([U8 (br s3 256)]:List Int))) λz5=>
   lY N k z5 (I64 (cv s3 256)) (I64 (s4+1))) (
   some s2)
def mP(N:Nat)(a0:Int):Option ((List Int)):=
 ae (lY N N [] a0 0) λp1=>
 some p1
theorem yG{N a0 r}(h:mP N a0=some r):FnM Tryz.prog 65 [] [(j64 a0)] (eO 0 1 k8 r) [.tail (r.length*1)]:=by
 unfold mP at h;refine At.f dI hT hmo Tryz.func65 rfl h ?_;refine At.ownn 3 3 1 ?_;refine At.L 0 [] 1 (λp1=>([(3,(eO 0 1 k8 p1))],[(0,.tail (p1.length*1))],[])) (λp1 J k=>∃s2 s3 s4,lY N k s2 s3 s4=some p1/\J [] 1 [(0,(j64 s3)),(3,(eO 0 1 k8 s2)),(4,(j64 s4))] [(0,.tail (s2.length*1))] []) N (λ_ h=>⟨_,_,_,h,jr⟩) (λp1 k s hI=>?_) λp1=>?_
 ·obtain⟨s2,s3,s4,h,hj⟩:=hI;cases k with
  | zero=>cases h
  | succ k=>
   refine At.jr hj ?_ h;refine At.c 2 ?_ ?_
   ·refine At.o 4 (aY hT (x:=(.sl 1 1 [(k8 (U8 (br s3 256)))]))) ?_;refine At.b 0 (λ_ e=>bN hT k8 (id:=0) (k:=1) e) λz5=>?_;exact λh=>At.k 7 ⟨_,_,_,h,jr⟩
   ·apply rt;exact At.x 0
 ·apply rt;exact At.r 2
def aDV : Nat->Bool:=imL [1]
def kC(N:Nat)(a0:(Vector Int 32)):Nat->(List Int)->Int->Option ((List Int))
 | 0,_,_=>none
 | k+1,s2,s3=>
  cond (decide (s3 < 32)) (
   ae (idx a0.toList s3) λe4=>
   ae (iB 1 s2 (([e4]:List Int))) λz5=>
   kC N a0 k z5 (I64 (s3+1))) (
   some s2)
def qG(N:Nat)(a0:(Vector Int 32)):Option ((List Int)):=
 ae (kC N a0 N [] 0) λp1=>
 some p1
theorem aCx{N a0 r}(h:qG N a0=some r):FnM Tryz.prog 67 [] [(eA 32 1 k8 a0)] (eL 1 k8 r) []:=by
 unfold qG at h;refine At.f aDV hT hmo Tryz.func67 rfl h ?_;refine At.ownn 4 3 1 ?_;refine At.L 0 [] 1 (λp1=>([(3,(eO 0 1 k8 p1))],[(0,.tail (p1.length*1))],[])) (λp1 J k=>∃s2 s3,kC N a0 k s2 s3=some p1/\J [1] 1 [(3,(eO 0 1 k8 s2)),(4,(j64 s3))] [(0,.tail (s2.length*1))] []) N (λ_ h=>⟨_,_,h,jr⟩) (λp1 k s hI=>?_) λp1=>?_
 ·obtain⟨s2,s3,h,hj⟩:=hI;cases k with
  | zero=>cases h
  | succ k=>
   refine At.jr hj ?_ h;refine At.c 2 ?_ ?_
   ·refine At.b 2 (λ_ e=>bK hT (N:=32) (k:=1) k8 a0 e) λe4=>?_;refine At.o 1 (aY hT (x:=(.sl 1 1 [(k8 e4)]))) ?_;refine At.b 0 (λ_ e=>bN hT k8 (id:=0) (k:=1) e) λz5=>?_;exact λh=>At.k 4 ⟨_,_,h,jr⟩
   ·apply rt;exact At.x 0
 ·apply rt;exact At.r 2
def oN(N:Nat)(p1:Int):Nat->(List Int)->Option ((List Int))
 | 0,_=>none
 | k+1,s3=>
  aN (I64 ((br p1 64)+((s3.length:Int)))) λx4=>
  aN (br (I64 (x4+8)) 64) λx5=>
  cond (decide (x5 > 0)) (
   ae (iB 1 s3 (([0]:List Int))) λz6=>
   oN N p1 k z6) (
   some s3)
def oK(N:Nat)(p1:Int):Nat->(List Int)->Int->Option ((List Int))
 | 0,_,_=>none
 | k+1,s8,s9=>
  cond (decide (s9>=0)) (
   ae (yW .u64 (U64 ((U64 p1)*8)) (I64 (8*s9))) λx10=>
   ae (iB 1 s8 (([U8 x10]:List Int))) λz11=>
   oK N p1 k z11 (I64 (s9 - 1))) (
   some s8)
def sE(N:Nat)(a0:Int):Option ((List Int)):=
 ae (cond (decide (a0 < 0)) (some 0) (some a0)) λp1=>
 ae (oN N p1 N (([128]:List Int))) λp2=>
 ae (oK N p1 N p2 7) λp7=>
 some p7
theorem aEj{N a0 r}(h:sE N a0=some r):FnM Tryz.prog 149 [] [(j64 a0)] (eL 1 k8 r) []:=by
 unfold sE at h;refine At.f dI hT hmo Tryz.func149 rfl h ?_;refine At.J 1 1 [] 0 (λp1=>([(0,(j64 p1))],[],[])) (λp1=>?_) λp1=>?_
 ·refine At.c 2 ?_ ?_
  ·apply rt;exact At.jn 1
  ·apply rt;exact At.jn 0
 ·refine At.o 0 (pM hT k8 (k:=1) ([128]:List Int) (by kernel_rfl) (by kernel_rfl)) ?_;refine At.L 1 [0] 1 (λp2=>([(3,(eO 0 1 k8 p2))],[(0,.tail (p2.length*1))],[])) (λp2 J k=>∃s3,oN N p1 k s3=some p2/\J [0] 1 [(3,(eO 0 1 k8 s3))] [(0,.tail (s3.length*1))] []) N (λ_ h=>⟨_,h,jr⟩) (λp2 k s hI=>?_) λp2=>?_
  ·obtain⟨s3,h,hj⟩:=hI;cases k with
   | zero=>cases h
   | succ k=>
    refine At.jr hj ?_ h;refine lx ?_;intro x4;refine lx ?_;intro x5;refine At.c 8 ?_ ?_
    ·refine At.o 1 (aY hT (x:=(.sl 1 1 [(k8 0)]))) ?_;refine At.b 0 (λ_ e=>bN hT k8 (id:=0) (k:=1) e) λz6=>?_;exact λh=>At.k 1 ⟨_,h,jr⟩
    ·apply rt;exact At.x 0
  ·refine At.L 5 [] 1 (λp7=>([(3,(eO 0 1 k8 p7))],[(0,.tail (p7.length*1))],[])) (λp7 J k=>∃s8 s9,oK N p1 k s8 s9=some p7/\J [4] 1 [(3,(eO 0 1 k8 s8)),(5,(j64 s9))] [(0,.tail (s8.length*1))] []) N (λ_ h=>⟨_,_,h,jr⟩) (λp7 k s hI=>?_) λp7=>?_
   ·obtain⟨s8,s9,h,hj⟩:=hI;cases k with
    | zero=>cases h
    | succ k=>
     refine At.jr hj ?_ h;refine At.c 2 ?_ ?_
     ·refine At.b 4 (λ_ e=>nN hT (k' := .i64) e (by kernel_rfl) (by kernel_rfl)) λx10=>?_;refine At.o 1 (aY hT (x:=(.sl 1 1 [(k8 (U8 x10))]))) ?_;refine At.b 0 (λ_ e=>bN hT k8 (id:=0) (k:=1) e) λz11=>?_;exact λh=>At.k 4 ⟨_,_,h,jr⟩
     ·apply rt;exact At.x 0
   ·apply rt;exact At.r 2
def bQ(N:Nat)(a0 a1:Int):Option (Int):=
 ae (yW .u32 a0 a1) λx1=>
 ae (aFf .u32 a0 (I64 (32 - a1))) λx2=>
 some (bor .u32 x1 x2)
theorem fF{N a0 a1 r}(h:bQ N a0 a1=some r):FnM Tryz.prog 216 [] [(k32 a0),(j64 a1)] (k32 r) []:=by
 unfold bQ at h;refine At.f dI hT hmo Tryz.func216 rfl h ?_;refine bi λx1 hx1=>?_;refine bi λx2 hx2=>?_;refine At.d 1 (dE1 2 (λ_=>nN hT (k' := .i64) hx1 (by kernel_rfl) (by kernel_rfl)) (dE1 6 (λ_=>xU hT (k' := .i64) hx2 (by kernel_rfl) (by kernel_rfl)) dE0)) dF0 ?_;apply rt;exact At.r 0
def aGn : Nat->Bool:=imL [3,4,5]
def kY(N:Nat)(a2:(Vector Int 64)):Nat->(List Int)->Int->Option ((List Int))
 | 0,_,_=>none
 | k+1,s2,s3=>
  cond (decide (s3 < 16)) (
   ae (idx a2.toList (I64 (4*s3))) λe4=>
   aN (I64 ((I64 (4*s3))+1)) λx5=>
   ae (idx a2.toList x5) λe6=>
   aN (U32 ((U32 ((U32 e4)*256))+(U32 e6))) λx7=>
   aN (I64 ((I64 (4*s3))+2)) λx8=>
   ae (idx a2.toList x8) λe9=>
   aN (U32 ((U32 (x7*256))+(U32 e9))) λx10=>
   aN (I64 ((I64 (4*s3))+3)) λx11=>
   ae (idx a2.toList x11) λe12=>
   aN (U32 ((U32 (x10*256))+(U32 e12))) λx13=>
   ae (iB 4 s2 (([x13]:List Int))) λz14=>
   kY N a2 k z14 (I64 (s3+1))) (
   some s2)
def lA(N:Nat)  : Nat->(List Int)->Int->Option ((List Int))
 | 0,_,_=>none
 | k+1,s16,s17=>
  cond (decide (s17 < 64)) (
   ae (idx s16 (I64 (s17 - 15))) λe18=>
   ae (bQ N e18 7) λr19=>
   ae (idx s16 (I64 (s17 - 15))) λe20=>
   ae (bQ N e20 18) λr21=>
   ae (idx s16 (I64 (s17 - 15))) λe22=>
   aN (eZ .u32 (eZ .u32 r19 r21) (shr .u32 e22 3)) λx23=>
   ae (idx s16 (I64 (s17 - 2))) λe24=>
   ae (bQ N e24 17) λr25=>
   ae (idx s16 (I64 (s17 - 2))) λe26=>
   ae (bQ N e26 19) λr27=>
   ae (idx s16 (I64 (s17 - 2))) λe28=>
   aN (eZ .u32 (eZ .u32 r25 r27) (shr .u32 e28 10)) λx29=>
   ae (idx s16 (I64 (s17 - 7))) λe30=>
   aN (U32 ((U32 (x29+e30))+x23)) λx31=>
   ae (idx s16 (I64 (s17 - 16))) λe32=>
   ae (iB 4 s16 (([U32 (x31+e32)]:List Int))) λz33=>
   lA N k z33 (I64 (s17+1))) (
   some s16)
def pK(N:Nat)  : Nat->(Vector Int 8)->Int->Option ((Vector Int 8))
 | 0,_,_=>none
 | k+1,s88,s89=>
  cond (decide (s89 > 0)) (
   ae (aP (I64 (s89 - 1)) 8) λ_=>
   ae (s88.toList[(I64 (s89 - 1)).toNat]?) λe91=>
   ae (aP s89 8) λ_=>
   ae (s88.toList[s89.toNat]?) λe93=>
   pK N k (s88.setIfInBounds s89.toNat e91) (I64 (s89 - 1))) (
   some s88)
def kZ(N:Nat)(a0:(Vector Int 64))(p15:(List Int)):Nat->(Vector Int 8)->Int->Option ((Vector Int 8))
 | 0,_,_=>none
 | k+1,s35,s36=>
  cond (decide (s36 < 64)) (
   ae (aP 7 8) λ_=>
   ae (s35.toList[(af 7)]?) λe38=>
   ae (aP 4 8) λ_=>
   ae (s35.toList[(af 4)]?) λe40=>
   ae (bQ N e40 6) λr41=>
   ae (aP 4 8) λ_=>
   ae (s35.toList[(af 4)]?) λe43=>
   ae (bQ N e43 11) λr44=>
   ae (aP 4 8) λ_=>
   ae (s35.toList[(af 4)]?) λe46=>
   ae (bQ N e46 25) λr47=>
   aN (eZ .u32 (eZ .u32 r41 r44) r47) λx48=>
   ae (aP 4 8) λ_=>
   ae (s35.toList[(af 4)]?) λe50=>
   ae (aP 5 8) λ_=>
   ae (s35.toList[(af 5)]?) λe52=>
   ae (aP 4 8) λ_=>
   ae (s35.toList[(af 4)]?) λe54=>
   ae (aP 6 8) λ_=>
   ae (s35.toList[(af 6)]?) λe56=>
   aN (cF .u32 (bnot .u32 e54) e56) λx57=>
   aN (eZ .u32 (cF .u32 e50 e52) x57) λx58=>
   aN (U32 ((U32 (e38+x48))+x58)) λx59=>
   ae (idx a0.toList s36) λe60=>
   ae (idx p15 s36) λe61=>
   aN (U32 ((U32 (x59+e60))+e61)) λx62=>
   ae (aP 0 8) λ_=>
   ae (s35.toList[(af 0)]?) λe64=>
   ae (bQ N e64 2) λr65=>
   ae (aP 0 8) λ_=>
   ae (s35.toList[(af 0)]?) λe67=>
   ae (bQ N e67 13) λr68=>
   ae (aP 0 8) λ_=>
   ae (s35.toList[(af 0)]?) λe70=>
   ae (bQ N e70 22) λr71=>
   aN (eZ .u32 (eZ .u32 r65 r68) r71) λx72=>
   ae (aP 0 8) λ_=>
   ae (s35.toList[(af 0)]?) λe74=>
   ae (aP 1 8) λ_=>
   ae (s35.toList[(af 1)]?) λe76=>
   ae (aP 0 8) λ_=>
   ae (s35.toList[(af 0)]?) λe78=>
   ae (aP 2 8) λ_=>
   ae (s35.toList[(af 2)]?) λe80=>
   aN (eZ .u32 (cF .u32 e74 e76) (cF .u32 e78 e80)) λx81=>
   ae (aP 1 8) λ_=>
   ae (s35.toList[(af 1)]?) λe83=>
   ae (aP 2 8) λ_=>
   ae (s35.toList[(af 2)]?) λe85=>
   aN (eZ .u32 x81 (cF .u32 e83 e85)) λx86=>
   ae (pK N N s35 7) λp87=>
   ae (aP 4 8) λ_=>
   ae (p87.toList[(af 4)]?) λe95=>
   ae (aP 4 8) λ_=>
   ae (p87.toList[(af 4)]?) λe97=>
   aN (U32 (x62+(U32 (x72+x86)))) λx98=>
   ae (aP 0 8) λ_=>
   ae ((p87.setIfInBounds ((af 4)) (U32 (e95+x62))).toList[(af 0)]?) λe100=>
   kZ N a0 p15 k ((p87.setIfInBounds ((af 4)) (U32 (e95+x62))).setIfInBounds ((af 0)) x98) (I64 (s36+1))) (
   some s35)
def pX(N:Nat)(a1:(Vector Int 8)):Nat->(Vector Int 8)->Int->Option ((Vector Int 8))
 | 0,_,_=>none
 | k+1,s102,s103=>
  cond (decide (s103 < 8)) (
   ae (aP s103 8) λ_=>
   ae (s102.toList[s103.toNat]?) λe105=>
   ae (idx a1.toList s103) λe106=>
   ae (aP s103 8) λ_=>
   ae (s102.toList[s103.toNat]?) λe108=>
   pX N a1 k (s102.setIfInBounds s103.toNat (U32 (e105+e106))) (I64 (s103+1))) (
   some s102)
def vN(N:Nat)(a0:(Vector Int 64))(a1:(Vector Int 8))(a2:(Vector Int 64)):Option ((Vector Int 8)):=
 ae (kY N a2 N [] 0) λp1=>
 ae (lA N N p1 16) λp15=>
 ae (kZ N a0 p15 N a1 0) λp34=>
 ae (pX N a1 N p34 0) λp101=>
 some p101
theorem aFm{N a0 a1 a2 r}(h:vN N a0 a1 a2=some r):FnM Tryz.prog 185 [] [(eA 64 1 k32 a0),(eA 8 1 k32 a1),(eA 64 1 k8 a2)] (eA 8 1 k32 r) []:=by
 unfold vN at h;refine At.f aGn hT hmo Tryz.func185 rfl h ?_;refine At.ownn 6 7 1 ?_;refine At.L 0 [3,4,6] 2 (λp1=>([(7,(eO 1 1 k32 p1))],[(1,.tail (p1.length*1))],[])) (λp1 J k=>∃s2 s3,kY N a2 k s2 s3=some p1/\J [3,4,5,6] 2 [(7,(eO 1 1 k32 s2)),(8,(j64 s3))] [(1,.tail (s2.length*1))] []) N (λ_ h=>⟨_,_,h,jr⟩) (λp1 k s hI=>?_) λp1=>?_
 ·obtain⟨s2,s3,h,hj⟩:=hI;cases k with
  | zero=>cases h
  | succ k=>
   refine At.jr hj ?_ h;refine At.c 2 ?_ ?_
   ·refine bi λe4 he4=>?_;refine lx ?_;intro x5;refine bi λe6 he6=>?_;refine lx ?_;intro x7;refine lx ?_;intro x8;refine bi λe9 he9=>?_;refine lx ?_;intro x10;refine lx ?_;intro x11;refine bi λe12 he12=>?_;refine lx ?_;intro x13;refine bi λz14 hz14=>?_;refine At.d 0 (dE1 3 (λ_=>bK hT (N:=64) (k:=1) k8 a2 he4) (dE1 10 (λ_=>bK hT (N:=64) (k:=1) k8 a2 he6) (dE1 18 (λ_=>bK hT (N:=64) (k:=1) k8 a2 he9) (dE1 26 (λ_=>bK hT (N:=64) (k:=1) k8 a2 he12) (dE1 30 (λ_=>aY hT (x:=(.sl 1 1 [(k32 x13)]))) dE0))))) (dF 31 (eO 1 1 k32 z14) [(1,.tail (z14.length*1))] [] (bG (bN hT k32 (id:=1) (k:=1) hz14)) dF0) ?_;exact λh=>At.k 3 ⟨_,_,h,jr⟩
   ·apply rt;exact At.x 0
 ·refine At.L 1 [3,4,6] 2 (λp15=>([(7,(eO 1 1 k32 p15))],[(1,.tail (p15.length*1))],[])) (λp15 J k=>∃s16 s17,lA N k s16 s17=some p15/\J [3,4,6] 2 [(7,(eO 1 1 k32 s16)),(9,(j64 s17))] [(1,.tail (s16.length*1))] []) N (λ_ h=>⟨_,_,h,jr⟩) (λp15 k s hI=>?_) λp15=>?_
  ·obtain⟨s16,s17,h,hj⟩:=hI;cases k with
   | zero=>cases h
   | succ k=>
    refine At.jr hj ?_ h;refine At.c 2 ?_ ?_
    ·refine bi λe18 he18=>?_;refine bi λr19 hr19=>?_;refine bi λe20 he20=>?_;refine bi λr21 hr21=>?_;refine bi λe22 he22=>?_;refine lx ?_;intro x23;refine At.d 0 (dE1 3 (λ_=>bA hT k32 he18) (dE2 5 (k32 r19) (λ_=>bM (fF hr19)) (dE1 9 (λ_=>bA hT k32 he20) (dE2 11 (k32 r21) (λ_=>bM (fF hr21)) (dE1 16 (λ_=>bA hT k32 he22) dE0))))) dF0 ?_;refine bi λe24 he24=>?_;refine bi λr25 hr25=>?_;refine bi λe26 he26=>?_;refine bi λr27 hr27=>?_;refine bi λe28 he28=>?_;refine lx ?_;intro x29;refine At.d 0 (dE1 3 (λ_=>bA hT k32 he24) (dE2 5 (k32 r25) (λ_=>bM (fF hr25)) (dE1 9 (λ_=>bA hT k32 he26) (dE2 11 (k32 r27) (λ_=>bM (fF hr27)) (dE1 16 (λ_=>bA hT k32 he28) dE0))))) dF0 ?_;refine bi λe30 he30=>?_;refine lx ?_;intro x31;refine bi λe32 he32=>?_;refine bi λz33 hz33=>?_;refine At.d 0 (dE1 5 (λ_=>bA hT k32 he30) (dE1 13 (λ_=>bA hT k32 he32) (dE1 16 (λ_=>aY hT (x:=(.sl 1 1 [(k32 (U32 (x31+e32)))]))) dE0))) (dF 17 (eO 1 1 k32 z33) [(1,.tail (z33.length*1))] [] (bG (bN hT k32 (id:=1) (k:=1) hz33)) dF0) ?_;exact λh=>At.k 3 ⟨_,_,h,jr⟩
    ·apply rt;exact At.x 0
  ·refine At.L 4 [4,6,12] 3 (λp34=>([],[(2,.var (eA 8 1 k32 p34))],[])) (λp34 J k=>∃s35 s36,kZ N a0 p15 k s35 s36=some p34/\J [3,4,6,7,12] 3 [(13,(j64 s36))] [(2,.var (eA 8 1 k32 s35))] []) N (λ_ h=>⟨_,_,h,jr⟩) (λp34 k s hI=>?_) λp34=>?_
   ·obtain⟨s35,s36,h,hj⟩:=hI;cases k with
    | zero=>cases h
    | succ k=>
     refine At.jr hj ?_ h;refine At.c 2 ?_ ?_
     ·refine bi λu37 hu37=>?_;refine bi λe38 he38=>?_;refine bi λu39 hu39=>?_;refine bi λe40 he40=>?_;refine bi λr41 hr41=>?_;refine bi λu42 hu42=>?_;refine bi λe43 he43=>?_;refine bi λr44 hr44=>?_;refine bi λu45 hu45=>?_;refine bi λe46 he46=>?_;refine bi λr47 hr47=>?_;refine lx ?_;intro x48;refine bi λu49 hu49=>?_;refine bi λe50 he50=>?_;refine bi λu51 hu51=>?_;refine bi λe52 he52=>?_;refine bi λu53 hu53=>?_;refine bi λe54 he54=>?_;refine bi λu55 hu55=>?_;refine bi λe56 he56=>?_;refine lx ?_;intro x57;refine lx ?_;intro x58;refine lx ?_;intro x59;refine bi λe60 he60=>?_;refine bi λe61 he61=>?_;refine lx ?_;intro x62;refine At.d 0 (dE1 0 (λ_=>aD hT (k:=1) 2 [] 0 hu37) (dEL hT 1 (k32 e38) k32 0 he38 (dE1 2 (λ_=>aD hT (k:=1) 2 [] 0 hu39) (dEL hT 3 (k32 e40) k32 0 he40 (dE2 4 (k32 r41) (λ_=>bM (fF hr41)) (dE1 5 (λ_=>aD hT (k:=1) 2 [] 0 hu42) (dEL hT 6 (k32 e43) k32 0 he43 (dE2 7 (k32 r44) (λ_=>bM (fF hr44)) (dE1 9 (λ_=>aD hT (k:=1) 2 [] 0 hu45) (dEL hT 10 (k32 e46) k32 0 he46 (dE2 11 (k32 r47) (λ_=>bM (fF hr47)) (dE1 14 (λ_=>aD hT (k:=1) 2 [] 0 hu49) (dEL hT 15 (k32 e50) k32 0 he50 (dE1 16 (λ_=>aD hT (k:=1) 2 [] 0 hu51) (dEL hT 17 (k32 e52) k32 0 he52 (dE1 19 (λ_=>aD hT (k:=1) 2 [] 0 hu53) (dEL hT 20 (k32 e54) k32 0 he54 (dE1 22 (λ_=>aD hT (k:=1) 2 [] 0 hu55) (dEL hT 23 (k32 e56) k32 0 he56 (dE1 28 (λ_=>bK hT (N:=64) (k:=1) k32 a0 he60) (dE1 33 (λ_=>bA hT k32 he61) dE0))))))))))))))))))))) dF0 ?_;refine bi λu63 hu63=>?_;refine bi λe64 he64=>?_;refine bi λr65 hr65=>?_;refine bi λu66 hu66=>?_;refine bi λe67 he67=>?_;refine bi λr68 hr68=>?_;refine bi λu69 hu69=>?_;refine bi λe70 he70=>?_;refine bi λr71 hr71=>?_;refine lx ?_;intro x72;refine bi λu73 hu73=>?_;refine bi λe74 he74=>?_;refine bi λu75 hu75=>?_;refine bi λe76 he76=>?_;refine bi λu77 hu77=>?_;refine bi λe78 he78=>?_;refine bi λu79 hu79=>?_;refine bi λe80 he80=>?_;refine lx ?_;intro x81;refine bi λu82 hu82=>?_;refine bi λe83 he83=>?_;refine bi λu84 hu84=>?_;refine bi λe85 he85=>?_;refine lx ?_;intro x86;refine At.d 0 (dE1 0 (λ_=>aD hT (k:=1) 2 [] 0 hu63) (dEL hT 1 (k32 e64) k32 0 he64 (dE2 2 (k32 r65) (λ_=>bM (fF hr65)) (dE1 3 (λ_=>aD hT (k:=1) 2 [] 0 hu66) (dEL hT 4 (k32 e67) k32 0 he67 (dE2 5 (k32 r68) (λ_=>bM (fF hr68)) (dE1 7 (λ_=>aD hT (k:=1) 2 [] 0 hu69) (dEL hT 8 (k32 e70) k32 0 he70 (dE2 9 (k32 r71) (λ_=>bM (fF hr71)) (dE1 11 (λ_=>aD hT (k:=1) 2 [] 0 hu73) (dEL hT 12 (k32 e74) k32 0 he74 (dE1 13 (λ_=>aD hT (k:=1) 2 [] 0 hu75) (dEL hT 14 (k32 e76) k32 0 he76 (dE1 16 (λ_=>aD hT (k:=1) 2 [] 0 hu77) (dEL hT 17 (k32 e78) k32 0 he78 (dE1 18 (λ_=>aD hT (k:=1) 2 [] 0 hu79) (dEL hT 19 (k32 e80) k32 0 he80 (dE1 22 (λ_=>aD hT (k:=1) 2 [] 0 hu82) (dEL hT 23 (k32 e83) k32 0 he83 (dE1 24 (λ_=>aD hT (k:=1) 2 [] 0 hu84) (dEL hT 25 (k32 e85) k32 0 he85 dE0))))))))))))))))))))) dF0 ?_;refine At.L 1 [3,4,6,7,12,13,14,15] 3 (λp87=>([],[(2,.var (eA 8 1 k32 p87))],[])) (λp87 J k=>∃s88 s89,pK N k s88 s89=some p87/\J [3,4,6,7,12,13,14,15] 3 [(16,(j64 s89))] [(2,.var (eA 8 1 k32 s88))] []) N (λ_ h=>⟨_,_,h,jr⟩) (λp87 k s hI=>?_) λp87=>?_
      ·obtain⟨s88,s89,h,hj⟩:=hI;cases k with
       | zero=>cases h
       | succ k=>
        refine At.jr hj ?_ h;refine At.c 2 ?_ ?_
        ·refine At.b 3 (λ_ e=>aD hT (k:=1) 2 [] 0 e) λu90=>?_;refine At.b 0 (λ_ e=>aV hT k32 0 e) λe91=>?_;refine At.b 0 (λ_ e=>aD hT (k:=1) 2 [] 0 e) λu92=>?_;refine At.b 0 (λ_ e=>bB hT k32 0 s88 e e91 (by kernel_rfl) (by kernel_rfl) (H':=[.var (eA 8 1 k32 (ag 8 0)),.tail (p15.length*1),.var (eA 8 1 k32 (s88.setIfInBounds s89.toNat e91))])) λe93=>?_;exact λh=>At.k 3 ⟨_,_,h,jr⟩
        ·apply rt;exact At.x 0
      ·refine At.b 0 (λ_ e=>aD hT (k:=1) 2 [] 0 e) λu94=>?_;refine At.b 0 (λ_ e=>aV hT k32 0 e) λe95=>?_;refine At.b 2 (λ_ e=>aD hT (k:=1) 2 [] 0 e) λu96=>?_;refine At.b 0 (λ_ e=>bB hT k32 0 p87 e (U32 (e95+x62)) (by kernel_rfl) (by kernel_rfl) (H':=[.var (eA 8 1 k32 (ag 8 0)),.tail (p15.length*1),.var (eA 8 1 k32 (p87.setIfInBounds ((af 4)) (U32 (e95+x62))))])) λe97=>?_;refine lx ?_;intro x98;refine At.b 3 (λ_ e=>aD hT (k:=1) 2 [] 0 e) λu99=>?_;refine At.b 0 (λ_ e=>bB hT k32 0 (p87.setIfInBounds ((af 4)) (U32 (e95+x62))) e x98 (by kernel_rfl) (by kernel_rfl) (H':=[.var (eA 8 1 k32 (ag 8 0)),.tail (p15.length*1),.var (eA 8 1 k32 ((p87.setIfInBounds ((af 4)) (U32 (e95+x62))).setIfInBounds ((af 0)) x98))])) λe100=>?_;exact λh=>At.k 3 ⟨_,_,h,jr⟩
     ·apply rt;exact At.x 0
   ·refine At.L 1 [6,12] 3 (λp101=>([],[(2,.var (eA 8 1 k32 p101))],[])) (λp101 J k=>∃s102 s103,pX N a1 k s102 s103=some p101/\J [4,6,12] 3 [(17,(j64 s103))] [(2,.var (eA 8 1 k32 s102))] []) N (λ_ h=>⟨_,_,h,jr⟩) (λp101 k s hI=>?_) λp101=>?_
    ·obtain⟨s102,s103,h,hj⟩:=hI;cases k with
     | zero=>cases h
     | succ k=>
      refine At.jr hj ?_ h;refine At.c 2 ?_ ?_
      ·refine bi λu104 hu104=>?_;refine bi λe105 he105=>?_;refine bi λe106 he106=>?_;refine bi λu107 hu107=>?_;refine bi λe108 he108=>?_;refine At.d 0 (dE1 2 (λ_=>aD hT (k:=1) 2 [] 0 hu104) (dEL hT 3 (k32 e105) k32 0 he105 (dE1 5 (λ_=>bK hT (N:=8) (k:=1) k32 a1 he106) (dE1 8 (λ_=>aD hT (k:=1) 2 [] 0 hu107) dE0)))) (dF 9 (.v (.bool false)) [(2,.var (eA 8 1 k32 (s102.setIfInBounds s103.toNat (U32 (e105+e106)))))] [] (bG (bB hT k32 0 s102 he108 (U32 (e105+e106)) (by kernel_rfl) (by kernel_rfl) (H':=[.var (eA 8 1 k32 (ag 8 0)),.tail (p15.length*1),.var (eA 8 1 k32 (s102.setIfInBounds s103.toNat (U32 (e105+e106))))]))) dF0) ?_;exact λh=>At.k 3 ⟨_,_,h,jr⟩
      ·apply rt;exact At.x 0
    ·apply rt;exact At.r 2
end Go.UK
