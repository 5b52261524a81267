/- A part of the proof: what the functions of the program compute. -/
import Derived.Test.YtbfieohdmihfpaaGreatDoorVT
open Int renaming tmod→cj,toNat→ag
open List renaming length_map→cg,map→f8,replicate→aj
open Option renaming bind→ae
open Vector renaming replicate→ah
namespace Go.UK
open Go Go.Proofs Go.Sort Go.RowKit
set_option maxRecDepth 20000
set_option maxHeartbeats 40000000
set_option linter.all false
attribute [local irreducible] adv aBN aEj yY brPt aNu aHh oA aAn aNN fS nY cW wE aLK aMs lPt bJ opD jT xL aM3 stD dCl dEn dH DD aN owp awl aw FnM aIl opS TOK Big
def aE3 : Nat->Bool:=imL [1]
def vI(N:Nat)(a0:aP):Option (aP):=
 aN ((a0.gF.length:Int)) λx1=>
 ae (dM a0.gF 0 (lH x1 70)) λs2=>
 aN (lH ((a0.gL.length:Int)) 70) λx3=>
 ae (dM a0.gL 0 x3) λs4=>
 aN ((a0.gJ.length:Int)) λx5=>
 ae (dM a0.gJ 0 (lH x5 70)) λs6=>
 some (aP.mk s2 s4 s6)
theorem aDZ{N a0 r}(h:vI N a0=some r):FnM Tryz.prog 9 [] [(aP.enc a0)] (aP.enc r) []:=by
 refine Af aE3 Tryz.func9 h ?_;refine At.D 2 [] ?_;apply lx;intro x1;refine DD.B 6 (bSl aA.enc) λs2=>?_;apply lx;intro x3;refine DD.B 6 (bSl (eA 2 1 j64)) λs4=>?_;apply lx;intro x5;refine DD.B 6 (bSl (eA 3 1 j64)) λs6=>?_;refine De 2 ?_;apply rt;exact At.r 0
def sX(N:Nat)(a0:bM):Option (bM):=
 ae (vI N a0.gA.gA0) λr1=>
 aN ((a0.gA.gA2.gK.length:Int)) λx2=>
 ae (dM a0.gA.gA2.gK 0 (lH x2 260)) λs3=>
 some (bM.mk a0.gC a0.gB0 a0.gM (aE.mk a0.gA.gC r1 (aK.mk a0.gA.gA2.gO s3) a0.gA.gG a0.gA.gD) a0.gI)
theorem aD8{N a0 r}(h:sX N a0=some r):FnM Tryz.prog 4 [] [(bM.enc a0)] (bM.enc r) []:=by
 refine Af dK Tryz.func4 h ?_;refine At.y 5 aDZ λr1=>?_;apply lx;intro x2;refine At.B 13 (bSl (eA 3 1 j64)) λs3=>?_;apply rt;exact At.r 6
def aAV(N:Nat):Option (Unit):=
 some (())
theorem aGX{N r}(h:aAV N=some r):FnM Tryz.prog 17 [] [] (.ref 0 [] 0) [.var (.st 73 [(.arr 8 1 [(k32 1779033703),(k32 3144134277),(k32 1013904242),(k32 2773480762),(k32 1359893119),(k32 2600822924),(k32 528734635),(k32 1541459225)]),(eA 64 1 k8 (ah 64 0)),(j64 0)])]:=by
 refine Af dK Tryz.func17 h ?_;apply rt;exact At.r 5
def oL(N:Nat)(a0:dL):Option (Bool):=
 aN ((eqV (λa b=>a==b)) a0.gh (ah 8 0)) λx1=>
 aN (cond x1 (a0.gn==0) false) λx2=>
 some x2
theorem yG{N a0 r}(h:oL N a0=some r):FnM Tryz.prog 41 [.var (dL.enc a0)] [(.ref 0 [] 0)] (eB r) [.var (dL.enc a0)]:=by
 refine Af dK Tryz.func41 h ?_;refine At.o 2 (aB6 hT (t:=72) (x:=(.ref 0 [] 0)) (b:=true) (by kernel_rfl) rfl rfl (by kernel_rfl)) ?_;refine At.g [5] 6 ?_;refine At.O 0 (bEq aWy (a0.gh:(Vector Int 8)) (ah 8 0:(Vector Int 8))) ?_;apply lx;intro x1;apply lx;intro x2;refine At.g [5] 9 ?_;apply rt;exact At.r 0
def bG(N:Nat)(a0 a1:Int):Option (Int):=
 ae (aF1 .u32 a0 (cF .u64 (U64 a1) 31)) λx1=>
 aN (U64 (32 - (cF .u64 (U64 a1) 31))) λx2=>
 ae (wY .u32 a0 x2) λx3=>
 some (bor .u32 x1 x3)
theorem iI{N a0 a1 r}(h:bG N a0 a1=some r):FnM Tryz.prog 104 [] [(k32 a0),(j64 a1)] (k32 r) []:=by
 refine Af dK Tryz.func104 h ?_;refine At.B 7 bSh λx1=>?_;apply lx;intro x2;refine At.B 3 bSr λx3=>?_;apply rt;exact At.r 2
def fW(N:Nat)(a0 a1:Int):Option (Int):=
 ae (bG N a0 (I64 (0 - a1))) λr1=>
 some r1
theorem oV{N a0 a1 r}(h:fW N a0 a1=some r):FnM Tryz.prog 71 [] [(k32 a0),(j64 a1)] (k32 r) []:=by
 refine Af dK Tryz.func71 h ?_;refine At.y 4 iI λr1=>?_;apply rt;exact At.r 1
def aG0 : Nat->Bool:=imL [2,3]
def eJ : (Vector Int 64):=#v[1116352408,1899447441,3049323471,3921009573,961987163,1508970993,2453635748,2870763221,3624381080,310598401,607225278,1426881987,1925078388,2162078206,2614888103,3248222580,3835390401,4022224774,264347078,604807628,770255983,1249150122,1555081692,1996064986,2554220882,2821834349,2952996808,3210313671,3336571891,3584528711,113926993,338241895,666307205,773529912,1294757372,1396182291,1695183700,1986661051,2177026350,2456956037,2730485921,2820302411,3259730800,3345764771,3516065817,3600352804,4094571909,275423344,430227734,506948616,659060556,883997877,958139571,1322822218,1537002063,1747873779,1955562222,2024104815,2227730452,2361852424,2428436474,2756734187,3204031479,3329325298]
def kD(N:Nat)(a1:(Vector Int 64)):Nat->(Vector Int 64)->Int->Option ((Vector Int 64))
 | 0,_,_=>none
 | k+1,s2,s3=>
  cond (decide (s3 < 64)) (
   ae (cond (decide (s3 < 16)) (
    ae (idx a1.toList (I64 (4*s3))) λe5=>
    aN (I64 ((I64 (4*s3))+1)) λx6=>
    ae (idx a1.toList x6) λe7=>
    aN (bor .u32 (shl .u32 (U32 e5) 24) (shl .u32 (U32 e7) 16)) λx8=>
    aN (I64 ((I64 (4*s3))+2)) λx9=>
    ae (idx a1.toList x9) λe10=>
    aN (bor .u32 x8 (shl .u32 (U32 e10) 8)) λx11=>
    aN (I64 ((I64 (4*s3))+3)) λx12=>
    ae (idx a1.toList x12) λe13=>
    ae (aO s3 64) λ_=>
    ae (s2.toList[s3.toNat]?) λe15=>
    some (s2.setIfInBounds s3.toNat (bor .u32 x11 (U32 e13)))) (
    ae (aO (I64 (s3 - 15)) 64) λ_=>
    ae (s2.toList[(I64 (s3 - 15)).toNat]?) λe17=>
    ae (aO (I64 (s3 - 2)) 64) λ_=>
    ae (s2.toList[(I64 (s3 - 2)).toNat]?) λe19=>
    ae (aO (I64 (s3 - 16)) 64) λ_=>
    ae (s2.toList[(I64 (s3 - 16)).toNat]?) λe21=>
    ae (fW N e17 7) λr22=>
    ae (fW N e17 18) λr23=>
    aN (fG .u32 (fG .u32 r22 r23) (shr .u32 e17 3)) λx24=>
    ae (aO (I64 (s3 - 7)) 64) λ_=>
    ae (s2.toList[(I64 (s3 - 7)).toNat]?) λe26=>
    aN (U32 ((U32 (e21+x24))+e26)) λx27=>
    ae (fW N e19 17) λr28=>
    ae (fW N e19 19) λr29=>
    aN (fG .u32 (fG .u32 r28 r29) (shr .u32 e19 10)) λx30=>
    ae (aO s3 64) λ_=>
    ae (s2.toList[s3.toNat]?) λe32=>
    some (s2.setIfInBounds s3.toNat (U32 (x27+x30))))) λp4=>
   kD N a1 k p4 (I64 (s3+1))) (
   some s2)
def kC(N:Nat)(p1:(Vector Int 64)):Nat->(Vector Int 8)->Int->Option ((Vector Int 8))
 | 0,_,_=>none
 | k+1,s34,s35=>
  cond (decide (s35 < 64)) (
   ae (aO 0 8) λ_=>
   ae (s34.toList[(ag 0)]?) λe37=>
   ae (aO 4 8) λ_=>
   ae (s34.toList[(ag 4)]?) λe39=>
   ae (aO 7 8) λ_=>
   ae (s34.toList[(ag 7)]?) λe41=>
   ae (fW N e39 6) λr42=>
   ae (fW N e39 11) λr43=>
   ae (fW N e39 25) λr44=>
   aN (fG .u32 (fG .u32 r42 r43) r44) λx45=>
   ae (aO 5 8) λ_=>
   ae (s34.toList[(ag 5)]?) λe47=>
   ae (aO 6 8) λ_=>
   ae (s34.toList[(ag 6)]?) λe49=>
   aN (cF .u32 (bnot .u32 e39) e49) λx50=>
   aN (fG .u32 (cF .u32 e39 e47) x50) λx51=>
   aN (U32 ((U32 (e41+x45))+x51)) λx52=>
   ae (aO s35 64) λ_=>
   ae (eJ.toList[s35.toNat]?) λe54=>
   ae (aO s35 64) λ_=>
   ae (p1.toList[s35.toNat]?) λe56=>
   aN (U32 ((U32 (x52+e54))+e56)) λx57=>
   ae (fW N e37 2) λr58=>
   ae (fW N e37 13) λr59=>
   ae (fW N e37 22) λr60=>
   aN (fG .u32 (fG .u32 r58 r59) r60) λx61=>
   ae (aO 1 8) λ_=>
   ae (s34.toList[(ag 1)]?) λe63=>
   ae (aO 2 8) λ_=>
   ae (s34.toList[(ag 2)]?) λe65=>
   aN (fG .u32 (cF .u32 e37 e63) (cF .u32 e37 e65)) λx66=>
   ae (aO 1 8) λ_=>
   ae (s34.toList[(ag 1)]?) λe68=>
   ae (aO 2 8) λ_=>
   ae (s34.toList[(ag 2)]?) λe70=>
   aN (fG .u32 x66 (cF .u32 e68 e70)) λx71=>
   aN (U32 (x57+(U32 (x61+x71)))) λx72=>
   ae (aO 0 8) λ_=>
   ae (s34.toList[(ag 0)]?) λe74=>
   ae (aO 1 8) λ_=>
   ae (s34.toList[(ag 1)]?) λe76=>
   ae (aO 2 8) λ_=>
   ae (s34.toList[(ag 2)]?) λe78=>
   ae (aO 3 8) λ_=>
   ae (s34.toList[(ag 3)]?) λe80=>
   ae (aO 4 8) λ_=>
   ae (s34.toList[(ag 4)]?) λe82=>
   ae (aO 5 8) λ_=>
   ae (s34.toList[(ag 5)]?) λe84=>
   ae (aO 6 8) λ_=>
   ae (s34.toList[(ag 6)]?) λe86=>
   kC N p1 k (#v[x72,e74,e76,e78,U32 (e80+x57),e82,e84,e86]) (I64 (s35+1))) (
   some s34)
def oG(N:Nat)(a0:(Vector Int 8)):Nat->(Vector Int 8)->Int->Option ((Vector Int 8))
 | 0,_,_=>none
 | k+1,s88,s89=>
  cond (decide (s89 < 8)) (
   ae (aO s89 8) λ_=>
   ae (s88.toList[s89.toNat]?) λe91=>
   ae (idx a0.toList s89) λe92=>
   ae (aO s89 8) λ_=>
   ae (s88.toList[s89.toNat]?) λe94=>
   oG N a0 k (s88.setIfInBounds s89.toNat (U32 (e91+e92))) (I64 (s89+1))) (
   some s88)
def uB(N:Nat)(a0:(Vector Int 8))(a1:(Vector Int 64)):Option ((Vector Int 8)):=
 ae (kD N a1 N (ah 64 0) 0) λp1=>
 ae (kC N p1 N a0 0) λp33=>
 ae (oG N a0 N p33 0) λp87=>
 some p87
theorem aF5{N a0 a1 r}(h:uB N a0 a1=some r):FnM Tryz.prog 42 [] [(eA 8 1 k32 a0),(eA 64 1 k8 a1)] (eA 8 1 k32 r) []:=by
 refine Af aG0 Tryz.func42 h ?_;refine At.M 8 [2,4,5,6] 3 (λp1=>([],[(2,.var (eA 64 1 k32 p1))],[])) [2,3,4,5,6] 3 (CU2 (kD N a1)) (cu2 λs2 s3=>([(18,(j64 s3))],[(2,.var (eA 64 1 k32 s2))],[])) (_,_) N (λp1 k=>un2 λs2 s3=>?_) λp1=>?_
 ·refine At.c 1 ?_ ?_
  ·refine At.J 0 2 [2,3,4,5,6,18] 3 (λp4=>([],[(2,.var (eA 64 1 k32 p4))],[])) (λp4=>?_) λp4=>?_
   ·refine At.c 4 ?_ ?_
    ·refine At.D 0 [] ?_;refine DD.B 3 (bAi k8) λe5=>?_;apply lx;intro x6;refine DD.B 6 (bAi k8) λe7=>?_;apply lx;intro x8;apply lx;intro x9;refine DD.B 7 (bAi k8) λe10=>?_;apply lx;intro x11;apply lx;intro x12;refine DD.B 7 (bAi k8) λe13=>?_;refine DD.B 3 bAr λu14=>?_;refine DD.U 0 (bSv k32 0 (bor .u32 x11 (U32 e13))) λe15=>?_;refine De 0 ?_;apply rt;exact At.jn 0
    ·refine At.D 0 [] ?_;refine DD.B 2 bAr λu16=>?_;refine DD.l hT 0 k32 k32 0 λe17=>?_;refine DD.B 2 bAr λu18=>?_;refine DD.l hT 0 k32 k32 0 λe19=>?_;refine De 2 ?_;refine At.D 0 [] ?_;refine DD.B 3 bAr λu20=>?_;refine DD.l hT 0 k32 k32 0 λe21=>?_;refine DD.y 1 oV λr22=>?_;refine DD.y 1 oV λr23=>?_;apply lx;intro x24;refine DD.B 7 bAr λu25=>?_;refine DD.l hT 0 k32 k32 0 λe26=>?_;apply lx;intro x27;refine DD.y 2 oV λr28=>?_;refine DD.y 1 oV λr29=>?_;apply lx;intro x30;refine DD.B 5 bAr λu31=>?_;refine DD.U 0 (bSv k32 0 (U32 (x27+x30))) λe32=>?_;refine De 0 ?_;apply rt;exact At.jn 0
   ·exact λh=>At.v 2 (_,_) h
  ·apply rt;exact At.x 0
 ·refine At.M 4 [2,4,10] 4 (λp33=>([],[(3,.var (eA 8 1 k32 p33))],[])) [2,4,5,6,10] 4 (CU2 (kC N p1)) (cu2 λs34 s35=>([(93,(j64 s35))],[(3,.var (eA 8 1 k32 s34))],[])) (_,_) N (λp33 k=>un2 λs34 s35=>?_) λp33=>?_
  ·refine At.c 1 ?_ ?_
   ·refine At.D 2 [] ?_;refine DD.B 0 bAr λu36=>?_;refine DD.l hT 0 k32 k32 0 λe37=>?_;refine DD.B 0 bAr λu38=>?_;refine DD.l hT 0 k32 k32 0 λe39=>?_;refine De 2 ?_;refine At.D 0 [] ?_;refine DD.B 0 bAr λu40=>?_;refine DD.l hT 0 k32 k32 0 λe41=>?_;refine DD.y 1 oV λr42=>?_;refine DD.y 1 oV λr43=>?_;refine DD.y 2 oV λr44=>?_;apply lx;intro x45;refine DD.B 3 bAr λu46=>?_;refine DD.l hT 0 k32 k32 0 λe47=>?_;refine DD.B 3 bAr λu48=>?_;refine DD.l hT 0 k32 k32 0 λe49=>?_;apply lx;intro x50;apply lx;intro x51;apply lx;intro x52;refine DD.B 4 bAr λu53=>?_;refine DD.l hT 0 k32 k32 0 λe54=>?_;refine DD.B 2 bAr λu55=>?_;refine DD.l hT 0 k32 k32 0 λe56=>?_;apply lx;intro x57;refine De 2 ?_;refine At.D 0 [] ?_;refine DD.y 1 oV λr58=>?_;refine DD.y 1 oV λr59=>?_;refine DD.y 2 oV λr60=>?_;apply lx;intro x61;refine DD.B 2 bAr λu62=>?_;refine DD.l hT 0 k32 k32 0 λe63=>?_;refine DD.B 2 bAr λu64=>?_;refine DD.l hT 0 k32 k32 0 λe65=>?_;apply lx;intro x66;refine DD.B 2 bAr λu67=>?_;refine DD.l hT 0 k32 k32 0 λe68=>?_;refine DD.B 0 bAr λu69=>?_;refine DD.l hT 0 k32 k32 0 λe70=>?_;apply lx;intro x71;refine De 4 ?_;apply lx;intro x72;refine At.B 3 bAr λu73=>?_;refine At.U 0 (bLd k32 0) λe74=>?_;refine At.B 0 bAr λu75=>?_;refine At.U 0 (bLd k32 0) λe76=>?_;refine At.B 0 bAr λu77=>?_;refine At.U 0 (bLd k32 0) λe78=>?_;refine At.B 0 bAr λu79=>?_;refine At.U 0 (bLd k32 0) λe80=>?_;refine At.B 2 bAr λu81=>?_;refine At.U 0 (bLd k32 0) λe82=>?_;refine At.B 0 bAr λu83=>?_;refine At.U 0 (bLd k32 0) λe84=>?_;refine At.B 0 bAr λu85=>?_;refine At.U 0 (bLd k32 0) λe86=>?_;exact λh=>At.v 4 (_,_) h
   ·apply rt;exact At.x 0
  ·refine At.M 1 [4,10] 4 (λp87=>([],[(3,.var (eA 8 1 k32 p87))],[])) [2,4,10] 4 (CU2 (oG N a0)) (cu2 λs88 s89=>([(175,(j64 s89))],[(3,.var (eA 8 1 k32 s88))],[])) (_,_) N (λp87 k=>un2 λs88 s89=>?_) λp87=>?_
   ·refine At.c 1 ?_ ?_
    ·refine At.D 2 [] ?_;refine DD.B 1 bAr λu90=>?_;refine DD.l hT 0 k32 k32 0 λe91=>?_;refine DD.B 1 (bAi k32) λe92=>?_;refine DD.B 2 bAr λu93=>?_;refine DD.U 0 (bSv k32 0 (U32 (e91+e92))) λe94=>?_;refine De 0 ?_;exact λh=>At.v 2 (_,_) h
    ·apply rt;exact At.x 0
   ·apply rt;exact At.r 2
def iF(N:Nat)  : Nat->(Vector Int 8)->(Vector Int 64)->Int->(List Int)->Option ((Vector Int 8)×(Vector Int 64)×Int)
 | 0,_,_,_,_=>none
 | k+1,s10,s11,s12,s13=>
  aN (decide (((s13.length:Int)) > 0)) λx14=>
  cond x14 (
   ae (aRy 64 (cj s12 64) 64) λ_=>
   ae (cpV s11 s13 ((cj s12 64).toNat) ((64:Int).toNat - (cj s12 64).toNat)) λv16=>
   aN (((min s13.length ((64:Int).toNat - (cj s12 64).toNat):Nat):Int)) λx17=>
   ae (dM s13 x17 ((s13.length:Int))) λs18=>
   aN (cj (I64 (s12+x17)) 64) λx19=>
   cond (x19==0) (
    ae (uB N s10 v16) λr20=>
    iF N k r20 v16 (I64 (s12+x17)) s18) (
    iF N k s10 v16 (I64 (s12+x17)) s18)) (
   some ((s10,s11,s12)))
def iA(N:Nat)(a0:(List (List Int))):Nat->(Vector Int 8)->(Vector Int 64)->Int->Int->Option ((Vector Int 8)×(Vector Int 64)×Int)
 | 0,_,_,_,_=>none
 | k+1,s3,s4,s5,s6=>
  aN (decide (s6 < ((a0.length:Int)))) λx7=>
  cond x7 (
   ae (idx a0 s6) λe8=>
   ae (iF N N s3 s4 s5 e8) λp9=>
   iA N a0 k p9.1 p9.2.1 p9.2.2 (I64 (s6+1))) (
   some ((s3,s4,s5)))
def dW(N:Nat)(a0:(List (List Int)))(a1:dL):Option ((Vector Int 8)×(Vector Int 64)×Int):=
 ae (oL N a1) λr1=>
 cond r1 (
  some ((a1.gh,a1.gB1,a1.gn))) (
  ae (iA N a0 N a1.gh a1.gB1 a1.gn 0) λp2=>
  some ((p2.1,p2.2.1,p2.2.2)))
theorem oP{N a0 a1 r}(h:dW N a0 a1=some r):FnM Tryz.prog 18 [.var (dL.enc a1)] [(.ref 0 [] 0),(eL 1 (eL 1 k8) a0)] (.tup []) [.var (.st 73 [(eA 8 1 k32 r.1),(eA 64 1 k8 r.2.1),(j64 r.2.2)])]:=by
 refine Af dK Tryz.func18 h ?_;refine At.Y 1 [0] yG λr1=>?_;refine At.c 0 ?_ ?_
 ·apply rt;exact At.r 0
 ·refine At.M 3 [] 1 (λp2=>([],[(0,.var (.st 73 [(eA 8 1 k32 p2.1),(eA 64 1 k8 p2.2.1),(j64 p2.2.2)]))],[])) [0,9,10] 1 (CU4 (iA N a0)) (cu4 λs3 s4 s5 s6=>([(11,(j64 s6))],[(0,.var (.st 73 [(eA 8 1 k32 s3),(eA 64 1 k8 s4),(j64 s5)]))],[])) (_,_,_,_) N (λp2 k=>un4 λs3 s4 s5 s6=>?_) λp2=>?_
  ·apply lx;intro x7;refine At.c 1 ?_ ?_
   ·refine At.i hT 0 (eL 1 k8) λe8=>?_;refine At.M 2 [0,9,10,11] 1 (λp9=>([],[(0,.var (.st 73 [(eA 8 1 k32 p9.1),(eA 64 1 k8 p9.2.1),(j64 p9.2.2)]))],[])) [0,9,10,11] 1 (CU4 (iF N)) (cu4 λs10 s11 s12 s13=>([(5,(eL 1 k8 s13))],[(0,.var (.st 73 [(eA 8 1 k32 s10),(eA 64 1 k8 s11),(j64 s12)]))],[])) (_,_,_,_) N (λp9 k=>un4 λs10 s11 s12 s13=>?_) λp9=>?_
    ·apply lx;intro x14;refine At.c 3 ?_ ?_
     ·refine At.D 0 [] ?_;refine DD.b 8 (λe _=>aRn hT (k:=1) 0 [1] 8 e (by kernel_rfl) (by kernel_rfl)) λs15=>?_;refine bi λv16 hv16=>?_;refine DD.w 1 (j64 (((min s13.length ((64:Int).toNat - (cj s12 64).toNat):Nat):Int))) ⟨[(0,.var (.st 73 [(eA 8 1 k32 s10),(eA 64 1 k8 v16),(j64 s12)]))],[]⟩ (λ_ e=>aD2 hT k8 (id:=0) (path:=[1]) (off:=8) hv16 (pj1 e) (pj1 (pj2 e)) (pj2 (pj2 e))) ?_;apply lx;intro x17;refine De 1 ?_;refine At.B 11 (bSl k8) λs18=>?_;apply lx;intro x19;refine At.c 7 ?_ ?_
      ·refine At.D 0 [] ?_;refine DD.y 9 aF5 λr20=>?_;refine De 3 ?_;exact λh=>At.v 0 (_,_,_,_) h
      ·exact λh=>At.v 0 (_,_,_,_) h
     ·apply rt;exact At.x 0
    ·exact λh=>At.v 2 (_,_,_,_) h
   ·apply rt;exact At.x 0
  ·apply rt;exact At.z 0
def qO(N:Nat)(x3 a0:Int):Nat->(List Int)->Int->Option ((List Int))
 | 0,_,_=>none
 | k+1,s8,s9=>
  cond (decide (s9 < 8)) (
   aN (I64 (((x3.toNat:Int)) - 1)) λx10=>
   aN (shl .u64 (U64 (tA a0 0)) 3) λx11=>
   ae (wY .u64 x11 (I64 (8*s9))) λx12=>
   ae (aO (I64 (x10 - s9)) x3.toNat) λ_=>
   ae (s8[(I64 (x10 - s9)).toNat]?) λe14=>
   qO N x3 a0 k (s8.set ((I64 (x10 - s9)).toNat) (U8 x12)) (I64 (s9+1))) (
   some s8)
def aAW(N:Nat)(a0:Int):Option ((List Int)):=
 aN (cj (tA a0 0) 64) λx1=>
 aN (cj (I64 (119 - x1)) 64) λx2=>
 aN (I64 ((I64 (1+x2))+8)) λx3=>
 ae (mkO 1 x3) λ_=>
 ae (aO 0 x3.toNat) λ_=>
 ae ((aj x3.toNat (0:Int))[(ag 0)]?) λe6=>
 ae (qO N x3 a0 N ((aj x3.toNat (0:Int)).set ((ag 0)) 128) 0) λp7=>
 ae (aF7 p7 x3.toNat) λ_=>
 some p7
theorem aMH{N a0 r}(h:aAW N a0=some r):FnM Tryz.prog 43 [] [(j64 a0)] (eL 1 k8 r) []:=by
 refine Af dK Tryz.func43 h ?_;apply lx;intro x1;apply lx;intro x2;apply lx;intro x3;refine At.b 10 (λ_ e=>aMV hT k8 ((0:Int)) (k:=1) (kd := .int .u8) e (by kernel_rfl) (by kernel_rfl) rfl) λu4=>?_;refine At.b 2 (λ_ e=>aJn hT 0 [] 0 0 x3.toNat (k:=1) e (by kernel_rfl) (by kernel_rfl)) λu5=>?_;refine At.b 0 (λ_ e=>aGP hT k8 0 e 128 (by kernel_rfl) (by kernel_rfl) (by kernel_rfl)) λe6=>?_;refine At.M 1 [3] 1 (λp7=>([],[(0,.var (.arr (x3.toNat*1) 1 (f8 k8 p7)))],[])) [0,3] 1 (CU2 (qO N x3 a0)) (cu2 λs8 s9=>([(16,(j64 s9))],[(0,.var (.arr (x3.toNat*1) 1 (f8 k8 s8)))],[])) (_,_) N (λp7 k=>un2 λs8 s9=>?_) λp7=>?_
 ·refine At.c 1 ?_ ?_
  ·apply lx;intro x10;apply lx;intro x11;refine At.B 13 bSr λx12=>?_;refine At.b 1 (λ_ e=>aJn hT 0 [] 0 0 x3.toNat (k:=1) e (by kernel_rfl) (by kernel_rfl)) λu13=>?_;refine At.b 0 (λ_ e=>aGP hT k8 0 e (U8 x12) (by kernel_rfl) (by kernel_rfl) (by kernel_rfl)) λe14=>?_;exact λh=>At.v 2 (_,_) h
  ·apply rt;exact At.x 0
 ·refine bi λu15 hu15=>?_;refine At.fz 2 0 1 x3.toNat _ (f8 k8 p7) (cg _) (lenM k8 hu15) ?_;apply rt;exact At.r 0
def pA(N:Nat)(r3:(Vector Int 8)×(Vector Int 64)×Int):Nat->(Vector Int 32)->Int->Option ((Vector Int 32))
 | 0,_,_=>none
 | k+1,s5,s6=>
  cond (decide (s6 < 8)) (
   ae (idx r3.1.toList s6) λe7=>
   aN (I64 ((I64 (4*s6))+1)) λx8=>
   aN (I64 ((I64 (4*s6))+2)) λx9=>
   aN (I64 ((I64 (4*s6))+3)) λx10=>
   ae (aO (I64 (4*s6)) 32) λ_=>
   ae (s5.toList[(I64 (4*s6)).toNat]?) λe12=>
   ae (aO x8 32) λ_=>
   ae ((s5.setIfInBounds ((I64 (4*s6)).toNat) (U8 (shr .u32 e7 24))).toList[x8.toNat]?) λe14=>
   ae (aO x9 32) λ_=>
   ae (((s5.setIfInBounds ((I64 (4*s6)).toNat) (U8 (shr .u32 e7 24))).setIfInBounds x8.toNat (U8 (shr .u32 e7 16))).toList[x9.toNat]?) λe16=>
   ae (aO x10 32) λ_=>
   ae ((((s5.setIfInBounds ((I64 (4*s6)).toNat) (U8 (shr .u32 e7 24))).setIfInBounds x8.toNat (U8 (shr .u32 e7 16))).setIfInBounds x9.toNat (U8 (shr .u32 e7 8))).toList[x10.toNat]?) λe18=>
   pA N r3 k ((((s5.setIfInBounds ((I64 (4*s6)).toNat) (U8 (shr .u32 e7 24))).setIfInBounds x8.toNat (U8 (shr .u32 e7 16))).setIfInBounds x9.toNat (U8 (shr .u32 e7 8))).setIfInBounds x10.toNat (U8 e7)) (I64 (s6+1))) (
   some s5)
def nE(N:Nat)(a0:dL):Option ((Vector Int 32)):=
 ae (oL N a0) λr1=>
 cond r1 (
  some (ah 32 0)) (
  ae (aAW N a0.gn) λr2=>
  ae (dW N ([r2]) a0) λr3=>
  ae (pA N r3 N (ah 32 0) 0) λp4=>
  some p4)
theorem zQ{N a0 r}(h:nE N a0=some r):FnM Tryz.prog 19 [.var (dL.enc a0)] [(.ref 0 [] 0)] (eA 32 1 k8 r) [.var (dL.enc a0)]:=by
 refine Af dK Tryz.func19 h ?_;refine At.Y 2 [0] yG λr1=>?_;refine At.c 0 ?_ ?_
 ·apply rt;exact At.r 2
 ·refine At.y 9 aMH λr2=>?_;refine At.O 0 bRw ?_;refine At.Y 0 [2] oP λr3=>?_;refine At.M 4 [2,4] 4 (λp4=>([],[(3,.var (eA 32 1 k8 p4))],[])) [2,4,21] 4 (CU2 (pA N r3)) (cu2 λs5 s6=>([(22,(j64 s6))],[(3,.var (eA 32 1 k8 s5))],[])) (_,_) N (λp4 k=>un2 λs5 s6=>?_) λp4=>?_
  ·refine At.c 1 ?_ ?_
   ·refine At.b 1 (λ_ e=>aGN hT k32 r3.1 e (by kernel_rfl) (by kernel_rfl)) λe7=>?_;apply lx;intro x8;apply lx;intro x9;apply lx;intro x10;refine At.B 24 bAr λu11=>?_;refine At.U 0 (bSv k8 0 (U8 (shr .u32 e7 24))) λe12=>?_;refine At.B 0 bAr λu13=>?_;refine At.U 0 (bSv k8 0 (U8 (shr .u32 e7 16))) λe14=>?_;refine At.B 0 bAr λu15=>?_;refine At.U 0 (bSv k8 0 (U8 (shr .u32 e7 8))) λe16=>?_;refine At.B 0 bAr λu17=>?_;refine At.U 0 (bSv k8 0 (U8 e7)) λe18=>?_;exact λh=>At.v 2 (_,_) h
   ·apply rt;exact At.x 0
  ·apply rt;exact At.r 2
def sF(N:Nat)(a0:(List (List Int))):Option ((Vector Int 32)):=
 ae (aAV N ) λr1=>
 ae (dW N a0 (dL.mk (#v[1779033703,3144134277,1013904242,2773480762,1359893119,2600822924,528734635,1541459225]) (ah 64 0) 0)) λr2=>
 ae (nE N (dL.mk r2.1 r2.2.1 r2.2.2)) λr3=>
 some r3
theorem aAq{N a0 r}(h:sF N a0=some r):FnM Tryz.prog 10 [] [(eL 1 (eL 1 k8) a0)] (eA 32 1 k8 r) []:=by
 refine Af dK Tryz.func10 h ?_;refine At.Y 1 [] aGX λr1=>?_;refine At.Y 3 [1] oP λr2=>?_;refine At.Y 1 [1] zQ λr3=>?_;apply rt;exact At.r 1
def rT(N:Nat)(x2 a0:Int):Nat->(List Int)->Int->Option ((List Int))
 | 0,_,_=>none
 | k+1,s4,s5=>
  cond (decide (s5 < x2)) (
   ae (wY .i64 a0 (I64 (8*s5))) λx6=>
   ae (aO s5 (ag 8)) λ_=>
   ae (s4[s5.toNat]?) λe8=>
   rT N x2 a0 k (s4.set s5.toNat (U8 x6)) (I64 (s5+1))) (
   some s4)
def wQ(N:Nat)(a0:Int):Option ((List Int)):=
 ae (mkO 1 8) λ_=>
 aN (((8:Int).toNat:Int)) λx2=>
 ae (rT N x2 a0 N (aj (ag 8) (0:Int)) 0) λp3=>
 ae (aF7 p3 (ag 8)) λ_=>
 some p3
theorem aDw{N a0 r}(h:wQ N a0=some r):FnM Tryz.prog 52 [] [(j64 a0)] (eL 1 k8 r) []:=by
 refine Af dK Tryz.func52 h ?_;refine At.b 1 (λ_ e=>aMV hT k8 ((0:Int)) (k:=1) (kd := .int .u8) e (by kernel_rfl) (by kernel_rfl) rfl) λu1=>?_;apply lx;intro x2;refine At.M 4 [3] 1 (λp3=>([],[(0,.var (.arr ((ag 8)*1) 1 (f8 k8 p3)))],[])) [0,3,7] 1 (CU2 (rT N x2 a0)) (cu2 λs4 s5=>([(8,(j64 s5))],[(0,.var (.arr ((ag 8)*1) 1 (f8 k8 s4)))],[])) (_,_) N (λp3 k=>un2 λs4 s5=>?_) λp3=>?_
 ·refine At.c 1 ?_ ?_
  ·refine At.B 7 bSr λx6=>?_;refine At.b 1 (λ_ e=>aJn hT 0 [] 0 0 (ag 8) (k:=1) e (by kernel_rfl) (by kernel_rfl)) λu7=>?_;refine At.b 0 (λ_ e=>aGP hT k8 0 e (U8 x6) (by kernel_rfl) (by kernel_rfl) (by kernel_rfl)) λe8=>?_;exact λh=>At.v 2 (_,_) h
  ·apply rt;exact At.x 0
 ·refine bi λu9 hu9=>?_;refine At.fz 2 0 1 (ag 8) _ (f8 k8 p3) (cg _) (lenM k8 hu9) ?_;apply rt;exact At.r 0
def qU(N:Nat)  : Nat->(Vector Int 64)->(Vector Int 64)->Int->Option ((Vector Int 64)×(Vector Int 64))
 | 0,_,_,_=>none
 | k+1,s9,s10,s11=>
  cond (decide (s11 < 64)) (
   ae (aO s11 64) λ_=>
   ae (s9.toList[s11.toNat]?) λe13=>
   ae (aO s11 64) λ_=>
   ae (s9.toList[s11.toNat]?) λe15=>
   ae (aO s11 64) λ_=>
   ae (s10.toList[s11.toNat]?) λe17=>
   ae (aO s11 64) λ_=>
   ae (s10.toList[s11.toNat]?) λe19=>
   qU N k (s9.setIfInBounds s11.toNat (fG .u8 e13 54)) (s10.setIfInBounds s11.toNat (fG .u8 e17 92)) (I64 (s11+1))) (
   some ((s9,s10)))
def aAu(N:Nat)(a0:(List Int)):Option ((Vector Int 64)×(Vector Int 64)):=
 ae (aN (decide (((a0.length:Int)) > 64)) λx2=>
 cond x2 (
  ae (sF N ([a0])) λr3=>
  ae (dM r3.toList 0 32) λs5=>
  some s5) (
  some a0)) λp1=>
 ae (aE7 64 0 64) λ_=>
 ae (cpV (ah 64 0) p1 0 64) λv7=>
 ae (qU N N v7 v7 0) λp8=>
 some ((p8.1,p8.2))
theorem aKT{N a0 r}(h:aAu N a0=some r):FnM Tryz.prog 83 [] [(eL 1 k8 a0)] (.tup [(eA 64 1 k8 r.1),(eA 64 1 k8 r.2)]) []:=by
 refine Af dK Tryz.func83 h ?_;refine At.J 2 1 [2,3] 2 (λp1=>([(0,(eL 1 k8 p1))],[],[])) (λp1=>?_) λp1=>?_
 ·apply lx;intro x2;refine At.c 3 ?_ ?_
  ·refine At.O 1 bRw ?_;refine At.y 0 aAq λr3=>?_;refine At.gz 2 2 ((eA 32 1 k8 r3)) ?_;refine At.B 0 (bSI k8) λs5=>?_;apply rt;exact At.jn 1
  ·apply rt;exact At.jn 0
 ·refine At.b 0 (λ_ e=>aGJ hT (k:=1) 0 [] 0 e (by kernel_rfl) (by kernel_rfl) (by decide)) λs6=>?_;refine At.b 1 (λv7 e=>aD2 hT k8 (id:=0) (path:=[]) (off:=0) (H':=[.var (eA 64 1 k8 v7),.var (eA 64 1 k8 (ah 64 0))]) e (by kernel_rfl) (by kernel_rfl) (by kernel_rfl)) λv7=>?_;refine At.M 3 [2,3] 2 (λp8=>([],[(0,.var (eA 64 1 k8 p8.1)),(1,.var (eA 64 1 k8 p8.2))],[])) [2,3] 2 (CU3 (qU N)) (cu3 λs9 s10 s11=>([(17,(j64 s11))],[(0,.var (eA 64 1 k8 s9)),(1,.var (eA 64 1 k8 s10))],[])) (_,_,_) N (λp8 k=>un3 λs9 s10 s11=>?_) λp8=>?_
  ·refine At.c 1 ?_ ?_
   ·refine At.B 3 bAr λu12=>?_;refine At.U 0 (bLd k8 0) λe13=>?_;refine At.B 1 bAr λu14=>?_;refine At.U 0 (bSv k8 0 (fG .u8 e13 54)) λe15=>?_;refine At.B 1 bAr λu16=>?_;refine At.U 0 (bLd k8 0) λe17=>?_;refine At.B 1 bAr λu18=>?_;refine At.U 0 (bSv k8 0 (fG .u8 e17 92)) λe19=>?_;exact λh=>At.v 2 (_,_,_) h
   ·apply rt;exact At.x 0
  ·refine At.D 0 [] ?_;refine De 4 ?_;apply rt;exact At.r 0
def aB2(N:Nat)(a0:(List Int))(a1:(List (List Int))):Option ((Vector Int 32)):=
 ae (aAu N a0) λr1=>
 ae (aAV N ) λr2=>
 ae (dM r1.1.toList 0 64) λs4=>
 ae (dW N ([s4]) (dL.mk (#v[1779033703,3144134277,1013904242,2773480762,1359893119,2600822924,528734635,1541459225]) (ah 64 0) 0)) λr5=>
 ae (dW N a1 (dL.mk r5.1 r5.2.1 r5.2.2)) λr6=>
 ae (nE N (dL.mk r6.1 r6.2.1 r6.2.2)) λr7=>
 ae (dM r1.2.toList 0 64) λs8=>
 ae (dM r7.toList 0 32) λs9=>
 ae (sF N ([s8,s9])) λr10=>
 some r10
theorem aMY{N a0 a1 r}(h:aB2 N a0 a1=some r):FnM Tryz.prog 53 [] [(eL 1 k8 a0),(eL 1 (eL 1 k8) a1)] (eA 32 1 k8 r) []:=by
 refine Af dK Tryz.func53 h ?_;refine At.y 2 aKT λr1=>?_;refine At.Y 7 [] aGX λr2=>?_;refine At.gz 2 1 ((eA 64 1 k8 r1.1)) ?_;refine At.B 0 (bSI k8) λs4=>?_;refine At.O 0 bRw ?_;refine At.Y 0 [3] oP λr5=>?_;refine At.Y 2 [3] oP λr6=>?_;refine At.Y 1 [3] zQ λr7=>?_;refine At.gz 2 2 ((eA 64 1 k8 r1.2)) ?_;refine At.gz 0 4 ((eA 32 1 k8 r7)) ?_;refine At.D 0 [] ?_;refine DD.B 0 (bSI k8) λs8=>?_;refine DD.B 0 (bSI k8) λs9=>?_;refine DD.O 0 bRw ?_;refine DD.y 0 aAq λr10=>?_;refine De 1 ?_;apply rt;exact At.r 0
def aJH : Nat->Bool:=imL [3]
def oC(N:Nat)(a2:(List (List Int))):Nat->(List (List Int))->Int->Option ((List (List Int)))
 | 0,_,_=>none
 | k+1,s4,s5=>
  aN (decide (s5 < ((a2.length:Int)))) λx6=>
  cond x6 (
   ae (idx a2 s5) λe7=>
   ae (wQ N ((e7.length:Int))) λr8=>
   ae (fL 24 s4 (([r8,e7]:List (List Int)))) λz9=>
   oC N a2 k z9 (I64 (s5+1))) (
   some s4)
def uD(N:Nat)(a0:(Vector Int 32))(a1:ByteArray)(a2:(List (List Int))):Option ((Vector Int 32)):=
 aN ((ByteArray.size a1:Int)) λx1=>
 ae (wQ N x1) λr2=>
 ae (oC N a2 N (([r2,tB a1]:List (List Int))) 0) λp3=>
 ae (dM a0.toList 0 32) λs10=>
 ae (aB2 N s10 p3) λr11=>
 some r11
theorem aCn{N a0 a1 a2 r}(h:uD N a0 a1 a2=some r):FnM Tryz.prog 28 [] [(eA 32 1 k8 a0),(eS a1),(eL 1 (eL 1 k8) a2)] (eA 32 1 k8 r) []:=by
 refine Af aJH Tryz.func28 h ?_;apply lx;intro x1;refine At.y 4 aDw λr2=>?_;refine At.o 1 (aNv hT a1 (e:=5) (by kernel_rfl) (by kernel_rfl)) ?_;refine At.o 0 (oJ hT (eL 1 k8) (k:=1) ([r2,tB a1]:List (List Int)) (by kernel_rfl) (by kernel_rfl)) ?_;refine At.M 4 [3,6] 2 (λp3=>([(7,(eO 1 1 (eL 1 k8) p3))],[(1,.tail (p3.length*1))],[])) [3,6,16,17] 2 (CU2 (oC N a2)) (cu2 λs4 s5=>([(7,(eO 1 1 (eL 1 k8) s4)),(18,(j64 s5))],[(1,.tail (s4.length*1))],[])) (_,_) N (λp3 k=>un2 λs4 s5=>?_) λp3=>?_
 ·apply lx;intro x6;refine At.c 1 ?_ ?_
  ·refine At.i hT 0 (eL 1 k8) λe7=>?_;refine At.y 5 aDw λr8=>?_;refine At.O 1 bRw ?_;refine At.U 0 (bAp (eL 1 k8)) λz9=>?_;exact λh=>At.v 3 (_,_) h
  ·apply rt;exact At.x 0
 ·refine At.B 0 (bSI k8) λs10=>?_;refine At.y 1 aMY λr11=>?_;apply rt;exact At.r 1
def aF8 : Nat->Bool:=imL [1]
def tM(N:Nat)(a0:(Vector Int 32)):Option ((Vector Int 32)):=
 ae (uD N a0 aHn []) λr1=>
 some r1
theorem aAZ{N a0 r}(h:tM N a0=some r):FnM Tryz.prog 12 [] [(eA 32 1 k8 a0)] (eA 32 1 k8 r) []:=by
 refine Af aF8 Tryz.func12 h ?_;refine At.y 3 aCn λr1=>?_;apply rt;exact At.r 1
def aH8 : Nat->Bool:=imL [1]
def pU(N:Nat)(a0:aA):Option (Bool):=
 ae (aN (decide ((tA (tA a0.gX a0.gY) a0.gZ) > 4096)) λx2=>
 cond x2 (
  some true) (
  aN (decide ((lH (lH a0.gX a0.gY) a0.gZ) < (-4096))) λx3=>
  some x3)) λp1=>
 some p1
theorem aGB{N a0 r}(h:pU N a0=some r):FnM Tryz.prog 136 [] [(aA.enc a0)] (eB r) []:=by
 refine Af aH8 Tryz.func136 h ?_;refine At.J 2 0 [] 0 (λp1=>([(2,(eB p1))],[],[])) (λp1=>?_) λp1=>?_
 ·refine At.o 6 (aDl (k := .i64) (i:=a0.gX) (j:=a0.gY) (l:=a0.gZ) (by kernel_rfl) (by kernel_rfl)) ?_;apply lx;intro x2;refine At.s 11 2 ?_ ?_
  ·refine At.g [11] 10 ?_;apply rt;exact At.jn 0
  ·refine At.g [11] 6 ?_;refine At.o 0 (aDd (k := .i64) (i:=a0.gX) (j:=a0.gY) (l:=a0.gZ) (by kernel_rfl) (by kernel_rfl)) ?_;apply lx;intro x3;refine At.g [11] 3 ?_;apply rt;exact At.jn 0
 ·apply rt;exact At.r 0
def aU(N:Nat)(a0:(List aA)):Nat->Int->Option (Sum (Unit) (Int))
 | 0,_=>none
 | k+1,s2=>
  aN (decide (s2 < ((a0.length:Int)))) λx3=>
  cond x3 (
   ae (idx a0 s2) λe4=>
   ae (pU N e4) λr5=>
   cond r5 (
    some (Sum.inr s2)) (
    aU N a0 k (I64 (s2+1)))) (
   some (Sum.inl (())))
def cD(N:Nat)(a0:(List aA)):Option (Int):=
 ae (aU N a0 N 0) λo=>mW o (λp1=>
  some (-1)) (λr=>some r)
theorem oO{N a0 r}(h:cD N a0=some r):FnM Tryz.prog 167 [] [(eL 3 aA.enc a0),(.fn (.func 136) [] [])] (j64 r) []:=by
 refine Af dK Tryz.func167 h ?_;refine At.MS 4 [] 0 (λp1=>([],[],[])) [0,1,7] 0 (aU N a0) (λ(s2:Int)=>([(8,(j64 s2))],[],[])) _ N (λop1 g1 k s2=>?_) λp1=>?_
 ·apply lx;intro x3;refine At.c 1 ?_ ?_
  ·refine At.i hT 5 aA.enc λe4=>?_;refine At.y 1 aGB λr5=>?_;refine At.c 0 ?_ ?_
   ·intro e;apply xB g1 e;exact At.r 2
   ·exact λh=>At.v 2 _ h
  ·apply rt;exact At.xs 0
 ·apply rt;exact At.r 1
def cA(N:Nat)(a0:(List aA)):Option (Bool):=
 ae (cD N a0) λr1=>
 some (decide (r1>=0))
theorem nL{N a0 r}(h:cA N a0=some r):FnM Tryz.prog 139 [] [(eL 3 aA.enc a0),(.fn (.func 136) [] [])] (eB r) []:=by
 refine Af dK Tryz.func139 h ?_;refine At.y 3 oO λr1=>?_;apply rt;exact At.r 2
def aG8 : Nat->Bool:=imL [1]
def qB(N:Nat)(a0:(Vector Int 2)):Option (Bool):=
 ae (ae (idx a0.toList 0) λe2=>
 ae (idx a0.toList 1) λe3=>
 aN (decide ((lH e2 e3) < 0)) λx4=>
 cond x4 (
  some true) (
  ae (idx a0.toList 0) λe5=>
  ae (idx a0.toList 1) λe6=>
  aN (decide ((tA e5 e6) > 65535)) λx7=>
  some x7)) λp1=>
 some p1
theorem aFu{N a0 r}(h:qB N a0=some r):FnM Tryz.prog 137 [] [(eA 2 1 j64 a0)] (eB r) []:=by
 refine Af aG8 Tryz.func137 h ?_;refine At.J 2 0 [] 0 (λp1=>([(2,(eB p1))],[],[])) (λp1=>?_) λp1=>?_
 ·refine At.B 0 (bAi j64) λe2=>?_;refine At.B 1 (bAi j64) λe3=>?_;apply lx;intro x4;refine At.s 9 4 ?_ ?_
  ·refine At.g [9] 8 ?_;apply rt;exact At.jn 0
  ·refine At.B 0 (bAi j64) λe5=>?_;refine At.g [9] 1 ?_;refine At.B 0 (bAi j64) λe6=>?_;apply lx;intro x7;refine At.g [9] 5 ?_;apply rt;exact At.jn 0
 ·apply rt;exact At.r 0
def bC(N:Nat)(a0:(List (Vector Int 2))):Nat->Int->Option (Sum (Unit) (Int))
 | 0,_=>none
 | k+1,s2=>
  aN (decide (s2 < ((a0.length:Int)))) λx3=>
  cond x3 (
   ae (idx a0 s2) λe4=>
   ae (qB N e4) λr5=>
   cond r5 (
    some (Sum.inr s2)) (
    bC N a0 k (I64 (s2+1)))) (
   some (Sum.inl (())))
def dE(N:Nat)(a0:(List (Vector Int 2))):Option (Int):=
 ae (bC N a0 N 0) λo=>mW o (λp1=>
  some (-1)) (λr=>some r)
theorem rN{N a0 r}(h:dE N a0=some r):FnM Tryz.prog 168 [] [(eL 2 (eA 2 1 j64) a0),(.fn (.func 137) [] [])] (j64 r) []:=by
 refine Af dK Tryz.func168 h ?_;refine At.MS 4 [] 0 (λp1=>([],[],[])) [0,1,7] 0 (bC N a0) (λ(s2:Int)=>([(8,(j64 s2))],[],[])) _ N (λop1 g1 k s2=>?_) λp1=>?_
 ·apply lx;intro x3;refine At.c 1 ?_ ?_
  ·refine At.i hT 5 (eA 2 1 j64) λe4=>?_;refine At.y 1 aFu λr5=>?_;refine At.c 0 ?_ ?_
   ·intro e;apply xB g1 e;exact At.r 2
   ·exact λh=>At.v 2 _ h
  ·apply rt;exact At.xs 0
 ·apply rt;exact At.r 1
def cR(N:Nat)(a0:(List (Vector Int 2))):Option (Bool):=
 ae (dE N a0) λr1=>
 some (decide (r1>=0))
theorem qH{N a0 r}(h:cR N a0=some r):FnM Tryz.prog 140 [] [(eL 2 (eA 2 1 j64) a0),(.fn (.func 137) [] [])] (eB r) []:=by
 refine Af dK Tryz.func140 h ?_;refine At.y 3 rN λr1=>?_;apply rt;exact At.r 2
def aEP : Nat->Bool:=imL [2]
def lZ(N:Nat)(a0:(Vector Int 3))(a1:aP):Option (Bool):=
 ae (ae (idx a0.toList 0) λe2=>
 ae (idx a0.toList 1) λe3=>
 ae (idx a0.toList 2) λe4=>
 aN (decide ((lH (lH e2 e3) e4) < 0)) λx5=>
 cond x5 (
  some true) (
  ae (idx a0.toList 0) λe6=>
  ae (idx a0.toList 1) λe7=>
  ae (idx a0.toList 2) λe8=>
  aN ((a1.gF.length:Int)) λx9=>
  aN (decide ((tA (tA e6 e7) e8)>=x9)) λx10=>
  cond x10 (
   some true) (
   ae (idx a0.toList 0) λe11=>
   ae (idx a0.toList 1) λe12=>
   cond (e11==e12) (
    some true) (
    ae (idx a0.toList 1) λe13=>
    ae (idx a0.toList 2) λe14=>
    cond (e13==e14) (
     some true) (
     ae (idx a0.toList 2) λe15=>
     ae (idx a0.toList 0) λe16=>
     some (e15==e16)))))) λp1=>
 some p1
theorem aDO{N a0 a1 r}(h:lZ N a0 a1=some r):FnM Tryz.prog 138 [] [(eA 3 1 j64 a0),(.im (aP.enc a1))] (eB r) []:=by
 refine Af aEP Tryz.func138 h ?_;refine At.J 2 0 [] 0 (λp1=>([(3,(eB p1))],[],[])) (λp1=>?_) λp1=>?_
 ·refine At.B 0 (bAi j64) λe2=>?_;refine At.B 1 (bAi j64) λe3=>?_;refine At.B 1 (bAi j64) λe4=>?_;refine At.o 1 (aDd (k := .i64) (i:=e2) (j:=e3) (l:=e4) (by kernel_rfl) (by kernel_rfl)) ?_;apply lx;intro x5;refine At.s 12 2 ?_ ?_
  ·refine At.g [12,25,32,39] 34 ?_;apply rt;exact At.jn 0
  ·refine At.B 0 (bAi j64) λe6=>?_;refine At.g [12] 1 ?_;refine At.B 0 (bAi j64) λe7=>?_;refine At.g [12] 1 ?_;refine At.B 0 (bAi j64) λe8=>?_;refine At.g [12] 1 ?_;refine At.o 0 (aDl (k := .i64) (i:=e6) (j:=e7) (l:=e8) (by kernel_rfl) (by kernel_rfl)) ?_;apply lx;intro x9;apply lx;intro x10;refine At.g [12] 6 ?_;refine At.s 25 0 ?_ ?_
   ·refine At.g [25,32,39] 21 ?_;apply rt;exact At.jn 0
   ·refine At.B 0 (bAi j64) λe11=>?_;refine At.g [25] 1 ?_;refine At.B 0 (bAi j64) λe12=>?_;refine At.g [25] 4 ?_;refine At.s 32 0 ?_ ?_
    ·refine At.g [32,39] 14 ?_;apply rt;exact At.jn 0
    ·refine At.B 0 (bAi j64) λe13=>?_;refine At.g [32] 1 ?_;refine At.B 0 (bAi j64) λe14=>?_;refine At.g [32] 4 ?_;refine At.s 39 0 ?_ ?_
     ·refine At.g [39] 7 ?_;apply rt;exact At.jn 0
     ·refine At.B 0 (bAi j64) λe15=>?_;refine At.g [39] 1 ?_;refine At.B 0 (bAi j64) λe16=>?_;refine At.g [39] 4 ?_;apply rt;exact At.jn 0
 ·apply rt;exact At.r 0
def bB(N:Nat)(a0:(List (Vector Int 3)))(a1:aP):Nat->Int->Option (Sum (Unit) (Int))
 | 0,_=>none
 | k+1,s2=>
  aN (decide (s2 < ((a0.length:Int)))) λx3=>
  cond x3 (
   ae (idx a0 s2) λe4=>
   ae (lZ N e4 a1) λr5=>
   cond r5 (
    some (Sum.inr s2)) (
    bB N a0 a1 k (I64 (s2+1)))) (
   some (Sum.inl (())))
def dI(N:Nat)(a0:(List (Vector Int 3)))(a1:aP):Option (Int):=
 ae (bB N a0 a1 N 0) λo=>mW o (λp1=>
  some (-1)) (λr=>some r)
theorem rL{N a0 a1 r}(h:dI N a0 a1=some r):FnM Tryz.prog 169 [] [(eL 3 (eA 3 1 j64) a0),(.fn (.func 138) [] [(.im (aP.enc a1))])] (j64 r) []:=by
 refine Af dK Tryz.func169 h ?_;refine At.MS 4 [] 0 (λp1=>([],[],[])) [0,1,7] 0 (bB N a0 a1) (λ(s2:Int)=>([(8,(j64 s2))],[],[])) _ N (λop1 g1 k s2=>?_) λp1=>?_
 ·apply lx;intro x3;refine At.c 1 ?_ ?_
  ·refine At.i hT 5 (eA 3 1 j64) λe4=>?_;refine At.y 1 aDO λr5=>?_;refine At.c 0 ?_ ?_
   ·intro e;apply xB g1 e;exact At.r 2
   ·exact λh=>At.v 2 _ h
  ·apply rt;exact At.xs 0
 ·apply rt;exact At.r 1
def cS(N:Nat)(a0:(List (Vector Int 3)))(a1:aP):Option (Bool):=
 ae (dI N a0 a1) λr1=>
 some (decide (r1>=0))
theorem qM{N a0 a1 r}(h:cS N a0 a1=some r):FnM Tryz.prog 141 [] [(eL 3 (eA 3 1 j64) a0),(.fn (.func 138) [] [(.im (aP.enc a1))])] (eB r) []:=by
 refine Af dK Tryz.func141 h ?_;refine At.y 3 rL λr1=>?_;apply rt;exact At.r 2
def aJV : Nat->Bool:=imL [1]
def lN(N:Nat)(a0:aP):Option (Int):=
 aN ((a0.gF.length:Int)) λx1=>
 aN ((a0.gJ.length:Int)) λx2=>
 aN (cond (decide (x1 > 64)) true (decide (x2 > 64))) λx3=>
 cond x3 (
  some 3) (
  aN ((a0.gF.length:Int)) λx4=>
  aN ((a0.gJ.length:Int)) λx5=>
  aN (cond (x4==0) true (x5==0)) λx6=>
  aN ((a0.gF.length:Int)) λx7=>
  aN (((a0.gL.length:Int)) != x7) λx8=>
  cond (cond x6 true x8) (
   some 5) (
   ae (cA N a0.gF) λr9=>
   cond r9 (
    some 8) (
    ae (ae (cR N a0.gL) λr11=>
    cond r11 (
     some true) (
     ae (cS N a0.gJ a0) λr12=>
     some r12)) λp10=>
    cond p10 (some 5) (some 0))))
theorem aCt{N a0 r}(h:lN N a0=some r):FnM Tryz.prog 105 [] [(aP.enc a0)] (j64 r) []:=by
 refine Af aJV Tryz.func105 h ?_;refine At.o 4 (aJo (x:=(.fn (.func 138) [] [(.im (aP.enc a0))])) (by kernel_rfl) (by kernel_rfl)) ?_;apply lx;intro x1;apply lx;intro x2;apply lx;intro x3;refine At.c 12 ?_ ?_
 ·apply rt;exact At.r 1
 ·apply lx;intro x4;apply lx;intro x5;apply lx;intro x6;apply lx;intro x7;apply lx;intro x8;refine At.c 20 ?_ ?_
  ·apply rt;exact At.r 1
  ·refine At.y 3 nL λr9=>?_;refine At.c 1 ?_ ?_
   ·apply rt;exact At.r 1
   ·refine At.J 0 0 [] 0 (λp10=>([(43,(eB p10))],[],[])) (λp10=>?_) λp10=>?_
    ·refine At.y 3 qH λr11=>?_;refine At.s 48 1 ?_ ?_
     ·refine At.g [48] 6 ?_;apply rt;exact At.jn 0
     ·refine At.g [48] 3 ?_;refine At.y 0 qM λr12=>?_;refine At.g [48] 2 ?_;apply rt;exact At.jn 0
    ·refine At.c 0 ?_ ?_
     ·apply rt;exact At.r 1
     ·apply rt;exact At.r 1
def cJ(N:Nat)(a0:(List Int))(a1:Int):Nat->Int->Option (Sum (Unit) (Int))
 | 0,_=>none
 | k+1,s2=>
  aN (decide (s2 < ((a0.length:Int)))) λx3=>
  cond x3 (
   ae (idx a0 s2) λe4=>
   cond (a1==e4) (
    some (Sum.inr s2)) (
    cJ N a0 a1 k (I64 (s2+1)))) (
   some (Sum.inl (())))
def mU(N:Nat)(a0:(List Int))(a1:Int):Option (Int):=
 ae (cJ N a0 a1 N 0) λo=>mW o (λp1=>
  some (-1)) (λr=>some r)
theorem aAc{N a0 a1 r}(h:mU N a0 a1=some r):FnM Tryz.prog 170 [] [(eL 1 j64 a0),(j64 a1)] (j64 r) []:=by
 refine Af dK Tryz.func170 h ?_;refine At.MS 4 [] 0 (λp1=>([],[],[])) [0,1,7] 0 (cJ N a0 a1) (λ(s2:Int)=>([(8,(j64 s2))],[],[])) _ N (λop1 g1 k s2=>?_) λp1=>?_
 ·apply lx;intro x3;refine At.c 1 ?_ ?_
  ·refine At.i hT 5 j64 λe4=>?_;refine At.c 2 ?_ ?_
   ·intro e;apply xB g1 e;exact At.r 2
   ·exact λh=>At.v 2 _ h
  ·apply rt;exact At.xs 0
 ·apply rt;exact At.r 1
def iH(N:Nat)(a0:(List Int))(a1:Int):Option (Bool):=
 ae (mU N a0 a1) λr1=>
 some (decide (r1>=0))
theorem yP{N a0 a1 r}(h:iH N a0 a1=some r):FnM Tryz.prog 142 [] [(eL 1 j64 a0),(j64 a1)] (eB r) []:=by
 refine Af dK Tryz.func142 h ?_;refine At.y 3 aAc λr1=>?_;apply rt;exact At.r 2
def aGD : Nat->Bool:=imL [1]
def fP(N:Nat)(x5:Int)(a0:aK):Nat->Int->Option (Sum (Unit) (Int))
 | 0,_=>none
 | k+1,s7=>
  cond (decide (s7 < x5)) (
   ae (idx a0.gK s7) λe8=>
   ae (ae (aO 0 3) λ_=>
   ae (e8.toList[(ag 0)]?) λe11=>
   ae (aO 1 3) λ_=>
   ae (e8.toList[(ag 1)]?) λe13=>
   ae (aO 2 3) λ_=>
   ae (e8.toList[(ag 2)]?) λe15=>
   aN (decide ((lH (lH e11 e13) e15) < 0)) λx16=>
   cond x16 (
    some true) (
    ae (aO 0 3) λ_=>
    ae (e8.toList[(ag 0)]?) λe18=>
    ae (aO 1 3) λ_=>
    ae (e8.toList[(ag 1)]?) λe20=>
    ae (aO 2 3) λ_=>
    ae (e8.toList[(ag 2)]?) λe22=>
    aN (decide ((tA (tA e18 e20) e22) > 255)) λx23=>
    some x23)) λp9=>
   cond p9 (some (Sum.inr 5)) (fP N x5 a0 k (I64 (s7+1)))) (
   some (Sum.inl (())))
def eU(N:Nat)(a0:aK):Option (Int):=
 ae (iH N ([1,2,4,8,16]) a0.gO) λr1=>
 aN ((a0.gK.length:Int)) λx2=>
 aN (I64 (a0.gO*a0.gO)) λx3=>
 aN (cond (!r1) true (x2 != x3)) λx4=>
 cond x4 (
  some 5) (
  aN ((a0.gK.length:Int)) λx5=>
  ae (fP N x5 a0 N 0) λo=>mW o (λp6=>
   some 0) (λr=>some r))
theorem aAS{N a0 r}(h:eU N a0=some r):FnM Tryz.prog 106 [] [(aK.enc a0)] (j64 r) []:=by
 refine Af aGD Tryz.func106 h ?_;refine At.O 2 bRw ?_;refine At.y 2 yP λr1=>?_;apply lx;intro x2;apply lx;intro x3;apply lx;intro x4;refine At.c 12 ?_ ?_
 ·apply rt;exact At.r 1
 ·apply lx;intro x5;refine At.MS 4 [] 0 (λp6=>([],[],[])) [22,23] 0 (fP N x5 a0) (λ(s7:Int)=>([(24,(j64 s7))],[],[])) _ N (λop6 g6 k s7=>?_) λp6=>?_
  ·refine At.c 1 ?_ ?_
   ·refine At.i hT 0 (eA 3 1 j64) λe8=>?_;refine At.J 3 0 [22,23,24] 1 (λp9=>([(45,(eB p9))],[],[])) (λp9=>?_) λp9=>?_
    ·refine At.B 0 bAr λu10=>?_;refine At.U 0 (bLd j64 0) λe11=>?_;refine At.B 0 bAr λu12=>?_;refine At.U 0 (bLd j64 0) λe13=>?_;refine At.B 0 bAr λu14=>?_;refine At.U 0 (bLd j64 0) λe15=>?_;refine At.o 0 (aDd (k := .i64) (i:=e11) (j:=e13) (l:=e15) (by kernel_rfl) (by kernel_rfl)) ?_;apply lx;intro x16;refine At.s 36 2 ?_ ?_
     ·refine At.g [36] 9 ?_;apply rt;exact At.jn 0
     ·refine At.B 0 bAr λu17=>?_;refine At.U 0 (bLd j64 0) λe18=>?_;refine At.B 0 bAr λu19=>?_;refine At.U 0 (bLd j64 0) λe20=>?_;refine At.B 0 bAr λu21=>?_;refine At.U 0 (bLd j64 0) λe22=>?_;refine At.o 0 (aDl (k := .i64) (i:=e18) (j:=e20) (l:=e22) (by kernel_rfl) (by kernel_rfl)) ?_;apply lx;intro x23;refine At.g [36] 2 ?_;apply rt;exact At.jn 0
    ·refine At.c 0 ?_ ?_
     ·intro e;apply xB g6 e;exact At.r 1
     ·exact λh=>At.v 2 _ h
   ·apply rt;exact At.xs 0
  ·apply rt;exact At.r 1
def rU(N:Nat)(a0 a1:Int):Option (Bool):=
 aN (cond (decide (a0 < 0)) true (decide (a0 > a1))) λx1=>
 some x1
theorem aBB{N a0 a1 r}(h:rU N a0 a1=some r):FnM Tryz.prog 172 [] [(j64 a0),(.im (j64 a1))] (eB r) []:=by
 refine Af dK Tryz.func172 h ?_;apply lx;intro x1;apply rt;exact At.r 9
def bF(N:Nat)(a0:(List Int))(a1:Int):Nat->Int->Option (Sum (Unit) (Int))
 | 0,_=>none
 | k+1,s2=>
  aN (decide (s2 < ((a0.length:Int)))) λx3=>
  cond x3 (
   ae (idx a0 s2) λe4=>
   ae (rU N e4 a1) λr5=>
   cond r5 (
    some (Sum.inr s2)) (
    bF N a0 a1 k (I64 (s2+1)))) (
   some (Sum.inl (())))
def dU(N:Nat)(a0:(List Int))(a1:Int):Option (Int):=
 ae (bF N a0 a1 N 0) λo=>mW o (λp1=>
  some (-1)) (λr=>some r)
theorem sM{N a0 a1 r}(h:dU N a0 a1=some r):FnM Tryz.prog 189 [] [(eL 1 j64 a0),(.fn (.func 172) [] [(.im (j64 a1))])] (j64 r) []:=by
 refine Af dK Tryz.func189 h ?_;refine At.MS 4 [] 0 (λp1=>([],[],[])) [0,1,7] 0 (bF N a0 a1) (λ(s2:Int)=>([(8,(j64 s2))],[],[])) _ N (λop1 g1 k s2=>?_) λp1=>?_
 ·apply lx;intro x3;refine At.c 1 ?_ ?_
  ·refine At.i hT 5 j64 λe4=>?_;refine At.y 1 aBB λr5=>?_;refine At.c 0 ?_ ?_
   ·intro e;apply xB g1 e;exact At.r 2
   ·exact λh=>At.v 2 _ h
  ·apply rt;exact At.xs 0
 ·apply rt;exact At.r 1
def cX(N:Nat)(a0:(List Int))(a1:Int):Option (Bool):=
 ae (dU N a0 a1) λr1=>
 some (decide (r1>=0))
theorem qZ{N a0 a1 r}(h:cX N a0 a1=some r):FnM Tryz.prog 171 [] [(eL 1 j64 a0),(.fn (.func 172) [] [(.im (j64 a1))])] (eB r) []:=by
 refine Af dK Tryz.func171 h ?_;refine At.y 3 sM λr1=>?_;apply rt;exact At.r 2
def aGC : Nat->Bool:=imL [2]
def jF(N:Nat)(a0:Int)(a1:(List Int)):Option (Bool):=
 ae (cX N a1 a0) λr1=>
 some r1
theorem sH{N a0 a1 r}(h:jF N a0 a1=some r):FnM Tryz.prog 143 [] [(j64 a0),(eL 1 j64 a1)] (eB r) []:=by
 refine Af aGC Tryz.func143 h ?_;refine At.o 3 (aJo (x:=(.fn (.func 172) [] [(.im (j64 a0))])) (by kernel_rfl) (by kernel_rfl)) ?_;refine At.y 0 qZ λr1=>?_;apply rt;exact At.r 1
def aE0 : Nat->Bool:=imL [1]
def nH(N:Nat)(a0:aD):Option (Int):=
 ae (ae (jF N 4 ([a0.gC])) λr2=>
 cond r2 (
  some true) (
  ae (idx a0.gE.toList 0) λe3=>
  ae (idx a0.gE.toList 1) λe4=>
  ae (idx a0.gE.toList 2) λe5=>
  ae (jF N 65535 ([e3,e4,e5,a0.gA5])) λr6=>
  some r6)) λp1=>
 cond p1 (some 5) (some 0)
theorem aDq{N a0 r}(h:nH N a0=some r):FnM Tryz.prog 107 [] [(aD.enc a0)] (j64 r) []:=by
 refine Af aE0 Tryz.func107 h ?_;refine At.J 2 0 [] 0 (λp1=>([(21,(eB p1))],[],[])) (λp1=>?_) λp1=>?_
 ·refine At.O 2 bRw ?_;refine At.y 0 sH λr2=>?_;refine At.s 7 1 ?_ ?_
  ·refine At.g [7] 14 ?_;apply rt;exact At.jn 0
  ·refine At.g [7] 1 ?_;refine At.B 0 (bAi j64) λe3=>?_;refine At.g [7] 2 ?_;refine At.B 0 (bAi j64) λe4=>?_;refine At.g [7] 2 ?_;refine At.B 0 (bAi j64) λe5=>?_;refine At.g [7] 3 ?_;refine At.O 0 bRw ?_;refine At.y 0 sH λr6=>?_;refine At.g [7] 1 ?_;apply rt;exact At.jn 0
 ·refine At.c 0 ?_ ?_
  ·apply rt;exact At.r 1
  ·apply rt;exact At.r 1
def aFt : Nat->Bool:=imL [1]
def oE(N:Nat)(a0:aA):Option (Bool):=
 ae (aN (decide ((tA (tA a0.gX a0.gY) a0.gZ) > 4096)) λx2=>
 cond x2 (
  some true) (
  aN (decide ((lH (lH a0.gX a0.gY) a0.gZ) < (-4096))) λx3=>
  some x3)) λp1=>
 some p1
theorem vH{N a0 r}(h:oE N a0=some r):FnM Tryz.prog 144 [] [(aA.enc a0)] (eB r) []:=by
 refine Af aFt Tryz.func144 h ?_;refine At.J 2 0 [] 0 (λp1=>([(2,(eB p1))],[],[])) (λp1=>?_) λp1=>?_
 ·refine At.o 6 (aDl (k := .i64) (i:=a0.gX) (j:=a0.gY) (l:=a0.gZ) (by kernel_rfl) (by kernel_rfl)) ?_;apply lx;intro x2;refine At.s 11 2 ?_ ?_
  ·refine At.g [11] 10 ?_;apply rt;exact At.jn 0
  ·refine At.g [11] 6 ?_;refine At.o 0 (aDd (k := .i64) (i:=a0.gX) (j:=a0.gY) (l:=a0.gZ) (by kernel_rfl) (by kernel_rfl)) ?_;apply lx;intro x3;refine At.g [11] 3 ?_;apply rt;exact At.jn 0
 ·apply rt;exact At.r 0
def aIY : Nat->Bool:=imL [1]
def qV(N:Nat)(a0:aJ):Option (Int):=
 ae (ae (jF N 2 ([a0.gC])) λr2=>
 cond r2 (
  some true) (
  ae (dM a0.gE.toList 0 3) λs3=>
  ae (jF N 1048576 s3) λr4=>
  some r4)) λp1=>
 cond p1 (
  some 5) (
  ae (ae (oE N a0.gAt) λr6=>
  cond r6 (
   some true) (
   ae (oE N a0.gU) λr7=>
   cond r7 (
    some true) (
    ae (oE N a0.gV) λr8=>
    some r8))) λp5=>
  cond p5 (
   some 8) (
   ae (cond (a0.gC==2) (
    cond (!(aA.eq a0.gAt (aA.mk 0 0 0))) (
     some (Sum.inr 5)) (
     ae (aN (!(aA.eq a0.gU (aA.mk 0 0 0))) λx11=>
     cond x11 (
      some true) (
      some (!(aA.eq a0.gV (aA.mk 0 0 0))))) λp10=>
     cond p10 (some (Sum.inr 5)) (some (Sum.inl (()))))) (
    cond (a0.gC==0) (
     ae (aN (!(aA.eq a0.gU (aA.mk 0 0 0))) λx13=>
     cond x13 (
      some true) (
      some (!(aA.eq a0.gV (aA.mk 0 0 0))))) λp12=>
     cond p12 (some (Sum.inr 5)) (some (Sum.inl (())))) (
     some (Sum.inl (()))))) λo=>mW o (λp9=>
    some 0) (λr=>some r)))
theorem aGy{N a0 r}(h:qV N a0=some r):FnM Tryz.prog 108 [] [(aJ.enc a0)] (j64 r) []:=by
 refine Af aIY Tryz.func108 h ?_;refine At.J 6 0 [1,3,4] 1 (λp1=>([(6,(eB p1))],[],[])) (λp1=>?_) λp1=>?_
 ·refine At.O 2 bRw ?_;refine At.y 0 sH λr2=>?_;refine At.s 11 1 ?_ ?_
  ·refine At.g [11] 5 ?_;apply rt;exact At.jn 0
  ·refine At.g [11] 1 ?_;refine At.B 0 (bSI j64) λs3=>?_;refine At.y 0 sH λr4=>?_;refine At.g [11] 2 ?_;apply rt;exact At.jn 0
 ·refine At.c 0 ?_ ?_
  ·apply rt;exact At.r 1
  ·refine At.J 0 0 [1,4] 1 (λp5=>([(16,(eB p5))],[],[])) (λp5=>?_) λp5=>?_
   ·refine At.y 3 vH λr6=>?_;refine At.s 21 1 ?_ ?_
    ·refine At.g [21,27] 12 ?_;apply rt;exact At.jn 0
    ·refine At.g [21] 3 ?_;refine At.y 0 vH λr7=>?_;refine At.g [21] 2 ?_;refine At.s 27 0 ?_ ?_
     ·refine At.g [27] 6 ?_;apply rt;exact At.jn 0
     ·refine At.g [27] 3 ?_;refine At.y 0 vH λr8=>?_;refine At.g [27] 2 ?_;apply rt;exact At.jn 0
   ·refine At.c 0 ?_ ?_
    ·apply rt;exact At.r 1
    ·refine At.JS 0 1 [] 1 (λp9=>([],[],[])) (λop9 g9=>?_) λp9=>?_
     ·refine At.c 4 ?_ ?_
      ·refine At.O 3 (bNe uK (a0.gAt:aA) (aA.mk 0 0 0:aA)) ?_;refine At.c 0 ?_ ?_
       ·intro e;apply xB g9 e;exact At.r 1
       ·refine At.J 0 0 [] 1 (λp10=>([(52,(eB p10))],[],[])) (λp10=>?_) λp10=>?_
        ·refine At.O 3 (bNe uK (a0.gU:aA) (aA.mk 0 0 0:aA)) ?_;apply lx;intro x11;refine At.s 47 1 ?_ ?_
         ·refine At.g [47] 5 ?_;apply rt;exact At.jn 0
         ·refine At.g [47] 3 ?_;refine At.O 0 (bNe uK (a0.gV:aA) (aA.mk 0 0 0:aA)) ?_;refine At.g [47] 1 ?_;apply rt;exact At.jn 0
        ·refine At.c 0 ?_ ?_
         ·intro e;apply xB g9 e;exact At.r 1
         ·apply rt;exact At.jsn 0
      ·refine At.c 2 ?_ ?_
       ·refine At.J 0 0 [] 1 (λp12=>([(52,(eB p12))],[],[])) (λp12=>?_) λp12=>?_
        ·refine At.O 3 (bNe uK (a0.gU:aA) (aA.mk 0 0 0:aA)) ?_;apply lx;intro x13;refine At.s 47 1 ?_ ?_
         ·refine At.g [47] 5 ?_;apply rt;exact At.jn 0
         ·refine At.g [47] 3 ?_;refine At.O 0 (bNe uK (a0.gV:aA) (aA.mk 0 0 0:aA)) ?_;refine At.g [47] 1 ?_;apply rt;exact At.jn 0
        ·refine At.c 0 ?_ ?_
         ·intro e;apply xB g9 e;exact At.r 1
         ·apply rt;exact At.jsn 0
       ·apply rt;exact At.jsn 0
     ·apply rt;exact At.r 1
def aKm : Nat->Bool:=imL [1]
def mY(N:Nat)(a0:aE):Option (Int):=
 cond (a0.gC==1) (
  ae (lN N a0.gA0) λr1=>
  some r1) (
  cond (a0.gC==2) (
   ae (eU N a0.gA2) λr2=>
   some r2) (
   cond (a0.gC==3) (
    ae (nH N a0.gG) λr3=>
    some r3) (
    cond (a0.gC==4) (
     ae (qV N a0.gD) λr4=>
     some r4) (
     some 12))))
theorem aJ4{N a0 r}(h:mY N a0=some r):FnM Tryz.prog 72 [] [(aE.enc a0)] (j64 r) []:=by
 refine Af aKm Tryz.func72 h ?_;refine At.c 6 ?_ ?_
 ·refine At.y 2 aCt λr1=>?_;apply rt;exact At.r 1
 ·refine At.c 2 ?_ ?_
  ·refine At.y 2 aAS λr2=>?_;apply rt;exact At.r 1
  ·refine At.c 2 ?_ ?_
   ·refine At.y 2 aDq λr3=>?_;apply rt;exact At.r 1
   ·refine At.c 2 ?_ ?_
    ·refine At.y 2 aGy λr4=>?_;apply rt;exact At.r 1
    ·apply rt;exact At.r 1
def xO(N:Nat)(a0:aE):Option (aE):=
 ae (cond (a0.gC==1) (
  some (([],[],[],a0.gA2.gO,a0.gA2.gK,a0.gG.gC,a0.gG.gE,a0.gG.gA5,a0.gD.gC,a0.gD.gE,a0.gD.gAt.gX,a0.gD.gAt.gY,a0.gD.gAt.gZ,a0.gD.gU.gX,a0.gD.gU.gY,a0.gD.gU.gZ,a0.gD.gV.gX,a0.gD.gV.gY,a0.gD.gV.gZ))) (
  cond (a0.gC==2) (
   some ((a0.gA0.gF,a0.gA0.gL,a0.gA0.gJ,0,[],a0.gG.gC,a0.gG.gE,a0.gG.gA5,a0.gD.gC,a0.gD.gE,a0.gD.gAt.gX,a0.gD.gAt.gY,a0.gD.gAt.gZ,a0.gD.gU.gX,a0.gD.gU.gY,a0.gD.gU.gZ,a0.gD.gV.gX,a0.gD.gV.gY,a0.gD.gV.gZ))) (
   cond (a0.gC==3) (
    some ((a0.gA0.gF,a0.gA0.gL,a0.gA0.gJ,a0.gA2.gO,a0.gA2.gK,0,#v[0,0,0],0,a0.gD.gC,a0.gD.gE,a0.gD.gAt.gX,a0.gD.gAt.gY,a0.gD.gAt.gZ,a0.gD.gU.gX,a0.gD.gU.gY,a0.gD.gU.gZ,a0.gD.gV.gX,a0.gD.gV.gY,a0.gD.gV.gZ))) (
    cond (a0.gC==4) (
     some ((a0.gA0.gF,a0.gA0.gL,a0.gA0.gJ,a0.gA2.gO,a0.gA2.gK,a0.gG.gC,a0.gG.gE,a0.gG.gA5,0,#v[0,0,0],0,0,0,0,0,0,0,0,0))) (
     some ((a0.gA0.gF,a0.gA0.gL,a0.gA0.gJ,a0.gA2.gO,a0.gA2.gK,a0.gG.gC,a0.gG.gE,a0.gG.gA5,a0.gD.gC,a0.gD.gE,a0.gD.gAt.gX,a0.gD.gAt.gY,a0.gD.gAt.gZ,a0.gD.gU.gX,a0.gD.gU.gY,a0.gD.gU.gZ,a0.gD.gV.gX,a0.gD.gV.gY,a0.gD.gV.gZ))))))) λp1=>
 some (aE.mk a0.gC (aP.mk p1.1 p1.2.1 p1.2.2.1) (aK.mk p1.2.2.2.1 p1.2.2.2.2.1) (aD.mk p1.2.2.2.2.2.1 p1.2.2.2.2.2.2.1 p1.2.2.2.2.2.2.2.1) (aJ.mk p1.2.2.2.2.2.2.2.2.1 p1.2.2.2.2.2.2.2.2.2.1 (aA.mk p1.2.2.2.2.2.2.2.2.2.2.1 p1.2.2.2.2.2.2.2.2.2.2.2.1 p1.2.2.2.2.2.2.2.2.2.2.2.2.1) (aA.mk p1.2.2.2.2.2.2.2.2.2.2.2.2.2.1 p1.2.2.2.2.2.2.2.2.2.2.2.2.2.2.1 p1.2.2.2.2.2.2.2.2.2.2.2.2.2.2.2.1) (aA.mk p1.2.2.2.2.2.2.2.2.2.2.2.2.2.2.2.2.1 p1.2.2.2.2.2.2.2.2.2.2.2.2.2.2.2.2.2.1 p1.2.2.2.2.2.2.2.2.2.2.2.2.2.2.2.2.2.2)))
theorem aIG{N a0 r}(h:xO N a0=some r):FnM Tryz.prog 74 [] [(aE.enc a0)] (aE.enc r) []:=by
 refine Af dK Tryz.func74 h ?_;refine At.J 2 1 [1,2] 2 (λp1=>([],[(0,.var (.st 24 [(j64 a0.gC),(.st 3 [(eL 3 aA.enc p1.1),(eL 2 (eA 2 1 j64) p1.2.1),(eL 3 (eA 3 1 j64) p1.2.2.1)]),(.st 2 [(j64 p1.2.2.2.1),(eL 3 (eA 3 1 j64) p1.2.2.2.2.1)]),(.st 5 [(j64 p1.2.2.2.2.2.1),(eA 3 1 j64 p1.2.2.2.2.2.2.1),(j64 p1.2.2.2.2.2.2.2.1)]),(.st 13 [(j64 p1.2.2.2.2.2.2.2.2.1),(eA 3 1 j64 p1.2.2.2.2.2.2.2.2.2.1),(.st 3 [(j64 p1.2.2.2.2.2.2.2.2.2.2.1),(j64 p1.2.2.2.2.2.2.2.2.2.2.2.1),(j64 p1.2.2.2.2.2.2.2.2.2.2.2.2.1)]),(.st 3 [(j64 p1.2.2.2.2.2.2.2.2.2.2.2.2.2.1),(j64 p1.2.2.2.2.2.2.2.2.2.2.2.2.2.2.1),(j64 p1.2.2.2.2.2.2.2.2.2.2.2.2.2.2.2.1)]),(.st 3 [(j64 p1.2.2.2.2.2.2.2.2.2.2.2.2.2.2.2.2.1),(j64 p1.2.2.2.2.2.2.2.2.2.2.2.2.2.2.2.2.2.1),(j64 p1.2.2.2.2.2.2.2.2.2.2.2.2.2.2.2.2.2.2)])])]))],[])) (λp1=>?_) λp1=>?_
 ·refine At.c 4 ?_ ?_
  ·apply rt;exact At.jn 3
  ·refine At.c 2 ?_ ?_
   ·apply rt;exact At.jn 3
   ·refine At.c 2 ?_ ?_
    ·apply rt;exact At.jn 3
    ·refine At.c 2 ?_ ?_
     ·apply rt;exact At.jn 3
     ·apply rt;exact At.jn 0
 ·apply rt;exact At.r 2
def dY(N:Nat)(a0 a1:(List aA)):Nat->Int->Option (Sum (Unit) (Bool))
 | 0,_=>none
 | k+1,s3=>
  aN (decide (s3 < ((a0.length:Int)))) λx4=>
  cond x4 (
   ae (idx a0 s3) λe5=>
   ae (idx a1 s3) λe6=>
   cond (!(aA.eq e5 e6)) (
    some (Sum.inr false)) (
    dY N a0 a1 k (I64 (s3+1)))) (
   some (Sum.inl (())))
def lX(N:Nat)(a0 a1:(List aA)):Option (Bool):=
 aN (((a0.length:Int)) != ((a1.length:Int))) λx1=>
 cond x1 (
  some false) (
  ae (dY N a0 a1 N 0) λo=>mW o (λp2=>
   some true) (λr=>some r))
theorem zW{N a0 a1 r}(h:lX N a0 a1=some r):FnM Tryz.prog 109 [] [(eL 3 aA.enc a0),(eL 3 aA.enc a1)] (eB r) []:=by
 refine Af dK Tryz.func109 h ?_;apply lx;intro x1;refine At.c 6 ?_ ?_
 ·apply rt;exact At.r 1
 ·refine At.MS 3 [] 0 (λp2=>([],[],[])) [0,1,12] 0 (dY N a0 a1) (λ(s3:Int)=>([(13,(j64 s3))],[],[])) _ N (λop2 g2 k s3=>?_) λp2=>?_
  ·apply lx;intro x4;refine At.c 1 ?_ ?_
   ·refine At.D 2 [] ?_;refine DD.i hT 2 aA.enc λe5=>?_;refine DD.i hT 3 aA.enc λe6=>?_;refine DD.O 1 (bNe uK (e5:aA) (e6:aA)) ?_;refine De 0 ?_;refine At.c 0 ?_ ?_
    ·intro e;apply xB g2 e;exact At.r 1
    ·exact λh=>At.v 2 _ h
   ·apply rt;exact At.xs 0
  ·apply rt;exact At.r 1
def hQ(N:Nat)(a0 a1:(List (Vector Int 2))):Nat->Int->Option (Sum (Unit) (Bool))
 | 0,_=>none
 | k+1,s3=>
  aN (decide (s3 < ((a0.length:Int)))) λx4=>
  cond x4 (
   ae (idx a0 s3) λe5=>
   ae (idx a1 s3) λe6=>
   cond (!((eqV (λa b=>a==b)) e5 e6)) (
    some (Sum.inr false)) (
    hQ N a0 a1 k (I64 (s3+1)))) (
   some (Sum.inl (())))
def pH(N:Nat)(a0 a1:(List (Vector Int 2))):Option (Bool):=
 aN (((a0.length:Int)) != ((a1.length:Int))) λx1=>
 cond x1 (
  some false) (
  ae (hQ N a0 a1 N 0) λo=>mW o (λp2=>
   some true) (λr=>some r))
theorem aBL{N a0 a1 r}(h:pH N a0 a1=some r):FnM Tryz.prog 110 [] [(eL 2 (eA 2 1 j64) a0),(eL 2 (eA 2 1 j64) a1)] (eB r) []:=by
 refine Af dK Tryz.func110 h ?_;apply lx;intro x1;refine At.c 6 ?_ ?_
 ·apply rt;exact At.r 1
 ·refine At.MS 3 [] 0 (λp2=>([],[],[])) [0,1,12] 0 (hQ N a0 a1) (λ(s3:Int)=>([(13,(j64 s3))],[],[])) _ N (λop2 g2 k s3=>?_) λp2=>?_
  ·apply lx;intro x4;refine At.c 1 ?_ ?_
   ·refine At.D 2 [] ?_;refine DD.i hT 2 (eA 2 1 j64) λe5=>?_;refine DD.i hT 3 (eA 2 1 j64) λe6=>?_;refine DD.O 1 (bNe aSs (e5:(Vector Int 2)) (e6:(Vector Int 2))) ?_;refine De 0 ?_;refine At.c 0 ?_ ?_
    ·intro e;apply xB g2 e;exact At.r 1
    ·exact λh=>At.v 2 _ h
   ·apply rt;exact At.xs 0
  ·apply rt;exact At.r 1
def hJ(N:Nat)(a0 a1:(List (Vector Int 3))):Nat->Int->Option (Sum (Unit) (Bool))
 | 0,_=>none
 | k+1,s3=>
  aN (decide (s3 < ((a0.length:Int)))) λx4=>
  cond x4 (
   ae (idx a0 s3) λe5=>
   ae (idx a1 s3) λe6=>
   cond (!((eqV (λa b=>a==b)) e5 e6)) (
    some (Sum.inr false)) (
    hJ N a0 a1 k (I64 (s3+1)))) (
   some (Sum.inl (())))
def mN(N:Nat)(a0 a1:(List (Vector Int 3))):Option (Bool):=
 aN (((a0.length:Int)) != ((a1.length:Int))) λx1=>
 cond x1 (
  some false) (
  ae (hJ N a0 a1 N 0) λo=>mW o (λp2=>
   some true) (λr=>some r))
theorem wG{N a0 a1 r}(h:mN N a0 a1=some r):FnM Tryz.prog 111 [] [(eL 3 (eA 3 1 j64) a0),(eL 3 (eA 3 1 j64) a1)] (eB r) []:=by
 refine Af dK Tryz.func111 h ?_;apply lx;intro x1;refine At.c 6 ?_ ?_
 ·apply rt;exact At.r 1
 ·refine At.MS 3 [] 0 (λp2=>([],[],[])) [0,1,12] 0 (hJ N a0 a1) (λ(s3:Int)=>([(13,(j64 s3))],[],[])) _ N (λop2 g2 k s3=>?_) λp2=>?_
  ·apply lx;intro x4;refine At.c 1 ?_ ?_
   ·refine At.D 2 [] ?_;refine DD.i hT 2 (eA 3 1 j64) λe5=>?_;refine DD.i hT 3 (eA 3 1 j64) λe6=>?_;refine DD.O 1 (bNe aMD (e5:(Vector Int 3)) (e6:(Vector Int 3))) ?_;refine De 0 ?_;refine At.c 0 ?_ ?_
    ·intro e;apply xB g2 e;exact At.r 1
    ·exact λh=>At.v 2 _ h
   ·apply rt;exact At.xs 0
  ·apply rt;exact At.r 1
def aKB : Nat->Bool:=imL [2,3]
def sP(N:Nat)(a0 a1:aE):Option (Bool):=
 ae (cond (a0.gC != a1.gC) (
  some true) (
  aN (!(aD.eq a0.gG a1.gG)) λx2=>
  cond x2 (
   some true) (
   aN (!(aJ.eq a0.gD a1.gD)) λx3=>
   aN (a0.gA2.gO != a1.gA2.gO) λx4=>
   some (cond x3 true x4)))) λp1=>
 cond p1 (
  some false) (
  ae (ae (lX N a0.gA0.gF a1.gA0.gF) λr6=>
  cond r6 (
   ae (pH N a0.gA0.gL a1.gA0.gL) λr7=>
   cond r7 (
    ae (mN N a0.gA0.gJ a1.gA0.gJ) λr8=>
    cond r8 (
     ae (mN N a0.gA2.gK a1.gA2.gK) λr9=>
     some r9) (
     some false)) (
    some false)) (
   some false)) λp5=>
  some p5)
theorem aIH{N a0 a1 r}(h:sP N a0 a1=some r):FnM Tryz.prog 73 [] [(aE.enc a0),(aE.enc a1)] (eB r) []:=by
 refine Af aKB Tryz.func73 h ?_;refine At.J 3 0 [2,3] 0 (λp1=>([(32,(eB p1))],[],[])) (λp1=>?_) λp1=>?_
 ·refine At.s 10 6 ?_ ?_
  ·refine At.g [10,17,24] 22 ?_;apply rt;exact At.jn 0
  ·refine At.g [10] 4 ?_;refine At.O 0 (bNe aJ8 (a0.gG:aD) (a1.gG:aD)) ?_;apply lx;intro x2;refine At.g [10] 2 ?_;refine At.s 17 0 ?_ ?_
   ·refine At.g [17,24] 15 ?_;apply rt;exact At.jn 0
   ·refine At.g [17] 4 ?_;refine At.O 0 (bNe aJq (a0.gD:aJ) (a1.gD:aJ)) ?_;apply lx;intro x3;apply lx;intro x4;refine At.g [17] 10 ?_;apply rt;exact At.jn 0
 ·refine At.c 0 ?_ ?_
  ·apply rt;exact At.r 1
  ·refine At.J 0 0 [] 0 (λp5=>([(4,(eB p5))],[],[])) (λp5=>?_) λp5=>?_
   ·refine At.y 6 zW λr6=>?_;refine At.s 40 1 ?_ ?_
    ·refine At.g [40] 6 ?_;refine At.y 0 aBL λr7=>?_;refine At.g [40] 2 ?_;refine At.s 49 0 ?_ ?_
     ·refine At.g [49] 6 ?_;refine At.y 0 wG λr8=>?_;refine At.g [49] 2 ?_;refine At.s 58 0 ?_ ?_
      ·refine At.g [58] 6 ?_;refine At.y 0 wG λr9=>?_;refine At.g [58] 2 ?_;apply rt;exact At.jn 0
      ·refine At.g [58] 9 ?_;apply rt;exact At.jn 0
     ·refine At.g [49,58] 18 ?_;apply rt;exact At.jn 0
    ·refine At.g [40,49,58] 27 ?_;apply rt;exact At.jn 0
   ·apply rt;exact At.r 0
def lP(N:Nat)(a0:(List Int)):Option ((List Int)):=
 ae (fL 1 (([]:List Int)) a0) λz1=>
 some z1
theorem yX{N a0 r}(h:lP N a0=some r):FnM Tryz.prog 51 [] [(eL 1 k8 a0)] (eO 0 1 k8 r) [.tail (r.length*1)]:=by
 refine Af dK Tryz.func51 h ?_;refine At.q hT 2 (d:=4) (t:=23) (e:=5) (z:=1) (x:=(eL 1 k8 a0)) (es:=f8 k8 a0) rfl ?_ (λhe=>?_)
 ·refine At.o 1 (oJ hT k8 (k:=1) ([]:List Int) (by kernel_rfl) (by kernel_rfl)) ?_;refine At.U 1 (bAp k8) λz1=>?_;apply rt;exact At.r 1
 ·have h0:a0=[]:=List.map_eq_nil_iff.1 he;subst h0;change some []=_->_;refine At.ownn 2 2 1 ?_;apply rt;exact At.r 0
def nT(N:Nat)(a1 e7:Int):Nat->(List Int)->Int->Option ((List Int))
 | 0,_,_=>none
 | k+1,s11,s12=>
  cond (decide (s12 < a1)) (
   ae (wY .u64 e7 (I64 (8*s12))) λx13=>
   ae (fL 1 s11 (([U8 x13]:List Int))) λz14=>
   nT N a1 e7 k z14 (I64 (s12+1))) (
   some s11)
def pT(N:Nat)(a2:(List Int))(a1:Int):Nat->(List Int)->Int->Option (Sum ((List Int)) ((List Int)×Int))
 | 0,_,_=>none
 | k+1,s4,s5=>
  aN (decide (s5 < ((a2.length:Int)))) λx6=>
  cond x6 (
   ae (idx a2 s5) λe7=>
   ae (cond (decide (a1 < 8)) (
    ae (wY .u64 e7 (I64 (8*a1))) λx9=>
    some (decide (x9 > 0))) (
    some false)) λp8=>
   cond p8 (
    some (Sum.inr (([],3)))) (
    ae (nT N a1 e7 N s4 0) λp10=>
    pT N a2 a1 k p10 (I64 (s5+1)))) (
   some (Sum.inl s4))
def bT(N:Nat)(a0:(List Int))(a1:Int)(a2:(List Int)):Option ((List Int)×Int):=
 aN (cond (decide (a1 < 1)) true (decide (a1 > 8))) λx1=>
 cond x1 (
  some (([],2))) (
  ae (lP N a0) λr2=>
  ae (pT N a2 a1 N r2 0) λo=>mW o (λp3=>
   some ((p3,0))) (λr=>some r))
theorem lQ{N a0 a1 a2 r}(h:bT N a0 a1 a2=some r):FnM Tryz.prog 27 [] [(eL 1 k8 a0),(j64 a1),(eL 1 k64 a2)] (.tup [(eO 0 1 k8 r.1),(j64 r.2)]) [.tail (r.1.length*1)]:=by
 refine Af dK Tryz.func27 h ?_;apply lx;intro x1;refine At.c 8 ?_ ?_
 ·refine At.ownn 2 6 1 ?_;apply rt;exact At.r 0
 ·refine At.Y 1 [] yX λr2=>?_;refine At.MS 4 [] 1 (λp3=>([(8,(eO 0 1 k8 p3))],[(0,.tail (p3.length*1))],[])) [1,20,21] 1 (CU2 (pT N a2 a1)) (cu2 λs4 s5=>([(8,(eO 0 1 k8 s4)),(22,(j64 s5))],[(0,.tail (s4.length*1))],[])) (_,_) N (λop3 g3 k=>un2 λs4 s5=>?_) λp3=>?_
  ·apply lx;intro x6;refine At.c 1 ?_ ?_
   ·refine At.i hT 0 k64 λe7=>?_;refine At.J 2 0 [1,8,10,20,21,22] 1 (λp8=>([(34,(eB p8))],[],[])) (λp8=>?_) λp8=>?_
    ·refine At.s 28 3 ?_ ?_
     ·refine At.g [28] 3 ?_;refine At.B 0 bSr λx9=>?_;refine At.g [28] 2 ?_;apply rt;exact At.jn 0
     ·refine At.g [28] 6 ?_;apply rt;exact At.jn 0
    ·refine At.c 0 ?_ ?_
     ·refine At.ownn 2 6 1 ?_;refine At.sw 0 1 0 ?_;intro e;apply xB g3 e;exact At.r 0
     ·refine At.M 2 [1,20,21,22] 1 (λp10=>([(8,(eO 0 1 k8 p10))],[(0,.tail (p10.length*1))],[])) [1,10,20,21,22,35] 1 (CU2 (nT N a1 e7)) (cu2 λs11 s12=>([(8,(eO 0 1 k8 s11)),(36,(j64 s12))],[(0,.tail (s11.length*1))],[])) (_,_) N (λp10 k=>un2 λs11 s12=>?_) λp10=>?_
      ·refine At.c 1 ?_ ?_
       ·refine At.B 6 bSr λx13=>?_;refine At.O 1 bRw ?_;refine At.U 0 (bAp k8) λz14=>?_;exact λh=>At.v 3 (_,_) h
       ·apply rt;exact At.x 0
      ·exact λh=>At.v 2 (_,_) h
   ·apply rt;exact At.xs 0
  ·apply rt;exact At.r 3
def mB(N:Nat)(a2:(List Int))(a1:Int):Nat->(List Int)->Int->Option (Sum ((List Int)) ((List Int)×Int))
 | 0,_,_=>none
 | k+1,s3,s4=>
  aN (decide (s4 < ((a2.length:Int)))) λx5=>
  cond x5 (
   ae (idx a2 s4) λe6=>
   aN (I64 (64 - (I64 (8*a1)))) λx7=>
   ae (aF1 .i64 e6 x7) λx8=>
   aN (I64 (64 - (I64 (8*a1)))) λx9=>
   ae (wY .i64 x8 x9) λx10=>
   cond (x10 != e6) (
    some (Sum.inr (([],3)))) (
    aN (I64 (64 - (I64 (8*a1)))) λx11=>
    ae (aF1 .u64 (U64 e6) x11) λx12=>
    aN (I64 (64 - (I64 (8*a1)))) λx13=>
    ae (wY .u64 x12 x13) λx14=>
    ae (fL 8 s3 (([x14]:List Int))) λz15=>
    mB N a2 a1 k z15 (I64 (s4+1)))) (
   some (Sum.inl s3))
def kB(N:Nat)(a0:(List Int))(a1:Int)(a2:(List Int)):Option ((List Int)×Int):=
 aN (cond (decide (a1 < 1)) true (decide (a1 > 8))) λx1=>
 cond x1 (
  some (([],2))) (
  ae (mB N a2 a1 N [] 0) λo=>mW o (λp2=>
   ae (bT N a0 a1 p2) λr16=>
   some ((r16.1,r16.2))) (λr=>some r))
theorem xC{N a0 a1 a2 r}(h:kB N a0 a1 a2=some r):FnM Tryz.prog 78 [] [(eL 1 k8 a0),(j64 a1),(eL 1 j64 a2)] (.tup [(eO 0 1 k8 r.1),(j64 r.2)]) [.tail (r.1.length*1)]:=by
 refine Af dK Tryz.func78 h ?_;apply lx;intro x1;refine At.c 8 ?_ ?_
 ·refine At.ownn 2 6 1 ?_;apply rt;exact At.r 0
 ·refine At.ownn 4 8 1 ?_;refine At.MS 0 [0,1] 1 (λp2=>([(8,(eO 0 1 k64 p2))],[(0,.tail (p2.length*1))],[])) [0,1,18,19] 1 (CU2 (mB N a2 a1)) (cu2 λs3 s4=>([(8,(eO 0 1 k64 s3)),(20,(j64 s4))],[(0,.tail (s3.length*1))],[])) (_,_) N (λop2 g2 k=>un2 λs3 s4=>?_) λp2=>?_
  ·apply lx;intro x5;refine At.c 1 ?_ ?_
   ·refine At.i hT 0 j64 λe6=>?_;apply lx;intro x7;refine At.B 6 bSh λx8=>?_;apply lx;intro x9;refine At.B 3 bSr λx10=>?_;refine At.c 4 ?_ ?_
    ·refine At.ownn 2 6 1 ?_;refine At.sw 0 1 0 ?_;intro e;apply xB g2 e;exact At.r 0
    ·apply lx;intro x11;refine At.B 6 bSh λx12=>?_;apply lx;intro x13;refine At.B 3 bSr λx14=>?_;refine At.O 0 bRw ?_;refine At.U 0 (bAp k64) λz15=>?_;exact λh=>At.v 3 (_,_) h
   ·apply rt;exact At.xs 0
  ·refine At.Y 3 [] lQ λr16=>?_;refine At.sw 4 1 0 ?_;apply rt;exact At.r 0
def aIK : Nat->Bool:=imL [1]
def nF(N:Nat)(x4:Int)(a0:aP):Nat->(List Int)->Int->Option ((List Int))
 | 0,_,_=>none
 | k+1,s6,s7=>
  cond (decide (s7 < x4)) (
   ae (idx a0.gF s7) λe8=>
   ae (kB N s6 2 ([e8.gX,e8.gY,e8.gZ])) λr9=>
   nF N x4 a0 k r9.1 (I64 (s7+1))) (
   some s6)
def nG(N:Nat)(a0:aP):Nat->(List Int)->Int->Option ((List Int))
 | 0,_,_=>none
 | k+1,s11,s12=>
  aN (decide (s12 < ((a0.gL.length:Int)))) λx13=>
  cond x13 (
   ae (idx a0.gL s12) λe14=>
   ae (aO 0 2) λ_=>
   ae (e14.toList[(ag 0)]?) λe16=>
   ae (aO 1 2) λ_=>
   ae (e14.toList[(ag 1)]?) λe18=>
   ae (bT N s11 2 ([U64 e16,U64 e18])) λr19=>
   nG N a0 k r19.1 (I64 (s12+1))) (
   some s11)
def jP(N:Nat)(x20:Int)(a0:aP):Nat->(List Int)->Int->Option ((List Int))
 | 0,_,_=>none
 | k+1,s22,s23=>
  cond (decide (s23 < x20)) (
   ae (idx a0.gJ s23) λe24=>
   ae (aO 0 3) λ_=>
   ae (e24.toList[(ag 0)]?) λe26=>
   ae (aO 1 3) λ_=>
   ae (e24.toList[(ag 1)]?) λe28=>
   ae (aO 2 3) λ_=>
   ae (e24.toList[(ag 2)]?) λe30=>
   ae (fL 1 s22 (([U8 e26,U8 e28,U8 e30]:List Int))) λz31=>
   jP N x20 a0 k z31 (I64 (s23+1))) (
   some s22)
def vK(N:Nat)(a0:aP):Option ((List Int)×Int):=
 ae (lN N a0) λr1=>
 cond (r1 != 0) (
  some (([],r1))) (
  aN ((a0.gF.length:Int)) λx2=>
  aN ((a0.gJ.length:Int)) λx3=>
  aN ((a0.gF.length:Int)) λx4=>
  ae (nF N x4 a0 N (([U8 x2,U8 x3]:List Int)) 0) λp5=>
  ae (nG N a0 N p5 0) λp10=>
  aN ((a0.gJ.length:Int)) λx20=>
  ae (jP N x20 a0 N p10 0) λp21=>
  some ((p21,0)))
theorem aGm{N a0 r}(h:vK N a0=some r):FnM Tryz.prog 76 [] [(aP.enc a0)] (.tup [(eL 1 k8 r.1),(j64 r.2)]) []:=by
 refine Af aIK Tryz.func76 h ?_;refine At.y 4 aCt λr1=>?_;refine At.c 3 ?_ ?_
 ·apply rt;exact At.r 3
 ·apply lx;intro x2;apply lx;intro x3;refine At.o 8 (oJ hT k8 (k:=1) ([U8 x2,U8 x3]:List Int) (by kernel_rfl) (by kernel_rfl)) ?_;apply lx;intro x4;refine At.M 5 [1] 1 (λp5=>([(5,(eO 0 1 k8 p5))],[(0,.tail (p5.length*1))],[])) [1,27,28] 1 (CU2 (nF N x4 a0)) (cu2 λs6 s7=>([(5,(eO 0 1 k8 s6)),(29,(j64 s7))],[(0,.tail (s6.length*1))],[])) (_,_) N (λp5 k=>un2 λs6 s7=>?_) λp5=>?_
  ·refine At.c 1 ?_ ?_
   ·refine At.i hT 0 aA.enc λe8=>?_;refine At.O 10 bRw ?_;refine At.Y 0 [] xC λr9=>?_;exact λh=>At.vw 6 (_,_) (aKb 2 0 (by kernel_rfl) jr) h
   ·apply rt;exact At.x 0
  ·refine At.M 4 [1] 1 (λp10=>([(5,(eO 0 1 k8 p10))],[(0,.tail (p10.length*1))],[])) [1,47,48] 1 (CU2 (nG N a0)) (cu2 λs11 s12=>([(5,(eO 0 1 k8 s11)),(49,(j64 s12))],[(0,.tail (s11.length*1))],[])) (_,_) N (λp10 k=>un2 λs11 s12=>?_) λp10=>?_
   ·apply lx;intro x13;refine At.c 1 ?_ ?_
    ·refine At.i hT 0 (eA 2 1 j64) λe14=>?_;refine At.B 4 bAr λu15=>?_;refine At.U 0 (bLd j64 0) λe16=>?_;refine At.B 1 bAr λu17=>?_;refine At.U 0 (bLd j64 0) λe18=>?_;refine At.O 1 bRw ?_;refine At.Y 0 [] lQ λr19=>?_;exact λh=>At.vw 6 (_,_) (aKb 2 0 (by kernel_rfl) jr) h
    ·apply rt;exact At.x 0
   ·apply lx;intro x20;refine At.M 4 [] 1 (λp21=>([(5,(eO 0 1 k8 p21))],[(0,.tail (p21.length*1))],[])) [67,68] 1 (CU2 (jP N x20 a0)) (cu2 λs22 s23=>([(5,(eO 0 1 k8 s22)),(69,(j64 s23))],[(0,.tail (s22.length*1))],[])) (_,_) N (λp21 k=>un2 λs22 s23=>?_) λp21=>?_
    ·refine At.c 1 ?_ ?_
     ·refine At.i hT 0 (eA 3 1 j64) λe24=>?_;refine At.B 4 bAr λu25=>?_;refine At.U 0 (bLd j64 0) λe26=>?_;refine At.B 1 bAr λu27=>?_;refine At.U 0 (bLd j64 0) λe28=>?_;refine At.B 1 bAr λu29=>?_;refine At.U 0 (bLd j64 0) λe30=>?_;refine At.O 1 bRw ?_;refine At.U 0 (bAp k8) λz31=>?_;exact λh=>At.v 3 (_,_) h
     ·apply rt;exact At.x 0
    ·apply rt;exact At.r 3
def aE4 : Nat->Bool:=imL [1]
def eZ(N:Nat)(x2:Int)(a0:aK):Nat->(List Int)->Int->Option ((List Int))
 | 0,_,_=>none
 | k+1,s4,s5=>
  cond (decide (s5 < x2)) (
   ae (idx a0.gK s5) λe6=>
   ae (aO 0 3) λ_=>
   ae (e6.toList[(ag 0)]?) λe8=>
   ae (aO 1 3) λ_=>
   ae (e6.toList[(ag 1)]?) λe10=>
   ae (aO 2 3) λ_=>
   ae (e6.toList[(ag 2)]?) λe12=>
   ae (fL 1 s4 (([U8 e8,U8 e10,U8 e12]:List Int))) λz13=>
   eZ N x2 a0 k z13 (I64 (s5+1))) (
   some s4)
def sS(N:Nat)(a0:aK):Option ((List Int)×Int):=
 ae (eU N a0) λr1=>
 cond (r1 != 0) (
  some (([],r1))) (
  aN ((a0.gK.length:Int)) λx2=>
  ae (eZ N x2 a0 N (([U8 a0.gO]:List Int)) 0) λp3=>
  some ((p3,0)))
theorem aDj{N a0 r}(h:sS N a0=some r):FnM Tryz.prog 77 [] [(aK.enc a0)] (.tup [(eL 1 k8 r.1),(j64 r.2)]) []:=by
 refine Af aE4 Tryz.func77 h ?_;refine At.y 4 aAS λr1=>?_;refine At.c 3 ?_ ?_
 ·apply rt;exact At.r 3
 ·refine At.o 3 (oJ hT k8 (k:=1) ([U8 a0.gO]:List Int) (by kernel_rfl) (by kernel_rfl)) ?_;apply lx;intro x2;refine At.M 5 [] 1 (λp3=>([(5,(eO 0 1 k8 p3))],[(0,.tail (p3.length*1))],[])) [18,19] 1 (CU2 (eZ N x2 a0)) (cu2 λs4 s5=>([(5,(eO 0 1 k8 s4)),(20,(j64 s5))],[(0,.tail (s4.length*1))],[])) (_,_) N (λp3 k=>un2 λs4 s5=>?_) λp3=>?_
  ·refine At.c 1 ?_ ?_
   ·refine At.i hT 0 (eA 3 1 j64) λe6=>?_;refine At.B 4 bAr λu7=>?_;refine At.U 0 (bLd j64 0) λe8=>?_;refine At.B 1 bAr λu9=>?_;refine At.U 0 (bLd j64 0) λe10=>?_;refine At.B 1 bAr λu11=>?_;refine At.U 0 (bLd j64 0) λe12=>?_;refine At.O 1 bRw ?_;refine At.U 0 (bAp k8) λz13=>?_;exact λh=>At.v 3 (_,_) h
   ·apply rt;exact At.x 0
  ·apply rt;exact At.r 3
def aHV : Nat->Bool:=imL [1]
def lY(N:Nat)(e4 e6 e8:Int)(a0:aE):Nat->(List Int)->Int->Option ((List Int))
 | 0,_,_=>none
 | k+1,s10,s11=>
  cond (decide (s11 < 4)) (
   ae (idx ([e4,e6,e8,a0.gG.gA5]) s11) λe12=>
   ae (bT N s10 2 ([U64 e12])) λr13=>
   lY N e4 e6 e8 a0 k r13.1 (I64 (s11+1))) (
   some s10)
def mC(N:Nat)(a0:aE):Nat->(List Int)->Int->Option ((List Int))
 | 0,_,_=>none
 | k+1,s22,s23=>
  cond (decide (s23 < 3)) (
   ae (idx ([a0.gD.gAt,a0.gD.gU,a0.gD.gV]) s23) λe24=>
   ae (kB N s22 2 ([e24.gX,e24.gY,e24.gZ])) λr25=>
   mC N a0 k r25.1 (I64 (s23+1))) (
   some s22)
def sA(N:Nat)(a0:aE):Option ((List Int)):=
 cond (a0.gC==1) (
  ae (vK N a0.gA0) λr1=>
  some r1.1) (
  cond (a0.gC==2) (
   ae (sS N a0.gA2) λr2=>
   some r2.1) (
   cond (a0.gC==3) (
    ae (aO 0 3) λ_=>
    ae (a0.gG.gE.toList[(ag 0)]?) λe4=>
    ae (aO 1 3) λ_=>
    ae (a0.gG.gE.toList[(ag 1)]?) λe6=>
    ae (aO 2 3) λ_=>
    ae (a0.gG.gE.toList[(ag 2)]?) λe8=>
    ae (lY N e4 e6 e8 a0 N ([U8 a0.gG.gC]) 0) λp9=>
    some p9) (
    ae (aO 0 3) λ_=>
    ae (a0.gD.gE.toList[(ag 0)]?) λe15=>
    ae (aO 1 3) λ_=>
    ae (a0.gD.gE.toList[(ag 1)]?) λe17=>
    ae (aO 2 3) λ_=>
    ae (a0.gD.gE.toList[(ag 2)]?) λe19=>
    ae (bT N ([U8 a0.gD.gC]) 4 ([U64 e15,U64 e17,U64 e19])) λr20=>
    ae (mC N a0 N r20.1 0) λp21=>
    some p21)))
theorem aA4{N a0 r}(h:sA N a0=some r):FnM Tryz.prog 45 [] [(aE.enc a0)] (eL 1 k8 r) []:=by
 refine Af aHV Tryz.func45 h ?_;refine At.c 6 ?_ ?_
 ·refine At.y 2 aGm λr1=>?_;apply rt;exact At.r 7
 ·refine At.c 2 ?_ ?_
  ·refine At.y 2 aDj λr2=>?_;apply rt;exact At.r 7
  ·refine At.c 2 ?_ ?_
   ·refine At.O 7 bRw ?_;refine At.B 2 bAr λu3=>?_;refine At.U 0 (bLd j64 1) λe4=>?_;refine At.B 1 bAr λu5=>?_;refine At.U 0 (bLd j64 1) λe6=>?_;refine At.B 1 bAr λu7=>?_;refine At.U 0 (bLd j64 1) λe8=>?_;refine At.O 2 bRw ?_;refine At.M 2 [] 1 (λp9=>([(8,(eL 1 k8 p9))],[],[])) [55,56] 1 (CU2 (lY N e4 e6 e8 a0)) (cu2 λs10 s11=>([(8,(eL 1 k8 s10)),(57,(j64 s11))],[],[])) (_,_) N (λp9 k=>un2 λs10 s11=>?_) λp9=>?_
    ·refine At.c 1 ?_ ?_
     ·refine At.i hT 0 j64 λe12=>?_;refine At.O 5 bRw ?_;refine At.Y 0 [] lQ λr13=>?_;exact λh=>At.v 6 (_,_) h
     ·apply rt;exact At.x 0
    ·apply rt;exact At.r 2
   ·refine At.O 7 bRw ?_;refine At.B 1 bAr λu14=>?_;refine At.U 0 (bLd j64 1) λe15=>?_;refine At.B 2 bAr λu16=>?_;refine At.U 0 (bLd j64 1) λe17=>?_;refine At.B 2 bAr λu18=>?_;refine At.U 0 (bLd j64 1) λe19=>?_;refine At.O 1 bRw ?_;refine At.Y 0 [] lQ λr20=>?_;refine At.O 11 bRw ?_;refine At.M 2 [] 2 (λp21=>([(12,(eO 1 1 k8 p21))],[(1,.tail (p21.length*1))],[])) [100,101] 2 (CU2 (mC N a0)) (cu2 λs22 s23=>([(12,(eO 1 1 k8 s22)),(102,(j64 s23))],[(1,.tail (s22.length*1))],[])) (_,_) N (λp21 k=>un2 λs22 s23=>?_) λp21=>?_
    ·refine At.c 1 ?_ ?_
     ·refine At.i hT 0 aA.enc λe24=>?_;refine At.O 10 bRw ?_;refine At.Y 0 [] xC λr25=>?_;exact λh=>At.vw 6 (_,_) (aKb 3 1 (by kernel_rfl) jr) h
     ·apply rt;exact At.x 0
    ·apply rt;exact At.r 2
def rX(N:Nat)(a0:Int):Option (Int):=
 aN (cond (decide (a0 < 0)) true (decide (a0>=5))) λx1=>
 cond x1 (
  some 0) (
  ae (aO a0 5) λ_=>
  ae ((#v[0,2048,1024,64,64]).toList[a0.toNat]?) λe3=>
  some e3)
theorem aA2{N a0 r}(h:rX N a0=some r):FnM Tryz.prog 75 [] [(j64 a0)] (j64 r) []:=by
 refine Af dK Tryz.func75 h ?_;apply lx;intro x1;refine At.c 10 ?_ ?_
 ·apply rt;exact At.r 1
 ·refine At.B 1 bAr λu2=>?_;refine At.U 0 (bLd j64 0) λe3=>?_;apply rt;exact At.r 1
def aIe : Nat->Bool:=imL [1]
def oW(N:Nat)(a0:aE):Option (Int):=
 ae (mY N a0) λr1=>
 cond (r1 != 0) (
  some r1) (
  ae (xO N a0) λr2=>
  ae (sP N r2 (aE.mk a0.gC (aP.mk [] [] []) (aK.mk 0 []) (aD.mk 0 (#v[0,0,0]) 0) (aJ.mk 0 (#v[0,0,0]) (aA.mk 0 0 0) (aA.mk 0 0 0) (aA.mk 0 0 0)))) λr3=>
  cond (!r3) (
   some 5) (
   ae (sA N a0) λr4=>
   ae (rX N a0.gC) λr5=>
   aN (decide (((r4.length:Int)) > r5)) λx6=>
   cond x6 (some 9) (some 0)))
theorem aGg{N a0 r}(h:oW N a0=some r):FnM Tryz.prog 44 [] [(aE.enc a0)] (j64 r) []:=by
 refine Af aIe Tryz.func44 h ?_;refine At.y 3 aJ4 λr1=>?_;refine At.c 3 ?_ ?_
 ·apply rt;exact At.r 2
 ·refine At.D 0 [] ?_;refine DD.y 1 aIG λr2=>?_;refine DD.y 3 aIH λr3=>?_;refine De 1 ?_;refine At.c 0 ?_ ?_
  ·apply rt;exact At.r 1
  ·refine At.D 0 [] ?_;refine DD.y 1 aA4 λr4=>?_;refine DD.y 3 aA2 λr5=>?_;apply lx;intro x6;refine De 1 ?_;refine At.c 0 ?_ ?_
   ·apply rt;exact At.r 1
   ·apply rt;exact At.r 1
def aHe : Nat->Bool:=imL [1]
def pK(N:Nat)(a0:aE):Option ((List Int)×Int):=
 ae (oW N a0) λr1=>
 cond (r1 != 0) (
  some (([],r1))) (
  ae (sA N a0) λr2=>
  some ((r2,0)))
theorem aF2{N a0 r}(h:pK N a0=some r):FnM Tryz.prog 20 [] [(aE.enc a0)] (.tup [(eL 1 k8 r.1),(j64 r.2)]) []:=by
 refine Af aHe Tryz.func20 h ?_;refine At.y 4 aGg λr1=>?_;refine At.c 3 ?_ ?_
 ·apply rt;exact At.r 3
 ·refine At.y 1 aA4 λr2=>?_;apply rt;exact At.r 2
def oH(N:Nat)(a0:Int):Option (Int):=
 cond (decide (a0 < 1)) (
  some 0) (
  aN (I64 (Int.tdiv (I64 (a0 - 1)) 256)) λx1=>
  some (I64 (x1+1)))
theorem yI{N a0 r}(h:oH N a0=some r):FnM Tryz.prog 21 [] [(j64 a0)] (j64 r) []:=by
 refine Af dK Tryz.func21 h ?_;refine At.c 3 ?_ ?_
 ·apply rt;exact At.r 1
 ·apply lx;intro x1;apply rt;exact At.r 5
def aEg : Nat->Bool:=imL [1]
def iM(N:Nat)(a0:aF):Nat->Int->Option (Sum (Unit) (Int))
 | 0,_=>none
 | k+1,s3=>
  cond (decide (s3 < 8)) (
   ae (idx a0.gA3.toList s3) λe4=>
   cond (decide (e4 > 15)) (some (Sum.inr 5)) (iM N a0 k (I64 (s3+1)))) (
   some (Sum.inl (())))
def sQ(N:Nat)(a0:aF):Option (Int):=
 ae (rX N a0.gC) λr1=>
 cond (r1==0) (
  some 12) (
  ae (iM N a0 N 0) λo=>mW o (λp2=>
   aN (decide (a0.gA4 > a0.gTo)) λx5=>
   aN (cond x5 true (decide (a0.gA1 < 1))) λx6=>
   cond x6 (
    some 5) (
    cond (decide (a0.gA1 > r1)) (
     some 9) (
     ae (oH N a0.gA1) λr7=>
     cond (a0.gA8 != r7) (some 5) (some 0)))) (λr=>some r))
theorem aDv{N a0 r}(h:sQ N a0=some r):FnM Tryz.prog 46 [] [(aF.enc a0)] (j64 r) []:=by
 refine Af aEg Tryz.func46 h ?_;refine At.y 4 aA2 λr1=>?_;refine At.c 3 ?_ ?_
 ·apply rt;exact At.r 1
 ·refine At.MS 3 [1,3] 0 (λp2=>([],[],[])) [1,3,12] 0 (iM N a0) (λ(s3:Int)=>([(13,(j64 s3))],[],[])) _ N (λop2 g2 k s3=>?_) λp2=>?_
  ·refine At.c 1 ?_ ?_
   ·refine At.b 0 (λ_ e=>aGN hT k8 a0.gA3 e (by kernel_rfl) (by kernel_rfl)) λe4=>?_;refine At.c 3 ?_ ?_
    ·intro e;apply xB g2 e;exact At.r 1
    ·exact λh=>At.v 2 _ h
   ·apply rt;exact At.xs 0
  ·apply lx;intro x5;apply lx;intro x6;refine At.c 11 ?_ ?_
   ·apply rt;exact At.r 1
   ·refine At.c 5 ?_ ?_
    ·apply rt;exact At.r 1
    ·refine At.D 0 [] ?_;refine DD.y 4 yI λr7=>?_;refine De 2 ?_;refine At.c 0 ?_ ?_
     ·apply rt;exact At.r 1
     ·apply rt;exact At.r 1
def aEU : Nat->Bool:=imL [1]
def mA(N:Nat)(a0:aF):Option ((List Int)×Int):=
 ae (sQ N a0) λr1=>
 cond (r1 != 0) (
  some (([],r1))) (
  ae (bT N [] 8 ([a0.gId])) λr2=>
  ae (bT N r2.1 1 ([U64 a0.gC])) λr3=>
  ae (bT N r3.1 4 ([U64 a0.gA6])) λr4=>
  ae (dM a0.gA3.toList 0 8) λs5=>
  ae (fL 1 r4.1 s5) λz6=>
  ae (bT N z6 4 ([U64 a0.gA4,U64 a0.gTo,U64 a0.gA1])) λr7=>
  ae (bT N r7.1 2 ([U64 a0.gA8])) λr8=>
  some ((r8.1,r8.2)))
theorem aC4{N a0 r}(h:mA N a0=some r):FnM Tryz.prog 22 [] [(aF.enc a0)] (.tup [(eL 1 k8 r.1),(j64 r.2)]) []:=by
 refine Af aEU Tryz.func22 h ?_;refine At.y 4 aDv λr1=>?_;refine At.c 3 ?_ ?_
 ·apply rt;exact At.r 3
 ·refine At.O 2 bRw ?_;refine At.Y 0 [] lQ λr2=>?_;refine At.O 9 bRw ?_;refine At.Y 0 [] lQ λr3=>?_;refine At.O 8 bRw ?_;refine At.Y 0 [] lQ λr4=>?_;refine At.B 6 (bSI k8) λs5=>?_;refine At.U 0 (bAp k8) λz6=>?_;refine At.O 11 bRw ?_;refine At.Y 0 [] lQ λr7=>?_;refine At.O 8 bRw ?_;refine At.Y 0 [] lQ λr8=>?_;apply rt;exact At.r 4
def aSd : Go.Shelf.Ren:=⟨λ | 4=>47 | n=>n,λ | 0=>0 | 3=>3 | 4=>4 | 9=>9 | 20=>20 | 22=>23 | 25=>5 | n=>n,λn=>n⟩
theorem aSH : Lays8.n4 Tryz.prog aSd:={ mixed:=by kernel_rfl,f4:=⟨Tryz.f47.name,by decide,Tryz.func47.trans (congrArg some (by kernel_rfl))⟩,t0:=Tryz.underlying0,a0:=Tryz.isAgg0,z0:=Tryz.sizeOf0,v0:=Tryz.zeroValue0,t3:=Tryz.underlying3,a3:=Tryz.isAgg3,z3:=Tryz.sizeOf3,v3:=Tryz.zeroValue3,t4:=Tryz.underlying4,a4:=Tryz.isAgg4,z4:=Tryz.sizeOf4,v4:=Tryz.zeroValue4,t9:=Tryz.underlying9,a9:=Tryz.isAgg9,z9:=Tryz.sizeOf9,v9:=Tryz.zeroValue9,t20:=Tryz.underlying20,a20:=Tryz.isAgg20,z20:=Tryz.sizeOf20,v20:=Tryz.zeroValue20,t22:=Tryz.underlying23,a22:=Tryz.isAgg23,z22:=Tryz.sizeOf23,v22:=Tryz.zeroValue23 }
theorem aTo{n:Int}{r:List Int}(h:aGZ Int 1 n=some r):FnM Tryz.prog 47 [] [.v (.slice none 0 0),.v (.int .i64 n)] (eO 0 1 k8 r) [.tail (r.length*1)]:=
 aS6 (i0:=Tryz.t5) aSH rfl k8 (by kernel_rfl) rfl (by kernel_rfl) (by kernel_rfl) (by kernel_rfl) (by decide) h
theorem aPP : nP Tryz.prog 47:=kA (show lK Tryz.prog 47=true by kernel_rfl)
def eW(N:Nat)(a0:(List (List Int))):Nat->Int->Int->Option (Int)
 | 0,_,_=>none
 | k+1,s2,s3=>
  aN (decide (s3 < ((a0.length:Int)))) λx4=>
  cond x4 (
   ae (idx a0 s3) λe5=>
   aN (I64 (s2+((e5.length:Int)))) λx6=>
   cond (decide (x6 < 0)) (none) (eW N a0 k x6 (I64 (s3+1)))) (
   some s2)
def cZ(N:Nat)(a0:(List (List Int))):Nat->(List Int)->Int->Option ((List Int))
 | 0,_,_=>none
 | k+1,s9,s10=>
  aN (decide (s10 < ((a0.length:Int)))) λx11=>
  cond x11 (
   ae (idx a0 s10) λe12=>
   ae (fL 1 s9 e12) λz13=>
   cZ N a0 k z13 (I64 (s10+1))) (
   some s9)
def eK(N:Nat)(a0:(List (List Int))):Option ((List Int)):=
 ae (eW N a0 N 0 0) λp1=>
 ae (aGZ Int 1 p1) λr7=>
 ae (cZ N a0 N r7 0) λp8=>
 some p8
theorem nN{N a0 r}(h:eK N a0=some r):FnM Tryz.prog 23 [] [(eL 1 (eL 1 k8) a0)] (eO 0 1 k8 r) [.tail (r.length*1)]:=by
 refine Af dK Tryz.func23 h ?_;refine At.M 5 [0] 0 (λp1=>([(3,(j64 p1))],[],[])) [0,9,10] 0 (CU2 (eW N a0)) (cu2 λs2 s3=>([(3,(j64 s2)),(11,(j64 s3))],[],[])) (_,_) N (λp1 k=>un2 λs2 s3=>?_) λp1=>?_
 ·apply lx;intro x4;refine At.c 1 ?_ ?_
  ·refine At.i hT 0 (eL 1 k8) λe5=>?_;apply lx;intro x6;refine At.c 9 ?_ ?_
   ·exact nn
   ·exact λh=>At.v 2 (_,_) h
  ·apply rt;exact At.x 0
 ·refine At.b 1 (λ_ e=>wD [] (aTo e) aPP) λr7=>?_;refine At.M 4 [] 1 (λp8=>([(6,(eO 0 1 k8 p8))],[(0,.tail (p8.length*1))],[])) [25,26] 1 (CU2 (cZ N a0)) (cu2 λs9 s10=>([(6,(eO 0 1 k8 s9)),(27,(j64 s10))],[(0,.tail (s9.length*1))],[])) (_,_) N (λp8 k=>un2 λs9 s10=>?_) λp8=>?_
  ·apply lx;intro x11;refine At.c 1 ?_ ?_
   ·refine At.i hT 0 (eL 1 k8) λe12=>?_;refine At.U 4 (bAp k8) λz13=>?_;exact λh=>At.v 3 (_,_) h
   ·apply rt;exact At.x 0
  ·apply rt;exact At.r 2
def aG9 : Nat->Bool:=imL [2]
def fI(N:Nat)(a1:Int):Nat->(Vector Int 12)->Int->Option ((Vector Int 12))
 | 0,_,_=>none
 | k+1,s5,s6=>
  cond (decide (s6 < 4)) (
   ae (wY .i64 a1 (I64 (8*s6))) λx7=>
   ae (aO (I64 (8+s6)) 12) λ_=>
   ae (s5.toList[(I64 (8+s6)).toNat]?) λe9=>
   fI N a1 k (s5.setIfInBounds ((I64 (8+s6)).toNat) (U8 x7)) (I64 (s6+1))) (
   some s5)
def jY(N:Nat)(a0:(Vector Int 8))(a1:Int):Option ((Vector Int 12)):=
 ae (aE7 12 0 12) λ_=>
 ae (dM a0.toList 0 8) λs2=>
 ae (cpV (ah 12 0) s2 0 12) λv3=>
 ae (fI N a1 N v3 0) λp4=>
 some p4
theorem aAx{N a0 a1 r}(h:jY N a0 a1=some r):FnM Tryz.prog 25 [] [(eA 8 1 k8 a0),(j64 a1)] (eA 12 1 k8 r) []:=by
 refine Af aG9 Tryz.func25 h ?_;refine At.D 3 [] ?_;refine DD.b 0 (λe _=>aGJ hT (k:=1) 1 [] 0 e (by kernel_rfl) (by kernel_rfl) (by decide)) λs1=>?_;refine DD.B 0 (bSI k8) λs2=>?_;refine bi λv3 hv3=>?_;refine DD.w 0 (j64 (((min s2.length 12:Nat):Int))) ⟨[(1,.var (eA 12 1 k8 v3))],[]⟩ (λ_ e=>aD2 hT k8 (id:=1) (path:=[]) (off:=0) hv3 (pj1 e) (pj1 (pj2 e)) (pj2 (pj2 e))) ?_;refine De 0 ?_;refine At.M 1 [4,5] 2 (λp4=>([],[(1,.var (eA 12 1 k8 p4))],[])) [1,4,5] 2 (CU2 (fI N a1)) (cu2 λs5 s6=>([(10,(j64 s6))],[(1,.var (eA 12 1 k8 s5))],[])) (_,_) N (λp4 k=>un2 λs5 s6=>?_) λp4=>?_
 ·refine At.c 1 ?_ ?_
  ·refine At.B 7 bSr λx7=>?_;refine At.B 1 bAr λu8=>?_;refine At.U 0 (bSv k8 0 (U8 x7)) λe9=>?_;exact λh=>At.v 2 (_,_) h
  ·apply rt;exact At.x 0
 ·apply rt;exact At.r 2
def kX(N:Nat)(a0:(List Int)):Option (Int):=
 ae (idx a0 0) λe1=>
 ae (idx a0 1) λe2=>
 aN (bor .u32 (U32 e1) (shl .u32 (U32 e2) 8)) λx3=>
 ae (idx a0 2) λe4=>
 aN (bor .u32 x3 (shl .u32 (U32 e4) 16)) λx5=>
 ae (idx a0 3) λe6=>
 aN (bor .u32 x5 (shl .u32 (U32 e6) 24)) λx7=>
 some x7
theorem aAR{N a0 r}(h:kX N a0=some r):FnM Tryz.prog 173 [] [(eL 1 k8 a0)] (k32 r) []:=by
 refine Af dK Tryz.func173 h ?_;refine At.D 1 [] ?_;refine DD.i hT 1 k8 λe1=>?_;refine DD.i hT 3 k8 λe2=>?_;apply lx;intro x3;refine DD.i hT 5 k8 λe4=>?_;apply lx;intro x5;refine DD.i hT 5 k8 λe6=>?_;apply lx;intro x7;refine De 5 ?_;apply rt;exact At.r 0
def aHy : Nat->Bool:=imL [3,5]
def dD(N:Nat)(a0:(Vector Int 32)):Nat->(Vector Int 16)->Int->Option ((Vector Int 16))
 | 0,_,_=>none
 | k+1,s2,s3=>
  cond (decide (s3 < 8)) (
   ae (dM a0.toList (I64 (4*s3)) 32) λs4=>
   ae (kX N s4) λr5=>
   ae (aO (I64 (4+s3)) 16) λ_=>
   ae (s2.toList[(I64 (4+s3)).toNat]?) λe7=>
   dD N a0 k (s2.setIfInBounds ((I64 (4+s3)).toNat) r5) (I64 (s3+1))) (
   some s2)
def dF(N:Nat)(a2:(Vector Int 12)):Nat->(Vector Int 16)->Int->Option ((Vector Int 16))
 | 0,_,_=>none
 | k+1,s9,s10=>
  cond (decide (s10 < 3)) (
   ae (dM a2.toList (I64 (4*s10)) 12) λs11=>
   ae (kX N s11) λr12=>
   ae (aO (I64 (13+s10)) 16) λ_=>
   ae (s9.toList[(I64 (13+s10)).toNat]?) λe14=>
   dF N a2 k (s9.setIfInBounds ((I64 (13+s10)).toNat) r12) (I64 (s10+1))) (
   some s9)
def pX(N:Nat)(a0:(Vector Int 32))(a1:Int)(a2:(Vector Int 12)):Option ((Vector Int 16)):=
 ae (dD N a0 N (#v[1634760805,857760878,2036477234,1797285236,0,0,0,0,0,0,0,0,a1,0,0,0]) 0) λp1=>
 ae (dF N a2 N p1 0) λp8=>
 some p8
theorem aF9{N a0 a1 a2 r}(h:pX N a0 a1 a2=some r):FnM Tryz.prog 145 [] [(eA 32 1 k8 a0),(k32 a1),(eA 12 1 k8 a2)] (eA 16 1 k32 r) []:=by
 refine Af aHy Tryz.func145 h ?_;refine At.M 8 [5,6,7] 2 (λp1=>([],[(1,.var (eA 16 1 k32 p1))],[])) [3,5,6,7] 2 (CU2 (dD N a0)) (cu2 λs2 s3=>([(12,(j64 s3))],[(1,.var (eA 16 1 k32 s2))],[])) (_,_) N (λp1 k=>un2 λs2 s3=>?_) λp1=>?_
 ·refine At.c 1 ?_ ?_
  ·refine At.B 6 (bSI k8) λs4=>?_;refine At.y 0 aAR λr5=>?_;refine At.B 0 bAr λu6=>?_;refine At.U 0 (bSv k32 0 r5) λe7=>?_;exact λh=>At.v 2 (_,_) h
  ·apply rt;exact At.x 0
 ·refine At.M 1 [6,7] 2 (λp8=>([],[(1,.var (eA 16 1 k32 p8))],[])) [5,6,7] 2 (CU2 (dF N a2)) (cu2 λs9 s10=>([(23,(j64 s10))],[(1,.var (eA 16 1 k32 s9))],[])) (_,_) N (λp8 k=>un2 λs9 s10=>?_) λp8=>?_
  ·refine At.c 1 ?_ ?_
   ·refine At.B 6 (bSI k8) λs11=>?_;refine At.y 0 aAR λr12=>?_;refine At.B 0 bAr λu13=>?_;refine At.U 0 (bSv k32 0 r12) λe14=>?_;exact λh=>At.v 2 (_,_) h
   ·apply rt;exact At.x 0
  ·apply rt;exact At.r 2
def aEm : Nat->Bool:=imL [1]
def nD(N:Nat)(a0:(Vector Int 4)):Option ((Vector Int 4)):=
 ae (idx a0.toList 0) λe1=>
 ae (idx a0.toList 1) λe2=>
 ae (idx a0.toList 2) λe3=>
 ae (idx a0.toList 3) λe4=>
 aN (fG .u32 e4 (U32 (e1+e2))) λx5=>
 ae (bG N x5 16) λr6=>
 aN (fG .u32 e2 (U32 (e3+r6))) λx7=>
 ae (bG N x7 12) λr8=>
 aN (U32 ((U32 (e1+e2))+r8)) λx9=>
 ae (bG N (fG .u32 r6 x9) 8) λr10=>
 aN (U32 ((U32 (e3+r6))+r10)) λx11=>
 ae (bG N (fG .u32 r8 x11) 7) λr12=>
 some (#v[x9,r12,x11,r10])
theorem aDs{N a0 r}(h:nD N a0=some r):FnM Tryz.prog 146 [] [(eA 4 1 k32 a0)] (eA 4 1 k32 r) []:=by
 refine Af aEm Tryz.func146 h ?_;refine At.D 2 [] ?_;refine DD.B 0 (bAi k32) λe1=>?_;refine DD.B 1 (bAi k32) λe2=>?_;refine DD.B 1 (bAi k32) λe3=>?_;refine DD.B 1 (bAi k32) λe4=>?_;refine De 5 ?_;apply lx;intro x5;refine At.y 7 iI λr6=>?_;apply lx;intro x7;refine At.y 8 iI λr8=>?_;apply lx;intro x9;refine At.y 8 iI λr10=>?_;apply lx;intro x11;refine At.y 8 iI λr12=>?_;apply rt;exact At.r 7
def aHZ : Nat->Bool:=imL [3,5]
def aV(N:Nat)  : Nat->(Vector Int 16)->Int->Option ((Vector Int 16))
 | 0,_,_=>none
 | k+1,s6,s7=>
  cond (decide (s7 < 8)) (
   ae (idx (#v[#v[0,4,8,12],#v[1,5,9,13],#v[2,6,10,14],#v[3,7,11,15],#v[0,5,10,15],#v[1,6,11,12],#v[2,7,8,13],#v[3,4,9,14]]).toList s7) λe8=>
   ae (aO 0 4) λ_=>
   ae (e8.toList[(ag 0)]?) λe10=>
   ae (aO e10 16) λ_=>
   ae (s6.toList[e10.toNat]?) λe12=>
   ae (aO 1 4) λ_=>
   ae (e8.toList[(ag 1)]?) λe14=>
   ae (aO e14 16) λ_=>
   ae (s6.toList[e14.toNat]?) λe16=>
   ae (aO 2 4) λ_=>
   ae (e8.toList[(ag 2)]?) λe18=>
   ae (aO e18 16) λ_=>
   ae (s6.toList[e18.toNat]?) λe20=>
   ae (aO 3 4) λ_=>
   ae (e8.toList[(ag 3)]?) λe22=>
   ae (aO e22 16) λ_=>
   ae (s6.toList[e22.toNat]?) λe24=>
   ae (nD N (#v[e12,e16,e20,e24])) λr25=>
   ae (aO 0 4) λ_=>
   ae (e8.toList[(ag 0)]?) λe27=>
   ae (aO 1 4) λ_=>
   ae (e8.toList[(ag 1)]?) λe29=>
   ae (aO 2 4) λ_=>
   ae (e8.toList[(ag 2)]?) λe31=>
   ae (aO 3 4) λ_=>
   ae (e8.toList[(ag 3)]?) λe33=>
   ae (aO 0 4) λ_=>
   ae (r25.toList[(ag 0)]?) λe35=>
   ae (aO 1 4) λ_=>
   ae (r25.toList[(ag 1)]?) λe37=>
   ae (aO 2 4) λ_=>
   ae (r25.toList[(ag 2)]?) λe39=>
   ae (aO 3 4) λ_=>
   ae (r25.toList[(ag 3)]?) λe41=>
   ae (aO e27 16) λ_=>
   ae (s6.toList[e27.toNat]?) λe43=>
   ae (aO e29 16) λ_=>
   ae ((s6.setIfInBounds e27.toNat e35).toList[e29.toNat]?) λe45=>
   ae (aO e31 16) λ_=>
   ae (((s6.setIfInBounds e27.toNat e35).setIfInBounds e29.toNat e37).toList[e31.toNat]?) λe47=>
   ae (aO e33 16) λ_=>
   ae ((((s6.setIfInBounds e27.toNat e35).setIfInBounds e29.toNat e37).setIfInBounds e31.toNat e39).toList[e33.toNat]?) λe49=>
   aV N k ((((s6.setIfInBounds e27.toNat e35).setIfInBounds e29.toNat e37).setIfInBounds e31.toNat e39).setIfInBounds e33.toNat e41) (I64 (s7+1))) (
   some s6)
def fH(N:Nat)  : Nat->(Vector Int 16)->Int->Option ((Vector Int 16))
 | 0,_,_=>none
 | k+1,s3,s4=>
  cond (decide (s4 < 10)) (
   ae (aV N N s3 0) λp5=>
   fH N k p5 (I64 (s4+1))) (
   some s3)
def eD(N:Nat)(p2 r1:(Vector Int 16)):Nat->(Vector Int 64)->Int->Option ((Vector Int 64))
 | 0,_,_=>none
 | k+1,s51,s52=>
  cond (decide (s52 < 16)) (
   ae (idx p2.toList s52) λe53=>
   ae (aO s52 16) λ_=>
   ae (r1.toList[s52.toNat]?) λe55=>
   aN (I64 ((I64 (4*s52))+1)) λx56=>
   aN (I64 ((I64 (4*s52))+2)) λx57=>
   aN (I64 ((I64 (4*s52))+3)) λx58=>
   aN (shr .u32 (U32 (e53+e55)) 8) λx59=>
   aN (shr .u32 (U32 (e53+e55)) 16) λx60=>
   aN (shr .u32 (U32 (e53+e55)) 24) λx61=>
   ae (aO (I64 (4*s52)) 64) λ_=>
   ae (s51.toList[(I64 (4*s52)).toNat]?) λe63=>
   ae (aO x56 64) λ_=>
   ae ((s51.setIfInBounds ((I64 (4*s52)).toNat) (U8 (U32 (e53+e55)))).toList[x56.toNat]?) λe65=>
   ae (aO x57 64) λ_=>
   ae (((s51.setIfInBounds ((I64 (4*s52)).toNat) (U8 (U32 (e53+e55)))).setIfInBounds x56.toNat (U8 x59)).toList[x57.toNat]?) λe67=>
   ae (aO x58 64) λ_=>
   ae ((((s51.setIfInBounds ((I64 (4*s52)).toNat) (U8 (U32 (e53+e55)))).setIfInBounds x56.toNat (U8 x59)).setIfInBounds x57.toNat (U8 x60)).toList[x58.toNat]?) λe69=>
   eD N p2 r1 k ((((s51.setIfInBounds ((I64 (4*s52)).toNat) (U8 (U32 (e53+e55)))).setIfInBounds x56.toNat (U8 x59)).setIfInBounds x57.toNat (U8 x60)).setIfInBounds x58.toNat (U8 x61)) (I64 (s52+1))) (
   some s51)
def kE(N:Nat)(a0:(Vector Int 32))(a1:Int)(a2:(Vector Int 12)):Option ((Vector Int 64)):=
 ae (pX N a0 a1 a2) λr1=>
 ae (fH N N r1 0) λp2=>
 ae (eD N p2 r1 N (ah 64 0) 0) λp50=>
 some p50
theorem aA1{N a0 a1 a2 r}(h:kE N a0 a1 a2=some r):FnM Tryz.prog 112 [] [(eA 32 1 k8 a0),(k32 a1),(eA 12 1 k8 a2)] (eA 64 1 k8 r) []:=by
 refine Af aHZ Tryz.func112 h ?_;refine At.y 6 aF9 λr1=>?_;refine At.M 17 [6,7,8] 4 (λp2=>([],[(2,.var (eA 16 1 k32 p2))],[])) [6,7,8,9] 4 (CU2 (fH N)) (cu2 λs3 s4=>([(30,(j64 s4))],[(2,.var (eA 16 1 k32 s3))],[])) (_,_) N (λp2 k=>un2 λs3 s4=>?_) λp2=>?_
 ·refine At.c 1 ?_ ?_
  ·refine At.M 2 [6,7,8,9,30] 4 (λp5=>([],[(2,.var (eA 16 1 k32 p5))],[])) [6,7,8,9,30,32] 4 (CU2 (aV N)) (cu2 λs6 s7=>([(33,(j64 s7))],[(2,.var (eA 16 1 k32 s6))],[])) (_,_) N (λp5 k=>un2 λs6 s7=>?_) λp5=>?_
   ·refine At.c 1 ?_ ?_
    ·refine At.b 0 (λ_ e=>aGN hT (eA 4 1 j64) (#v[#v[0,4,8,12],#v[1,5,9,13],#v[2,6,10,14],#v[3,7,11,15],#v[0,5,10,15],#v[1,6,11,12],#v[2,7,8,13],#v[3,4,9,14]]) e (by kernel_rfl) (by kernel_rfl)) λe8=>?_;refine At.D 2 [] ?_;refine DD.B 0 bAr λu9=>?_;refine DD.l hT 0 j64 j64 0 λe10=>?_;refine DD.B 0 bAr λu11=>?_;refine DD.l hT 0 k32 k32 0 λe12=>?_;refine DD.B 0 bAr λu13=>?_;refine DD.l hT 0 j64 j64 0 λe14=>?_;refine DD.B 0 bAr λu15=>?_;refine DD.l hT 0 k32 k32 0 λe16=>?_;refine DD.B 0 bAr λu17=>?_;refine DD.l hT 0 j64 j64 0 λe18=>?_;refine DD.B 0 bAr λu19=>?_;refine DD.l hT 0 k32 k32 0 λe20=>?_;refine DD.B 0 bAr λu21=>?_;refine DD.l hT 0 j64 j64 0 λe22=>?_;refine DD.B 0 bAr λu23=>?_;refine DD.l hT 0 k32 k32 0 λe24=>?_;refine DD.y 1 aDs λr25=>?_;refine De 2 ?_;refine At.D 0 [] ?_;refine DD.B 0 bAr λu26=>?_;refine DD.l hT 0 j64 j64 0 λe27=>?_;refine DD.B 0 bAr λu28=>?_;refine DD.l hT 0 j64 j64 0 λe29=>?_;refine DD.B 0 bAr λu30=>?_;refine DD.l hT 0 j64 j64 0 λe31=>?_;refine DD.B 0 bAr λu32=>?_;refine DD.l hT 0 j64 j64 0 λe33=>?_;refine DD.B 0 bAr λu34=>?_;refine DD.l hT 0 k32 k32 0 λe35=>?_;refine DD.B 0 bAr λu36=>?_;refine DD.l hT 0 k32 k32 0 λe37=>?_;refine DD.B 0 bAr λu38=>?_;refine DD.l hT 0 k32 k32 0 λe39=>?_;refine DD.B 0 bAr λu40=>?_;refine DD.l hT 0 k32 k32 0 λe41=>?_;refine DD.B 0 bAr λu42=>?_;refine DD.U 0 (bSv k32 0 e35) λe43=>?_;refine DD.B 0 bAr λu44=>?_;refine DD.U 0 (bSv k32 0 e37) λe45=>?_;refine DD.B 0 bAr λu46=>?_;refine DD.U 0 (bSv k32 0 e39) λe47=>?_;refine DD.B 0 bAr λu48=>?_;refine DD.U 0 (bSv k32 0 e41) λe49=>?_;refine De 0 ?_;exact λh=>At.v 2 (_,_) h
    ·apply rt;exact At.x 0
   ·exact λh=>At.v 2 (_,_) h
  ·apply rt;exact At.x 0
 ·refine At.M 3 [6,13] 5 (λp50=>([],[(4,.var (eA 64 1 k8 p50))],[])) [6,7,13,76] 5 (CU2 (eD N p2 r1)) (cu2 λs51 s52=>([(77,(j64 s52))],[(4,.var (eA 64 1 k8 s51))],[])) (_,_) N (λp50 k=>un2 λs51 s52=>?_) λp50=>?_
  ·refine At.c 1 ?_ ?_
   ·refine At.b 1 (λ_ e=>aGN hT k32 p2 e (by kernel_rfl) (by kernel_rfl)) λe53=>?_;refine At.B 4 bAr λu54=>?_;refine At.U 0 (bLd k32 0) λe55=>?_;apply lx;intro x56;apply lx;intro x57;apply lx;intro x58;apply lx;intro x59;apply lx;intro x60;apply lx;intro x61;refine At.B 24 bAr λu62=>?_;refine At.U 0 (bSv k8 0 (U8 (U32 (e53+e55)))) λe63=>?_;refine At.B 0 bAr λu64=>?_;refine At.U 0 (bSv k8 0 (U8 x59)) λe65=>?_;refine At.B 0 bAr λu66=>?_;refine At.U 0 (bSv k8 0 (U8 x60)) λe67=>?_;refine At.B 0 bAr λu68=>?_;refine At.U 0 (bSv k8 0 (U8 x61)) λe69=>?_;exact λh=>At.v 2 (_,_) h
   ·apply rt;exact At.x 0
  ·apply rt;exact At.r 2
def aF3 : Nat->Bool:=imL [4,6]
def jO(N:Nat)(a3:Int)(a0:(Vector Int 32))(a2:(Vector Int 12)):Nat->(List Int)->Int->Option ((List Int))
 | 0,_,_=>none
 | k+1,s2,s3=>
  aN (decide (((s2.length:Int)) < (lH a3 65536))) λx4=>
  cond x4 (
   ae (kE N a0 s3 a2) λr5=>
   aN (I64 ((lH a3 65536) - ((s2.length:Int)))) λx6=>
   ae (dM r5.toList 0 (lH 64 x6)) λs8=>
   ae (fL 1 s2 s8) λz9=>
   jO N a3 a0 a2 k z9 (U32 (s3+1))) (
   some s2)
def kZ(N:Nat)(a0:(Vector Int 32))(a1:Int)(a2:(Vector Int 12))(a3:Int):Option ((List Int)):=
 ae (jO N a3 a0 a2 N [] a1) λp1=>
 some p1
theorem aEv{N a0 a1 a2 a3 r}(h:kZ N a0 a1 a2 a3=some r):FnM Tryz.prog 79 [] [(eA 32 1 k8 a0),(k32 a1),(eA 12 1 k8 a2),(j64 a3)] (eL 1 k8 r) []:=by
 refine Af aF3 Tryz.func79 h ?_;refine At.ownn 7 9 1 ?_;refine At.M 0 [] 1 (λp1=>([(9,(eO 0 1 k8 p1))],[(0,.tail (p1.length*1))],[])) [3,4,6] 1 (CU2 (jO N a3 a0 a2)) (cu2 λs2 s3=>([(1,(k32 s3)),(9,(eO 0 1 k8 s2))],[(0,.tail (s2.length*1))],[])) (_,_) N (λp1 k=>un2 λs2 s3=>?_) λp1=>?_
 ·apply lx;intro x4;refine At.c 4 ?_ ?_
  ·refine At.y 3 aA1 λr5=>?_;apply lx;intro x6;refine At.gz 8 1 ((eA 64 1 k8 r5)) ?_;refine At.B 0 (bSI k8) λs8=>?_;refine At.U 0 (bAp k8) λz9=>?_;exact λh=>At.v 4 (_,_) h
  ·apply rt;exact At.x 0
 ·apply rt;exact At.r 2
def aJz : Nat->Bool:=imL [4,6]
def lA(N:Nat)(a3:(List (List Int))):Nat->(List Int)->Int->Option ((List Int))
 | 0,_,_=>none
 | k+1,s2,s3=>
  aN (decide (s3 < ((a3.length:Int)))) λx4=>
  cond x4 (
   ae (idx a3 s3) λe5=>
   aN (I64 (65536 - ((s2.length:Int)))) λx6=>
   aN (lH ((e5.length:Int)) x6) λx7=>
   ae (dM e5 0 x7) λs8=>
   ae (fL 1 s2 s8) λz9=>
   lA N a3 k z9 (I64 (s3+1))) (
   some s2)
def oD(N:Nat)(r10:(List Int)):Nat->(List Int)->Int->Option ((List Int))
 | 0,_,_=>none
 | k+1,s12,s13=>
  aN (decide (s13 < ((r10.length:Int)))) λx14=>
  cond x14 (
   ae (idx r10 s13) λe15=>
   ae (aO s13 s12.length) λ_=>
   ae (s12[s13.toNat]?) λe17=>
   ae (aO s13 s12.length) λ_=>
   ae (aOj s12 s13.toNat (fG .u8 e17 e15)) λz19=>
   oD N r10 k z19 (I64 (s13+1))) (
   some s12)
def xU(N:Nat)(a0:(Vector Int 32))(a1:Int)(a2:(Vector Int 12))(a3:(List (List Int))):Option ((List Int)):=
 ae (lA N a3 N [] 0) λp1=>
 ae (kZ N a0 a1 a2 ((p1.length:Int))) λr10=>
 ae (oD N r10 N p1 0) λp11=>
 some p11
theorem aIg{N a0 a1 a2 a3 r}(h:xU N a0 a1 a2 a3=some r):FnM Tryz.prog 48 [] [(eA 32 1 k8 a0),(k32 a1),(eA 12 1 k8 a2),(eL 1 (eL 1 k8) a3)] (eL 1 k8 r) []:=by
 refine Af aJz Tryz.func48 h ?_;refine At.gron 7 9 1 ?_;refine At.M 0 [1,4,6] 1 (λp1=>([(9,(.gro 0 1 p1.length .all))],[(0,.gro 1 (f8 k8 p1))],[])) [1,4,6,14,15] 1 (CU2 (lA N a3)) (cu2 λs2 s3=>([(9,(.gro 0 1 s2.length .all)),(16,(j64 s3))],[(0,.gro 1 (f8 k8 s2))],[])) (_,_) N (λp1 k=>un2 λs2 s3=>?_) λp1=>?_
 ·apply lx;intro x4;refine At.c 1 ?_ ?_
  ·refine At.i hT 0 (eL 1 k8) λe5=>?_;apply lx;intro x6;apply lx;intro x7;refine At.B 10 (bSl k8) λs8=>?_;refine At.b 0 (λz9 e=>aPJ hT k8 (id:=0) (k:=1) e (by kernel_rfl) (by kernel_rfl) (H':=[.gro 1 (f8 k8 z9)]) (by kernel_rfl)) λz9=>?_;exact λh=>At.v 3 (_,_) h
  ·apply rt;exact At.x 0
 ·refine At.y 5 aEv λr10=>?_;refine At.M 2 [] 1 (λp11=>([(9,(.gro 0 1 p11.length .all))],[(0,.gro 1 (f8 k8 p11))],[])) [36,37] 1 (CU2 (oD N r10)) (cu2 λs12 s13=>([(9,(.gro 0 1 s12.length .all)),(38,(j64 s13))],[(0,.gro 1 (f8 k8 s12))],[])) (_,_) N (λp11 k=>un2 λs12 s13=>?_) λp11=>?_
  ·apply lx;intro x14;refine At.c 1 ?_ ?_
   ·refine At.i hT 1 k8 λe15=>?_;refine At.b 5 (λ_ e=>aM9 hT (id:=0) (k:=1) e (by kernel_rfl) (by kernel_rfl)) λu16=>?_;refine At.b 0 (λ_ e=>aST hT k8 [] e rfl (by kernel_rfl) (by kernel_rfl)) λe17=>?_;refine At.b 2 (λ_ e=>aM9 hT (id:=0) (k:=1) e (by kernel_rfl) (by kernel_rfl)) λu18=>?_;refine bi λz19 hz19=>?_;refine At.o 0 (aRh hT k8 (k:=1) (fG .u8 e17 e15) hz19 rfl (by kernel_rfl) (λ_=>by kernel_rfl) (by kernel_rfl) (H':=[.gro 1 (f8 k8 z19)]) (by kernel_rfl)) ?_;refine At.gl 0 [9,49] [] 0 s12.length z19.length ((aRd hz19).2.2) ?_;exact λh=>At.v 2 (_,_) h
   ·apply rt;exact At.x 0
  ·refine At.fz 2 0 1 p11.length _ (f8 k8 p11) (cg _) (cg _) ?_;apply rt;exact At.r 0
def aMQ : Nat->Bool:=imL [2,3]
def vF(N:Nat)(a0:(Vector Int 32))(a1:(Vector Int 12)):Option ((Vector Int 32)):=
 ae (kE N a0 0 a1) λr1=>
 ae (dM r1.toList 0 32) λs3=>
 ae (aGW 32 s3) λv4=>
 some v4
theorem aLc{N a0 a1 r}(h:vF N a0 a1=some r):FnM Tryz.prog 82 [] [(eA 32 1 k8 a0),(eA 12 1 k8 a1)] (eA 32 1 k8 r) []:=by
 refine Af aMQ Tryz.func82 h ?_;refine At.y 5 aA1 λr1=>?_;refine At.gz 2 1 ((eA 64 1 k8 r1)) ?_;refine At.B 0 (bSI k8) λs3=>?_;refine At.b 0 (λv4 e=>aJE hT k8 s3 v4 e rfl (by kernel_rfl) (by kernel_rfl)) λv4=>?_;apply rt;exact At.r 2
def qQ(N:Nat)(a0:(List Int)):Option ((List Int)):=
 aN (cj ((a0.length:Int)) 16) λx1=>
 aN (cj (I64 (16 - x1)) 16) λx2=>
 ae (mkO 1 x2) λ_=>
 ae (aF7 (aj x2.toNat (0:Int)) x2.toNat) λ_=>
 some (aj x2.toNat (0:Int))
theorem aCs{N a0 r}(h:qQ N a0=some r):FnM Tryz.prog 80 [] [(eL 1 k8 a0)] (eL 1 k8 r) []:=by
 refine Af dK Tryz.func80 h ?_;apply lx;intro x1;apply lx;intro x2;refine At.b 6 (λ_ e=>aMV hT k8 ((0:Int)) (k:=1) (kd := .int .u8) e (by kernel_rfl) (by kernel_rfl) rfl) λu3=>?_;refine bi λu4 hu4=>?_;refine At.fz 1 0 1 x2.toNat _ (f8 k8 (aj x2.toNat (0:Int))) (cg _) (lenM k8 hu4) ?_;apply rt;exact At.r 0
def jE(N:Nat)  : Nat->(Vector Int 16)->Int->Option ((Vector Int 16))
 | 0,_,_=>none
 | k+1,s2,s3=>
  cond (decide (s3 < 4)) (
   ae (aN (I64 ((I64 (4*s3))+3)) λx5=>
   ae (aO x5 16) λ_=>
   ae (s2.toList[x5.toNat]?) λe7=>
   ae (aO x5 16) λ_=>
   ae (s2.toList[x5.toNat]?) λe9=>
   cond (decide (s3 > 0)) (
    ae (aO (I64 (4*s3)) 16) λ_=>
    ae ((s2.setIfInBounds x5.toNat (cF .u8 e7 15)).toList[(I64 (4*s3)).toNat]?) λe11=>
    ae (aO (I64 (4*s3)) 16) λ_=>
    ae ((s2.setIfInBounds x5.toNat (cF .u8 e7 15)).toList[(I64 (4*s3)).toNat]?) λe13=>
    some ((s2.setIfInBounds x5.toNat (cF .u8 e7 15)).setIfInBounds ((I64 (4*s3)).toNat) (cF .u8 e11 252))) (
    some (s2.setIfInBounds x5.toNat (cF .u8 e7 15)))) λp4=>
   jE N k p4 (I64 (s3+1))) (
   some s2)
def qJ(N:Nat)(a0:(Vector Int 16)):Option ((Vector Int 16)):=
 ae (jE N N a0 0) λp1=>
 some p1
theorem aIa{N a0 r}(h:qJ N a0=some r):FnM Tryz.prog 147 [] [(eA 16 1 k8 a0)] (eA 16 1 k8 r) []:=by
 refine Af dK Tryz.func147 h ?_;refine At.M 3 [1,2] 2 (λp1=>([],[(0,.var (eA 16 1 k8 p1))],[])) [1,2] 2 (CU2 (jE N)) (cu2 λs2 s3=>([(4,(j64 s3))],[(0,.var (eA 16 1 k8 s2))],[])) (_,_) N (λp1 k=>un2 λs2 s3=>?_) λp1=>?_
 ·refine At.c 1 ?_ ?_
  ·refine At.J 0 2 [1,2,4] 2 (λp4=>([],[(0,.var (eA 16 1 k8 p4))],[])) (λp4=>?_) λp4=>?_
   ·apply lx;intro x5;refine At.B 5 bAr λu6=>?_;refine At.U 0 (bLd k8 0) λe7=>?_;refine At.B 1 bAr λu8=>?_;refine At.U 0 (bSv k8 0 (cF .u8 e7 15)) λe9=>?_;refine At.c 2 ?_ ?_
    ·refine At.B 2 bAr λu10=>?_;refine At.U 0 (bLd k8 0) λe11=>?_;refine At.B 1 bAr λu12=>?_;refine At.U 0 (bSv k8 0 (cF .u8 e11 252)) λe13=>?_;apply rt;exact At.jn 0
    ·apply rt;exact At.jn 0
   ·exact λh=>At.v 2 (_,_) h
  ·apply rt;exact At.x 0
 ·apply rt;exact At.r 2
def fY(N:Nat)(a0:(List Int)):Nat->Int->Int->Option (Int)
 | 0,_,_=>none
 | k+1,s2,s3=>
  cond (decide (s3 < 8)) (
   ae (idx a0 s3) λe4=>
   ae (aF1 .u64 (U64 e4) (I64 (8*s3))) λx5=>
   fY N a0 k (bor .u64 s2 x5) (I64 (s3+1))) (
   some s2)
def cO(N:Nat)(a0:(List Int)):Option (Int):=
 ae (fY N a0 N 0 0) λp1=>
 some p1
theorem lT{N a0 r}(h:cO N a0=some r):FnM Tryz.prog 148 [] [(eL 1 k8 a0)] (k64 r) []:=by
 refine Af dK Tryz.func148 h ?_;refine At.M 3 [] 0 (λp1=>([(3,(k64 p1))],[],[])) [0] 0 (CU2 (fY N a0)) (cu2 λs2 s3=>([(3,(k64 s2)),(5,(j64 s3))],[],[])) (_,_) N (λp1 k=>un2 λs2 s3=>?_) λp1=>?_
 ·refine At.c 1 ?_ ?_
  ·refine At.i hT 5 k8 λe4=>?_;refine At.B 4 bSh λx5=>?_;exact λh=>At.v 4 (_,_) h
  ·apply rt;exact At.x 0
 ·apply rt;exact At.r 2
def aLp : Nat->Bool:=imL [1]
def uZ(N:Nat)(a0:(Vector Int 32)):Option (Int×Int×Int×Int):=
 ae (dM a0.toList 0 16) λs1=>
 ae (aGW 16 s1) λv2=>
 ae (qJ N v2) λr3=>
 ae (dM r3.toList 0 16) λs4=>
 ae (cO N s4) λr5=>
 ae (dM r3.toList 8 16) λs6=>
 ae (cO N s6) λr7=>
 ae (dM a0.toList 16 32) λs8=>
 ae (cO N s8) λr9=>
 ae (dM a0.toList 24 32) λs10=>
 ae (cO N s10) λr11=>
 some ((r5,r7,r9,r11))
theorem aLf{N a0 r}(h:uZ N a0=some r):FnM Tryz.prog 113 [] [(eA 32 1 k8 a0)] (.ref 1 [] 0) [.dead,.var (.st 10 [(.st 3 [(.arr 3 1 [(k64 0),(k64 0),(k64 0)])]),(eB true),(k64 r.1),(k64 r.2.1),(k64 r.2.2.1),(k64 r.2.2.2),(.v (.slice none 0 0)),(j64 0)])]:=by
 refine Af aLp Tryz.func113 h ?_;refine At.B 2 (bSI k8) λs1=>?_;refine At.b 0 (λv2 e=>aJE hT k8 s1 v2 e rfl (by kernel_rfl) (by kernel_rfl)) λv2=>?_;refine At.y 1 aIa λr3=>?_;refine At.gz 2 0 ((eA 16 1 k8 r3)) ?_;refine At.D 0 [] ?_;refine DD.B 0 (bSI k8) λs4=>?_;refine DD.y 0 lT λr5=>?_;refine DD.B 0 (bSI k8) λs6=>?_;refine DD.y 0 lT λr7=>?_;refine DD.B 0 (bSI k8) λs8=>?_;refine DD.y 0 lT λr9=>?_;refine DD.B 0 (bSI k8) λs10=>?_;refine DD.y 0 lT λr11=>?_;refine De 3 ?_;apply rt;exact At.r 0
def jR(N:Nat)  : Nat->(List (Vector Int 17))->(List Int)->Option ((List (Vector Int 17)))
 | 0,_,_=>none
 | k+1,s4,s5=>
  aN (decide (((s5.length:Int)) > 0)) λx6=>
  cond x6 (
   ae (aE7 17 0 16) λ_=>
   ae (cpV (ah 17 0) s5 0 16) λv8=>
   aN (((min s5.length 16:Nat):Int)) λx9=>
   ae (aO x9 17) λ_=>
   ae (v8.toList[x9.toNat]?) λe11=>
   ae (fL 17 s4 (([v8.setIfInBounds x9.toNat 1]:List (Vector Int 17)))) λz12=>
   ae (dM s5 x9 ((s5.length:Int))) λs13=>
   jR N k z12 s13) (
   some s4)
def jU(N:Nat)(a0:(List Int)):Option ((List (Vector Int 17))):=
 aN (lH ((a0.length:Int)) 65536) λx1=>
 ae (dM a0 0 x1) λs2=>
 ae (jR N N [] s2) λp3=>
 some p3
theorem aBm{N a0 r}(h:jU N a0=some r):FnM Tryz.prog 150 [] [(eL 1 k8 a0)] (eL 17 (eA 17 1 k8) r) []:=by
 refine Af dK Tryz.func150 h ?_;apply lx;intro x1;refine At.B 5 (bSl k8) λs2=>?_;refine At.ownn 2 3 17 ?_;refine At.M 0 [] 1 (λp3=>([(3,(eO 0 17 (eA 17 1 k8) p3))],[(0,.tail (p3.length*17))],[])) [] 1 (CU2 (jR N)) (cu2 λs4 s5=>([(0,(eL 1 k8 s5)),(3,(eO 0 17 (eA 17 1 k8) s4))],[(0,.tail (s4.length*17))],[])) (_,_) N (λp3 k=>un2 λs4 s5=>?_) λp3=>?_
 ·apply lx;intro x6;refine At.c 3 ?_ ?_
  ·refine At.b 1 (λ_ e=>aGJ hT (k:=1) 1 [] 0 e (by kernel_rfl) (by kernel_rfl) (by decide)) λs7=>?_;refine At.b 1 (λv8 e=>aD2 hT k8 (id:=1) (path:=[]) (off:=0) (H':=[.tail (s4.length*17),.var (eA 17 1 k8 v8)]) e (by kernel_rfl) (by kernel_rfl) (by kernel_rfl)) λv8=>?_;apply lx;intro x9;refine At.B 2 bAr λu10=>?_;refine At.U 0 (bSv k8 0 1) λe11=>?_;refine At.O 2 bRw ?_;refine At.U 0 (bAp (eA 17 1 k8)) λz12=>?_;refine At.B 3 (bSl k8) λs13=>?_;exact λh=>At.v 1 (_,_) h
  ·apply rt;exact At.x 0
 ·apply rt;exact At.r 2
theorem dZ{x y c:Int}{r:Int×Int}(h:cK x y c=some r):aIl Tryz.prog 174 [.int .u64 x,.int .u64 y,.int .u64 c] (.tuple #[.int .u64 r.1,.int .u64 r.2]):=
 aPU Tryz.func174 (by kernel_rfl) (by kernel_rfl) (by kernel_rfl) (by kernel_rfl) h
def bV(N:Nat)(a0 a1:Int):Option (Int×Int):=
 aN (cF .u64 a0 4294967295) λx1=>
 aN (cF .u64 a1 4294967295) λx2=>
 aN (U64 ((shr .u64 a0 32)*x2)) λx3=>
 aN (shr .u64 (U64 (x1*x2)) 32) λx4=>
 aN (cF .u64 (U64 (x3+x4)) 4294967295) λx5=>
 aN (shr .u64 (U64 (x3+x4)) 32) λx6=>
 aN (U64 (x1*(shr .u64 a1 32))) λx7=>
 aN (U64 ((shr .u64 a0 32)*(shr .u64 a1 32))) λx8=>
 aN (shr .u64 (U64 (x5+x7)) 32) λx9=>
 aN (U64 ((U64 (x8+x6))+x9)) λx10=>
 some ((x10,U64 (a0*a1)))
theorem fM{N a0 a1 r}(h:bV N a0 a1=some r):FnM Tryz.prog 175 [] [(k64 a0),(k64 a1)] (.tup [(k64 r.1),(k64 r.2)]) []:=by
 refine Af dK Tryz.func175 h ?_;apply lx;intro x1;apply lx;intro x2;apply lx;intro x3;apply lx;intro x4;apply lx;intro x5;apply lx;intro x6;apply lx;intro x7;apply lx;intro x8;apply lx;intro x9;apply lx;intro x10;apply rt;exact At.r 50
def fN(N:Nat)(a0 a1:Int)(a2:aM):Option ((Vector Int 3)):=
 ae (aO 0 3) λ_=>
 ae (a2.gA7.gh.toList[(ag 0)]?) λe2=>
 ae (cK e2 a0 0) λr3=>
 ae (aO 0 3) λ_=>
 ae (a2.gA7.gh.toList[(ag 0)]?) λe5=>
 ae (aO 1 3) λ_=>
 ae ((a2.gA7.gh.setIfInBounds ((ag 0)) r3.1).toList[(ag 1)]?) λe7=>
 ae (cK e7 a1 r3.2) λr8=>
 ae (aO 1 3) λ_=>
 ae ((a2.gA7.gh.setIfInBounds ((ag 0)) r3.1).toList[(ag 1)]?) λe10=>
 ae (aO 2 3) λ_=>
 ae (((a2.gA7.gh.setIfInBounds ((ag 0)) r3.1).setIfInBounds ((ag 1)) r8.1).toList[(ag 2)]?) λe12=>
 ae (aO 2 3) λ_=>
 ae (((a2.gA7.gh.setIfInBounds ((ag 0)) r3.1).setIfInBounds ((ag 1)) r8.1).toList[(ag 2)]?) λe14=>
 some (((a2.gA7.gh.setIfInBounds ((ag 0)) r3.1).setIfInBounds ((ag 1)) r8.1).setIfInBounds ((ag 2)) (U64 (e12+r8.2)))
theorem uV{N a0 a1 a2 r}(h:fN N a0 a1 a2=some r):FnM Tryz.prog 176 [.var (aM.enc a2)] [(.ref 0 [0] 0),(k64 a0),(k64 a1)] (.tup []) [.var (.st 10 [(.st 3 [(eA 3 1 k64 r)]),(eB a2.gP),(k64 a2.gr0),(k64 a2.gr1),(k64 a2.gs0),(k64 a2.gs1),(eL 1 k8 a2.gQ),(j64 a2.gR)])]:=by
 refine Af dK Tryz.func176 h ?_;refine At.D 1 [] ?_;refine DD.B 4 bAr λu1=>?_;refine DD.l hT 0 k64 k64 2 λe2=>?_;refine DD.B 1 (bNt dZ) λr3=>?_;refine DD.B 5 bAr λu4=>?_;refine DD.U 0 (bSv k64 2 r3.1) λe5=>?_;refine De 1 ?_;refine At.D 0 [] ?_;refine DD.B 4 bAr λu6=>?_;refine DD.l hT 0 k64 k64 2 λe7=>?_;refine DD.B 2 (bNt dZ) λr8=>?_;refine DD.B 5 bAr λu9=>?_;refine DD.U 0 (bSv k64 2 r8.1) λe10=>?_;refine De 1 ?_;refine At.D 0 [] ?_;refine DD.B 3 bAr λu11=>?_;refine DD.l hT 0 k64 k64 2 λe12=>?_;refine DD.B 4 bAr λu13=>?_;refine DD.U 0 (bSv k64 2 (U64 (e12+r8.2))) λe14=>?_;refine De 0 ?_;apply rt;exact At.z 0
def aAw : Nat->Bool:=imL [5]
def fU(N:Nat)(a0:(Vector Int 17))(a1 a2:Int)(a3:aM):Option ((Vector Int 3)×Bool×Int×Int×Int×Int×(List Int)×Int):=
 ae (aO 0 3) λ_=>
 ae (a3.gA7.gh.toList[(ag 0)]?) λe2=>
 ae (dM a0.toList 0 8) λs3=>
 ae (cO N s3) λr4=>
 ae (cK e2 r4 0) λr5=>
 ae (aO 0 3) λ_=>
 ae (a3.gA7.gh.toList[(ag 0)]?) λe7=>
 ae (aO 1 3) λ_=>
 ae ((a3.gA7.gh.setIfInBounds ((ag 0)) r5.1).toList[(ag 1)]?) λe9=>
 ae (dM a0.toList 8 16) λs10=>
 ae (cO N s10) λr11=>
 ae (cK e9 r11 r5.2) λr12=>
 ae (aO 1 3) λ_=>
 ae ((a3.gA7.gh.setIfInBounds ((ag 0)) r5.1).toList[(ag 1)]?) λe14=>
 ae (aO 2 3) λ_=>
 ae (((a3.gA7.gh.setIfInBounds ((ag 0)) r5.1).setIfInBounds ((ag 1)) r12.1).toList[(ag 2)]?) λe16=>
 ae (idx a0.toList 16) λe17=>
 aN (U64 ((U64 e17)+r12.2)) λx18=>
 ae (aO 2 3) λ_=>
 ae (((a3.gA7.gh.setIfInBounds ((ag 0)) r5.1).setIfInBounds ((ag 1)) r12.1).toList[(ag 2)]?) λe20=>
 ae (aO 0 3) λ_=>
 ae ((((a3.gA7.gh.setIfInBounds ((ag 0)) r5.1).setIfInBounds ((ag 1)) r12.1).setIfInBounds ((ag 2)) (U64 (e16+x18))).toList[(ag 0)]?) λe22=>
 ae (bV N e22 a1) λr23=>
 ae (aO 1 3) λ_=>
 ae ((((a3.gA7.gh.setIfInBounds ((ag 0)) r5.1).setIfInBounds ((ag 1)) r12.1).setIfInBounds ((ag 2)) (U64 (e16+x18))).toList[(ag 1)]?) λe25=>
 ae (bV N e25 a1) λr26=>
 ae (aO 0 3) λ_=>
 ae ((((a3.gA7.gh.setIfInBounds ((ag 0)) r5.1).setIfInBounds ((ag 1)) r12.1).setIfInBounds ((ag 2)) (U64 (e16+x18))).toList[(ag 0)]?) λe28=>
 ae (bV N e28 a2) λr29=>
 ae (aO 1 3) λ_=>
 ae ((((a3.gA7.gh.setIfInBounds ((ag 0)) r5.1).setIfInBounds ((ag 1)) r12.1).setIfInBounds ((ag 2)) (U64 (e16+x18))).toList[(ag 1)]?) λe31=>
 ae (bV N e31 a2) λr32=>
 ae (aO 2 3) λ_=>
 ae ((((a3.gA7.gh.setIfInBounds ((ag 0)) r5.1).setIfInBounds ((ag 1)) r12.1).setIfInBounds ((ag 2)) (U64 (e16+x18))).toList[(ag 2)]?) λe34=>
 ae (aO 2 3) λ_=>
 ae ((((a3.gA7.gh.setIfInBounds ((ag 0)) r5.1).setIfInBounds ((ag 1)) r12.1).setIfInBounds ((ag 2)) (U64 (e16+x18))).toList[(ag 2)]?) λe36=>
 ae (cK r26.2 r29.2 0) λr37=>
 ae (cK r26.1 r29.1 r37.2) λr38=>
 ae (cK 0 0 r38.2) λr39=>
 ae (cK r38.1 r32.2 0) λr40=>
 ae (cK r39.1 r32.1 r40.2) λr41=>
 ae (cK r40.1 (U64 (e34*a1)) 0) λr42=>
 ae (cK r41.1 (U64 (e36*a2)) r42.2) λr43=>
 ae (cK r37.1 r23.1 0) λr44=>
 ae (cK r42.1 0 r44.2) λr45=>
 ae (cK r43.1 0 r45.2) λr46=>
 ae (fN N (aGl .u64 r45.1 3) r46.1 (aM.mk (aG.mk (#v[r23.2,r44.1,cF .u64 r45.1 3])) a3.gP a3.gr0 a3.gr1 a3.gs0 a3.gs1 a3.gQ a3.gR)) λr47=>
 aN (bor .u64 (shr .u64 r45.1 2) (shl .u64 r46.1 62)) λx48=>
 ae (fN N x48 (shr .u64 r46.1 2) (aM.mk (aG.mk r47) ((aM.mk (aG.mk (#v[r23.2,r44.1,cF .u64 r45.1 3])) a3.gP a3.gr0 a3.gr1 a3.gs0 a3.gs1 a3.gQ a3.gR).gP) ((aM.mk (aG.mk (#v[r23.2,r44.1,cF .u64 r45.1 3])) a3.gP a3.gr0 a3.gr1 a3.gs0 a3.gs1 a3.gQ a3.gR).gr0) ((aM.mk (aG.mk (#v[r23.2,r44.1,cF .u64 r45.1 3])) a3.gP a3.gr0 a3.gr1 a3.gs0 a3.gs1 a3.gQ a3.gR).gr1) ((aM.mk (aG.mk (#v[r23.2,r44.1,cF .u64 r45.1 3])) a3.gP a3.gr0 a3.gr1 a3.gs0 a3.gs1 a3.gQ a3.gR).gs0) ((aM.mk (aG.mk (#v[r23.2,r44.1,cF .u64 r45.1 3])) a3.gP a3.gr0 a3.gr1 a3.gs0 a3.gs1 a3.gQ a3.gR).gs1) ((aM.mk (aG.mk (#v[r23.2,r44.1,cF .u64 r45.1 3])) a3.gP a3.gr0 a3.gr1 a3.gs0 a3.gs1 a3.gQ a3.gR).gQ) ((aM.mk (aG.mk (#v[r23.2,r44.1,cF .u64 r45.1 3])) a3.gP a3.gr0 a3.gr1 a3.gs0 a3.gs1 a3.gQ a3.gR).gR))) λr49=>
 some ((r49,(aM.mk (aG.mk r47) ((aM.mk (aG.mk (#v[r23.2,r44.1,cF .u64 r45.1 3])) a3.gP a3.gr0 a3.gr1 a3.gs0 a3.gs1 a3.gQ a3.gR).gP) ((aM.mk (aG.mk (#v[r23.2,r44.1,cF .u64 r45.1 3])) a3.gP a3.gr0 a3.gr1 a3.gs0 a3.gs1 a3.gQ a3.gR).gr0) ((aM.mk (aG.mk (#v[r23.2,r44.1,cF .u64 r45.1 3])) a3.gP a3.gr0 a3.gr1 a3.gs0 a3.gs1 a3.gQ a3.gR).gr1) ((aM.mk (aG.mk (#v[r23.2,r44.1,cF .u64 r45.1 3])) a3.gP a3.gr0 a3.gr1 a3.gs0 a3.gs1 a3.gQ a3.gR).gs0) ((aM.mk (aG.mk (#v[r23.2,r44.1,cF .u64 r45.1 3])) a3.gP a3.gr0 a3.gr1 a3.gs0 a3.gs1 a3.gQ a3.gR).gs1) ((aM.mk (aG.mk (#v[r23.2,r44.1,cF .u64 r45.1 3])) a3.gP a3.gr0 a3.gr1 a3.gs0 a3.gs1 a3.gQ a3.gR).gQ) ((aM.mk (aG.mk (#v[r23.2,r44.1,cF .u64 r45.1 3])) a3.gP a3.gr0 a3.gr1 a3.gs0 a3.gs1 a3.gQ a3.gR).gR)).gP,(aM.mk (aG.mk r47) ((aM.mk (aG.mk (#v[r23.2,r44.1,cF .u64 r45.1 3])) a3.gP a3.gr0 a3.gr1 a3.gs0 a3.gs1 a3.gQ a3.gR).gP) ((aM.mk (aG.mk (#v[r23.2,r44.1,cF .u64 r45.1 3])) a3.gP a3.gr0 a3.gr1 a3.gs0 a3.gs1 a3.gQ a3.gR).gr0) ((aM.mk (aG.mk (#v[r23.2,r44.1,cF .u64 r45.1 3])) a3.gP a3.gr0 a3.gr1 a3.gs0 a3.gs1 a3.gQ a3.gR).gr1) ((aM.mk (aG.mk (#v[r23.2,r44.1,cF .u64 r45.1 3])) a3.gP a3.gr0 a3.gr1 a3.gs0 a3.gs1 a3.gQ a3.gR).gs0) ((aM.mk (aG.mk (#v[r23.2,r44.1,cF .u64 r45.1 3])) a3.gP a3.gr0 a3.gr1 a3.gs0 a3.gs1 a3.gQ a3.gR).gs1) ((aM.mk (aG.mk (#v[r23.2,r44.1,cF .u64 r45.1 3])) a3.gP a3.gr0 a3.gr1 a3.gs0 a3.gs1 a3.gQ a3.gR).gQ) ((aM.mk (aG.mk (#v[r23.2,r44.1,cF .u64 r45.1 3])) a3.gP a3.gr0 a3.gr1 a3.gs0 a3.gs1 a3.gQ a3.gR).gR)).gr0,(aM.mk (aG.mk r47) ((aM.mk (aG.mk (#v[r23.2,r44.1,cF .u64 r45.1 3])) a3.gP a3.gr0 a3.gr1 a3.gs0 a3.gs1 a3.gQ a3.gR).gP) ((aM.mk (aG.mk (#v[r23.2,r44.1,cF .u64 r45.1 3])) a3.gP a3.gr0 a3.gr1 a3.gs0 a3.gs1 a3.gQ a3.gR).gr0) ((aM.mk (aG.mk (#v[r23.2,r44.1,cF .u64 r45.1 3])) a3.gP a3.gr0 a3.gr1 a3.gs0 a3.gs1 a3.gQ a3.gR).gr1) ((aM.mk (aG.mk (#v[r23.2,r44.1,cF .u64 r45.1 3])) a3.gP a3.gr0 a3.gr1 a3.gs0 a3.gs1 a3.gQ a3.gR).gs0) ((aM.mk (aG.mk (#v[r23.2,r44.1,cF .u64 r45.1 3])) a3.gP a3.gr0 a3.gr1 a3.gs0 a3.gs1 a3.gQ a3.gR).gs1) ((aM.mk (aG.mk (#v[r23.2,r44.1,cF .u64 r45.1 3])) a3.gP a3.gr0 a3.gr1 a3.gs0 a3.gs1 a3.gQ a3.gR).gQ) ((aM.mk (aG.mk (#v[r23.2,r44.1,cF .u64 r45.1 3])) a3.gP a3.gr0 a3.gr1 a3.gs0 a3.gs1 a3.gQ a3.gR).gR)).gr1,(aM.mk (aG.mk r47) ((aM.mk (aG.mk (#v[r23.2,r44.1,cF .u64 r45.1 3])) a3.gP a3.gr0 a3.gr1 a3.gs0 a3.gs1 a3.gQ a3.gR).gP) ((aM.mk (aG.mk (#v[r23.2,r44.1,cF .u64 r45.1 3])) a3.gP a3.gr0 a3.gr1 a3.gs0 a3.gs1 a3.gQ a3.gR).gr0) ((aM.mk (aG.mk (#v[r23.2,r44.1,cF .u64 r45.1 3])) a3.gP a3.gr0 a3.gr1 a3.gs0 a3.gs1 a3.gQ a3.gR).gr1) ((aM.mk (aG.mk (#v[r23.2,r44.1,cF .u64 r45.1 3])) a3.gP a3.gr0 a3.gr1 a3.gs0 a3.gs1 a3.gQ a3.gR).gs0) ((aM.mk (aG.mk (#v[r23.2,r44.1,cF .u64 r45.1 3])) a3.gP a3.gr0 a3.gr1 a3.gs0 a3.gs1 a3.gQ a3.gR).gs1) ((aM.mk (aG.mk (#v[r23.2,r44.1,cF .u64 r45.1 3])) a3.gP a3.gr0 a3.gr1 a3.gs0 a3.gs1 a3.gQ a3.gR).gQ) ((aM.mk (aG.mk (#v[r23.2,r44.1,cF .u64 r45.1 3])) a3.gP a3.gr0 a3.gr1 a3.gs0 a3.gs1 a3.gQ a3.gR).gR)).gs0,(aM.mk (aG.mk r47) ((aM.mk (aG.mk (#v[r23.2,r44.1,cF .u64 r45.1 3])) a3.gP a3.gr0 a3.gr1 a3.gs0 a3.gs1 a3.gQ a3.gR).gP) ((aM.mk (aG.mk (#v[r23.2,r44.1,cF .u64 r45.1 3])) a3.gP a3.gr0 a3.gr1 a3.gs0 a3.gs1 a3.gQ a3.gR).gr0) ((aM.mk (aG.mk (#v[r23.2,r44.1,cF .u64 r45.1 3])) a3.gP a3.gr0 a3.gr1 a3.gs0 a3.gs1 a3.gQ a3.gR).gr1) ((aM.mk (aG.mk (#v[r23.2,r44.1,cF .u64 r45.1 3])) a3.gP a3.gr0 a3.gr1 a3.gs0 a3.gs1 a3.gQ a3.gR).gs0) ((aM.mk (aG.mk (#v[r23.2,r44.1,cF .u64 r45.1 3])) a3.gP a3.gr0 a3.gr1 a3.gs0 a3.gs1 a3.gQ a3.gR).gs1) ((aM.mk (aG.mk (#v[r23.2,r44.1,cF .u64 r45.1 3])) a3.gP a3.gr0 a3.gr1 a3.gs0 a3.gs1 a3.gQ a3.gR).gQ) ((aM.mk (aG.mk (#v[r23.2,r44.1,cF .u64 r45.1 3])) a3.gP a3.gr0 a3.gr1 a3.gs0 a3.gs1 a3.gQ a3.gR).gR)).gs1,(aM.mk (aG.mk r47) ((aM.mk (aG.mk (#v[r23.2,r44.1,cF .u64 r45.1 3])) a3.gP a3.gr0 a3.gr1 a3.gs0 a3.gs1 a3.gQ a3.gR).gP) ((aM.mk (aG.mk (#v[r23.2,r44.1,cF .u64 r45.1 3])) a3.gP a3.gr0 a3.gr1 a3.gs0 a3.gs1 a3.gQ a3.gR).gr0) ((aM.mk (aG.mk (#v[r23.2,r44.1,cF .u64 r45.1 3])) a3.gP a3.gr0 a3.gr1 a3.gs0 a3.gs1 a3.gQ a3.gR).gr1) ((aM.mk (aG.mk (#v[r23.2,r44.1,cF .u64 r45.1 3])) a3.gP a3.gr0 a3.gr1 a3.gs0 a3.gs1 a3.gQ a3.gR).gs0) ((aM.mk (aG.mk (#v[r23.2,r44.1,cF .u64 r45.1 3])) a3.gP a3.gr0 a3.gr1 a3.gs0 a3.gs1 a3.gQ a3.gR).gs1) ((aM.mk (aG.mk (#v[r23.2,r44.1,cF .u64 r45.1 3])) a3.gP a3.gr0 a3.gr1 a3.gs0 a3.gs1 a3.gQ a3.gR).gQ) ((aM.mk (aG.mk (#v[r23.2,r44.1,cF .u64 r45.1 3])) a3.gP a3.gr0 a3.gr1 a3.gs0 a3.gs1 a3.gQ a3.gR).gR)).gQ,(aM.mk (aG.mk r47) ((aM.mk (aG.mk (#v[r23.2,r44.1,cF .u64 r45.1 3])) a3.gP a3.gr0 a3.gr1 a3.gs0 a3.gs1 a3.gQ a3.gR).gP) ((aM.mk (aG.mk (#v[r23.2,r44.1,cF .u64 r45.1 3])) a3.gP a3.gr0 a3.gr1 a3.gs0 a3.gs1 a3.gQ a3.gR).gr0) ((aM.mk (aG.mk (#v[r23.2,r44.1,cF .u64 r45.1 3])) a3.gP a3.gr0 a3.gr1 a3.gs0 a3.gs1 a3.gQ a3.gR).gr1) ((aM.mk (aG.mk (#v[r23.2,r44.1,cF .u64 r45.1 3])) a3.gP a3.gr0 a3.gr1 a3.gs0 a3.gs1 a3.gQ a3.gR).gs0) ((aM.mk (aG.mk (#v[r23.2,r44.1,cF .u64 r45.1 3])) a3.gP a3.gr0 a3.gr1 a3.gs0 a3.gs1 a3.gQ a3.gR).gs1) ((aM.mk (aG.mk (#v[r23.2,r44.1,cF .u64 r45.1 3])) a3.gP a3.gr0 a3.gr1 a3.gs0 a3.gs1 a3.gQ a3.gR).gQ) ((aM.mk (aG.mk (#v[r23.2,r44.1,cF .u64 r45.1 3])) a3.gP a3.gr0 a3.gr1 a3.gs0 a3.gs1 a3.gQ a3.gR).gR)).gR))
theorem aAI{N a0 a1 a2 a3 r}(h:fU N a0 a1 a2 a3=some r):FnM Tryz.prog 149 [.var (aM.enc a3)] [(.ref 0 [0] 0),(eA 17 1 k8 a0),(k64 a1),(k64 a2)] (.tup []) [.var (.st 10 [(.st 3 [(eA 3 1 k64 r.1)]),(eB r.2.1),(k64 r.2.2.1),(k64 r.2.2.2.1),(k64 r.2.2.2.2.1),(k64 r.2.2.2.2.2.1),(eL 1 k8 r.2.2.2.2.2.2.1),(j64 r.2.2.2.2.2.2.2)])]:=by
 refine Af aAw Tryz.func149 h ?_;refine At.D 8 [] ?_;refine DD.B 0 bAr λu1=>?_;refine DD.l hT 0 k64 k64 0 λe2=>?_;refine DD.B 0 (bSI k8) λs3=>?_;refine DD.y 0 lT λr4=>?_;refine DD.B 0 (bNt dZ) λr5=>?_;refine DD.B 3 bAr λu6=>?_;refine DD.U 0 (bSv k64 0 r5.1) λe7=>?_;refine De 1 ?_;refine At.D 0 [] ?_;refine DD.B 0 bAr λu8=>?_;refine DD.l hT 0 k64 k64 0 λe9=>?_;refine DD.B 0 (bSI k8) λs10=>?_;refine DD.y 0 lT λr11=>?_;refine DD.B 1 (bNt dZ) λr12=>?_;refine DD.B 3 bAr λu13=>?_;refine DD.U 0 (bSv k64 0 r12.1) λe14=>?_;refine De 1 ?_;refine At.B 0 bAr λu15=>?_;refine At.U 0 (bLd k64 0) λe16=>?_;refine At.B 0 (bAi k8) λe17=>?_;apply lx;intro x18;refine At.B 5 bAr λu19=>?_;refine At.U 0 (bSv k64 0 (U64 (e16+x18))) λe20=>?_;refine At.B 0 bAr λu21=>?_;refine At.U 0 (bLd k64 0) λe22=>?_;refine At.y 1 fM λr23=>?_;refine At.B 5 bAr λu24=>?_;refine At.U 0 (bLd k64 0) λe25=>?_;refine At.y 1 fM λr26=>?_;refine At.B 5 bAr λu27=>?_;refine At.U 0 (bLd k64 0) λe28=>?_;refine At.y 1 fM λr29=>?_;refine At.B 5 bAr λu30=>?_;refine At.U 0 (bLd k64 0) λe31=>?_;refine At.y 1 fM λr32=>?_;refine At.D 5 [] ?_;refine DD.B 0 bAr λu33=>?_;refine DD.l hT 0 k64 k64 0 λe34=>?_;refine DD.B 2 bAr λu35=>?_;refine DD.l hT 0 k64 k64 0 λe36=>?_;refine De 4 ?_;refine At.B 2 (bNt dZ) λr37=>?_;refine At.B 8 (bNt dZ) λr38=>?_;refine At.B 6 (bNt dZ) λr39=>?_;refine At.B 7 (bNt dZ) λr40=>?_;refine At.B 8 (bNt dZ) λr41=>?_;refine At.B 6 (bNt dZ) λr42=>?_;refine At.B 8 (bNt dZ) λr43=>?_;refine At.B 8 (bNt dZ) λr44=>?_;refine At.B 7 (bNt dZ) λr45=>?_;refine At.B 7 (bNt dZ) λr46=>?_;refine At.Y 18 [0] uV λr47=>?_;apply lx;intro x48;refine At.Y 8 [0] uV λr49=>?_;apply rt;exact At.z 0
def eG(N:Nat)(a1:(List (List Int))):Nat->(List Int)->Int->Int->Option ((List Int)×Int)
 | 0,_,_,_=>none
 | k+1,s2,s3,s4=>
  aN (decide (s4 < ((a1.length:Int)))) λx5=>
  cond x5 (
   ae (idx a1 s4) λe6=>
   aN (lH ((e6.length:Int)) (I64 (65536 - s3))) λx7=>
   ae (dM e6 0 x7) λs8=>
   aN (I64 (s3+((s8.length:Int)))) λx9=>
   ae (fL 1 s2 s8) λz10=>
   eG N a1 k z10 ((I64 (s3+((s8.length:Int))))) (I64 (s4+1))) (
   some ((s2,s3)))
def eH(N:Nat)  : Nat->(Vector Int 3)->Bool->Int->Int->Int->Int->(List Int)->Int->Option ((Vector Int 3)×Bool×Int×Int×Int×Int×(List Int)×Int)
 | 0,_,_,_,_,_,_,_,_=>none
 | k+1,s12,s13,s14,s15,s16,s17,s18,s19=>
  aN (decide (((s18.length:Int))>=16)) λx20=>
  cond x20 (
   ae (dM s18 0 16) λs21=>
   ae (jU N s21) λr22=>
   ae (idx r22 0) λe23=>
   ae (fU N e23 s14 s15 (aM.mk (aG.mk s12) s13 s14 s15 s16 s17 s18 s19)) λr24=>
   ae (dM r24.2.2.2.2.2.2.1 16 ((r24.2.2.2.2.2.2.1.length:Int))) λs25=>
   eH N k r24.1 r24.2.1 r24.2.2.1 r24.2.2.2.1 r24.2.2.2.2.1 r24.2.2.2.2.2.1 s25 r24.2.2.2.2.2.2.2) (
   some ((s12,s13,s14,s15,s16,s17,s18,s19)))
def rI(N:Nat)(b1:(List Int))(a1:(List (List Int)))(a2:aG)(a3:Bool)(a4 a5 a6 a7 a8:Int):Option ((List Int)×(Vector Int 3)×Bool×Int×Int×Int×Int×(List Int)×Int):=
 cond (!a3) (
  some ((b1,a2.gh,a3,a4,a5,a6,a7,b1,a8))) (
  ae (eG N a1 N b1 a8 0) λp1=>
  ae (eH N N a2.gh a3 a4 a5 a6 a7 p1.1 p1.2) λp11=>
  some ((p1.1,p11.1,p11.2.1,p11.2.2.1,p11.2.2.2.1,p11.2.2.2.2.1,p11.2.2.2.2.2.1,p11.2.2.2.2.2.2.1,p11.2.2.2.2.2.2.2)))
theorem aDB{N b1 a1 a2 a3 a4 a5 a6 a7 a8 r}(h:rI N b1 a1 a2 a3 a4 a5 a6 a7 a8=some r):FnM Tryz.prog 114 [.var (.st 10 [(aG.enc a2),(eB a3),(k64 a4),(k64 a5),(k64 a6),(k64 a7),(eO 1 1 k8 b1),(j64 a8)]),.tail (b1.length*1)] [(.ref 0 [] 0),(eL 1 (eL 1 k8) a1)] (.tup []) [.var (.st 10 [(.st 3 [(eA 3 1 k64 r.2.1)]),(eB r.2.2.1),(k64 r.2.2.2.1),(k64 r.2.2.2.2.1),(k64 r.2.2.2.2.2.1),(k64 r.2.2.2.2.2.2.1),(eL 1 k8 r.2.2.2.2.2.2.2.1),(j64 r.2.2.2.2.2.2.2.2)]),.tail (r.1.length*1)]:=by
 refine Af dK Tryz.func114 h ?_;refine At.o 1 (aB6 hT (t:=212) (x:=(.ref 0 [] 0)) (b:=true) (by kernel_rfl) rfl rfl (by kernel_rfl)) ?_;refine At.g [8] 7 ?_;refine At.c 0 ?_ ?_
 ·apply rt;exact At.r 0
 ·refine At.M 3 [0] 2 (λp1=>([],[(0,.var (.st 10 [(aG.enc a2),(eB a3),(k64 a4),(k64 a5),(k64 a6),(k64 a7),(eO 1 1 k8 p1.1),(j64 p1.2)])),(1,.tail (p1.1.length*1))],[])) [0,15,16] 2 (CU3 (eG N a1)) (cu3 λs2 s3 s4=>([(17,(j64 s4))],[(0,.var (.st 10 [(aG.enc a2),(eB a3),(k64 a4),(k64 a5),(k64 a6),(k64 a7),(eO 1 1 k8 s2),(j64 s3)])),(1,.tail (s2.length*1))],[])) (_,_,_) N (λp1 k=>un3 λs2 s3 s4=>?_) λp1=>?_
  ·apply lx;intro x5;refine At.c 1 ?_ ?_
   ·refine At.i hT 0 (eL 1 k8) λe6=>?_;apply lx;intro x7;refine At.B 11 (bSl k8) λs8=>?_;apply lx;intro x9;refine At.U 17 (bAp k8) λz10=>?_;exact λh=>At.v 5 (_,_,_) h
   ·apply rt;exact At.x 0
  ·refine At.M 0 [] 2 (λp11=>([],[(0,.var (.st 10 [(.st 3 [(eA 3 1 k64 p11.1)]),(eB p11.2.1),(k64 p11.2.2.1),(k64 p11.2.2.2.1),(k64 p11.2.2.2.2.1),(k64 p11.2.2.2.2.2.1),(eL 1 k8 p11.2.2.2.2.2.2.1),(j64 p11.2.2.2.2.2.2.2)]))],[])) [0] 2 (CU8 (eH N)) (cu8 λs12 s13 s14 s15 s16 s17 s18 s19=>([],[(0,.var (.st 10 [(.st 3 [(eA 3 1 k64 s12)]),(eB s13),(k64 s14),(k64 s15),(k64 s16),(k64 s17),(eL 1 k8 s18),(j64 s19)]))],[])) (_,_,_,_,_,_,_,_) N (λp11 k=>un8 λs12 s13 s14 s15 s16 s17 s18 s19=>?_) λp11=>?_
   ·apply lx;intro x20;refine At.c 6 ?_ ?_
    ·refine At.D 0 [] ?_;refine DD.B 7 (bSl k8) λs21=>?_;refine DD.y 0 aBm λr22=>?_;refine DD.i hT 0 (eA 17 1 k8) λe23=>?_;refine DD.Y 9 [0] aAI λr24=>?_;refine De 0 ?_;refine At.B 5 (bSl k8) λs25=>?_;exact λh=>At.v 3 (_,_,_,_,_,_,_,_) h
    ·apply rt;exact At.x 0
   ·apply rt;exact At.z 0
def bX(N:Nat)(a0 a1:Int)(a2:aG):Option ((Vector Int 3)):=
 ae (aO 0 3) λ_=>
 ae (a2.gh.toList[(ag 0)]?) λe2=>
 ae (cK e2 a0 0) λr3=>
 ae (aO 0 3) λ_=>
 ae (a2.gh.toList[(ag 0)]?) λe5=>
 ae (aO 1 3) λ_=>
 ae ((a2.gh.setIfInBounds ((ag 0)) r3.1).toList[(ag 1)]?) λe7=>
 ae (cK e7 a1 r3.2) λr8=>
 ae (aO 1 3) λ_=>
 ae ((a2.gh.setIfInBounds ((ag 0)) r3.1).toList[(ag 1)]?) λe10=>
 ae (aO 2 3) λ_=>
 ae (((a2.gh.setIfInBounds ((ag 0)) r3.1).setIfInBounds ((ag 1)) r8.1).toList[(ag 2)]?) λe12=>
 ae (aO 2 3) λ_=>
 ae (((a2.gh.setIfInBounds ((ag 0)) r3.1).setIfInBounds ((ag 1)) r8.1).toList[(ag 2)]?) λe14=>
 some (((a2.gh.setIfInBounds ((ag 0)) r3.1).setIfInBounds ((ag 1)) r8.1).setIfInBounds ((ag 2)) (U64 (e12+r8.2)))
theorem tU{N a0 a1 a2 r}(h:bX N a0 a1 a2=some r):FnM Tryz.prog 176 [.var (aG.enc a2)] [(.ref 0 [] 0),(k64 a0),(k64 a1)] (.tup []) [.var (.st 3 [(eA 3 1 k64 r)])]:=by
 refine Af dK Tryz.func176 h ?_;refine At.D 1 [] ?_;refine DD.B 4 bAr λu1=>?_;refine DD.l hT 0 k64 k64 1 λe2=>?_;refine DD.B 1 (bNt dZ) λr3=>?_;refine DD.B 5 bAr λu4=>?_;refine DD.U 0 (bSv k64 1 r3.1) λe5=>?_;refine De 1 ?_;refine At.D 0 [] ?_;refine DD.B 4 bAr λu6=>?_;refine DD.l hT 0 k64 k64 1 λe7=>?_;refine DD.B 2 (bNt dZ) λr8=>?_;refine DD.B 5 bAr λu9=>?_;refine DD.U 0 (bSv k64 1 r8.1) λe10=>?_;refine De 1 ?_;refine At.D 0 [] ?_;refine DD.B 3 bAr λu11=>?_;refine DD.l hT 0 k64 k64 1 λe12=>?_;refine DD.B 4 bAr λu13=>?_;refine DD.U 0 (bSv k64 1 (U64 (e12+r8.2))) λe14=>?_;refine De 0 ?_;apply rt;exact At.z 0
def zT : Nat->Bool:=imL [5]
def cN(N:Nat)(a0:(Vector Int 17))(a1 a2:Int)(a3:aG):Option ((Vector Int 3)):=
 ae (aO 0 3) λ_=>
 ae (a3.gh.toList[(ag 0)]?) λe2=>
 ae (dM a0.toList 0 8) λs3=>
 ae (cO N s3) λr4=>
 ae (cK e2 r4 0) λr5=>
 ae (aO 0 3) λ_=>
 ae (a3.gh.toList[(ag 0)]?) λe7=>
 ae (aO 1 3) λ_=>
 ae ((a3.gh.setIfInBounds ((ag 0)) r5.1).toList[(ag 1)]?) λe9=>
 ae (dM a0.toList 8 16) λs10=>
 ae (cO N s10) λr11=>
 ae (cK e9 r11 r5.2) λr12=>
 ae (aO 1 3) λ_=>
 ae ((a3.gh.setIfInBounds ((ag 0)) r5.1).toList[(ag 1)]?) λe14=>
 ae (aO 2 3) λ_=>
 ae (((a3.gh.setIfInBounds ((ag 0)) r5.1).setIfInBounds ((ag 1)) r12.1).toList[(ag 2)]?) λe16=>
 ae (idx a0.toList 16) λe17=>
 aN (U64 ((U64 e17)+r12.2)) λx18=>
 ae (aO 2 3) λ_=>
 ae (((a3.gh.setIfInBounds ((ag 0)) r5.1).setIfInBounds ((ag 1)) r12.1).toList[(ag 2)]?) λe20=>
 ae (aO 0 3) λ_=>
 ae ((((a3.gh.setIfInBounds ((ag 0)) r5.1).setIfInBounds ((ag 1)) r12.1).setIfInBounds ((ag 2)) (U64 (e16+x18))).toList[(ag 0)]?) λe22=>
 ae (bV N e22 a1) λr23=>
 ae (aO 1 3) λ_=>
 ae ((((a3.gh.setIfInBounds ((ag 0)) r5.1).setIfInBounds ((ag 1)) r12.1).setIfInBounds ((ag 2)) (U64 (e16+x18))).toList[(ag 1)]?) λe25=>
 ae (bV N e25 a1) λr26=>
 ae (aO 0 3) λ_=>
 ae ((((a3.gh.setIfInBounds ((ag 0)) r5.1).setIfInBounds ((ag 1)) r12.1).setIfInBounds ((ag 2)) (U64 (e16+x18))).toList[(ag 0)]?) λe28=>
 ae (bV N e28 a2) λr29=>
 ae (aO 1 3) λ_=>
 ae ((((a3.gh.setIfInBounds ((ag 0)) r5.1).setIfInBounds ((ag 1)) r12.1).setIfInBounds ((ag 2)) (U64 (e16+x18))).toList[(ag 1)]?) λe31=>
 ae (bV N e31 a2) λr32=>
 ae (aO 2 3) λ_=>
 ae ((((a3.gh.setIfInBounds ((ag 0)) r5.1).setIfInBounds ((ag 1)) r12.1).setIfInBounds ((ag 2)) (U64 (e16+x18))).toList[(ag 2)]?) λe34=>
 ae (aO 2 3) λ_=>
 ae ((((a3.gh.setIfInBounds ((ag 0)) r5.1).setIfInBounds ((ag 1)) r12.1).setIfInBounds ((ag 2)) (U64 (e16+x18))).toList[(ag 2)]?) λe36=>
 ae (cK r26.2 r29.2 0) λr37=>
 ae (cK r26.1 r29.1 r37.2) λr38=>
 ae (cK 0 0 r38.2) λr39=>
 ae (cK r38.1 r32.2 0) λr40=>
 ae (cK r39.1 r32.1 r40.2) λr41=>
 ae (cK r40.1 (U64 (e34*a1)) 0) λr42=>
 ae (cK r41.1 (U64 (e36*a2)) r42.2) λr43=>
 ae (cK r37.1 r23.1 0) λr44=>
 ae (cK r42.1 0 r44.2) λr45=>
 ae (cK r43.1 0 r45.2) λr46=>
 ae (bX N (aGl .u64 r45.1 3) r46.1 (aG.mk (#v[r23.2,r44.1,cF .u64 r45.1 3]))) λr47=>
 aN (bor .u64 (shr .u64 r45.1 2) (shl .u64 r46.1 62)) λx48=>
 ae (bX N x48 (shr .u64 r46.1 2) (aG.mk r47)) λr49=>
 some r49
theorem yW{N a0 a1 a2 a3 r}(h:cN N a0 a1 a2 a3=some r):FnM Tryz.prog 149 [.var (aG.enc a3)] [(.ref 0 [] 0),(eA 17 1 k8 a0),(k64 a1),(k64 a2)] (.tup []) [.var (.st 3 [(eA 3 1 k64 r)])]:=by
 refine Af zT Tryz.func149 h ?_;refine At.D 8 [] ?_;refine DD.B 0 bAr λu1=>?_;refine DD.l hT 0 k64 k64 0 λe2=>?_;refine DD.B 0 (bSI k8) λs3=>?_;refine DD.y 0 lT λr4=>?_;refine DD.B 0 (bNt dZ) λr5=>?_;refine DD.B 3 bAr λu6=>?_;refine DD.U 0 (bSv k64 0 r5.1) λe7=>?_;refine De 1 ?_;refine At.D 0 [] ?_;refine DD.B 0 bAr λu8=>?_;refine DD.l hT 0 k64 k64 0 λe9=>?_;refine DD.B 0 (bSI k8) λs10=>?_;refine DD.y 0 lT λr11=>?_;refine DD.B 1 (bNt dZ) λr12=>?_;refine DD.B 3 bAr λu13=>?_;refine DD.U 0 (bSv k64 0 r12.1) λe14=>?_;refine De 1 ?_;refine At.B 0 bAr λu15=>?_;refine At.U 0 (bLd k64 0) λe16=>?_;refine At.B 0 (bAi k8) λe17=>?_;apply lx;intro x18;refine At.B 5 bAr λu19=>?_;refine At.U 0 (bSv k64 0 (U64 (e16+x18))) λe20=>?_;refine At.B 0 bAr λu21=>?_;refine At.U 0 (bLd k64 0) λe22=>?_;refine At.y 1 fM λr23=>?_;refine At.B 5 bAr λu24=>?_;refine At.U 0 (bLd k64 0) λe25=>?_;refine At.y 1 fM λr26=>?_;refine At.B 5 bAr λu27=>?_;refine At.U 0 (bLd k64 0) λe28=>?_;refine At.y 1 fM λr29=>?_;refine At.B 5 bAr λu30=>?_;refine At.U 0 (bLd k64 0) λe31=>?_;refine At.y 1 fM λr32=>?_;refine At.D 5 [] ?_;refine DD.B 0 bAr λu33=>?_;refine DD.l hT 0 k64 k64 0 λe34=>?_;refine DD.B 2 bAr λu35=>?_;refine DD.l hT 0 k64 k64 0 λe36=>?_;refine De 4 ?_;refine At.B 2 (bNt dZ) λr37=>?_;refine At.B 8 (bNt dZ) λr38=>?_;refine At.B 6 (bNt dZ) λr39=>?_;refine At.B 7 (bNt dZ) λr40=>?_;refine At.B 8 (bNt dZ) λr41=>?_;refine At.B 6 (bNt dZ) λr42=>?_;refine At.B 8 (bNt dZ) λr43=>?_;refine At.B 8 (bNt dZ) λr44=>?_;refine At.B 7 (bNt dZ) λr45=>?_;refine At.B 7 (bNt dZ) λr46=>?_;refine At.Y 18 [0] tU λr47=>?_;apply lx;intro x48;refine At.Y 8 [0] tU λr49=>?_;apply rt;exact At.z 0
def aHG : Nat->Bool:=imL [3]
def dB(N:Nat)  : Nat->(Vector Int 3)->Int->Option ((Vector Int 3))
 | 0,_,_=>none
 | k+1,s2,s3=>
  cond (decide (s3 < 2)) (
   ae (ae (aO 0 3) λ_=>
   ae (s2.toList[(ag 0)]?) λe6=>
   ae (cK e6 5 0) λr7=>
   ae (aO 1 3) λ_=>
   ae (s2.toList[(ag 1)]?) λe9=>
   ae (cK e9 0 r7.2) λr10=>
   ae (aO 2 3) λ_=>
   ae (s2.toList[(ag 2)]?) λe12=>
   aN (decide ((U64 (e12+r10.2))>=4)) λx13=>
   cond x13 (
    aN (U64 ((U64 (e12+r10.2)) - 4)) λx14=>
    some (#v[r7.1,r10.1,(U64 ((U64 (e12+r10.2)) - 4))])) (
    some s2)) λp4=>
   dB N k p4 (I64 (s3+1))) (
   some s2)
def eE(N:Nat)(r17 r20:Int×Int):Nat->(Vector Int 16)->Int->Option ((Vector Int 16))
 | 0,_,_=>none
 | k+1,s22,s23=>
  cond (decide (s23 < 8)) (
   ae (wY .u64 r17.1 (I64 (8*s23))) λx24=>
   ae (wY .u64 r20.1 (I64 (8*s23))) λx25=>
   ae (aO s23 16) λ_=>
   ae (s22.toList[s23.toNat]?) λe27=>
   ae (aO (I64 (8+s23)) 16) λ_=>
   ae ((s22.setIfInBounds s23.toNat (U8 x24)).toList[(I64 (8+s23)).toNat]?) λe29=>
   eE N r17 r20 k ((s22.setIfInBounds s23.toNat (U8 x24)).setIfInBounds ((I64 (8+s23)).toNat) (U8 x25)) (I64 (s23+1))) (
   some s22)
def pL(N:Nat)(a0:aG)(a1 a2:Int):Option ((Vector Int 16)):=
 ae (dB N N a0.gh 0) λp1=>
 ae (aO 0 3) λ_=>
 ae (p1.toList[(ag 0)]?) λe16=>
 ae (cK e16 a1 0) λr17=>
 ae (aO 1 3) λ_=>
 ae (p1.toList[(ag 1)]?) λe19=>
 ae (cK e19 a2 r17.2) λr20=>
 ae (eE N r17 r20 N (ah 16 0) 0) λp21=>
 some p21
theorem aFw{N a0 a1 a2 r}(h:pL N a0 a1 a2=some r):FnM Tryz.prog 151 [] [(aG.enc a0),(k64 a1),(k64 a2)] (eA 16 1 k8 r) []:=by
 refine Af aHG Tryz.func151 h ?_;refine At.M 7 [1,2,6,7] 2 (λp1=>([],[(1,.var (eA 3 1 k64 p1))],[])) [1,2,6,7] 2 (CU2 (dB N)) (cu2 λs2 s3=>([(20,(j64 s3))],[(1,.var (eA 3 1 k64 s2))],[])) (_,_) N (λp1 k=>un2 λs2 s3=>?_) λp1=>?_
 ·refine At.c 1 ?_ ?_
  ·refine At.J 0 2 [1,2,6,7,20] 2 (λp4=>([],[(1,.var (eA 3 1 k64 p4))],[])) (λp4=>?_) λp4=>?_
   ·refine At.B 0 bAr λu5=>?_;refine At.U 0 (bLd k64 0) λe6=>?_;refine At.B 0 (bNt dZ) λr7=>?_;refine At.B 5 bAr λu8=>?_;refine At.U 0 (bLd k64 0) λe9=>?_;refine At.B 1 (bNt dZ) λr10=>?_;refine At.B 5 bAr λu11=>?_;refine At.U 0 (bLd k64 0) λe12=>?_;apply lx;intro x13;refine At.c 5 ?_ ?_
    ·apply lx;intro x14;apply rt;exact At.jn 6
    ·apply rt;exact At.jn 0
   ·exact λh=>At.v 2 (_,_) h
  ·apply rt;exact At.x 0
 ·refine At.B 0 bAr λu15=>?_;refine At.U 0 (bLd k64 0) λe16=>?_;refine At.B 1 (bNt dZ) λr17=>?_;refine At.B 5 bAr λu18=>?_;refine At.U 0 (bLd k64 0) λe19=>?_;refine At.B 2 (bNt dZ) λr20=>?_;refine At.M 7 [6,16] 3 (λp21=>([],[(2,.var (eA 16 1 k8 p21))],[])) [6,12,14,16] 3 (CU2 (eE N r17 r20)) (cu2 λs22 s23=>([(62,(j64 s23))],[(2,.var (eA 16 1 k8 s22))],[])) (_,_) N (λp21 k=>un2 λs22 s23=>?_) λp21=>?_
  ·refine At.c 1 ?_ ?_
   ·refine At.D 2 [] ?_;refine DD.B 6 bSr λx24=>?_;refine DD.B 4 bSr λx25=>?_;refine DD.B 1 bAr λu26=>?_;refine DD.U 0 (bSv k8 0 (U8 x24)) λe27=>?_;refine DD.B 0 bAr λu28=>?_;refine DD.U 0 (bSv k8 0 (U8 x25)) λe29=>?_;refine De 0 ?_;exact λh=>At.v 2 (_,_) h
   ·apply rt;exact At.x 0
  ·apply rt;exact At.r 2
def iS(N:Nat)(r1:(List (Vector Int 17)))(a0:aM):Nat->(Vector Int 3)->Int->Option ((Vector Int 3))
 | 0,_,_=>none
 | k+1,s3,s4=>
  aN (decide (s4 < ((r1.length:Int)))) λx5=>
  cond x5 (
   ae (idx r1 s4) λe6=>
   ae (cN N e6 a0.gr0 a0.gr1 (aG.mk s3)) λr7=>
   iS N r1 a0 k r7 (I64 (s4+1))) (
   some s3)
def pZ(N:Nat)(a0:aM):Option ((Vector Int 16)):=
 cond (!a0.gP) (
  some (ah 16 0)) (
  ae (jU N a0.gQ) λr1=>
  ae (iS N r1 a0 N a0.gA7.gh 0) λp2=>
  ae (pL N (aG.mk p2) a0.gs0 a0.gs1) λr8=>
  some r8)
theorem aDu{N a0 r}(h:pZ N a0=some r):FnM Tryz.prog 115 [.var (aM.enc a0)] [(.ref 0 [] 0)] (eA 16 1 k8 r) [.var (aM.enc a0)]:=by
 refine Af dK Tryz.func115 h ?_;refine At.o 2 (aB6 hT (t:=212) (x:=(.ref 0 [] 0)) (b:=true) (by kernel_rfl) rfl rfl (by kernel_rfl)) ?_;refine At.g [8] 7 ?_;refine At.c 0 ?_ ?_
 ·apply rt;exact At.r 2
 ·refine At.y 10 aBm λr1=>?_;refine At.M 2 [0,2,3] 3 (λp2=>([],[(2,.var (.st 3 [(eA 3 1 k64 p2)]))],[])) [0,2,3,24,25] 3 (CU2 (iS N r1 a0)) (cu2 λs3 s4=>([(26,(j64 s4))],[(2,.var (.st 3 [(eA 3 1 k64 s3)]))],[])) (_,_) N (λp2 k=>un2 λs3 s4=>?_) λp2=>?_
  ·apply lx;intro x5;refine At.c 1 ?_ ?_
   ·refine At.i hT 0 (eA 17 1 k8) λe6=>?_;refine At.D 3 [] ?_;refine DD.Y 9 [2] yW λr7=>?_;refine De 0 ?_;exact λh=>At.v 2 (_,_) h
   ·apply rt;exact At.x 0
  ·refine At.D 0 [] ?_;refine DD.y 9 aFw λr8=>?_;refine De 1 ?_;apply rt;exact At.r 0
def aMq : Nat->Bool:=imL [2]
def tT(N:Nat)(a0:(Vector Int 32))(a1:(List (List Int))):Option ((Vector Int 16)):=
 ae (uZ N a0) λr1=>
 ae (rI N [] a1 (aG.mk (#v[0,0,0])) true r1.1 r1.2.1 r1.2.2.1 r1.2.2.2 0) λr2=>
 ae (pZ N (aM.mk (aG.mk r2.2.1) r2.2.2.1 r2.2.2.2.1 r2.2.2.2.2.1 r2.2.2.2.2.2.1 r2.2.2.2.2.2.2.1 r2.2.2.2.2.2.2.2.1 r2.2.2.2.2.2.2.2.2)) λr3=>
 some r3
theorem aKy{N a0 a1 r}(h:tT N a0 a1=some r):FnM Tryz.prog 81 [] [(eA 32 1 k8 a0),(eL 1 (eL 1 k8) a1)] (eA 16 1 k8 r) []:=by
 refine Af aMq Tryz.func81 h ?_;refine At.Y 3 [] aLf λr1=>?_;refine At.ownb 3 2 1 [6] ?_;refine At.Y 0 [2,3] aDB λr2=>?_;refine At.Y 1 [2] aDu λr3=>?_;apply rt;exact At.r 1
def aL9 : Nat->Bool:=imL [4,5]
def jV(N:Nat)(a2 a3:(List Int)):Nat->(Vector Int 16)->Int->Option ((Vector Int 16))
 | 0,_,_=>none
 | k+1,s2,s3=>
  cond (decide (s3 < 8)) (
   ae (wY .i64 ((a2.length:Int)) (I64 (8*s3))) λx4=>
   ae (wY .i64 ((a3.length:Int)) (I64 (8*s3))) λx5=>
   ae (aO s3 16) λ_=>
   ae (s2.toList[s3.toNat]?) λe7=>
   ae (aO (I64 (8+s3)) 16) λ_=>
   ae ((s2.setIfInBounds s3.toNat (U8 x4)).toList[(I64 (8+s3)).toNat]?) λe9=>
   jV N a2 a3 k ((s2.setIfInBounds s3.toNat (U8 x4)).setIfInBounds ((I64 (8+s3)).toNat) (U8 x5)) (I64 (s3+1))) (
   some s2)
def rY(N:Nat)(a0:(Vector Int 32))(a1:(Vector Int 12))(a2 a3:(List Int)):Option ((Vector Int 16)):=
 ae (jV N a2 a3 N (ah 16 0) 0) λp1=>
 ae (vF N a0 a1) λr10=>
 ae (qQ N a2) λr11=>
 ae (qQ N a3) λr12=>
 ae (dM p1.toList 0 16) λs13=>
 ae (tT N r10 ([a2,r11,a3,r12,s13])) λr14=>
 some r14
theorem aKe{N a0 a1 a2 a3 r}(h:rY N a0 a1 a2 a3=some r):FnM Tryz.prog 49 [] [(eA 32 1 k8 a0),(eA 12 1 k8 a1),(eL 1 k8 a2),(eL 1 k8 a3)] (eA 16 1 k8 r) []:=by
 refine Af aL9 Tryz.func49 h ?_;refine At.M 6 [2,3,4,5,8,9,10] 2 (λp1=>([],[(1,.var (eA 16 1 k8 p1))],[])) [2,3,4,5,8,9,10] 2 (CU2 (jV N a2 a3)) (cu2 λs2 s3=>([(12,(j64 s3))],[(1,.var (eA 16 1 k8 s2))],[])) (_,_) N (λp1 k=>un2 λs2 s3=>?_) λp1=>?_
 ·refine At.c 1 ?_ ?_
  ·refine At.D 2 [] ?_;refine DD.B 7 bSr λx4=>?_;refine DD.B 5 bSr λx5=>?_;refine DD.B 1 bAr λu6=>?_;refine DD.U 0 (bSv k8 0 (U8 x4)) λe7=>?_;refine DD.B 0 bAr λu8=>?_;refine DD.U 0 (bSv k8 0 (U8 x5)) λe9=>?_;refine De 0 ?_;exact λh=>At.v 2 (_,_) h
  ·apply rt;exact At.x 0
 ·refine At.gz 0 1 ((eA 16 1 k8 p1)) ?_;refine At.D 0 [] ?_;refine DD.y 2 aLc λr10=>?_;refine DD.y 3 aCs λr11=>?_;refine DD.y 3 aCs λr12=>?_;refine DD.B 0 (bSI k8) λs13=>?_;refine DD.O 0 bRw ?_;refine DD.y 0 aKy λr14=>?_;refine De 1 ?_;apply rt;exact At.r 0
def aLG : Nat->Bool:=imL [4,5]
def wA(N:Nat)(a0:(Vector Int 32))(a1:(Vector Int 12))(a2 a3:(List Int)):Option ((List Int)×Int):=
 aN (decide (((a2.length:Int)) > 16384)) λx1=>
 aN (decide (((a3.length:Int)) > 16384)) λx2=>
 cond (cond x1 true x2) (
  some (([],3))) (
  ae (xU N a0 1 a1 ([a3])) λr3=>
  ae (rY N a0 a1 a2 r3) λr4=>
  ae (dM r4.toList 0 16) λs6=>
  ae (eK N ([r3,s6])) λr7=>
  some ((r7,0)))
theorem aD5{N a0 a1 a2 a3 r}(h:wA N a0 a1 a2 a3=some r):FnM Tryz.prog 24 [] [(eA 32 1 k8 a0),(eA 12 1 k8 a1),(eL 1 k8 a2),(eL 1 k8 a3)] (.tup [(eL 1 k8 r.1),(j64 r.2)]) []:=by
 refine Af aLG Tryz.func24 h ?_;apply lx;intro x1;apply lx;intro x2;refine At.c 12 ?_ ?_
 ·apply rt;exact At.r 2
 ·refine At.O 3 bRw ?_;refine At.y 0 aIg λr3=>?_;refine At.y 5 aKe λr4=>?_;refine At.gz 3 0 ((eA 16 1 k8 r4)) ?_;refine At.B 0 (bSI k8) λs6=>?_;refine At.O 0 bRw ?_;refine At.Y 0 [] nN λr7=>?_;apply rt;exact At.r 2
def wV(N:Nat)(a0:(List Int)):Option (Unit):=
 some (())
theorem aE8{N a0 r}(h:wV N a0=some r):FnM Tryz.prog 26 [] [(eL 1 k8 a0)] (.fn (.func 50) [] [(.ref 0 [] 0)]) [.var (eL 1 k8 a0)]:=by
 refine Af dK Tryz.func26 h ?_;refine At.o 2 (aJo (x:=(.fn (.func 50) [] [(.ref 0 [] 0)])) (by kernel_rfl) (by kernel_rfl)) ?_;apply rt;exact At.r 1
def aE5 : Nat->Bool:=imL [4,5,7]
def pP(N:Nat)(b3:(List Int))(a1:(Vector Int 32))(a2:(Vector Int 8))(a3 a4:(List Int))(a5:Int)(a6:(List Int)):Option ((List Int)):=
 aN (U64 ((a6.length:Int))) λx1=>
 ae (bT N [] 2 ([U64 a5,x1])) λr2=>
 ae (jY N a2 (I64 (a5+1))) λr3=>
 ae (eK N ([r2.1,a3])) λr4=>
 ae (wA N a1 r3 r4 a6) λr5=>
 ae (fL 1 b3 r2.1) λz6=>
 ae (fL 1 z6 r5.1) λz7=>
 some z7
theorem aEH{N:Nat}{b3:(List Int)}{a1:(Vector Int 32)}{a2:(Vector Int 8)}{a3:(List Int)}{a4:(List Int)}{a5:Int}{a6:(List Int)}{r:(List Int)}(h:pP N b3 a1 a2 a3 a4 a5 a6=some r):YldM Tryz.prog (aQt 101 Tryz.f11.body [1,1,1,1,1,1,1,1,1,1,0,1,0]) [en 4 (.im (eA 32 1 k8 a1)),en 5 (.im (eA 8 1 k8 a2)),en 13 (.ref 0 [] 0),en 14 (.ref 1 [] 0)] [.var (eO 3 1 k8 b3),.var (eL 1 k8 a3),.var (eL 1 k8 a4),.tail (b3.length*1)] [(j64 a5),(eL 1 k8 a6)] [.var (eO 3 1 k8 r),.var (eL 1 k8 a3),.var (eL 1 k8 a4),.tail (r.length*1)] none:=by
 unfold pP at h;refine aLx (lo:=5) (by kernel_rfl) (λbk rl=>At.of aE5 hT hmo h ?_)
 refine At.to 0 ⟨[en 4 (.im (eA 32 1 k8 a1)),en 5 (.im (eA 8 1 k8 a2)),en 13 (.ref 0 [] 0),en 14 (.ref 1 [] 0),en 69 (j64 a5),en 70 (eL 1 k8 a6)],[.var (eO 3 1 k8 b3),.var (eL 1 k8 a3),.var (eL 1 k8 a4),.tail (b3.length*1),.loop rl]⟩ ?_;refine At.mid 2 (λrl2=>?_)
 apply lx;intro x1;refine At.O 5 bRw ?_;refine At.Y 0 [] lQ λr2=>?_;refine At.wk 5 18 ((eL 1 k8 r2.1)) ?_;refine At.D 0 [] ?_;refine DD.y 4 aAx λr3=>?_;refine DD.O 2 bRw ?_;refine DD.Z 0 [] 6 nN λr4=>?_;refine DD.y 1 aD5 λr5=>?_;refine De 5 ?_;refine At.U 2 (bAp k8) λz6=>?_;refine At.U 1 (bAp k8) λz7=>?_;apply rt;exact At.rnd 1
def cC(N:Nat)(a1:(Vector Int 32))(a2:(Vector Int 8))(a3:(List Int)):Nat->(List Int)->(List Int)->Int->Option ((List Int)×(List Int))
 | 0,_,_,_=>none
 | k+1,s2,s3,s4=>
  aN (decide (((s3.length:Int)) > 0)) λx5=>
  cond x5 (
   aN (lH ((s3.length:Int)) 256) λx6=>
   ae (aIq s3 0 x6 x6) λs7=>
   ae (pP N s2 a1 a2 a3 s3 s4 s7) λr8=>
   ae (dM s3 x6 ((s3.length:Int))) λs9=>
   cC N a1 a2 a3 k r8 s9 (I64 (s4+1))) (
   some ((s2,s3)))
def dS(N:Nat)(b3:(List Int))(a1:(Vector Int 32))(a2:(Vector Int 8))(a3 a4:(List Int)):Option ((List Int)×(List Int)):=
 ae (cC N a1 a2 a3 N b3 a4 0) λp1=>
 some ((p1.1,p1.2))
theorem sV{N:Nat}{b3:(List Int)}{a1:(Vector Int 32)}{a2:(Vector Int 8)}{a3:(List Int)}{a4:(List Int)}{r:(List Int)×(List Int)}(h:dS N b3 a1 a2 a3 a4=some r):ItM Tryz.prog 50 (aQt 101 Tryz.f11.body [1,1,1,1,1,1,1,1,1,1,0,1,0]) [en 4 (.im (eA 32 1 k8 a1)),en 5 (.im (eA 8 1 k8 a2)),en 13 (.ref 0 [] 0),en 14 (.ref 1 [] 0)] [.var (eO 3 1 k8 b3),.var (eL 1 k8 a3),.var (eL 1 k8 a4),.tail (b3.length*1)] [(.yld 4),(.ref 2 [] 0)] (.tup []) [.var (eO 3 1 k8 r.1),.var (eL 1 k8 a3),.var (eL 1 k8 r.2),.tail (r.1.length*1)] none:=by
 unfold dS at h;refine aOf (m:=24) (lo:=5) (rs:=[]) hT Tryz.func50 rfl (by kernel_rfl) rfl (λfn tmps D hsz=>At.of dK hT hmo h ?_)
 refine At.M 1 [] 5 (λp1=>([],[(0,.var (eO 3 1 k8 p1.1)),(2,.var (eL 1 k8 p1.2)),(3,.tail (p1.1.length*1))],[])) [0,1] 5 (CU3 (cC N a1 a2 a3)) (cu3 λs2 s3 s4=>([(3,(j64 s4))],[(0,.var (eO 3 1 k8 s2)),(2,.var (eL 1 k8 s3)),(3,.tail (s2.length*1))],[])) (_,_,_) N (λp1 k=>un3 λs2 s3 s4=>?_) λp1=>?_
 ·apply lx;intro x5;refine At.c 3 ?_ ?_
  ·apply lx;intro x6;refine At.b 9 (λ_ e=>aPy hT (k:=1) k8 e (by kernel_rfl) (by kernel_rfl)) λs7=>?_;refine At.b 0 (λ_ e=>aSE (aEH e) (fn:=fn) (D:=D) hsz rfl (List.mem_singleton.2 rfl) (by kernel_rfl) (by kernel_rfl)) λr8=>?_;refine At.B 4 (bSl k8) λs9=>?_;exact λh=>At.v 4 (_,_,_) h
  ·apply rt;exact At.x 0
 ·apply rt;exact At.z 0
theorem rO : nP Tryz.prog 50:=kA (show lK Tryz.prog 50=true by kernel_rfl)
def aIW : Nat->Bool:=imL [4,5,7]
def oU(N:Nat)(a0:(Vector Int 32))(a1:(Vector Int 8))(a2:aF)(a3:aE):Option ((List Int)×Int):=
 ae (pK N a3) λr1=>
 cond (r1.2 != 0) (
  some (([],r1.2))) (
  cond (a2.gC != a3.gC) (
   some (([],12))) (
   ae (oH N ((r1.1.length:Int))) λr2=>
   ae (mA N (aF.mk a2.gId a2.gC a2.gA6 a2.gA3 a2.gA4 a2.gTo ((r1.1.length:Int)) r2)) λr3=>
   cond (r3.2 != 0) (
    some (([],r3.2))) (
    ae (dM a1.toList 0 8) λs4=>
    ae (eK N ([([85,77,66,49]:List Int),s4,r3.1])) λr5=>
    ae (jY N a1 0) λr6=>
    ae (wA N a0 r6 r5 []) λr7=>
    ae (fL 1 r5 r7.1) λz8=>
    ae (wV N r1.1) λr9=>
    ae (dS N z8 a0 a1 r7.1 r1.1) λr10=>
    some ((r10.1,0)))))
theorem aGh{N a0 a1 a2 a3 r}(h:oU N a0 a1 a2 a3=some r):FnM Tryz.prog 11 [] [(eA 32 1 k8 a0),(eA 8 1 k8 a1),(aF.enc a2),(aE.enc a3)] (.tup [(eL 1 k8 r.1),(j64 r.2)]) []:=by
 unfold oU at h;refine At.fR aIW hT hmo Tryz.func11 rfl h ?_;refine At.y 7 aF2 λr1=>?_;refine At.c 7 ?_ ?_
 ·apply rt;exact At.r 3
 ·refine At.c 5 ?_ ?_
  ·apply rt;exact At.r 2
  ·refine At.y 4 yI λr2=>?_;refine At.y 5 aC4 λr3=>?_;refine At.c 7 ?_ ?_
   ·apply rt;exact At.r 3
   ·refine At.l2 hT 0 (d1:=50) (d2:=51) (t:=23) (e:=5) k8 (z:=1) ([85,77,66,49]:List Int) rfl rfl rfl ?_;refine At.B 0 (bSI k8) λs4=>?_;refine At.wk 1 51 ((eL 1 k8 (([85,77,66,49]:List Int)))) ?_;refine At.O 0 bRw ?_;refine At.Y 0 [] nN λr5=>?_;refine At.D 2 [] ?_;refine DD.y 2 aAx λr6=>?_;refine DD.y 1 aD5 λr7=>?_;refine De 6 ?_;refine At.U 2 (bAp k8) λz8=>?_;refine At.Y 2 [] aE8 λr9=>?_;refine bi λr10 hr10=>?_;refine At.rg 0 (sV hr10) rO (.tmp 68) [3,4,5,2] ⟨[en 13 (.ref 3 [] 0)],[.var (.st 15 [(k64 a2.gId),(j64 a2.gC),(k32 a2.gA6),(eA 8 1 k8 a2.gA3),(k32 a2.gA4),(k32 a2.gTo),(j64 ((r1.1.length:Int))),(j64 r2)]),.tail ((([85,77,66,49]:List Int)).length*1),.tail (r10.1.length*1),.var (eO 2 1 k8 r10.1),.var (eL 1 k8 r7.1),.var (eL 1 k8 r10.2)]⟩ [(.ref 5 [] 0)] ?_;apply rt;exact At.r 3
def aIi : Nat->Bool:=imL [4,6,7]
def vO(N:Nat)(a0:(Vector Int 32))(a1:(List Int))(a2:aF)(a3:aE):Option ((List Int)×Int):=
 ae (sF N ([a1])) λr1=>
 ae (tM N a0) λr2=>
 ae (dM r1.toList 0 8) λs3=>
 ae (aGW 8 s3) λv4=>
 ae (oU N r2 v4 a2 a3) λr5=>
 some ((r5.1,r5.2))
theorem aGe{N a0 a1 a2 a3 r}(h:vO N a0 a1 a2 a3=some r):FnM Tryz.prog 5 [] [(eA 32 1 k8 a0),(eL 1 k8 a1),(aF.enc a2),(aE.enc a3)] (.tup [(eL 1 k8 r.1),(j64 r.2)]) []:=by
 refine Af aIi Tryz.func5 h ?_;refine At.O 6 bRw ?_;refine At.y 0 aAq λr1=>?_;refine At.gz 2 0 ((eA 32 1 k8 r1)) ?_;refine At.D 0 [] ?_;refine DD.y 1 aAZ λr2=>?_;refine DD.B 0 (bSI k8) λs3=>?_;refine DD.b 0 (λ{v4} e _=>aJE hT k8 s3 v4 e rfl (by kernel_rfl) (by kernel_rfl)) λv4=>?_;refine DD.y 3 aGh λr5=>?_;refine De 4 ?_;apply rt;exact At.r 0
def mI(N:Nat)(p1:Int):Nat->(List Int)->Option ((List Int))
 | 0,_=>none
 | k+1,s3=>
  aN (I64 ((cj p1 64)+((s3.length:Int)))) λx4=>
  aN (cj (I64 (x4+8)) 64) λx5=>
  cond (decide (x5 > 0)) (
   ae (fL 1 s3 (([0]:List Int))) λz6=>
   mI N p1 k z6) (
   some s3)
def mF(N:Nat)(p1:Int):Nat->(List Int)->Int->Option ((List Int))
 | 0,_,_=>none
 | k+1,s8,s9=>
  cond (decide (s9>=0)) (
   ae (wY .u64 (U64 ((U64 p1)*8)) (I64 (8*s9))) λx10=>
   ae (fL 1 s8 (([U8 x10]:List Int))) λz11=>
   mF N p1 k z11 (I64 (s9 - 1))) (
   some s8)
def sR(N:Nat)(a0:Int):Option ((List Int)):=
 ae (cond (decide (a0 < 0)) (some 0) (some a0)) λp1=>
 ae (mI N p1 N (([128]:List Int))) λp2=>
 ae (mF N p1 N p2 7) λp7=>
 some p7
theorem aDb{N a0 r}(h:sR N a0=some r):FnM Tryz.prog 29 [] [(j64 a0)] (eL 1 k8 r) []:=by
 refine Af dK Tryz.func29 h ?_;refine At.J 1 1 [] 0 (λp1=>([(0,(j64 p1))],[],[])) (λp1=>?_) λp1=>?_
 ·refine At.c 2 ?_ ?_
  ·apply rt;exact At.jn 1
  ·apply rt;exact At.jn 0
 ·refine At.o 0 (oJ hT k8 (k:=1) ([128]:List Int) (by kernel_rfl) (by kernel_rfl)) ?_;refine At.M 1 [0] 1 (λp2=>([(3,(eO 0 1 k8 p2))],[(0,.tail (p2.length*1))],[])) [0] 1 (mI N p1) (λ(s3:(List Int))=>([(3,(eO 0 1 k8 s3))],[(0,.tail (s3.length*1))],[])) _ N (λp2 k s3=>?_) λp2=>?_
  ·apply lx;intro x4;apply lx;intro x5;refine At.c 8 ?_ ?_
   ·refine At.O 1 bRw ?_;refine At.U 0 (bAp k8) λz6=>?_;exact λh=>At.v 1 _ h
   ·apply rt;exact At.x 0
  ·refine At.M 5 [] 1 (λp7=>([(3,(eO 0 1 k8 p7))],[(0,.tail (p7.length*1))],[])) [4] 1 (CU2 (mF N p1)) (cu2 λs8 s9=>([(3,(eO 0 1 k8 s8)),(5,(j64 s9))],[(0,.tail (s8.length*1))],[])) (_,_) N (λp7 k=>un2 λs8 s9=>?_) λp7=>?_
   ·refine At.c 2 ?_ ?_
    ·refine At.B 4 bSr λx10=>?_;refine At.O 1 bRw ?_;refine At.U 0 (bAp k8) λz11=>?_;exact λh=>At.v 4 (_,_) h
    ·apply rt;exact At.x 0
   ·apply rt;exact At.r 2
end Go.UK
