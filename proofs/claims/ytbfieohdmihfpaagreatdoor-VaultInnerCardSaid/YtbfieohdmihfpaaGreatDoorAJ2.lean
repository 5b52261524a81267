/- A part of the proof: what the functions of the program compute. -/
import Derived.Test.YtbfieohdmihfpaaGreatDoorAJ1
open Int renaming tdiv→de,tmod→cj,toNat→ag
open Option renaming bind→ae,map_eq_some_iff→dm
open Vector renaming replicate→ah
namespace Go.UK
open Go Go.Proofs Go.Sort Go.RowKit
set_option maxRecDepth 20000
set_option maxHeartbeats 40000000
set_option linter.all false
attribute [local irreducible] adv aBN aEj yY brPt aNu aHh oA aAn aNN fS nY cW wE aLK aMs lPt bJ opD jT xL aM3 stD dCl dEn dH DD aN owp awl aw FnM aIl opS TOK Big
def bP(N:Nat)(a0 a1:Int):Option (Int):=
 ae (wY .u32 a0 a1) λx1=>
 ae (aF1 .u32 a0 (I64 (32 - a1))) λx2=>
 some (bor .u32 x1 x2)
theorem eC{N a0 a1 r}(h:bP N a0 a1=some r):FnM Tryz.prog 84 [] [(k32 a0),(j64 a1)] (k32 r) []:=by
 refine Af dK Tryz.func84 h ?_;refine At.D 1 [] ?_;refine DD.B 2 bSr λx1=>?_;refine DD.B 3 bSh λx2=>?_;refine De 2 ?_;apply rt;exact At.r 0
def aFz : Nat->Bool:=imL [3,4,5]
def jN(N:Nat)(a2:(Vector Int 64)):Nat->(List Int)->Int->Option ((List Int))
 | 0,_,_=>none
 | k+1,s2,s3=>
  cond (decide (s3 < 16)) (
   ae (idx a2.toList (I64 (4*s3))) λe4=>
   aN (I64 ((I64 (4*s3))+1)) λx5=>
   ae (idx a2.toList x5) λe6=>
   aN (U32 ((U32 ((U32 e4)*256))+(U32 e6))) λx7=>
   aN (I64 ((I64 (4*s3))+2)) λx8=>
   ae (idx a2.toList x8) λe9=>
   aN (U32 ((U32 (x7*256))+(U32 e9))) λx10=>
   aN (I64 ((I64 (4*s3))+3)) λx11=>
   ae (idx a2.toList x11) λe12=>
   aN (U32 ((U32 (x10*256))+(U32 e12))) λx13=>
   ae (fL 4 s2 (([x13]:List Int))) λz14=>
   jN N a2 k z14 (I64 (s3+1))) (
   some s2)
def jI(N:Nat)  : Nat->(List Int)->Int->Option ((List Int))
 | 0,_,_=>none
 | k+1,s16,s17=>
  cond (decide (s17 < 64)) (
   ae (idx s16 (I64 (s17 - 15))) λe18=>
   ae (bP N e18 7) λr19=>
   ae (idx s16 (I64 (s17 - 15))) λe20=>
   ae (bP N e20 18) λr21=>
   ae (idx s16 (I64 (s17 - 15))) λe22=>
   aN (fG .u32 (fG .u32 r19 r21) (shr .u32 e22 3)) λx23=>
   ae (idx s16 (I64 (s17 - 2))) λe24=>
   ae (bP N e24 17) λr25=>
   ae (idx s16 (I64 (s17 - 2))) λe26=>
   ae (bP N e26 19) λr27=>
   ae (idx s16 (I64 (s17 - 2))) λe28=>
   aN (fG .u32 (fG .u32 r25 r27) (shr .u32 e28 10)) λx29=>
   ae (idx s16 (I64 (s17 - 7))) λe30=>
   aN (U32 ((U32 (x29+e30))+x23)) λx31=>
   ae (idx s16 (I64 (s17 - 16))) λe32=>
   ae (fL 4 s16 (([U32 (x31+e32)]:List Int))) λz33=>
   jI N k z33 (I64 (s17+1))) (
   some s16)
def nS(N:Nat)  : Nat->(Vector Int 8)->Int->Option ((Vector Int 8))
 | 0,_,_=>none
 | k+1,s88,s89=>
  cond (decide (s89 > 0)) (
   ae (aO (I64 (s89 - 1)) 8) λ_=>
   ae (s88.toList[(I64 (s89 - 1)).toNat]?) λe91=>
   ae (aO s89 8) λ_=>
   ae (s88.toList[s89.toNat]?) λe93=>
   nS N k (s88.setIfInBounds s89.toNat e91) (I64 (s89 - 1))) (
   some s88)
def jJ(N:Nat)(a0:(Vector Int 64))(p15:(List Int)):Nat->(Vector Int 8)->Int->Option ((Vector Int 8))
 | 0,_,_=>none
 | k+1,s35,s36=>
  cond (decide (s36 < 64)) (
   ae (aO 7 8) λ_=>
   ae (s35.toList[(ag 7)]?) λe38=>
   ae (aO 4 8) λ_=>
   ae (s35.toList[(ag 4)]?) λe40=>
   ae (bP N e40 6) λr41=>
   ae (aO 4 8) λ_=>
   ae (s35.toList[(ag 4)]?) λe43=>
   ae (bP N e43 11) λr44=>
   ae (aO 4 8) λ_=>
   ae (s35.toList[(ag 4)]?) λe46=>
   ae (bP N e46 25) λr47=>
   aN (fG .u32 (fG .u32 r41 r44) r47) λx48=>
   ae (aO 4 8) λ_=>
   ae (s35.toList[(ag 4)]?) λe50=>
   ae (aO 5 8) λ_=>
   ae (s35.toList[(ag 5)]?) λe52=>
   ae (aO 4 8) λ_=>
   ae (s35.toList[(ag 4)]?) λe54=>
   ae (aO 6 8) λ_=>
   ae (s35.toList[(ag 6)]?) λe56=>
   aN (cF .u32 (bnot .u32 e54) e56) λx57=>
   aN (fG .u32 (cF .u32 e50 e52) x57) λx58=>
   aN (U32 ((U32 (e38+x48))+x58)) λx59=>
   ae (idx a0.toList s36) λe60=>
   ae (idx p15 s36) λe61=>
   aN (U32 ((U32 (x59+e60))+e61)) λx62=>
   ae (aO 0 8) λ_=>
   ae (s35.toList[(ag 0)]?) λe64=>
   ae (bP N e64 2) λr65=>
   ae (aO 0 8) λ_=>
   ae (s35.toList[(ag 0)]?) λe67=>
   ae (bP N e67 13) λr68=>
   ae (aO 0 8) λ_=>
   ae (s35.toList[(ag 0)]?) λe70=>
   ae (bP N e70 22) λr71=>
   aN (fG .u32 (fG .u32 r65 r68) r71) λx72=>
   ae (aO 0 8) λ_=>
   ae (s35.toList[(ag 0)]?) λe74=>
   ae (aO 1 8) λ_=>
   ae (s35.toList[(ag 1)]?) λe76=>
   ae (aO 0 8) λ_=>
   ae (s35.toList[(ag 0)]?) λe78=>
   ae (aO 2 8) λ_=>
   ae (s35.toList[(ag 2)]?) λe80=>
   aN (fG .u32 (cF .u32 e74 e76) (cF .u32 e78 e80)) λx81=>
   ae (aO 1 8) λ_=>
   ae (s35.toList[(ag 1)]?) λe83=>
   ae (aO 2 8) λ_=>
   ae (s35.toList[(ag 2)]?) λe85=>
   aN (fG .u32 x81 (cF .u32 e83 e85)) λx86=>
   ae (nS N N s35 7) λp87=>
   ae (aO 4 8) λ_=>
   ae (p87.toList[(ag 4)]?) λe95=>
   ae (aO 4 8) λ_=>
   ae (p87.toList[(ag 4)]?) λe97=>
   aN (U32 (x62+(U32 (x72+x86)))) λx98=>
   ae (aO 0 8) λ_=>
   ae ((p87.setIfInBounds ((ag 4)) (U32 (e95+x62))).toList[(ag 0)]?) λe100=>
   jJ N a0 p15 k ((p87.setIfInBounds ((ag 4)) (U32 (e95+x62))).setIfInBounds ((ag 0)) x98) (I64 (s36+1))) (
   some s35)
def nK(N:Nat)(a1:(Vector Int 8)):Nat->(Vector Int 8)->Int->Option ((Vector Int 8))
 | 0,_,_=>none
 | k+1,s102,s103=>
  cond (decide (s103 < 8)) (
   ae (aO s103 8) λ_=>
   ae (s102.toList[s103.toNat]?) λe105=>
   ae (idx a1.toList s103) λe106=>
   ae (aO s103 8) λ_=>
   ae (s102.toList[s103.toNat]?) λe108=>
   nK N a1 k (s102.setIfInBounds s103.toNat (U32 (e105+e106))) (I64 (s103+1))) (
   some s102)
def wZ(N:Nat)(a0:(Vector Int 64))(a1:(Vector Int 8))(a2:(Vector Int 64)):Option ((Vector Int 8)):=
 ae (jN N a2 N [] 0) λp1=>
 ae (jI N N p1 16) λp15=>
 ae (jJ N a0 p15 N a1 0) λp34=>
 ae (nK N a1 N p34 0) λp101=>
 some p101
theorem aE2{N a0 a1 a2 r}(h:wZ N a0 a1 a2=some r):FnM Tryz.prog 54 [] [(eA 64 1 k32 a0),(eA 8 1 k32 a1),(eA 64 1 k8 a2)] (eA 8 1 k32 r) []:=by
 refine Af aFz Tryz.func54 h ?_;refine At.ownn 6 7 1 ?_;refine At.M 0 [3,4,6] 2 (λp1=>([(7,(eO 1 1 k32 p1))],[(1,.tail (p1.length*1))],[])) [3,4,5,6] 2 (CU2 (jN N a2)) (cu2 λs2 s3=>([(7,(eO 1 1 k32 s2)),(8,(j64 s3))],[(1,.tail (s2.length*1))],[])) (_,_) N (λp1 k=>un2 λs2 s3=>?_) λp1=>?_
 ·refine At.c 2 ?_ ?_
  ·refine At.D 0 [] ?_;refine DD.B 3 (bAi k8) λe4=>?_;apply lx;intro x5;refine DD.B 6 (bAi k8) λe6=>?_;apply lx;intro x7;apply lx;intro x8;refine DD.B 7 (bAi k8) λe9=>?_;apply lx;intro x10;apply lx;intro x11;refine DD.B 7 (bAi k8) λe12=>?_;apply lx;intro x13;refine DD.O 3 bRw ?_;refine DD.U 0 (bAp k32) λz14=>?_;refine De 1 ?_;exact λh=>At.v 3 (_,_) h
  ·apply rt;exact At.x 0
 ·refine At.M 1 [3,4,6] 2 (λp15=>([(7,(eO 1 1 k32 p15))],[(1,.tail (p15.length*1))],[])) [3,4,6] 2 (CU2 (jI N)) (cu2 λs16 s17=>([(7,(eO 1 1 k32 s16)),(9,(j64 s17))],[(1,.tail (s16.length*1))],[])) (_,_) N (λp15 k=>un2 λs16 s17=>?_) λp15=>?_
  ·refine At.c 2 ?_ ?_
   ·refine At.D 0 [] ?_;refine DD.i hT 3 k32 λe18=>?_;refine DD.y 1 eC λr19=>?_;refine DD.i hT 3 k32 λe20=>?_;refine DD.y 1 eC λr21=>?_;refine DD.i hT 4 k32 λe22=>?_;apply lx;intro x23;refine De 4 ?_;refine At.D 0 [] ?_;refine DD.i hT 3 k32 λe24=>?_;refine DD.y 1 eC λr25=>?_;refine DD.i hT 3 k32 λe26=>?_;refine DD.y 1 eC λr27=>?_;refine DD.i hT 4 k32 λe28=>?_;apply lx;intro x29;refine De 4 ?_;refine At.D 0 [] ?_;refine DD.i hT 5 k32 λe30=>?_;apply lx;intro x31;refine DD.i hT 7 k32 λe32=>?_;refine DD.O 2 bRw ?_;refine DD.U 0 (bAp k32) λz33=>?_;refine De 1 ?_;exact λh=>At.v 3 (_,_) h
   ·apply rt;exact At.x 0
  ·refine At.M 4 [4,6,12] 3 (λp34=>([],[(2,.var (eA 8 1 k32 p34))],[])) [3,4,6,7,12] 3 (CU2 (jJ N a0 p15)) (cu2 λs35 s36=>([(13,(j64 s36))],[(2,.var (eA 8 1 k32 s35))],[])) (_,_) N (λp34 k=>un2 λs35 s36=>?_) λp34=>?_
   ·refine At.c 2 ?_ ?_
    ·refine At.D 0 [] ?_;refine DD.B 0 bAr λu37=>?_;refine DD.l hT 0 k32 k32 0 λe38=>?_;refine DD.B 0 bAr λu39=>?_;refine DD.l hT 0 k32 k32 0 λe40=>?_;refine DD.y 0 eC λr41=>?_;refine DD.B 0 bAr λu42=>?_;refine DD.l hT 0 k32 k32 0 λe43=>?_;refine DD.y 0 eC λr44=>?_;refine DD.B 1 bAr λu45=>?_;refine DD.l hT 0 k32 k32 0 λe46=>?_;refine DD.y 0 eC λr47=>?_;apply lx;intro x48;refine DD.B 2 bAr λu49=>?_;refine DD.l hT 0 k32 k32 0 λe50=>?_;refine DD.B 0 bAr λu51=>?_;refine DD.l hT 0 k32 k32 0 λe52=>?_;refine DD.B 1 bAr λu53=>?_;refine DD.l hT 0 k32 k32 0 λe54=>?_;refine DD.B 1 bAr λu55=>?_;refine DD.l hT 0 k32 k32 0 λe56=>?_;apply lx;intro x57;apply lx;intro x58;apply lx;intro x59;refine DD.B 4 (bAi k32) λe60=>?_;refine DD.i hT 4 k32 λe61=>?_;apply lx;intro x62;refine De 3 ?_;refine At.D 0 [] ?_;refine DD.B 0 bAr λu63=>?_;refine DD.l hT 0 k32 k32 0 λe64=>?_;refine DD.y 0 eC λr65=>?_;refine DD.B 0 bAr λu66=>?_;refine DD.l hT 0 k32 k32 0 λe67=>?_;refine DD.y 0 eC λr68=>?_;refine DD.B 1 bAr λu69=>?_;refine DD.l hT 0 k32 k32 0 λe70=>?_;refine DD.y 0 eC λr71=>?_;apply lx;intro x72;refine DD.B 1 bAr λu73=>?_;refine DD.l hT 0 k32 k32 0 λe74=>?_;refine DD.B 0 bAr λu75=>?_;refine DD.l hT 0 k32 k32 0 λe76=>?_;refine DD.B 1 bAr λu77=>?_;refine DD.l hT 0 k32 k32 0 λe78=>?_;refine DD.B 0 bAr λu79=>?_;refine DD.l hT 0 k32 k32 0 λe80=>?_;apply lx;intro x81;refine DD.B 2 bAr λu82=>?_;refine DD.l hT 0 k32 k32 0 λe83=>?_;refine DD.B 0 bAr λu84=>?_;refine DD.l hT 0 k32 k32 0 λe85=>?_;apply lx;intro x86;refine De 4 ?_;refine At.M 1 [3,4,6,7,12,13,14,15] 3 (λp87=>([],[(2,.var (eA 8 1 k32 p87))],[])) [3,4,6,7,12,13,14,15] 3 (CU2 (nS N)) (cu2 λs88 s89=>([(16,(j64 s89))],[(2,.var (eA 8 1 k32 s88))],[])) (_,_) N (λp87 k=>un2 λs88 s89=>?_) λp87=>?_
     ·refine At.c 2 ?_ ?_
      ·refine At.B 3 bAr λu90=>?_;refine At.U 0 (bLd k32 0) λe91=>?_;refine At.B 0 bAr λu92=>?_;refine At.U 0 (bSv k32 0 e91) λe93=>?_;exact λh=>At.v 3 (_,_) h
      ·apply rt;exact At.x 0
     ·refine At.B 0 bAr λu94=>?_;refine At.U 0 (bLd k32 0) λe95=>?_;refine At.B 2 bAr λu96=>?_;refine At.U 0 (bSv k32 0 (U32 (e95+x62))) λe97=>?_;apply lx;intro x98;refine At.B 3 bAr λu99=>?_;refine At.U 0 (bSv k32 0 x98) λe100=>?_;exact λh=>At.v 3 (_,_) h
    ·apply rt;exact At.x 0
   ·refine At.M 1 [6,12] 3 (λp101=>([],[(2,.var (eA 8 1 k32 p101))],[])) [4,6,12] 3 (CU2 (nK N a1)) (cu2 λs102 s103=>([(17,(j64 s103))],[(2,.var (eA 8 1 k32 s102))],[])) (_,_) N (λp101 k=>un2 λs102 s103=>?_) λp101=>?_
    ·refine At.c 2 ?_ ?_
     ·refine At.D 0 [] ?_;refine DD.B 2 bAr λu104=>?_;refine DD.l hT 0 k32 k32 0 λe105=>?_;refine DD.B 1 (bAi k32) λe106=>?_;refine DD.B 2 bAr λu107=>?_;refine DD.U 0 (bSv k32 0 (U32 (e105+e106))) λe108=>?_;refine De 0 ?_;exact λh=>At.v 3 (_,_) h
     ·apply rt;exact At.x 0
    ·apply rt;exact At.r 2
def aBC : Nat->Bool:=imL [2,3]
def jX : (Vector Int 64):=#v[1116352408,1899447441,3049323471,3921009573,961987163,1508970993,2453635748,2870763221,3624381080,310598401,607225278,1426881987,1925078388,2162078206,2614888103,3248222580,3835390401,4022224774,264347078,604807628,770255983,1249150122,1555081692,1996064986,2554220882,2821834349,2952996808,3210313671,3336571891,3584528711,113926993,338241895,666307205,773529912,1294757372,1396182291,1695183700,1986661051,2177026350,2456956037,2730485921,2820302411,3259730800,3345764771,3516065817,3600352804,4094571909,275423344,430227734,506948616,659060556,883997877,958139571,1322822218,1537002063,1747873779,1955562222,2024104815,2227730452,2361852424,2428436474,2756734187,3204031479,3329325298]
def nW(N:Nat)(a0:(Vector Int 8))(a1:(Vector Int 64)):Option ((Vector Int 8)):=
 ae (wZ N jX a0 a1) λr1=>
 some r1
theorem aAr{N a0 a1 r}(h:nW N a0 a1=some r):FnM Tryz.prog 30 [] [(eA 8 1 k32 a0),(eA 64 1 k8 a1)] (eA 8 1 k32 r) []:=by
 refine Af aBC Tryz.func30 h ?_;refine At.y 6 aE2 λr1=>?_;apply rt;exact At.r 1
def iN(N:Nat)(z3:(List Int))(s6:Int):Nat->(Vector Int 64)->Int->Option ((Vector Int 64))
 | 0,_,_=>none
 | k+1,s9,s10=>
  cond (decide (s10 < 64)) (
   ae (idx z3 (I64 (s6+s10))) λe11=>
   ae (aO s10 64) λ_=>
   ae (s9.toList[s10.toNat]?) λe13=>
   iN N z3 s6 k (s9.setIfInBounds s10.toNat e11) (I64 (s10+1))) (
   some s9)
def kP(N:Nat)(z3:(List Int)):Nat->(Vector Int 8)->Int->Option ((Vector Int 8))
 | 0,_,_=>none
 | k+1,s5,s6=>
  aN (decide ((I64 (s6+64))<=((z3.length:Int)))) λx7=>
  cond x7 (
   ae (iN N z3 s6 N (ah 64 0) 0) λp8=>
   ae (nW N s5 p8) λr14=>
   kP N z3 k r14 (I64 (s6+64))) (
   some s5)
def pJ(N:Nat)(p4:(Vector Int 8)):Nat->(Vector Int 32)->Int->Option ((Vector Int 32))
 | 0,_,_=>none
 | k+1,s16,s17=>
  cond (decide (s17 < 32)) (
   ae (aO (I64 (de s17 4)) 8) λ_=>
   ae (p4.toList[(I64 (de s17 4)).toNat]?) λe19=>
   aN (I64 (8*(cj s17 4))) λx20=>
   ae (wY .u32 e19 (I64 (24 - x20))) λx21=>
   ae (aO s17 32) λ_=>
   ae (s16.toList[s17.toNat]?) λe23=>
   pJ N p4 k (s16.setIfInBounds s17.toNat (U8 x21)) (I64 (s17+1))) (
   some s16)
def jQ(N:Nat)(a0:(List Int)):Option ((Vector Int 32)):=
 ae (fL 1 (([]:List Int)) a0) λz1=>
 ae (sR N ((a0.length:Int))) λr2=>
 ae (fL 1 z1 r2) λz3=>
 ae (kP N z3 N (#v[1779033703,3144134277,1013904242,2773480762,1359893119,2600822924,528734635,1541459225]) 0) λp4=>
 ae (pJ N p4 N (ah 32 0) 0) λp15=>
 some p15
theorem rD{N a0 r}(h:jQ N a0=some r):FnM Tryz.prog 13 [] [(eL 1 k8 a0)] (eA 32 1 k8 r) []:=by
 refine Af dK Tryz.func13 h ?_;refine At.o 1 (oJ hT k8 (k:=1) ([]:List Int) (by kernel_rfl) (by kernel_rfl)) ?_;refine At.U 1 (bAp k8) λz1=>?_;refine At.y 2 aDb λr2=>?_;refine At.U 0 (bAp k8) λz3=>?_;refine At.M 5 [2,4] 3 (λp4=>([],[(2,.var (eA 8 1 k32 p4))],[])) [2,3,4] 3 (CU2 (kP N z3)) (cu2 λs5 s6=>([(5,(j64 s6))],[(2,.var (eA 8 1 k32 s5))],[])) (_,_) N (λp4 k=>un2 λs5 s6=>?_) λp4=>?_
 ·apply lx;intro x7;refine At.c 5 ?_ ?_
  ·refine At.M 2 [2,3,4,5,6] 4 (λp8=>([],[(3,.var (eA 64 1 k8 p8))],[])) [2,3,4,5,6] 4 (CU2 (iN N z3 s6)) (cu2 λs9 s10=>([(7,(j64 s10))],[(3,.var (eA 64 1 k8 s9))],[])) (_,_) N (λp8 k=>un2 λs9 s10=>?_) λp8=>?_
   ·refine At.c 2 ?_ ?_
    ·refine At.i hT 5 k8 λe11=>?_;refine At.B 1 bAr λu12=>?_;refine At.U 0 (bSv k8 0 e11) λe13=>?_;exact λh=>At.v 3 (_,_) h
    ·apply rt;exact At.x 0
   ·refine At.y 2 aAr λr14=>?_;exact λh=>At.v 4 (_,_) h
  ·apply rt;exact At.x 0
 ·refine At.M 2 [2,8] 4 (λp15=>([],[(3,.var (eA 32 1 k8 p15))],[])) [2,4,8] 4 (CU2 (pJ N p4)) (cu2 λs16 s17=>([(9,(j64 s17))],[(3,.var (eA 32 1 k8 s16))],[])) (_,_) N (λp15 k=>un2 λs16 s17=>?_) λp15=>?_
  ·refine At.c 2 ?_ ?_
   ·refine At.B 3 bAr λu18=>?_;refine At.U 0 (bLd k32 0) λe19=>?_;apply lx;intro x20;refine At.B 4 bSr λx21=>?_;refine At.B 1 bAr λu22=>?_;refine At.U 0 (bSv k8 0 (U8 x21)) λe23=>?_;exact λh=>At.v 3 (_,_) h
   ·apply rt;exact At.x 0
  ·apply rt;exact At.r 2
def kH(N:Nat)  : Nat->(List Int)->Int->Int->Option ((List Int))
 | 0,_,_,_=>none
 | k+1,s2,s3,s4=>
  cond (decide (s4 < 8)) (
   ae (fL 1 s2 (([U8 (cj s3 256)]:List Int))) λz5=>
   kH N k z5 (I64 (de s3 256)) (I64 (s4+1))) (
   some s2)
def mK(N:Nat)(a0:Int):Option ((List Int)):=
 ae (kH N N [] a0 0) λp1=>
 some p1
theorem wR{N a0 r}(h:mK N a0=some r):FnM Tryz.prog 62 [] [(j64 a0)] (eO 0 1 k8 r) [.tail (r.length*1)]:=by
 refine Af dK Tryz.func62 h ?_;refine At.ownn 3 3 1 ?_;refine At.M 0 [] 1 (λp1=>([(3,(eO 0 1 k8 p1))],[(0,.tail (p1.length*1))],[])) [] 1 (CU3 (kH N)) (cu3 λs2 s3 s4=>([(0,(j64 s3)),(3,(eO 0 1 k8 s2)),(4,(j64 s4))],[(0,.tail (s2.length*1))],[])) (_,_,_) N (λp1 k=>un3 λs2 s3 s4=>?_) λp1=>?_
 ·refine At.c 2 ?_ ?_
  ·refine At.O 4 bRw ?_;refine At.U 0 (bAp k8) λz5=>?_;exact λh=>At.v 7 (_,_,_) h
  ·apply rt;exact At.x 0
 ·apply rt;exact At.r 2
def aDH : Nat->Bool:=imL [1]
def jC(N:Nat)(a0:(Vector Int 32)):Nat->(List Int)->Int->Option ((List Int))
 | 0,_,_=>none
 | k+1,s2,s3=>
  cond (decide (s3 < 32)) (
   ae (idx a0.toList s3) λe4=>
   ae (fL 1 s2 (([e4]:List Int))) λz5=>
   jC N a0 k z5 (I64 (s3+1))) (
   some s2)
def qN(N:Nat)(a0:(Vector Int 32)):Option ((List Int)):=
 ae (jC N a0 N [] 0) λp1=>
 some p1
theorem aCW{N a0 r}(h:qN N a0=some r):FnM Tryz.prog 64 [] [(eA 32 1 k8 a0)] (eL 1 k8 r) []:=by
 refine Af aDH Tryz.func64 h ?_;refine At.ownn 4 3 1 ?_;refine At.M 0 [] 1 (λp1=>([(3,(eO 0 1 k8 p1))],[(0,.tail (p1.length*1))],[])) [1] 1 (CU2 (jC N a0)) (cu2 λs2 s3=>([(3,(eO 0 1 k8 s2)),(4,(j64 s3))],[(0,.tail (s2.length*1))],[])) (_,_) N (λp1 k=>un2 λs2 s3=>?_) λp1=>?_
 ·refine At.c 2 ?_ ?_
  ·refine At.B 2 (bAi k8) λe4=>?_;refine At.O 1 bRw ?_;refine At.U 0 (bAp k8) λz5=>?_;exact λh=>At.v 4 (_,_) h
  ·apply rt;exact At.x 0
 ·apply rt;exact At.r 2
def iQ(N:Nat)(r4:(Vector Int 32)):Nat->(List Int)->Int->Option ((List Int))
 | 0,_,_=>none
 | k+1,s6,s7=>
  cond (decide (s7 < 32)) (
   ae (aO s7 32) λ_=>
   ae (r4.toList[s7.toNat]?) λe9=>
   ae (fL 1 s6 (([e9]:List Int))) λz10=>
   iQ N r4 k z10 (I64 (s7+1))) (
   some s6)
def mH(N:Nat)  : Nat->(List Int)->Option ((List Int))
 | 0,_=>none
 | k+1,s12=>
  aN (decide (((s12.length:Int)) < 64)) λx13=>
  cond x13 (
   ae (fL 1 s12 (([0]:List Int))) λz14=>
   mH N k z14) (
   some s12)
def kK(N:Nat)(p11:(List Int)):Nat->(List Int)->(List Int)->Int->Option ((List Int)×(List Int))
 | 0,_,_,_=>none
 | k+1,s16,s17,s18=>
  cond (decide (s18 < 64)) (
   ae (idx p11 s18) λe19=>
   ae (fL 1 s16 (([fG .u8 e19 54]:List Int))) λz20=>
   ae (idx p11 s18) λe21=>
   ae (fL 1 s17 (([fG .u8 e21 92]:List Int))) λz22=>
   kK N p11 k z20 z22 (I64 (s18+1))) (
   some ((s16,s17)))
def kL(N:Nat)(r24:(Vector Int 32)):Nat->(List Int)->Int->Option ((List Int))
 | 0,_,_=>none
 | k+1,s26,s27=>
  cond (decide (s27 < 32)) (
   ae (aO s27 32) λ_=>
   ae (r24.toList[s27.toNat]?) λe29=>
   ae (fL 1 s26 (([e29]:List Int))) λz30=>
   kL N r24 k z30 (I64 (s27+1))) (
   some s26)
def sG(N:Nat)(a0 a1:(List Int)):Option ((Vector Int 32)):=
 ae (fL 1 (([]:List Int)) a0) λz1=>
 ae (aN (decide (((z1.length:Int)) > 64)) λx3=>
 cond x3 (
  ae (jQ N z1) λr4=>
  ae (iQ N r4 N [] 0) λp5=>
  some p5) (
  some z1)) λp2=>
 ae (mH N N p2) λp11=>
 ae (kK N p11 N [] [] 0) λp15=>
 ae (fL 1 p15.1 a1) λz23=>
 ae (jQ N z23) λr24=>
 ae (kL N r24 N p15.2 0) λp25=>
 ae (jQ N p25) λr31=>
 some r31
theorem aDa{N a0 a1 r}(h:sG N a0 a1=some r):FnM Tryz.prog 63 [] [(eL 1 k8 a0),(eL 1 k8 a1)] (eA 32 1 k8 r) []:=by
 refine Af dK Tryz.func63 h ?_;refine At.o 1 (oJ hT k8 (k:=1) ([]:List Int) (by kernel_rfl) (by kernel_rfl)) ?_;refine At.U 1 (bAp k8) λz1=>?_;refine At.J 1 1 [1,4] 2 (λp2=>([(5,(eO 1 1 k8 p2))],[(1,.tail (p2.length*1))],[])) (λp2=>?_) λp2=>?_
 ·apply lx;intro x3;refine At.c 3 ?_ ?_
  ·refine At.y 1 rD λr4=>?_;refine At.ownn 4 5 1 ?_;refine At.M 0 [1,4] 4 (λp5=>([(5,(eO 3 1 k8 p5))],[(3,.tail (p5.length*1))],[])) [1,4,6] 4 (CU2 (iQ N r4)) (cu2 λs6 s7=>([(5,(eO 3 1 k8 s6)),(7,(j64 s7))],[(3,.tail (s6.length*1))],[])) (_,_) N (λp5 k=>un2 λs6 s7=>?_) λp5=>?_
   ·refine At.c 2 ?_ ?_
    ·refine At.B 2 bAr λu8=>?_;refine At.U 0 (bLd k8 0) λe9=>?_;refine At.O 0 bRw ?_;refine At.U 0 (bAp k8) λz10=>?_;exact λh=>At.v 4 (_,_) h
    ·apply rt;exact At.x 0
   ·apply rt;exact At.jw 0 (aKb 3 1 (by kernel_rfl) jr)
  ·apply rt;exact At.jn 0
 ·refine At.M 0 [1,4] 2 (λp11=>([(5,(eO 1 1 k8 p11))],[(1,.tail (p11.length*1))],[])) [1,4] 2 (mH N) (λ(s12:(List Int))=>([(5,(eO 1 1 k8 s12))],[(1,.tail (s12.length*1))],[])) _ N (λp11 k s12=>?_) λp11=>?_
  ·apply lx;intro x13;refine At.c 3 ?_ ?_
   ·refine At.O 1 bRw ?_;refine At.U 0 (bAp k8) λz14=>?_;exact λh=>At.v 1 _ h
   ·apply rt;exact At.x 0
  ·refine At.ownn 3 8 1 ?_;refine At.ownn 0 9 1 ?_;refine At.M 0 [1,4] 4 (λp15=>([(8,(eO 2 1 k8 p15.1)),(9,(eO 3 1 k8 p15.2))],[(2,.tail (p15.1.length*1)),(3,.tail (p15.2.length*1))],[])) [1,4,5] 4 (CU3 (kK N p11)) (cu3 λs16 s17 s18=>([(8,(eO 2 1 k8 s16)),(9,(eO 3 1 k8 s17)),(10,(j64 s18))],[(2,.tail (s16.length*1)),(3,.tail (s17.length*1))],[])) (_,_,_) N (λp15 k=>un3 λs16 s17 s18=>?_) λp15=>?_
   ·refine At.c 2 ?_ ?_
    ·refine At.i hT 3 k8 λe19=>?_;refine At.O 2 bRw ?_;refine At.U 0 (bAp k8) λz20=>?_;refine At.i hT 4 k8 λe21=>?_;refine At.O 2 bRw ?_;refine At.U 0 (bAp k8) λz22=>?_;exact λh=>At.v 4 (_,_,_) h
    ·apply rt;exact At.x 0
   ·refine At.U 2 (bAp k8) λz23=>?_;refine At.y 0 rD λr24=>?_;refine At.M 3 [4] 5 (λp25=>([(9,(eO 3 1 k8 p25))],[(3,.tail (p25.length*1))],[])) [4,11] 5 (CU2 (kL N r24)) (cu2 λs26 s27=>([(9,(eO 3 1 k8 s26)),(12,(j64 s27))],[(3,.tail (s26.length*1))],[])) (_,_) N (λp25 k=>un2 λs26 s27=>?_) λp25=>?_
    ·refine At.c 2 ?_ ?_
     ·refine At.B 2 bAr λu28=>?_;refine At.U 0 (bLd k8 0) λe29=>?_;refine At.O 0 bRw ?_;refine At.U 0 (bAp k8) λz30=>?_;exact λh=>At.v 4 (_,_) h
     ·apply rt;exact At.x 0
    ·refine At.y 1 rD λr31=>?_;apply rt;exact At.r 1
def aCY : Nat->Bool:=imL [3]
def kJ(N:Nat)(a2:(List (List Int))):Nat->(List Int)->Int->Option ((List Int))
 | 0,_,_=>none
 | k+1,s5,s6=>
  aN (decide (s6 < ((a2.length:Int)))) λx7=>
  cond x7 (
   ae (idx a2 s6) λe8=>
   ae (mK N ((e8.length:Int))) λr9=>
   ae (fL 1 s5 r9) λz10=>
   ae (idx a2 s6) λe11=>
   ae (fL 1 z10 e11) λz12=>
   kJ N a2 k z12 (I64 (s6+1))) (
   some s5)
def pI(N:Nat)(a0:(Vector Int 32))(a1:ByteArray)(a2:(List (List Int))):Option ((Vector Int 32)):=
 aN ((ByteArray.size a1:Int)) λx1=>
 ae (mK N x1) λr2=>
 ae (fL 1 r2 (tB a1)) λz3=>
 ae (kJ N a2 N z3 0) λp4=>
 ae (qN N a0) λr13=>
 ae (sG N r13 p4) λr14=>
 some r14
theorem aBg{N a0 a1 a2 r}(h:pI N a0 a1 a2=some r):FnM Tryz.prog 35 [] [(eA 32 1 k8 a0),(eS a1),(eL 1 (eL 1 k8) a2)] (eA 32 1 k8 r) []:=by
 refine Af aCY Tryz.func35 h ?_;apply lx;intro x1;refine At.Y 4 [] wR λr2=>?_;refine At.o 1 (aNv hT a1 (e:=5) (by kernel_rfl) (by kernel_rfl)) ?_;refine At.U 0 (bAp k8) λz3=>?_;refine At.M 2 [3,6] 2 (λp4=>([(7,(eO 1 1 k8 p4))],[(1,.tail (p4.length*1))],[])) [2,3,6] 2 (CU2 (kJ N a2)) (cu2 λs5 s6=>([(7,(eO 1 1 k8 s5)),(8,(j64 s6))],[(1,.tail (s5.length*1))],[])) (_,_) N (λp4 k=>un2 λs5 s6=>?_) λp4=>?_
 ·apply lx;intro x7;refine At.c 4 ?_ ?_
  ·refine At.D 0 [] ?_;refine DD.i hT 3 (eL 1 k8) λe8=>?_;refine DD.Z 2 [] 2 wR λr9=>?_;refine DD.U 0 (bAp k8) λz10=>?_;refine DD.i hT 2 (eL 1 k8) λe11=>?_;refine DD.U 1 (bAp k8) λz12=>?_;refine De 1 ?_;exact λh=>At.v 3 (_,_) h
  ·apply rt;exact At.x 0
 ·refine At.y 1 aCW λr13=>?_;refine At.y 1 aDa λr14=>?_;apply rt;exact At.r 1
def aBk : Nat->Bool:=imL [1]
def rV(N:Nat)(a0:(Vector Int 32)):Option ((Vector Int 32)):=
 ae (pI N a0 aHn []) λr1=>
 some r1
theorem aBF{N a0 r}(h:rV N a0=some r):FnM Tryz.prog 15 [] [(eA 32 1 k8 a0)] (eA 32 1 k8 r) []:=by
 refine Af aBk Tryz.func15 h ?_;refine At.y 3 aBg λr1=>?_;apply rt;exact At.r 1
def aEf : Nat->Bool:=imL [2]
def lJ(N:Nat)(a0:aA)(a1:Int):Option (Bool):=
 aN (decide (a0.gX < (I64 (0 - a1)))) λx1=>
 aN (cond (decide (a0.gX > a1)) true x1) λx2=>
 aN (cond x2 true (decide (a0.gY > a1))) λx3=>
 aN (decide (a0.gY < (I64 (0 - a1)))) λx4=>
 aN (cond (cond x3 true x4) true (decide (a0.gZ > a1))) λx5=>
 aN (decide (a0.gZ < (I64 (0 - a1)))) λx6=>
 some (cond x5 true x6)
theorem rH{N a0 a1 r}(h:lJ N a0 a1=some r):FnM Tryz.prog 116 [] [(aA.enc a0),(j64 a1)] (eB r) []:=by
 refine Af aEf Tryz.func116 h ?_;apply lx;intro x1;apply lx;intro x2;apply lx;intro x3;apply lx;intro x4;apply lx;intro x5;apply lx;intro x6;apply rt;exact At.r 40
def aCv : Nat->Bool:=imL [1]
def jA(N:Nat)(a0:aP):Nat->Int->Option (Sum (Unit) (Int))
 | 0,_=>none
 | k+1,s10=>
  aN ((a0.gF.length:Int)) λx11=>
  cond (decide (s10 < x11)) (
   ae (idx a0.gF s10) λe12=>
   ae (lJ N e12 4096) λr13=>
   cond r13 (
    some (Sum.inr 8)) (
    jA N a0 k (I64 (s10+1)))) (
   some (Sum.inl (())))
def fD(N:Nat)(a0:aP)(s15:Int):Nat->Int->Option (Sum (Unit) (Int))
 | 0,_=>none
 | k+1,s18=>
  cond (decide (s18 < 2)) (
   ae (ae (idx a0.gL s15) λe20=>
   ae (idx e20.toList s18) λe21=>
   cond (decide (e21 < 0)) (
    some true) (
    ae (idx a0.gL s15) λe22=>
    ae (idx e22.toList s18) λe23=>
    some (decide (e23 > 65535)))) λp19=>
   cond p19 (
    some (Sum.inr 5)) (
    fD N a0 s15 k (I64 (s18+1)))) (
   some (Sum.inl (())))
def iZ(N:Nat)(a0:aP):Nat->Int->Option (Sum (Unit) (Int))
 | 0,_=>none
 | k+1,s15=>
  aN (decide (s15 < ((a0.gL.length:Int)))) λx16=>
  cond x16 (
   ae (fD N a0 s15 N 0) λo=>mW o (λp17=>
    iZ N a0 k (I64 (s15+1))) (λr=>some (Sum.inr r))) (
   some (Sum.inl (())))
def dR(N:Nat)(a0:aP)(s25:Int):Nat->Int->Option (Sum (Unit) (Int))
 | 0,_=>none
 | k+1,s28=>
  cond (decide (s28 < 3)) (
   ae (ae (idx a0.gJ s25) λe30=>
   ae (idx e30.toList s28) λe31=>
   cond (decide (e31 < 0)) (
    some true) (
    ae (idx a0.gJ s25) λe32=>
    ae (idx e32.toList s28) λe33=>
    aN ((a0.gF.length:Int)) λx34=>
    cond (decide (e33>=x34)) (
     some true) (
     ae (idx a0.gJ s25) λe35=>
     ae (idx e35.toList s28) λe36=>
     aN (cj (I64 (s28+1)) 3) λx37=>
     ae (idx a0.gJ s25) λe38=>
     ae (idx e38.toList x37) λe39=>
     some (e36==e39)))) λp29=>
   cond p29 (
    some (Sum.inr 5)) (
    dR N a0 s25 k (I64 (s28+1)))) (
   some (Sum.inl (())))
def iW(N:Nat)(a0:aP):Nat->Int->Option (Sum (Unit) (Int))
 | 0,_=>none
 | k+1,s25=>
  aN ((a0.gJ.length:Int)) λx26=>
  cond (decide (s25 < x26)) (
   ae (dR N a0 s25 N 0) λo=>mW o (λp27=>
    iW N a0 k (I64 (s25+1))) (λr=>some (Sum.inr r))) (
   some (Sum.inl (())))
def nR(N:Nat)(a0:aP):Option (Int):=
 aN ((a0.gF.length:Int)) λx1=>
 aN ((a0.gJ.length:Int)) λx2=>
 aN (cond (decide (x1 > 64)) true (decide (x2 > 64))) λx3=>
 cond x3 (
  some 3) (
  aN ((a0.gF.length:Int)) λx4=>
  aN ((a0.gJ.length:Int)) λx5=>
  aN (cond (decide (x4 < 1)) true (decide (x5 < 1))) λx6=>
  aN ((a0.gF.length:Int)) λx7=>
  aN (((a0.gL.length:Int)) != x7) λx8=>
  cond (cond x6 true x8) (
   some 5) (
   ae (jA N a0 N 0) λo=>mW o (λp9=>
    ae (iZ N a0 N 0) λo=>mW o (λp14=>
     ae (iW N a0 N 0) λo=>mW o (λp24=>
      some 0) (λr=>some r)) (λr=>some r)) (λr=>some r)))
theorem xI{N a0 r}(h:nR N a0=some r):FnM Tryz.prog 85 [] [(aP.enc a0)] (j64 r) []:=by
 refine Af aCv Tryz.func85 h ?_;apply lx;intro x1;apply lx;intro x2;apply lx;intro x3;refine At.c 12 ?_ ?_
 ·apply rt;exact At.r 1
 ·apply lx;intro x4;apply lx;intro x5;apply lx;intro x6;apply lx;intro x7;apply lx;intro x8;refine At.c 19 ?_ ?_
  ·apply rt;exact At.r 1
  ·refine At.MS 1 [1] 0 (λp9=>([],[],[])) [1] 0 (jA N a0) (λ(s10:Int)=>([(3,(j64 s10))],[],[])) _ N (λop9 g9 k s10=>?_) λp9=>?_
   ·apply lx;intro x11;refine At.c 5 ?_ ?_
    ·refine At.i hT 3 aA.enc λe12=>?_;refine At.y 1 rH λr13=>?_;refine At.c 0 ?_ ?_
     ·intro e;apply xB g9 e;exact At.r 1
     ·exact λh=>At.v 3 _ h
    ·apply rt;exact At.xs 0
   ·refine At.MS 1 [1] 0 (λp14=>([],[],[])) [1] 0 (iZ N a0) (λ(s15:Int)=>([(4,(j64 s15))],[],[])) _ N (λop14 g14 k s15=>?_) λp14=>?_
    ·apply lx;intro x16;refine At.c 5 ?_ ?_
     ·refine At.MS 1 [1,4] 0 (λp17=>([],[],[])) [1,4] 0 (fD N a0 s15) (λ(s18:Int)=>([(5,(j64 s18))],[],[])) _ N (λop17 g17 k s18=>?_) λp17=>?_
      ·refine At.c 2 ?_ ?_
       ·refine At.J 0 0 [1,4,5] 0 (λp19=>([(78,(eB p19))],[],[])) (λp19=>?_) λp19=>?_
        ·refine At.i hT 4 (eA 2 1 j64) λe20=>?_;refine At.B 0 (bAi j64) λe21=>?_;refine At.s 69 3 ?_ ?_
         ·refine At.g [69] 9 ?_;apply rt;exact At.jn 0
         ·refine At.g [69] 4 ?_;refine At.i hT 0 (eA 2 1 j64) λe22=>?_;refine At.B 0 (bAi j64) λe23=>?_;refine At.g [69] 3 ?_;apply rt;exact At.jn 0
        ·refine At.c 0 ?_ ?_
         ·intro e;apply rtS2 g17 g14 e;exact At.r 1
         ·exact λh=>At.v 3 _ h
       ·apply rt;exact At.xs 0
      ·exact λh=>At.v 3 _ h
     ·apply rt;exact At.xs 0
    ·refine At.MS 1 [] 0 (λp24=>([],[],[])) [1] 0 (iW N a0) (λ(s25:Int)=>([(6,(j64 s25))],[],[])) _ N (λop24 g24 k s25=>?_) λp24=>?_
     ·apply lx;intro x26;refine At.c 5 ?_ ?_
      ·refine At.MS 1 [1,6] 0 (λp27=>([],[],[])) [1,6] 0 (dR N a0 s25) (λ(s28:Int)=>([(7,(j64 s28))],[],[])) _ N (λop27 g27 k s28=>?_) λp27=>?_
       ·refine At.c 2 ?_ ?_
        ·refine At.J 0 0 [1,6,7] 0 (λp29=>([(129,(eB p29))],[],[])) (λp29=>?_) λp29=>?_
         ·refine At.D 0 [] ?_;refine DD.i hT 4 (eA 3 1 j64) λe30=>?_;refine DD.B 0 (bAi j64) λe31=>?_;refine DD.s hT 3 ?_ ?_
          ·refine De 31 ?_;apply rt;exact At.jn 0
          ·refine DD.i hT 4 (eA 3 1 j64) λe32=>?_;refine DD.B 0 (bAi j64) λe33=>?_;apply lx;intro x34;refine DD.s hT 7 ?_ ?_
           ·refine De 18 ?_;apply rt;exact At.jn 0
           ·refine DD.i hT 4 (eA 3 1 j64) λe35=>?_;refine DD.B 0 (bAi j64) λe36=>?_;apply lx;intro x37;refine DD.i hT 7 (eA 3 1 j64) λe38=>?_;refine DD.B 0 (bAi j64) λe39=>?_;refine De 3 ?_;apply rt;exact At.jn 0
         ·refine At.c 0 ?_ ?_
          ·intro e;apply rtS2 g27 g24 e;exact At.r 1
          ·exact λh=>At.v 3 _ h
        ·apply rt;exact At.xs 0
       ·exact λh=>At.v 3 _ h
      ·apply rt;exact At.xs 0
     ·apply rt;exact At.r 1
def aBY : Nat->Bool:=imL [1]
def lR(N:Nat)(a0:aK):Option (Bool):=
 aN ((a0.gK.length:Int)) λx1=>
 aN (cond (a0.gO != 0) true (decide (x1 > 0))) λx2=>
 some x2
theorem rC{N a0 r}(h:lR N a0=some r):FnM Tryz.prog 86 [] [(aK.enc a0)] (eB r) []:=by
 refine Af aBY Tryz.func86 h ?_;apply lx;intro x1;apply lx;intro x2;apply rt;exact At.r 12
def aDJ : Nat->Bool:=imL [1]
def dO(N:Nat)(a0:aK)(s9:Int):Nat->Int->Option (Sum (Unit) (Int))
 | 0,_=>none
 | k+1,s12=>
  cond (decide (s12 < 3)) (
   ae (ae (idx a0.gK s9) λe14=>
   ae (idx e14.toList s12) λe15=>
   cond (decide (e15 < 0)) (
    some true) (
    ae (idx a0.gK s9) λe16=>
    ae (idx e16.toList s12) λe17=>
    some (decide (e17 > 255)))) λp13=>
   cond p13 (
    some (Sum.inr 5)) (
    dO N a0 s9 k (I64 (s12+1)))) (
   some (Sum.inl (())))
def jB(N:Nat)(a0:aK):Nat->Int->Option (Sum (Unit) (Int))
 | 0,_=>none
 | k+1,s9=>
  aN ((a0.gK.length:Int)) λx10=>
  cond (decide (s9 < x10)) (
   ae (dO N a0 s9 N 0) λo=>mW o (λp11=>
    jB N a0 k (I64 (s9+1))) (λr=>some (Sum.inr r))) (
   some (Sum.inl (())))
def lL(N:Nat)(a0:aK):Option (Int):=
 aN (cond (a0.gO != 1) (a0.gO != 2) false) λx1=>
 aN (cond x1 (a0.gO != 4) false) λx2=>
 aN (cond x2 (a0.gO != 8) false) λx3=>
 aN (cond x3 (a0.gO != 16) false) λx4=>
 aN ((a0.gK.length:Int)) λx5=>
 aN (I64 (a0.gO*a0.gO)) λx6=>
 aN (cond x4 true (x5 != x6)) λx7=>
 cond x7 (
  some 5) (
  ae (jB N a0 N 0) λo=>mW o (λp8=>
   some 0) (λr=>some r))
theorem xK{N a0 r}(h:lL N a0=some r):FnM Tryz.prog 87 [] [(aK.enc a0)] (j64 r) []:=by
 refine Af aDJ Tryz.func87 h ?_;apply lx;intro x1;apply lx;intro x2;apply lx;intro x3;apply lx;intro x4;apply lx;intro x5;apply lx;intro x6;apply lx;intro x7;refine At.c 36 ?_ ?_
 ·apply rt;exact At.r 1
 ·refine At.MS 1 [] 0 (λp8=>([],[],[])) [1] 0 (jB N a0) (λ(s9:Int)=>([(3,(j64 s9))],[],[])) _ N (λop8 g8 k s9=>?_) λp8=>?_
  ·apply lx;intro x10;refine At.c 5 ?_ ?_
   ·refine At.MS 1 [1,3] 0 (λp11=>([],[],[])) [1,3] 0 (dO N a0 s9) (λ(s12:Int)=>([(4,(j64 s12))],[],[])) _ N (λop11 g11 k s12=>?_) λp11=>?_
    ·refine At.c 2 ?_ ?_
     ·refine At.J 0 0 [1,3,4] 0 (λp13=>([(67,(eB p13))],[],[])) (λp13=>?_) λp13=>?_
      ·refine At.i hT 4 (eA 3 1 j64) λe14=>?_;refine At.B 0 (bAi j64) λe15=>?_;refine At.s 58 3 ?_ ?_
       ·refine At.g [58] 9 ?_;apply rt;exact At.jn 0
       ·refine At.g [58] 4 ?_;refine At.i hT 0 (eA 3 1 j64) λe16=>?_;refine At.B 0 (bAi j64) λe17=>?_;refine At.g [58] 3 ?_;apply rt;exact At.jn 0
      ·refine At.c 0 ?_ ?_
       ·intro e;apply rtS2 g11 g8 e;exact At.r 1
       ·exact λh=>At.v 3 _ h
     ·apply rt;exact At.xs 0
    ·exact λh=>At.v 3 _ h
   ·apply rt;exact At.xs 0
  ·apply rt;exact At.r 1
def aEC : Nat->Bool:=imL [1]
def oQ(N:Nat)(a0:aP):Option (Bool):=
 aN ((a0.gF.length:Int)) λx1=>
 aN (I64 (x1+((a0.gL.length:Int)))) λx2=>
 aN ((a0.gJ.length:Int)) λx3=>
 aN (decide ((I64 (x2+x3)) > 0)) λx4=>
 some x4
theorem tS{N a0 r}(h:oQ N a0=some r):FnM Tryz.prog 88 [] [(aP.enc a0)] (eB r) []:=by
 refine Af aEC Tryz.func88 h ?_;apply lx;intro x1;apply lx;intro x2;apply lx;intro x3;apply lx;intro x4;apply rt;exact At.r 15
def aBA : Nat->Bool:=imL [1]
def cP(N:Nat)(a0:aD):Nat->Int->Option (Sum (Unit) (Int))
 | 0,_=>none
 | k+1,s5=>
  cond (decide (s5 < 3)) (
   ae (ae (idx a0.gE.toList s5) λe7=>
   cond (decide (e7 < 0)) (
    some true) (
    ae (idx a0.gE.toList s5) λe8=>
    some (decide (e8 > 65535)))) λp6=>
   cond p6 (
    some (Sum.inr 5)) (
    cP N a0 k (I64 (s5+1)))) (
   some (Sum.inl (())))
def nV(N:Nat)(a0:aD):Option (Int):=
 aN (cond (decide (a0.gC < 0)) true (decide (a0.gC > 4))) λx1=>
 aN (cond x1 true (decide (a0.gA5 < 0))) λx2=>
 aN (decide (a0.gA5 > 65535)) λx3=>
 cond (cond x2 true x3) (
  some 5) (
  ae (cP N a0 N 0) λo=>mW o (λp4=>
   some 0) (λr=>some r))
theorem aAm{N a0 r}(h:nV N a0=some r):FnM Tryz.prog 89 [] [(aD.enc a0)] (j64 r) []:=by
 refine Af aBA Tryz.func89 h ?_;apply lx;intro x1;apply lx;intro x2;apply lx;intro x3;refine At.c 20 ?_ ?_
 ·apply rt;exact At.r 1
 ·refine At.MS 1 [] 0 (λp4=>([],[],[])) [1] 0 (cP N a0) (λ(s5:Int)=>([(3,(j64 s5))],[],[])) _ N (λop4 g4 k s5=>?_) λp4=>?_
  ·refine At.c 2 ?_ ?_
   ·refine At.J 0 0 [1,3] 0 (λp6=>([(37,(eB p6))],[],[])) (λp6=>?_) λp6=>?_
    ·refine At.B 2 (bAi j64) λe7=>?_;refine At.s 31 3 ?_ ?_
     ·refine At.g [31] 6 ?_;apply rt;exact At.jn 0
     ·refine At.g [31] 2 ?_;refine At.B 0 (bAi j64) λe8=>?_;refine At.g [31] 3 ?_;apply rt;exact At.jn 0
    ·refine At.c 0 ?_ ?_
     ·intro e;apply xB g4 e;exact At.r 1
     ·exact λh=>At.v 3 _ h
   ·apply rt;exact At.xs 0
  ·apply rt;exact At.r 1
def aDK : Nat->Bool:=imL [1]
def dP(N:Nat)(a0:aJ):Nat->Int->Option (Sum (Unit) (Int))
 | 0,_=>none
 | k+1,s3=>
  cond (decide (s3 < 3)) (
   ae (ae (idx a0.gE.toList s3) λe5=>
   cond (decide (e5 < 0)) (
    some true) (
    ae (idx a0.gE.toList s3) λe6=>
    some (decide (e6 > 1048576)))) λp4=>
   cond p4 (
    some (Sum.inr 5)) (
    dP N a0 k (I64 (s3+1)))) (
   some (Sum.inl (())))
def qF(N:Nat)(a0:aJ):Option (Int):=
 aN (cond (decide (a0.gC < 0)) true (decide (a0.gC > 2))) λx1=>
 cond x1 (
  some 5) (
  ae (dP N a0 N 0) λo=>mW o (λp2=>
   ae (ae (lJ N a0.gAt 4096) λr8=>
   cond r8 (
    some true) (
    ae (lJ N a0.gU 4096) λr9=>
    cond r9 (
     some true) (
     ae (lJ N a0.gV 4096) λr10=>
     some r10))) λp7=>
   cond p7 (
    some 8) (
    ae (cond (a0.gC==2) (
     aN (!(aA.eq a0.gAt (aA.mk 0 0 0))) λx12=>
     cond x12 (
      some true) (
      cond (a0.gC != 1) (
       aN (!(aA.eq a0.gU (aA.mk 0 0 0))) λx13=>
       cond x13 (
        some true) (
        some (!(aA.eq a0.gV (aA.mk 0 0 0))))) (
       some false))) (
     cond (a0.gC != 1) (
      aN (!(aA.eq a0.gU (aA.mk 0 0 0))) λx14=>
      cond x14 (
       some true) (
       some (!(aA.eq a0.gV (aA.mk 0 0 0))))) (
      some false))) λp11=>
    cond p11 (some 5) (some 0))) (λr=>some r))
theorem aCP{N a0 r}(h:qF N a0=some r):FnM Tryz.prog 90 [] [(aJ.enc a0)] (j64 r) []:=by
 refine Af aDK Tryz.func90 h ?_;apply lx;intro x1;refine At.c 10 ?_ ?_
 ·apply rt;exact At.r 1
 ·refine At.MS 1 [1] 0 (λp2=>([],[],[])) [1] 0 (dP N a0) (λ(s3:Int)=>([(3,(j64 s3))],[],[])) _ N (λop2 g2 k s3=>?_) λp2=>?_
  ·refine At.c 2 ?_ ?_
   ·refine At.J 0 0 [1,3] 0 (λp4=>([(28,(eB p4))],[],[])) (λp4=>?_) λp4=>?_
    ·refine At.B 2 (bAi j64) λe5=>?_;refine At.s 22 3 ?_ ?_
     ·refine At.g [22] 6 ?_;apply rt;exact At.jn 0
     ·refine At.g [22] 2 ?_;refine At.B 0 (bAi j64) λe6=>?_;refine At.g [22] 3 ?_;apply rt;exact At.jn 0
    ·refine At.c 0 ?_ ?_
     ·intro e;apply xB g2 e;exact At.r 1
     ·exact λh=>At.v 3 _ h
   ·apply rt;exact At.xs 0
  ·refine At.J 0 0 [1] 0 (λp7=>([(41,(eB p7))],[],[])) (λp7=>?_) λp7=>?_
   ·refine At.y 2 rH λr8=>?_;refine At.s 32 1 ?_ ?_
    ·refine At.g [32,37] 9 ?_;apply rt;exact At.jn 0
    ·refine At.g [32] 2 ?_;refine At.y 0 rH λr9=>?_;refine At.g [32] 2 ?_;refine At.s 37 0 ?_ ?_
     ·refine At.g [37] 4 ?_;apply rt;exact At.jn 0
     ·refine At.g [37] 2 ?_;refine At.y 0 rH λr10=>?_;refine At.g [37] 1 ?_;apply rt;exact At.jn 0
   ·refine At.c 0 ?_ ?_
    ·apply rt;exact At.r 1
    ·refine At.J 3 0 [] 1 (λp11=>([(68,(eB p11))],[],[])) (λp11=>?_) λp11=>?_
     ·refine At.s 46 4 ?_ ?_
      ·refine At.g [46] 3 ?_;refine At.O 0 (bNe uK (a0.gAt:aA) (aA.mk 0 0 0:aA)) ?_;apply lx;intro x12;refine At.g [46] 2 ?_;refine At.s 52 0 ?_ ?_
       ·refine At.g [52,56,61] 16 ?_;apply rt;exact At.jn 0
       ·refine At.g [52] 4 ?_;refine At.s 56 0 ?_ ?_
        ·refine At.g [56] 3 ?_;refine At.O 0 (bNe uK (a0.gU:aA) (aA.mk 0 0 0:aA)) ?_;apply lx;intro x13;refine At.g [56] 1 ?_;refine At.s 61 0 ?_ ?_
         ·refine At.g [61,56,52] 7 ?_;apply rt;exact At.jn 0
         ·refine At.g [61] 3 ?_;refine At.O 0 (bNe uK (a0.gV:aA) (aA.mk 0 0 0:aA)) ?_;refine At.g [56,61,52] 3 ?_;apply rt;exact At.jn 0
        ·refine At.g [56,61,52] 12 ?_;apply rt;exact At.jn 0
      ·refine At.g [46,52] 10 ?_;refine At.s 56 0 ?_ ?_
       ·refine At.g [56] 3 ?_;refine At.O 0 (bNe uK (a0.gU:aA) (aA.mk 0 0 0:aA)) ?_;apply lx;intro x14;refine At.g [56] 1 ?_;refine At.s 61 0 ?_ ?_
        ·refine At.g [61,56,52] 7 ?_;apply rt;exact At.jn 0
        ·refine At.g [61] 3 ?_;refine At.O 0 (bNe uK (a0.gV:aA) (aA.mk 0 0 0:aA)) ?_;refine At.g [56,61,52] 3 ?_;apply rt;exact At.jn 0
       ·refine At.g [56,61,52] 12 ?_;apply rt;exact At.jn 0
     ·refine At.c 0 ?_ ?_
      ·apply rt;exact At.r 1
      ·apply rt;exact At.r 1
def lS(N:Nat)(a0:Int):Nat->Int->Int->Option (Int)
 | 0,_,_=>none
 | k+1,s2,s3=>
  cond (decide (s3 < a0)) (
   aN (U64 ((U64 (s2*256))+255)) λx4=>
   lS N a0 k x4 (I64 (s3+1))) (
   some s2)
def kF(N:Nat)(a0:Int):Option (Int):=
 ae (lS N a0 N 0 0) λp1=>
 some p1
theorem tO{N a0 r}(h:kF N a0=some r):FnM Tryz.prog 95 [] [(j64 a0)] (k64 r) []:=by
 refine Af dK Tryz.func95 h ?_;refine At.M 3 [] 0 (λp1=>([(3,(k64 p1))],[],[])) [0] 0 (CU2 (lS N a0)) (cu2 λs2 s3=>([(3,(k64 s2)),(4,(j64 s3))],[],[])) (_,_) N (λp1 k=>un2 λs2 s3=>?_) λp1=>?_
 ·refine At.c 3 ?_ ?_
  ·apply lx;intro x4;exact λh=>At.v 7 (_,_) h
  ·apply rt;exact At.x 0
 ·apply rt;exact At.r 2
def mO(N:Nat)(a1:Int):Nat->(List Int)->Int->Int->Option ((List Int))
 | 0,_,_,_=>none
 | k+1,s11,s12,s13=>
  cond (decide (s13 < a1)) (
   ae (fL 1 s11 (([U8 (cj s12 256)]:List Int))) λz14=>
   mO N a1 k z14 (U64 (de s12 256)) (I64 (s13+1))) (
   some s11)
def kT(N:Nat)(a2:(List Int))(a1:Int):Nat->(List Int)->Int->Option (Sum ((List Int)) ((List Int)×Int))
 | 0,_,_=>none
 | k+1,s4,s5=>
  aN (decide (s5 < ((a2.length:Int)))) λx6=>
  cond x6 (
   ae (idx a2 s5) λe7=>
   ae (kF N a1) λr8=>
   cond (decide (e7 > r8)) (
    some (Sum.inr (([],3)))) (
    ae (idx a2 s5) λe9=>
    ae (mO N a1 N s4 e9 0) λp10=>
    kT N a2 a1 k p10 (I64 (s5+1)))) (
   some (Sum.inl s4))
def bN(N:Nat)(a0:(List Int))(a1:Int)(a2:(List Int)):Option ((List Int)×Int):=
 aN (cond (decide (a1 < 1)) true (decide (a1 > 8))) λx1=>
 cond x1 (
  some (([],2))) (
  ae (fL 1 (([]:List Int)) a0) λz2=>
  ae (kT N a2 a1 N z2 0) λo=>mW o (λp3=>
   some ((p3,0))) (λr=>some r))
theorem kI{N a0 a1 a2 r}(h:bN N a0 a1 a2=some r):FnM Tryz.prog 58 [] [(eL 1 k8 a0),(j64 a1),(eL 1 k64 a2)] (.tup [(eO 0 1 k8 r.1),(j64 r.2)]) [.tail (r.1.length*1)]:=by
 refine Af dK Tryz.func58 h ?_;apply lx;intro x1;refine At.c 8 ?_ ?_
 ·refine At.ownn 2 6 1 ?_;apply rt;exact At.r 0
 ·refine At.o 0 (oJ hT k8 (k:=1) ([]:List Int) (by kernel_rfl) (by kernel_rfl)) ?_;refine At.U 1 (bAp k8) λz2=>?_;refine At.MS 2 [] 1 (λp3=>([(8,(eO 0 1 k8 p3))],[(0,.tail (p3.length*1))],[])) [1,2] 1 (CU2 (kT N a2 a1)) (cu2 λs4 s5=>([(8,(eO 0 1 k8 s4)),(9,(j64 s5))],[(0,.tail (s4.length*1))],[])) (_,_) N (λop3 g3 k=>un2 λs4 s5=>?_) λp3=>?_
  ·apply lx;intro x6;refine At.c 4 ?_ ?_
   ·refine At.D 0 [] ?_;refine DD.i hT 2 k64 λe7=>?_;refine DD.y 2 tO λr8=>?_;refine De 1 ?_;refine At.c 0 ?_ ?_
    ·refine At.ownn 2 6 1 ?_;refine At.sw 0 1 0 ?_;intro e;apply xB g3 e;exact At.r 0
    ·refine At.i hT 2 k64 λe9=>?_;refine At.M 3 [1,2,9] 1 (λp10=>([(8,(eO 0 1 k8 p10))],[(0,.tail (p10.length*1))],[])) [1,2,9] 1 (CU3 (mO N a1)) (cu3 λs11 s12 s13=>([(8,(eO 0 1 k8 s11)),(10,(k64 s12)),(11,(j64 s13))],[(0,.tail (s11.length*1))],[])) (_,_,_) N (λp10 k=>un3 λs11 s12 s13=>?_) λp10=>?_
     ·refine At.c 3 ?_ ?_
      ·refine At.O 4 bRw ?_;refine At.U 0 (bAp k8) λz14=>?_;exact λh=>At.v 7 (_,_,_) h
      ·apply rt;exact At.x 0
     ·exact λh=>At.v 3 (_,_) h
   ·apply rt;exact At.xs 0
  ·apply rt;exact At.r 3
def hZ(N:Nat)(a2:(List Int))(x3 a1:Int):Nat->(List Int)->Int->Option (Sum ((List Int)) ((List Int)×Int))
 | 0,_,_=>none
 | k+1,s5,s6=>
  aN (decide (s6 < ((a2.length:Int)))) λx7=>
  cond x7 (
   ae (ae (idx a2 s6) λe9=>
   cond (decide (e9 > x3)) (
    some true) (
    ae (idx a2 s6) λe10=>
    aN (I64 ((I64 (0 - x3)) - 1)) λx11=>
    some (decide (e10 < x11)))) λp8=>
   cond p8 (
    some (Sum.inr (([],3)))) (
    ae (idx a2 s6) λe12=>
    ae (ae (idx a2 s6) λe14=>
    cond (decide (e14 < 0)) (
     ae (kF N a1) λr15=>
     ae (idx a2 s6) λe16=>
     aN (I64 (0 - (I64 (e16+1)))) λx17=>
     some (U64 (r15 - (U64 x17)))) (
     some (U64 e12))) λp13=>
    ae (fL 8 s5 (([p13]:List Int))) λz18=>
    hZ N a2 x3 a1 k z18 (I64 (s6+1)))) (
   some (Sum.inl s5))
def mM(N:Nat)(a0:(List Int))(a1:Int)(a2:(List Int)):Option ((List Int)×Int):=
 aN (cond (decide (a1 < 1)) true (decide (a1 > 8))) λx1=>
 cond x1 (
  some (([],2))) (
  ae (kF N a1) λr2=>
  aN (I64 (U64 (de r2 2))) λx3=>
  ae (hZ N a2 x3 a1 N [] 0) λo=>mW o (λp4=>
   ae (bN N a0 a1 p4) λr19=>
   some ((r19.1,r19.2))) (λr=>some r))
theorem aBS{N a0 a1 a2 r}(h:mM N a0 a1 a2=some r):FnM Tryz.prog 117 [] [(eL 1 k8 a0),(j64 a1),(eL 1 j64 a2)] (.tup [(eO 0 1 k8 r.1),(j64 r.2)]) [.tail (r.1.length*1)]:=by
 refine Af dK Tryz.func117 h ?_;apply lx;intro x1;refine At.c 8 ?_ ?_
 ·refine At.ownn 2 6 1 ?_;apply rt;exact At.r 0
 ·refine At.y 1 tO λr2=>?_;apply lx;intro x3;refine At.ownn 5 9 1 ?_;refine At.MS 0 [0,1] 1 (λp4=>([(9,(eO 0 1 k64 p4))],[(0,.tail (p4.length*1))],[])) [0,1,2,8] 1 (CU2 (hZ N a2 x3 a1)) (cu2 λs5 s6=>([(9,(eO 0 1 k64 s5)),(10,(j64 s6))],[(0,.tail (s5.length*1))],[])) (_,_) N (λop4 g4 k=>un2 λs5 s6=>?_) λp4=>?_
  ·apply lx;intro x7;refine At.c 4 ?_ ?_
   ·refine At.J 0 0 [0,1,2,8,9,10] 1 (λp8=>([(43,(eB p8))],[],[])) (λp8=>?_) λp8=>?_
    ·refine At.i hT 2 j64 λe9=>?_;refine At.s 34 4 ?_ ?_
     ·refine At.g [34] 9 ?_;apply rt;exact At.jn 0
     ·refine At.g [34] 2 ?_;refine At.i hT 0 j64 λe10=>?_;apply lx;intro x11;refine At.g [34] 6 ?_;apply rt;exact At.jn 0
    ·refine At.c 0 ?_ ?_
     ·refine At.ownn 2 6 1 ?_;refine At.sw 0 1 0 ?_;intro e;apply xB g4 e;exact At.r 0
     ·refine At.i hT 2 j64 λe12=>?_;refine At.J 3 1 [0,1,2,8,9,10] 1 (λp13=>([(11,(k64 p13))],[],[])) (λp13=>?_) λp13=>?_
      ·refine At.i hT 2 j64 λe14=>?_;refine At.c 2 ?_ ?_
       ·refine At.D 0 [] ?_;refine DD.y 1 tO λr15=>?_;refine DD.i hT 2 j64 λe16=>?_;apply lx;intro x17;refine De 6 ?_;apply rt;exact At.jn 0
       ·apply rt;exact At.jn 0
      ·refine At.O 2 bRw ?_;refine At.U 0 (bAp k64) λz18=>?_;exact λh=>At.v 4 (_,_) h
   ·apply rt;exact At.xs 0
  ·refine At.Y 3 [] kI λr19=>?_;refine At.sw 4 1 0 ?_;apply rt;exact At.r 0
def aDR : Nat->Bool:=imL [3]
def jL(N:Nat)(a0:(List Int))(a1:aA):Option ((List Int)):=
 ae (mM N a0 2 ([a1.gX,a1.gY,a1.gZ])) λr1=>
 some r1.1
theorem pD{N a0 a1 r}(h:jL N a0 a1=some r):FnM Tryz.prog 94 [] [(eL 1 k8 a0),(aA.enc a1)] (eO 0 1 k8 r) [.tail (r.length*1)]:=by
 refine Af aDR Tryz.func94 h ?_;refine At.O 9 bRw ?_;refine At.Y 0 [] aBS λr1=>?_;apply rt;exact At.r 7
def aCR : Nat->Bool:=imL [1]
def iE(N:Nat)(a0:aP):Nat->(List Int)->Int->Option ((List Int))
 | 0,_,_=>none
 | k+1,s5,s6=>
  aN ((a0.gF.length:Int)) λx7=>
  cond (decide (s6 < x7)) (
   ae (idx a0.gF s6) λe8=>
   ae (jL N s5 e8) λr9=>
   iE N a0 k r9 (I64 (s6+1))) (
   some s5)
def fV(N:Nat)(a0:aP)(s12:Int):Nat->(List Int)->Int->Option ((List Int))
 | 0,_,_=>none
 | k+1,s15,s16=>
  cond (decide (s16 < 2)) (
   ae (idx a0.gL s12) λe17=>
   ae (idx e17.toList s16) λe18=>
   ae (idx a0.gL s12) λe19=>
   ae (idx e19.toList s16) λe20=>
   aN (U8 (I64 (de e20 256))) λx21=>
   ae (fL 1 s15 (([U8 (cj e18 256),x21]:List Int))) λz22=>
   fV N a0 s12 k z22 (I64 (s16+1))) (
   some s15)
def hU(N:Nat)(a0:aP):Nat->(List Int)->Int->Option ((List Int))
 | 0,_,_=>none
 | k+1,s11,s12=>
  aN (decide (s12 < ((a0.gL.length:Int)))) λx13=>
  cond x13 (
   ae (fV N a0 s12 N s11 0) λp14=>
   hU N a0 k p14 (I64 (s12+1))) (
   some s11)
def eP(N:Nat)(a0:aP)(s25:Int):Nat->(List Int)->Int->Option ((List Int))
 | 0,_,_=>none
 | k+1,s28,s29=>
  cond (decide (s29 < 3)) (
   ae (idx a0.gJ s25) λe30=>
   ae (idx e30.toList s29) λe31=>
   ae (fL 1 s28 (([U8 e31]:List Int))) λz32=>
   eP N a0 s25 k z32 (I64 (s29+1))) (
   some s28)
def iD(N:Nat)(a0:aP):Nat->(List Int)->Int->Option ((List Int))
 | 0,_,_=>none
 | k+1,s24,s25=>
  aN ((a0.gJ.length:Int)) λx26=>
  cond (decide (s25 < x26)) (
   ae (eP N a0 s25 N s24 0) λp27=>
   iD N a0 k p27 (I64 (s25+1))) (
   some s24)
def pB(N:Nat)(a0:aP):Option ((List Int)×Int):=
 ae (nR N a0) λr1=>
 cond (r1 != 0) (
  some (([],r1))) (
  aN ((a0.gF.length:Int)) λx2=>
  aN ((a0.gJ.length:Int)) λx3=>
  ae (iE N a0 N (([U8 x2,U8 x3]:List Int)) 0) λp4=>
  ae (hU N a0 N p4 0) λp10=>
  ae (iD N a0 N p10 0) λp23=>
  some ((p23,0)))
theorem aBO{N a0 r}(h:pB N a0=some r):FnM Tryz.prog 92 [] [(aP.enc a0)] (.tup [(eL 1 k8 r.1),(j64 r.2)]) []:=by
 refine Af aCR Tryz.func92 h ?_;refine At.y 4 xI λr1=>?_;refine At.c 3 ?_ ?_
 ·apply rt;exact At.r 3
 ·apply lx;intro x2;apply lx;intro x3;refine At.o 8 (oJ hT k8 (k:=1) ([U8 x2,U8 x3]:List Int) (by kernel_rfl) (by kernel_rfl)) ?_;refine At.M 2 [1] 1 (λp4=>([(5,(eO 0 1 k8 p4))],[(0,.tail (p4.length*1))],[])) [1] 1 (CU2 (iE N a0)) (cu2 λs5 s6=>([(5,(eO 0 1 k8 s5)),(6,(j64 s6))],[(0,.tail (s5.length*1))],[])) (_,_) N (λp4 k=>un2 λs5 s6=>?_) λp4=>?_
  ·apply lx;intro x7;refine At.c 5 ?_ ?_
   ·refine At.i hT 4 aA.enc λe8=>?_;refine At.Y 1 [] pD λr9=>?_;exact λh=>At.vw 4 (_,_) (aKb 1 0 (by kernel_rfl) jr) h
   ·apply rt;exact At.x 0
  ·refine At.M 1 [1] 1 (λp10=>([(5,(eO 0 1 k8 p10))],[(0,.tail (p10.length*1))],[])) [1] 1 (CU2 (hU N a0)) (cu2 λs11 s12=>([(5,(eO 0 1 k8 s11)),(7,(j64 s12))],[(0,.tail (s11.length*1))],[])) (_,_) N (λp10 k=>un2 λs11 s12=>?_) λp10=>?_
   ·apply lx;intro x13;refine At.c 5 ?_ ?_
    ·refine At.M 1 [1,7] 1 (λp14=>([(5,(eO 0 1 k8 p14))],[(0,.tail (p14.length*1))],[])) [1,7] 1 (CU2 (fV N a0 s12)) (cu2 λs15 s16=>([(5,(eO 0 1 k8 s15)),(8,(j64 s16))],[(0,.tail (s15.length*1))],[])) (_,_) N (λp14 k=>un2 λs15 s16=>?_) λp14=>?_
     ·refine At.c 2 ?_ ?_
      ·refine At.D 0 [] ?_;refine DD.i hT 5 (eA 2 1 j64) λe17=>?_;refine DD.B 0 (bAi j64) λe18=>?_;refine DD.i hT 7 (eA 2 1 j64) λe19=>?_;refine DD.B 0 (bAi j64) λe20=>?_;apply lx;intro x21;refine DD.O 3 bRw ?_;refine DD.U 0 (bAp k8) λz22=>?_;refine De 1 ?_;exact λh=>At.v 3 (_,_) h
      ·apply rt;exact At.x 0
     ·exact λh=>At.v 3 (_,_) h
    ·apply rt;exact At.x 0
   ·refine At.M 1 [] 1 (λp23=>([(5,(eO 0 1 k8 p23))],[(0,.tail (p23.length*1))],[])) [1] 1 (CU2 (iD N a0)) (cu2 λs24 s25=>([(5,(eO 0 1 k8 s24)),(9,(j64 s25))],[(0,.tail (s24.length*1))],[])) (_,_) N (λp23 k=>un2 λs24 s25=>?_) λp23=>?_
    ·apply lx;intro x26;refine At.c 5 ?_ ?_
     ·refine At.M 1 [1,9] 1 (λp27=>([(5,(eO 0 1 k8 p27))],[(0,.tail (p27.length*1))],[])) [1,9] 1 (CU2 (eP N a0 s25)) (cu2 λs28 s29=>([(5,(eO 0 1 k8 s28)),(10,(j64 s29))],[(0,.tail (s28.length*1))],[])) (_,_) N (λp27 k=>un2 λs28 s29=>?_) λp27=>?_
      ·refine At.c 2 ?_ ?_
       ·refine At.i hT 5 (eA 3 1 j64) λe30=>?_;refine At.B 0 (bAi j64) λe31=>?_;refine At.O 2 bRw ?_;refine At.U 0 (bAp k8) λz32=>?_;exact λh=>At.v 4 (_,_) h
       ·apply rt;exact At.x 0
      ·exact λh=>At.v 3 (_,_) h
     ·apply rt;exact At.x 0
    ·apply rt;exact At.r 3
def aCJ : Nat->Bool:=imL [1]
def eR(N:Nat)(a0:aK)(s4:Int):Nat->(List Int)->Int->Option ((List Int))
 | 0,_,_=>none
 | k+1,s7,s8=>
  cond (decide (s8 < 3)) (
   ae (idx a0.gK s4) λe9=>
   ae (idx e9.toList s8) λe10=>
   ae (fL 1 s7 (([U8 e10]:List Int))) λz11=>
   eR N a0 s4 k z11 (I64 (s8+1))) (
   some s7)
def fZ(N:Nat)(a0:aK):Nat->(List Int)->Int->Option ((List Int))
 | 0,_,_=>none
 | k+1,s3,s4=>
  aN ((a0.gK.length:Int)) λx5=>
  cond (decide (s4 < x5)) (
   ae (eR N a0 s4 N s3 0) λp6=>
   fZ N a0 k p6 (I64 (s4+1))) (
   some s3)
def oZ(N:Nat)(a0:aK):Option ((List Int)×Int):=
 ae (lL N a0) λr1=>
 cond (r1 != 0) (
  some (([],r1))) (
  ae (fZ N a0 N (([U8 a0.gO]:List Int)) 0) λp2=>
  some ((p2,0)))
theorem aBf{N a0 r}(h:oZ N a0=some r):FnM Tryz.prog 93 [] [(aK.enc a0)] (.tup [(eL 1 k8 r.1),(j64 r.2)]) []:=by
 refine Af aCJ Tryz.func93 h ?_;refine At.y 4 xK λr1=>?_;refine At.c 3 ?_ ?_
 ·apply rt;exact At.r 3
 ·refine At.o 3 (oJ hT k8 (k:=1) ([U8 a0.gO]:List Int) (by kernel_rfl) (by kernel_rfl)) ?_;refine At.M 2 [] 1 (λp2=>([(5,(eO 0 1 k8 p2))],[(0,.tail (p2.length*1))],[])) [1] 1 (CU2 (fZ N a0)) (cu2 λs3 s4=>([(5,(eO 0 1 k8 s3)),(6,(j64 s4))],[(0,.tail (s3.length*1))],[])) (_,_) N (λp2 k=>un2 λs3 s4=>?_) λp2=>?_
  ·apply lx;intro x5;refine At.c 5 ?_ ?_
   ·refine At.M 1 [1,6] 1 (λp6=>([(5,(eO 0 1 k8 p6))],[(0,.tail (p6.length*1))],[])) [1,6] 1 (CU2 (eR N a0 s4)) (cu2 λs7 s8=>([(5,(eO 0 1 k8 s7)),(7,(j64 s8))],[(0,.tail (s7.length*1))],[])) (_,_) N (λp6 k=>un2 λs7 s8=>?_) λp6=>?_
    ·refine At.c 2 ?_ ?_
     ·refine At.i hT 5 (eA 3 1 j64) λe9=>?_;refine At.B 0 (bAi j64) λe10=>?_;refine At.O 2 bRw ?_;refine At.U 0 (bAp k8) λz11=>?_;exact λh=>At.v 4 (_,_) h
     ·apply rt;exact At.x 0
    ·exact λh=>At.v 3 (_,_) h
   ·apply rt;exact At.x 0
  ·apply rt;exact At.r 3
def aDD : Nat->Bool:=imL [1]
def iX(N:Nat)(e4 e6 e8:Int)(a0:aE):Nat->(List Int)->Int->Option ((List Int))
 | 0,_,_=>none
 | k+1,s10,s11=>
  cond (decide (s11 < 4)) (
   ae (idx ([e4,e6,e8,a0.gG.gA5]) s11) λe12=>
   ae (idx ([e4,e6,e8,a0.gG.gA5]) s11) λe13=>
   aN (U8 (I64 (de e13 256))) λx14=>
   ae (fL 1 s10 (([U8 (cj e12 256),x14]:List Int))) λz15=>
   iX N e4 e6 e8 a0 k z15 (I64 (s11+1))) (
   some s10)
def iY(N:Nat)(a0:aE):Nat->(List Int)->Int->Option ((List Int))
 | 0,_,_=>none
 | k+1,s17,s18=>
  cond (decide (s18 < 3)) (
   ae (aO s18 3) λ_=>
   ae (a0.gD.gE.toList[s18.toNat]?) λe20=>
   ae (bN N s17 4 ([U64 e20])) λr21=>
   iY N a0 k r21.1 (I64 (s18+1))) (
   some s17)
def lI(N:Nat)(a0:aE):Option ((List Int)):=
 cond (a0.gC==1) (
  ae (pB N a0.gA0) λr1=>
  some r1.1) (
  cond (a0.gC==2) (
   ae (oZ N a0.gA2) λr2=>
   some r2.1) (
   cond (a0.gC==3) (
    ae (aO 0 3) λ_=>
    ae (a0.gG.gE.toList[(ag 0)]?) λe4=>
    ae (aO 1 3) λ_=>
    ae (a0.gG.gE.toList[(ag 1)]?) λe6=>
    ae (aO 2 3) λ_=>
    ae (a0.gG.gE.toList[(ag 2)]?) λe8=>
    ae (iX N e4 e6 e8 a0 N (([U8 a0.gG.gC]:List Int)) 0) λp9=>
    some p9) (
    ae (iY N a0 N ([U8 a0.gD.gC]) 0) λp16=>
    ae (jL N p16 a0.gD.gAt) λr22=>
    ae (jL N r22 a0.gD.gU) λr23=>
    ae (jL N r23 a0.gD.gV) λr24=>
    some r24)))
theorem xH{N a0 r}(h:lI N a0=some r):FnM Tryz.prog 56 [] [(aE.enc a0)] (eL 1 k8 r) []:=by
 refine Af aDD Tryz.func56 h ?_;refine At.c 5 ?_ ?_
 ·refine At.y 2 aBO λr1=>?_;apply rt;exact At.r 7
 ·refine At.c 3 ?_ ?_
  ·refine At.y 2 aBf λr2=>?_;apply rt;exact At.r 7
  ·refine At.c 3 ?_ ?_
   ·refine At.o 7 (oJ hT k8 (k:=1) ([U8 a0.gG.gC]:List Int) (by kernel_rfl) (by kernel_rfl)) ?_;refine At.B 2 bAr λu3=>?_;refine At.U 0 (bLd j64 1) λe4=>?_;refine At.B 1 bAr λu5=>?_;refine At.U 0 (bLd j64 1) λe6=>?_;refine At.B 1 bAr λu7=>?_;refine At.U 0 (bLd j64 1) λe8=>?_;refine At.O 2 bRw ?_;refine At.M 2 [] 2 (λp9=>([(8,(eO 1 1 k8 p9))],[(1,.tail (p9.length*1))],[])) [9] 2 (CU2 (iX N e4 e6 e8 a0)) (cu2 λs10 s11=>([(8,(eO 1 1 k8 s10)),(10,(j64 s11))],[(1,.tail (s10.length*1))],[])) (_,_) N (λp9 k=>un2 λs10 s11=>?_) λp9=>?_
    ·refine At.c 2 ?_ ?_
     ·refine At.D 0 [] ?_;refine DD.i hT 3 j64 λe12=>?_;refine DD.i hT 5 j64 λe13=>?_;apply lx;intro x14;refine DD.O 3 bRw ?_;refine DD.U 0 (bAp k8) λz15=>?_;refine De 1 ?_;exact λh=>At.v 3 (_,_) h
     ·apply rt;exact At.x 0
    ·apply rt;exact At.r 2
   ·refine At.O 7 bRw ?_;refine At.M 2 [11] 1 (λp16=>([(12,(eL 1 k8 p16))],[],[])) [11] 1 (CU2 (iY N a0)) (cu2 λs17 s18=>([(12,(eL 1 k8 s17)),(13,(j64 s18))],[],[])) (_,_) N (λp16 k=>un2 λs17 s18=>?_) λp16=>?_
    ·refine At.c 2 ?_ ?_
     ·refine At.B 3 bAr λu19=>?_;refine At.U 0 (bLd j64 1) λe20=>?_;refine At.O 1 bRw ?_;refine At.Y 0 [] kI λr21=>?_;exact λh=>At.v 7 (_,_) h
     ·apply rt;exact At.x 0
    ·refine At.D 0 [] ?_;refine DD.Z 3 [] 1 pD λr22=>?_;refine DD.Z 2 [] 2 pD λr23=>?_;refine DD.Z 2 [] 3 pD λr24=>?_;refine De 1 ?_;apply rt;exact At.r 0
def iC(N:Nat)(a0:Int):Option (Int):=
 cond (a0==1) (
  some 2048) (
  cond (a0==2) (
   some 1024) (
   ae (cond (a0==3) (some (a0==3)) (some (a0==4))) λp1=>
   cond p1 (some 64) (some 0)))
theorem uO{N a0 r}(h:iC N a0=some r):FnM Tryz.prog 91 [] [(j64 a0)] (j64 r) []:=by
 refine Af dK Tryz.func91 h ?_;refine At.c 4 ?_ ?_
 ·apply rt;exact At.r 1
 ·refine At.c 2 ?_ ?_
  ·apply rt;exact At.r 1
  ·refine At.J 0 1 [] 0 (λp1=>([(8,(eB p1))],[],[])) (λp1=>?_) λp1=>?_
   ·refine At.c 2 ?_ ?_
    ·apply rt;exact At.jn 0
    ·apply rt;exact At.jn 2
   ·refine At.c 0 ?_ ?_
    ·apply rt;exact At.r 1
    ·apply rt;exact At.r 1
def aC0 : Nat->Bool:=imL [1]
def nI(N:Nat)(a0:aE):Option (Int):=
 ae (cond (a0.gC==1) (
  ae (nR N a0.gA0) λr2=>
  ae (lR N a0.gA2) λr3=>
  cond r3 (
   some ((r2,true))) (
   aN (!(aD.eq a0.gG (aD.mk 0 (#v[0,0,0]) 0))) λx4=>
   cond x4 (
    some ((r2,true))) (
    aN (!(aJ.eq a0.gD (aJ.mk 0 (#v[0,0,0]) (aA.mk 0 0 0) (aA.mk 0 0 0) (aA.mk 0 0 0)))) λx5=>
    some ((r2,x5))))) (
  cond (a0.gC==2) (
   ae (lL N a0.gA2) λr6=>
   ae (oQ N a0.gA0) λr7=>
   cond r7 (
    some ((r6,true))) (
    aN (!(aD.eq a0.gG (aD.mk 0 (#v[0,0,0]) 0))) λx8=>
    cond x8 (
     some ((r6,true))) (
     aN (!(aJ.eq a0.gD (aJ.mk 0 (#v[0,0,0]) (aA.mk 0 0 0) (aA.mk 0 0 0) (aA.mk 0 0 0)))) λx9=>
     some ((r6,x9))))) (
   cond (a0.gC==3) (
    ae (nV N a0.gG) λr10=>
    ae (oQ N a0.gA0) λr11=>
    cond r11 (
     some ((r10,true))) (
     ae (lR N a0.gA2) λr12=>
     cond r12 (
      some ((r10,true))) (
      aN (!(aJ.eq a0.gD (aJ.mk 0 (#v[0,0,0]) (aA.mk 0 0 0) (aA.mk 0 0 0) (aA.mk 0 0 0)))) λx13=>
      some ((r10,x13))))) (
    cond (a0.gC==4) (
     ae (qF N a0.gD) λr14=>
     ae (oQ N a0.gA0) λr15=>
     cond r15 (
      some ((r14,true))) (
      ae (lR N a0.gA2) λr16=>
      cond r16 (
       some ((r14,true))) (
       aN (!(aD.eq a0.gG (aD.mk 0 (#v[0,0,0]) 0))) λx17=>
       some ((r14,x17))))) (
     some ((12,false))))))) λp1=>
 cond (p1.1 != 0) (
  some p1.1) (
  cond p1.2 (
   some 5) (
   ae (lI N a0) λr18=>
   ae (iC N a0.gC) λr19=>
   aN (decide (((r18.length:Int)) > r19)) λx20=>
   cond x20 (some 9) (some 0)))
theorem aCH{N a0 r}(h:nI N a0=some r):FnM Tryz.prog 55 [] [(aE.enc a0)] (j64 r) []:=by
 refine Af aC0 Tryz.func55 h ?_;refine At.J 4 1 [1] 0 (λp1=>([(3,(j64 p1.1)),(4,(eB p1.2))],[],[])) (λp1=>?_) λp1=>?_
 ·refine At.c 4 ?_ ?_
  ·refine At.y 2 xI λr2=>?_;refine At.y 3 rC λr3=>?_;refine At.s 15 1 ?_ ?_
   ·refine At.g [15,21] 12 ?_;apply rt;exact At.jn 0
   ·refine At.g [15] 3 ?_;refine At.O 0 (bNe aJ8 (a0.gG:aD) (aD.mk 0 (#v[0,0,0]) 0:aD)) ?_;apply lx;intro x4;refine At.g [15] 2 ?_;refine At.s 21 0 ?_ ?_
    ·refine At.g [21] 6 ?_;apply rt;exact At.jn 0
    ·refine At.g [21] 3 ?_;refine At.O 0 (bNe aJq (a0.gD:aJ) (aJ.mk 0 (#v[0,0,0]) (aA.mk 0 0 0) (aA.mk 0 0 0) (aA.mk 0 0 0):aJ)) ?_;apply lx;intro x5;refine At.g [21] 2 ?_;apply rt;exact At.jn 0
  ·refine At.c 2 ?_ ?_
   ·refine At.y 2 xK λr6=>?_;refine At.y 3 tS λr7=>?_;refine At.s 35 1 ?_ ?_
    ·refine At.g [35,41] 12 ?_;apply rt;exact At.jn 0
    ·refine At.g [35] 3 ?_;refine At.O 0 (bNe aJ8 (a0.gG:aD) (aD.mk 0 (#v[0,0,0]) 0:aD)) ?_;apply lx;intro x8;refine At.g [35] 2 ?_;refine At.s 41 0 ?_ ?_
     ·refine At.g [41] 6 ?_;apply rt;exact At.jn 0
     ·refine At.g [41] 3 ?_;refine At.O 0 (bNe aJq (a0.gD:aJ) (aJ.mk 0 (#v[0,0,0]) (aA.mk 0 0 0) (aA.mk 0 0 0) (aA.mk 0 0 0):aJ)) ?_;apply lx;intro x9;refine At.g [41] 2 ?_;apply rt;exact At.jn 0
   ·refine At.c 2 ?_ ?_
    ·refine At.y 2 aAm λr10=>?_;refine At.y 3 tS λr11=>?_;refine At.s 55 1 ?_ ?_
     ·refine At.g [55,60] 11 ?_;apply rt;exact At.jn 0
     ·refine At.g [55] 2 ?_;refine At.y 0 rC λr12=>?_;refine At.g [55] 2 ?_;refine At.s 60 0 ?_ ?_
      ·refine At.g [60] 6 ?_;apply rt;exact At.jn 0
      ·refine At.g [60] 3 ?_;refine At.O 0 (bNe aJq (a0.gD:aJ) (aJ.mk 0 (#v[0,0,0]) (aA.mk 0 0 0) (aA.mk 0 0 0) (aA.mk 0 0 0):aJ)) ?_;apply lx;intro x13;refine At.g [60] 2 ?_;apply rt;exact At.jn 0
    ·refine At.c 2 ?_ ?_
     ·refine At.y 2 aCP λr14=>?_;refine At.y 3 tS λr15=>?_;refine At.s 74 1 ?_ ?_
      ·refine At.g [74,79] 11 ?_;apply rt;exact At.jn 0
      ·refine At.g [74] 2 ?_;refine At.y 0 rC λr16=>?_;refine At.g [74] 2 ?_;refine At.s 79 0 ?_ ?_
       ·refine At.g [79] 6 ?_;apply rt;exact At.jn 0
       ·refine At.g [79] 3 ?_;refine At.O 0 (bNe aJ8 (a0.gG:aD) (aD.mk 0 (#v[0,0,0]) 0:aD)) ?_;apply lx;intro x17;refine At.g [79] 2 ?_;apply rt;exact At.jn 0
     ·apply rt;exact At.jn 0
 ·refine At.c 2 ?_ ?_
  ·apply rt;exact At.r 2
  ·refine At.c 1 ?_ ?_
   ·apply rt;exact At.r 1
   ·refine At.D 0 [] ?_;refine DD.y 1 xH λr18=>?_;refine DD.y 3 uO λr19=>?_;apply lx;intro x20;refine De 1 ?_;refine At.c 0 ?_ ?_
    ·apply rt;exact At.r 1
    ·apply rt;exact At.r 1
def aCK : Nat->Bool:=imL [1]
def pG(N:Nat)(a0:aE):Option ((List Int)×Int):=
 ae (nI N a0) λr1=>
 cond (r1 != 0) (
  some (([],r1))) (
  ae (lI N a0) λr2=>
  some ((r2,0)))
theorem aBV{N a0 r}(h:pG N a0=some r):FnM Tryz.prog 31 [] [(aE.enc a0)] (.tup [(eL 1 k8 r.1),(j64 r.2)]) []:=by
 refine Af aCK Tryz.func31 h ?_;refine At.y 4 aCH λr1=>?_;refine At.c 3 ?_ ?_
 ·apply rt;exact At.r 3
 ·refine At.y 1 xH λr2=>?_;apply rt;exact At.r 2
def iB(N:Nat)(a0:Int):Nat->Int->Option (Int)
 | 0,_=>none
 | k+1,s2=>
  aN (decide (a0 > (I64 (256*s2)))) λx3=>
  aN (cond x3 (decide (s2 < 1000)) false) λx4=>
  cond x4 (iB N a0 k (I64 (s2+1))) (some s2)
def mP(N:Nat)(a0:Int):Option (Int):=
 ae (iB N a0 N 0) λp1=>
 ae (aN (decide (a0 > (I64 (256*p1)))) λx6=>
 cond x6 (
  aN (lH (cj a0 256) 1) λx7=>
  aN (I64 ((I64 (de a0 256))+x7)) λx8=>
  some x8) (
  some p1)) λp5=>
 some p5
theorem vR{N a0 r}(h:mP N a0=some r):FnM Tryz.prog 32 [] [(j64 a0)] (j64 r) []:=by
 refine Af dK Tryz.func32 h ?_;refine At.M 2 [0] 0 (λp1=>([(3,(j64 p1))],[],[])) [0] 0 (iB N a0) (λ(s2:Int)=>([(3,(j64 s2))],[],[])) _ N (λp1 k s2=>?_) λp1=>?_
 ·apply lx;intro x3;apply lx;intro x4;refine At.c 8 ?_ ?_
  ·exact λh=>At.v 3 _ h
  ·apply rt;exact At.x 0
 ·refine At.J 0 1 [] 0 (λp5=>([(3,(j64 p5))],[],[])) (λp5=>?_) λp5=>?_
  ·apply lx;intro x6;refine At.c 4 ?_ ?_
   ·apply lx;intro x7;apply lx;intro x8;apply rt;exact At.jn 7
   ·apply rt;exact At.jn 0
  ·apply rt;exact At.r 2
def aC6 : Nat->Bool:=imL [1]
def fE(N:Nat)(a0:aF):Nat->Int->Option (Sum (Unit) (Int))
 | 0,_=>none
 | k+1,s3=>
  cond (decide (s3 < 8)) (
   ae (idx a0.gA3.toList s3) λe4=>
   cond (decide (e4>=16)) (
    some (Sum.inr 5)) (
    fE N a0 k (I64 (s3+1)))) (
   some (Sum.inl (())))
def qK(N:Nat)(a0:aF):Option (Int):=
 ae (iC N a0.gC) λr1=>
 cond (r1==0) (
  some 12) (
  ae (fE N a0 N 0) λo=>mW o (λp2=>
   aN (decide (a0.gA4 > a0.gTo)) λx5=>
   aN (cond x5 true (decide (a0.gA1 < 1))) λx6=>
   cond x6 (
    some 5) (
    ae (iC N a0.gC) λr7=>
    cond (decide (a0.gA1 > r7)) (
     some 9) (
     ae (mP N a0.gA1) λr8=>
     cond (a0.gA8 != r8) (some 5) (some 0)))) (λr=>some r))
theorem aCM{N a0 r}(h:qK N a0=some r):FnM Tryz.prog 57 [] [(aF.enc a0)] (j64 r) []:=by
 refine Af aC6 Tryz.func57 h ?_;refine At.y 4 uO λr1=>?_;refine At.c 1 ?_ ?_
 ·apply rt;exact At.r 1
 ·refine At.MS 1 [1] 0 (λp2=>([],[],[])) [1] 0 (fE N a0) (λ(s3:Int)=>([(3,(j64 s3))],[],[])) _ N (λop2 g2 k s3=>?_) λp2=>?_
  ·refine At.c 2 ?_ ?_
   ·refine At.B 2 (bAi k8) λe4=>?_;refine At.c 2 ?_ ?_
    ·intro e;apply xB g2 e;exact At.r 1
    ·exact λh=>At.v 3 _ h
   ·apply rt;exact At.xs 0
  ·apply lx;intro x5;apply lx;intro x6;refine At.c 10 ?_ ?_
   ·apply rt;exact At.r 1
   ·refine At.D 0 [] ?_;refine DD.y 4 uO λr7=>?_;refine De 1 ?_;refine At.c 0 ?_ ?_
    ·apply rt;exact At.r 1
    ·refine At.D 0 [] ?_;refine DD.y 4 vR λr8=>?_;refine De 1 ?_;refine At.c 0 ?_ ?_
     ·apply rt;exact At.r 1
     ·apply rt;exact At.r 1
def aCX : Nat->Bool:=imL [1]
def eT(N:Nat)(a0:aF):Nat->(List Int)->Int->Option ((List Int))
 | 0,_,_=>none
 | k+1,s6,s7=>
  cond (decide (s7 < 8)) (
   ae (idx a0.gA3.toList s7) λe8=>
   ae (fL 1 s6 (([e8]:List Int))) λz9=>
   eT N a0 k z9 (I64 (s7+1))) (
   some s6)
def mJ(N:Nat)(a0:aF):Option ((List Int)×Int):=
 ae (qK N a0) λr1=>
 cond (r1 != 0) (
  some (([],r1))) (
  ae (bN N [] 8 ([a0.gId])) λr2=>
  ae (bN N r2.1 1 ([U64 a0.gC])) λr3=>
  ae (bN N r3.1 4 ([U64 a0.gA6])) λr4=>
  ae (eT N a0 N r4.1 0) λp5=>
  ae (bN N p5 4 ([U64 a0.gA4,U64 a0.gTo,U64 a0.gA1])) λr10=>
  ae (bN N r10.1 2 ([U64 a0.gA8])) λr11=>
  some ((r11.1,0)))
theorem aBo{N a0 r}(h:mJ N a0=some r):FnM Tryz.prog 33 [] [(aF.enc a0)] (.tup [(eL 1 k8 r.1),(j64 r.2)]) []:=by
 refine Af aCX Tryz.func33 h ?_;refine At.y 4 aCM λr1=>?_;refine At.c 3 ?_ ?_
 ·apply rt;exact At.r 3
 ·refine At.O 2 bRw ?_;refine At.Y 0 [] kI λr2=>?_;refine At.O 9 bRw ?_;refine At.Y 0 [] kI λr3=>?_;refine At.O 8 bRw ?_;refine At.Y 0 [] kI λr4=>?_;refine At.M 5 [1] 3 (λp5=>([(5,(eO 2 1 k8 p5))],[(2,.tail (p5.length*1))],[])) [1] 3 (CU2 (eT N a0)) (cu2 λs6 s7=>([(5,(eO 2 1 k8 s6)),(7,(j64 s7))],[(2,.tail (s6.length*1))],[])) (_,_) N (λp5 k=>un2 λs6 s7=>?_) λp5=>?_
  ·refine At.c 2 ?_ ?_
   ·refine At.B 3 (bAi k8) λe8=>?_;refine At.O 1 bRw ?_;refine At.U 0 (bAp k8) λz9=>?_;exact λh=>At.v 4 (_,_) h
   ·apply rt;exact At.x 0
  ·refine At.O 10 bRw ?_;refine At.Y 0 [] kI λr10=>?_;refine At.O 8 bRw ?_;refine At.Y 0 [] kI λr11=>?_;apply rt;exact At.r 7
def aC3 : Nat->Bool:=imL [2]
def iV(N:Nat)(a0:(Vector Int 8)):Nat->(Vector Int 12)->Int->Option ((Vector Int 12))
 | 0,_,_=>none
 | k+1,s2,s3=>
  cond (decide (s3 < 8)) (
   ae (idx a0.toList s3) λe4=>
   ae (aO s3 12) λ_=>
   ae (s2.toList[s3.toNat]?) λe6=>
   iV N a0 k (s2.setIfInBounds s3.toNat e4) (I64 (s3+1))) (
   some s2)
def iU(N:Nat)(a1:Int):Nat->(Vector Int 12)->Int->Option ((Vector Int 12))
 | 0,_,_=>none
 | k+1,s8,s9=>
  cond (decide (s9 < 4)) (
   ae (wY .u32 (U32 a1) (I64 (8*s9))) λx10=>
   ae (aO (I64 (8+s9)) 12) λ_=>
   ae (s8.toList[(I64 (8+s9)).toNat]?) λe12=>
   iU N a1 k (s8.setIfInBounds ((I64 (8+s9)).toNat) (U8 x10)) (I64 (s9+1))) (
   some s8)
def lM(N:Nat)(a0:(Vector Int 8))(a1:Int):Option ((Vector Int 12)):=
 ae (iV N a0 N (ah 12 0) 0) λp1=>
 ae (iU N a1 N p1 0) λp7=>
 some p7
theorem xE{N a0 a1 r}(h:lM N a0 a1=some r):FnM Tryz.prog 60 [] [(eA 8 1 k8 a0),(j64 a1)] (eA 12 1 k8 r) []:=by
 refine Af aC3 Tryz.func60 h ?_;refine At.M 4 [1,4,5] 2 (λp1=>([],[(1,.var (eA 12 1 k8 p1))],[])) [1,2,4,5] 2 (CU2 (iV N a0)) (cu2 λs2 s3=>([(6,(j64 s3))],[(1,.var (eA 12 1 k8 s2))],[])) (_,_) N (λp1 k=>un2 λs2 s3=>?_) λp1=>?_
 ·refine At.c 2 ?_ ?_
  ·refine At.B 2 (bAi k8) λe4=>?_;refine At.B 1 bAr λu5=>?_;refine At.U 0 (bSv k8 0 e4) λe6=>?_;exact λh=>At.v 3 (_,_) h
  ·apply rt;exact At.x 0
 ·refine At.M 4 [4,5] 2 (λp7=>([],[(1,.var (eA 12 1 k8 p7))],[])) [4,5,7] 2 (CU2 (iU N a1)) (cu2 λs8 s9=>([(8,(j64 s9))],[(1,.var (eA 12 1 k8 s8))],[])) (_,_) N (λp7 k=>un2 λs8 s9=>?_) λp7=>?_
  ·refine At.c 2 ?_ ?_
   ·refine At.B 5 bSr λx10=>?_;refine At.B 1 bAr λu11=>?_;refine At.U 0 (bSv k8 0 (U8 x10)) λe12=>?_;exact λh=>At.v 3 (_,_) h
   ·apply rt;exact At.x 0
  ·apply rt;exact At.r 2
def dJ(N:Nat)(a0:(List Int)):Nat->Int->Int->Option (Int)
 | 0,_,_=>none
 | k+1,s2,s3=>
  cond (decide (s3>=0)) (
   ae (idx a0 s3) λe4=>
   aN (U32 ((U32 (s2*256))+(U32 e4))) λx5=>
   dJ N a0 k x5 (I64 (s3 - 1))) (
   some s2)
def iJ(N:Nat)(a0:(List Int)):Option (Int):=
 ae (dJ N a0 N 0 3) λp1=>
 some p1
theorem rW{N a0 r}(h:iJ N a0=some r):FnM Tryz.prog 190 [] [(eL 1 k8 a0)] (k32 r) []:=by
 refine Af dK Tryz.func190 h ?_;refine At.M 3 [] 0 (λp1=>([(3,(k32 p1))],[],[])) [0] 0 (CU2 (dJ N a0)) (cu2 λs2 s3=>([(3,(k32 s2)),(4,(j64 s3))],[],[])) (_,_) N (λp1 k=>un2 λs2 s3=>?_) λp1=>?_
 ·refine At.c 2 ?_ ?_
  ·refine At.i hT 4 k8 λe4=>?_;apply lx;intro x5;exact λh=>At.v 7 (_,_) h
  ·apply rt;exact At.x 0
 ·apply rt;exact At.r 2
def aCw : Nat->Bool:=imL [3,5]
def nX(N:Nat)  : Nat->(Vector Int 16)->Int->Option ((Vector Int 16))
 | 0,_,_=>none
 | k+1,s2,s3=>
  cond (decide (s3 < 4)) (
   ae (idx aOP.data.toList (I64 (4*s3))) λc4=>
   aN (I64 ((I64 (4*s3))+1)) λx5=>
   ae (idx aOP.data.toList x5) λc6=>
   aN (I64 ((I64 (4*s3))+2)) λx7=>
   ae (idx aOP.data.toList x7) λc8=>
   aN (I64 ((I64 (4*s3))+3)) λx9=>
   ae (idx aOP.data.toList x9) λc10=>
   ae (iJ N ([(UInt8.toNat c4:Int),(UInt8.toNat c6:Int),(UInt8.toNat c8:Int),(UInt8.toNat c10:Int)])) λr11=>
   ae (aO s3 16) λ_=>
   ae (s2.toList[s3.toNat]?) λe13=>
   nX N k (s2.setIfInBounds s3.toNat r11) (I64 (s3+1))) (
   some s2)
def dN(N:Nat)(a0:(Vector Int 32)):Nat->(Vector Int 16)->Int->Option ((Vector Int 16))
 | 0,_,_=>none
 | k+1,s15,s16=>
  cond (decide (s16 < 8)) (
   aN (I64 ((I64 (4*s16))+4)) λx17=>
   ae (dM a0.toList (I64 (4*s16)) x17) λs18=>
   ae (iJ N s18) λr19=>
   ae (aO (I64 (4+s16)) 16) λ_=>
   ae (s15.toList[(I64 (4+s16)).toNat]?) λe21=>
   dN N a0 k (s15.setIfInBounds ((I64 (4+s16)).toNat) r19) (I64 (s16+1))) (
   some s15)
def dQ(N:Nat)(a2:(Vector Int 12)):Nat->(Vector Int 16)->Int->Option ((Vector Int 16))
 | 0,_,_=>none
 | k+1,s25,s26=>
  cond (decide (s26 < 3)) (
   aN (I64 ((I64 (4*s26))+4)) λx27=>
   ae (dM a2.toList (I64 (4*s26)) x27) λs28=>
   ae (iJ N s28) λr29=>
   ae (aO (I64 (13+s26)) 16) λ_=>
   ae (s25.toList[(I64 (13+s26)).toNat]?) λe31=>
   dQ N a2 k (s25.setIfInBounds ((I64 (13+s26)).toNat) r29) (I64 (s26+1))) (
   some s25)
def nJ(N:Nat)(a0:(Vector Int 32))(a1:Int)(a2:(Vector Int 12)):Option ((Vector Int 16)):=
 ae (nX N N (ah 16 0) 0) λp1=>
 ae (dN N a0 N p1 0) λp14=>
 ae (aO 12 16) λ_=>
 ae (p14.toList[(ag 12)]?) λe23=>
 ae (dQ N a2 N (p14.setIfInBounds ((ag 12)) a1) 0) λp24=>
 some p24
theorem xG{N a0 a1 a2 r}(h:nJ N a0 a1 a2=some r):FnM Tryz.prog 177 [] [(eA 32 1 k8 a0),(k32 a1),(eA 12 1 k8 a2)] (eA 16 1 k32 r) []:=by
 refine Af aCw Tryz.func177 h ?_;refine At.M 6 [1,3,5,6,7] 2 (λp1=>([],[(1,.var (eA 16 1 k32 p1))],[])) [1,3,5,6,7,8] 2 (CU2 (nX N)) (cu2 λs2 s3=>([(9,(j64 s3))],[(1,.var (eA 16 1 k32 s2))],[])) (_,_) N (λp1 k=>un2 λs2 s3=>?_) λp1=>?_
 ·refine At.c 2 ?_ ?_
  ·refine At.D 0 [] ?_;refine DD.b 4 (λe _=>aGM hT e (by kernel_rfl) (by kernel_rfl)) λc4=>?_;apply lx;intro x5;refine DD.b 4 (λe _=>aGM hT e (by kernel_rfl) (by kernel_rfl)) λc6=>?_;apply lx;intro x7;refine DD.b 4 (λe _=>aGM hT e (by kernel_rfl) (by kernel_rfl)) λc8=>?_;apply lx;intro x9;refine DD.b 4 (λe _=>aGM hT e (by kernel_rfl) (by kernel_rfl)) λc10=>?_;refine DD.O 0 bRw ?_;refine DD.y 0 rW λr11=>?_;refine DD.B 0 bAr λu12=>?_;refine DD.U 0 (bSv k32 0 r11) λe13=>?_;refine De 0 ?_;exact λh=>At.v 3 (_,_) h
  ·apply rt;exact At.x 0
 ·refine At.M 1 [1,5,6,7] 2 (λp14=>([],[(1,.var (eA 16 1 k32 p14))],[])) [1,3,5,6,7] 2 (CU2 (dN N a0)) (cu2 λs15 s16=>([(10,(j64 s16))],[(1,.var (eA 16 1 k32 s15))],[])) (_,_) N (λp14 k=>un2 λs15 s16=>?_) λp14=>?_
  ·refine At.c 2 ?_ ?_
   ·apply lx;intro x17;refine At.B 7 (bSI k8) λs18=>?_;refine At.y 0 rW λr19=>?_;refine At.B 0 bAr λu20=>?_;refine At.U 0 (bSv k32 0 r19) λe21=>?_;exact λh=>At.v 3 (_,_) h
   ·apply rt;exact At.x 0
  ·refine At.B 1 bAr λu22=>?_;refine At.U 0 (bSv k32 0 a1) λe23=>?_;refine At.M 1 [6,7] 2 (λp24=>([],[(1,.var (eA 16 1 k32 p24))],[])) [5,6,7] 2 (CU2 (dQ N a2)) (cu2 λs25 s26=>([(11,(j64 s26))],[(1,.var (eA 16 1 k32 s25))],[])) (_,_) N (λp24 k=>un2 λs25 s26=>?_) λp24=>?_
   ·refine At.c 2 ?_ ?_
    ·apply lx;intro x27;refine At.B 7 (bSI k8) λs28=>?_;refine At.y 0 rW λr29=>?_;refine At.B 0 bAr λu30=>?_;refine At.U 0 (bSv k32 0 r29) λe31=>?_;exact λh=>At.v 3 (_,_) h
    ·apply rt;exact At.x 0
   ·apply rt;exact At.r 2
def dA(N:Nat)(a0 a1:Int):Option (Int):=
 ae (aF1 .u32 a0 a1) λx1=>
 ae (wY .u32 a0 (I64 (32 - a1))) λx2=>
 some (bor .u32 x1 x2)
theorem qD{N a0 a1 r}(h:dA N a0 a1=some r):FnM Tryz.prog 202 [] [(k32 a0),(j64 a1)] (k32 r) []:=by
 refine Af dK Tryz.func202 h ?_;refine At.D 1 [] ?_;refine DD.B 2 bSh λx1=>?_;refine DD.B 3 bSr λx2=>?_;refine De 2 ?_;apply rt;exact At.r 0
def oM(N:Nat)(a0:(Vector Int 4)):Option ((Vector Int 4)):=
 ae (aO 0 4) λ_=>
 ae (a0.toList[(ag 0)]?) λe2=>
 ae (aO 1 4) λ_=>
 ae (a0.toList[(ag 1)]?) λe4=>
 ae (aO 0 4) λ_=>
 ae (a0.toList[(ag 0)]?) λe6=>
 ae (aO 3 4) λ_=>
 ae ((a0.setIfInBounds ((ag 0)) (U32 (e2+e4))).toList[(ag 3)]?) λe8=>
 ae (aO 0 4) λ_=>
 ae ((a0.setIfInBounds ((ag 0)) (U32 (e2+e4))).toList[(ag 0)]?) λe10=>
 ae (dA N (fG .u32 e8 e10) 16) λr11=>
 ae (aO 3 4) λ_=>
 ae ((a0.setIfInBounds ((ag 0)) (U32 (e2+e4))).toList[(ag 3)]?) λe13=>
 ae (aO 2 4) λ_=>
 ae (((a0.setIfInBounds ((ag 0)) (U32 (e2+e4))).setIfInBounds ((ag 3)) r11).toList[(ag 2)]?) λe15=>
 ae (aO 3 4) λ_=>
 ae (((a0.setIfInBounds ((ag 0)) (U32 (e2+e4))).setIfInBounds ((ag 3)) r11).toList[(ag 3)]?) λe17=>
 ae (aO 2 4) λ_=>
 ae (((a0.setIfInBounds ((ag 0)) (U32 (e2+e4))).setIfInBounds ((ag 3)) r11).toList[(ag 2)]?) λe19=>
 ae (aO 1 4) λ_=>
 ae ((((a0.setIfInBounds ((ag 0)) (U32 (e2+e4))).setIfInBounds ((ag 3)) r11).setIfInBounds ((ag 2)) (U32 (e15+e17))).toList[(ag 1)]?) λe21=>
 ae (aO 2 4) λ_=>
 ae ((((a0.setIfInBounds ((ag 0)) (U32 (e2+e4))).setIfInBounds ((ag 3)) r11).setIfInBounds ((ag 2)) (U32 (e15+e17))).toList[(ag 2)]?) λe23=>
 ae (dA N (fG .u32 e21 e23) 12) λr24=>
 ae (aO 1 4) λ_=>
 ae ((((a0.setIfInBounds ((ag 0)) (U32 (e2+e4))).setIfInBounds ((ag 3)) r11).setIfInBounds ((ag 2)) (U32 (e15+e17))).toList[(ag 1)]?) λe26=>
 ae (aO 0 4) λ_=>
 ae (((((a0.setIfInBounds ((ag 0)) (U32 (e2+e4))).setIfInBounds ((ag 3)) r11).setIfInBounds ((ag 2)) (U32 (e15+e17))).setIfInBounds ((ag 1)) r24).toList[(ag 0)]?) λe28=>
 ae (aO 1 4) λ_=>
 ae (((((a0.setIfInBounds ((ag 0)) (U32 (e2+e4))).setIfInBounds ((ag 3)) r11).setIfInBounds ((ag 2)) (U32 (e15+e17))).setIfInBounds ((ag 1)) r24).toList[(ag 1)]?) λe30=>
 ae (aO 0 4) λ_=>
 ae (((((a0.setIfInBounds ((ag 0)) (U32 (e2+e4))).setIfInBounds ((ag 3)) r11).setIfInBounds ((ag 2)) (U32 (e15+e17))).setIfInBounds ((ag 1)) r24).toList[(ag 0)]?) λe32=>
 ae (aO 3 4) λ_=>
 ae ((((((a0.setIfInBounds ((ag 0)) (U32 (e2+e4))).setIfInBounds ((ag 3)) r11).setIfInBounds ((ag 2)) (U32 (e15+e17))).setIfInBounds ((ag 1)) r24).setIfInBounds ((ag 0)) (U32 (e28+e30))).toList[(ag 3)]?) λe34=>
 ae (aO 0 4) λ_=>
 ae ((((((a0.setIfInBounds ((ag 0)) (U32 (e2+e4))).setIfInBounds ((ag 3)) r11).setIfInBounds ((ag 2)) (U32 (e15+e17))).setIfInBounds ((ag 1)) r24).setIfInBounds ((ag 0)) (U32 (e28+e30))).toList[(ag 0)]?) λe36=>
 ae (dA N (fG .u32 e34 e36) 8) λr37=>
 ae (aO 3 4) λ_=>
 ae ((((((a0.setIfInBounds ((ag 0)) (U32 (e2+e4))).setIfInBounds ((ag 3)) r11).setIfInBounds ((ag 2)) (U32 (e15+e17))).setIfInBounds ((ag 1)) r24).setIfInBounds ((ag 0)) (U32 (e28+e30))).toList[(ag 3)]?) λe39=>
 ae (aO 2 4) λ_=>
 ae (((((((a0.setIfInBounds ((ag 0)) (U32 (e2+e4))).setIfInBounds ((ag 3)) r11).setIfInBounds ((ag 2)) (U32 (e15+e17))).setIfInBounds ((ag 1)) r24).setIfInBounds ((ag 0)) (U32 (e28+e30))).setIfInBounds ((ag 3)) r37).toList[(ag 2)]?) λe41=>
 ae (aO 3 4) λ_=>
 ae (((((((a0.setIfInBounds ((ag 0)) (U32 (e2+e4))).setIfInBounds ((ag 3)) r11).setIfInBounds ((ag 2)) (U32 (e15+e17))).setIfInBounds ((ag 1)) r24).setIfInBounds ((ag 0)) (U32 (e28+e30))).setIfInBounds ((ag 3)) r37).toList[(ag 3)]?) λe43=>
 ae (aO 2 4) λ_=>
 ae (((((((a0.setIfInBounds ((ag 0)) (U32 (e2+e4))).setIfInBounds ((ag 3)) r11).setIfInBounds ((ag 2)) (U32 (e15+e17))).setIfInBounds ((ag 1)) r24).setIfInBounds ((ag 0)) (U32 (e28+e30))).setIfInBounds ((ag 3)) r37).toList[(ag 2)]?) λe45=>
 ae (aO 1 4) λ_=>
 ae ((((((((a0.setIfInBounds ((ag 0)) (U32 (e2+e4))).setIfInBounds ((ag 3)) r11).setIfInBounds ((ag 2)) (U32 (e15+e17))).setIfInBounds ((ag 1)) r24).setIfInBounds ((ag 0)) (U32 (e28+e30))).setIfInBounds ((ag 3)) r37).setIfInBounds ((ag 2)) (U32 (e41+e43))).toList[(ag 1)]?) λe47=>
 ae (aO 2 4) λ_=>
 ae ((((((((a0.setIfInBounds ((ag 0)) (U32 (e2+e4))).setIfInBounds ((ag 3)) r11).setIfInBounds ((ag 2)) (U32 (e15+e17))).setIfInBounds ((ag 1)) r24).setIfInBounds ((ag 0)) (U32 (e28+e30))).setIfInBounds ((ag 3)) r37).setIfInBounds ((ag 2)) (U32 (e41+e43))).toList[(ag 2)]?) λe49=>
 ae (dA N (fG .u32 e47 e49) 7) λr50=>
 ae (aO 1 4) λ_=>
 ae ((((((((a0.setIfInBounds ((ag 0)) (U32 (e2+e4))).setIfInBounds ((ag 3)) r11).setIfInBounds ((ag 2)) (U32 (e15+e17))).setIfInBounds ((ag 1)) r24).setIfInBounds ((ag 0)) (U32 (e28+e30))).setIfInBounds ((ag 3)) r37).setIfInBounds ((ag 2)) (U32 (e41+e43))).toList[(ag 1)]?) λe52=>
 some ((((((((a0.setIfInBounds ((ag 0)) (U32 (e2+e4))).setIfInBounds ((ag 3)) r11).setIfInBounds ((ag 2)) (U32 (e15+e17))).setIfInBounds ((ag 1)) r24).setIfInBounds ((ag 0)) (U32 (e28+e30))).setIfInBounds ((ag 3)) r37).setIfInBounds ((ag 2)) (U32 (e41+e43))).setIfInBounds ((ag 1)) r50)
theorem aA9{N a0 r}(h:oM N a0=some r):FnM Tryz.prog 191 [] [(eA 4 1 k32 a0)] (eA 4 1 k32 r) []:=by
 refine Af dK Tryz.func191 h ?_;refine At.B 2 bAr λu1=>?_;refine At.U 0 (bLd k32 0) λe2=>?_;refine At.B 0 bAr λu3=>?_;refine At.U 0 (bLd k32 0) λe4=>?_;refine At.B 1 bAr λu5=>?_;refine At.U 0 (bSv k32 0 (U32 (e2+e4))) λe6=>?_;refine At.B 0 bAr λu7=>?_;refine At.U 0 (bLd k32 0) λe8=>?_;refine At.B 0 bAr λu9=>?_;refine At.U 0 (bLd k32 0) λe10=>?_;refine At.y 1 qD λr11=>?_;refine At.B 0 bAr λu12=>?_;refine At.U 0 (bSv k32 0 r11) λe13=>?_;refine At.B 0 bAr λu14=>?_;refine At.U 0 (bLd k32 0) λe15=>?_;refine At.B 0 bAr λu16=>?_;refine At.U 0 (bLd k32 0) λe17=>?_;refine At.B 1 bAr λu18=>?_;refine At.U 0 (bSv k32 0 (U32 (e15+e17))) λe19=>?_;refine At.B 0 bAr λu20=>?_;refine At.U 0 (bLd k32 0) λe21=>?_;refine At.B 0 bAr λu22=>?_;refine At.U 0 (bLd k32 0) λe23=>?_;refine At.y 1 qD λr24=>?_;refine At.B 0 bAr λu25=>?_;refine At.U 0 (bSv k32 0 r24) λe26=>?_;refine At.B 0 bAr λu27=>?_;refine At.U 0 (bLd k32 0) λe28=>?_;refine At.B 0 bAr λu29=>?_;refine At.U 0 (bLd k32 0) λe30=>?_;refine At.B 1 bAr λu31=>?_;refine At.U 0 (bSv k32 0 (U32 (e28+e30))) λe32=>?_;refine At.B 0 bAr λu33=>?_;refine At.U 0 (bLd k32 0) λe34=>?_;refine At.B 0 bAr λu35=>?_;refine At.U 0 (bLd k32 0) λe36=>?_;refine At.y 1 qD λr37=>?_;refine At.B 0 bAr λu38=>?_;refine At.U 0 (bSv k32 0 r37) λe39=>?_;refine At.B 0 bAr λu40=>?_;refine At.U 0 (bLd k32 0) λe41=>?_;refine At.B 0 bAr λu42=>?_;refine At.U 0 (bLd k32 0) λe43=>?_;refine At.B 1 bAr λu44=>?_;refine At.U 0 (bSv k32 0 (U32 (e41+e43))) λe45=>?_;refine At.B 0 bAr λu46=>?_;refine At.U 0 (bLd k32 0) λe47=>?_;refine At.B 0 bAr λu48=>?_;refine At.U 0 (bLd k32 0) λe49=>?_;refine At.y 1 qD λr50=>?_;refine At.B 0 bAr λu51=>?_;refine At.U 0 (bSv k32 0 r50) λe52=>?_;apply rt;exact At.r 2
def bA(N:Nat)(a0:(Vector Int 16))(a1 a2 a3 a4:Int):Option ((Vector Int 16)):=
 ae (aO a1 16) λ_=>
 ae (a0.toList[a1.toNat]?) λe2=>
 ae (aO a2 16) λ_=>
 ae (a0.toList[a2.toNat]?) λe4=>
 ae (aO a3 16) λ_=>
 ae (a0.toList[a3.toNat]?) λe6=>
 ae (aO a4 16) λ_=>
 ae (a0.toList[a4.toNat]?) λe8=>
 ae (oM N (#v[e2,e4,e6,e8])) λr9=>
 ae (aO 0 4) λ_=>
 ae (r9.toList[(ag 0)]?) λe11=>
 ae (aO 1 4) λ_=>
 ae (r9.toList[(ag 1)]?) λe13=>
 ae (aO 2 4) λ_=>
 ae (r9.toList[(ag 2)]?) λe15=>
 ae (aO 3 4) λ_=>
 ae (r9.toList[(ag 3)]?) λe17=>
 ae (aO a1 16) λ_=>
 ae (a0.toList[a1.toNat]?) λe19=>
 ae (aO a2 16) λ_=>
 ae ((a0.setIfInBounds a1.toNat e11).toList[a2.toNat]?) λe21=>
 ae (aO a3 16) λ_=>
 ae (((a0.setIfInBounds a1.toNat e11).setIfInBounds a2.toNat e13).toList[a3.toNat]?) λe23=>
 ae (aO a4 16) λ_=>
 ae ((((a0.setIfInBounds a1.toNat e11).setIfInBounds a2.toNat e13).setIfInBounds a3.toNat e15).toList[a4.toNat]?) λe25=>
 some ((((a0.setIfInBounds a1.toNat e11).setIfInBounds a2.toNat e13).setIfInBounds a3.toNat e15).setIfInBounds a4.toNat e17)
theorem uW{N a0 a1 a2 a3 a4 r}(h:bA N a0 a1 a2 a3 a4=some r):FnM Tryz.prog 178 [] [(eA 16 1 k32 a0),(j64 a1),(j64 a2),(j64 a3),(j64 a4)] (eA 16 1 k32 r) []:=by
 refine Af dK Tryz.func178 h ?_;refine At.D 2 [] ?_;refine DD.B 1 bAr λu1=>?_;refine DD.l hT 0 k32 k32 0 λe2=>?_;refine DD.B 1 bAr λu3=>?_;refine DD.l hT 0 k32 k32 0 λe4=>?_;refine DD.B 1 bAr λu5=>?_;refine DD.l hT 0 k32 k32 0 λe6=>?_;refine DD.B 1 bAr λu7=>?_;refine DD.l hT 0 k32 k32 0 λe8=>?_;refine DD.y 1 aA9 λr9=>?_;refine De 2 ?_;refine At.D 0 [] ?_;refine DD.B 4 bAr λu10=>?_;refine DD.l hT 0 k32 k32 0 λe11=>?_;refine DD.B 0 bAr λu12=>?_;refine DD.l hT 0 k32 k32 0 λe13=>?_;refine DD.B 0 bAr λu14=>?_;refine DD.l hT 0 k32 k32 0 λe15=>?_;refine DD.B 0 bAr λu16=>?_;refine DD.l hT 0 k32 k32 0 λe17=>?_;refine DD.B 0 bAr λu18=>?_;refine DD.U 0 (bSv k32 0 e11) λe19=>?_;refine DD.B 0 bAr λu20=>?_;refine DD.U 0 (bSv k32 0 e13) λe21=>?_;refine DD.B 0 bAr λu22=>?_;refine DD.U 0 (bSv k32 0 e15) λe23=>?_;refine DD.B 0 bAr λu24=>?_;refine DD.U 0 (bSv k32 0 e17) λe25=>?_;refine De 0 ?_;apply rt;exact At.r 2
def aCy : Nat->Bool:=imL [3,5]
def bE(N:Nat)  : Nat->(Vector Int 16)->Int->Option ((Vector Int 16))
 | 0,_,_=>none
 | k+1,s6,s7=>
  cond (decide (s7 < 4)) (
   ae (bA N s6 s7 (I64 (4+s7)) (I64 (8+s7)) (I64 (12+s7))) λr8=>
   bE N k r8 (I64 (s7+1))) (
   some s6)
def bD(N:Nat)  : Nat->(Vector Int 16)->Int->Option ((Vector Int 16))
 | 0,_,_=>none
 | k+1,s10,s11=>
  cond (decide (s11 < 4)) (
   aN (cj (I64 (s11+1)) 4) λx12=>
   aN (cj (I64 (s11+2)) 4) λx13=>
   aN (cj (I64 (s11+3)) 4) λx14=>
   ae (bA N s10 s11 (I64 (4+x12)) (I64 (8+x13)) (I64 (12+x14))) λr15=>
   bD N k r15 (I64 (s11+1))) (
   some s10)
def lG(N:Nat)  : Nat->(Vector Int 16)->Int->Option ((Vector Int 16))
 | 0,_,_=>none
 | k+1,s3,s4=>
  cond (decide (s4 < 10)) (
   ae (bE N N s3 0) λp5=>
   ae (bD N N p5 0) λp9=>
   lG N k p9 (I64 (s4+1))) (
   some s3)
def fC(N:Nat)(p2 r16:(Vector Int 16)):Nat->(Vector Int 64)->Int->Option ((Vector Int 64))
 | 0,_,_=>none
 | k+1,s18,s19=>
  cond (decide (s19 < 64)) (
   ae (aO (I64 (de s19 4)) 16) λ_=>
   ae (p2.toList[(I64 (de s19 4)).toNat]?) λe21=>
   ae (aO (I64 (de s19 4)) 16) λ_=>
   ae (r16.toList[(I64 (de s19 4)).toNat]?) λe23=>
   aN (I64 (8*(cj s19 4))) λx24=>
   ae (wY .u32 (U32 (e21+e23)) x24) λx25=>
   ae (aO s19 64) λ_=>
   ae (s18.toList[s19.toNat]?) λe27=>
   fC N p2 r16 k (s18.setIfInBounds s19.toNat (U8 x25)) (I64 (s19+1))) (
   some s18)
def nO(N:Nat)(a0:(Vector Int 32))(a1:Int)(a2:(Vector Int 12)):Option ((Vector Int 64)):=
 ae (nJ N a0 a1 a2) λr1=>
 ae (lG N N r1 0) λp2=>
 ae (nJ N a0 a1 a2) λr16=>
 ae (fC N p2 r16 N (ah 64 0) 0) λp17=>
 some p17
theorem xJ{N a0 a1 a2 r}(h:nO N a0 a1 a2=some r):FnM Tryz.prog 152 [] [(eA 32 1 k8 a0),(k32 a1),(eA 12 1 k8 a2)] (eA 64 1 k8 r) []:=by
 refine Af aCy Tryz.func152 h ?_;refine At.y 6 xG λr1=>?_;refine At.M 3 [1,3,5,6,7] 2 (λp2=>([],[(1,.var (eA 16 1 k32 p2))],[])) [1,3,5,6,7] 2 (CU2 (lG N)) (cu2 λs3 s4=>([(8,(j64 s4))],[(1,.var (eA 16 1 k32 s3))],[])) (_,_) N (λp2 k=>un2 λs3 s4=>?_) λp2=>?_
 ·refine At.c 2 ?_ ?_
  ·refine At.M 1 [1,3,5,6,7,8] 2 (λp5=>([],[(1,.var (eA 16 1 k32 p5))],[])) [1,3,5,6,7,8] 2 (CU2 (bE N)) (cu2 λs6 s7=>([(9,(j64 s7))],[(1,.var (eA 16 1 k32 s6))],[])) (_,_) N (λp5 k=>un2 λs6 s7=>?_) λp5=>?_
   ·refine At.c 2 ?_ ?_
    ·refine At.y 8 uW λr8=>?_;exact λh=>At.v 4 (_,_) h
    ·apply rt;exact At.x 0
   ·refine At.M 1 [1,3,5,6,7,8] 2 (λp9=>([],[(1,.var (eA 16 1 k32 p9))],[])) [1,3,5,6,7,8] 2 (CU2 (bD N)) (cu2 λs10 s11=>([(10,(j64 s11))],[(1,.var (eA 16 1 k32 s10))],[])) (_,_) N (λp9 k=>un2 λs10 s11=>?_) λp9=>?_
    ·refine At.c 2 ?_ ?_
     ·apply lx;intro x12;apply lx;intro x13;apply lx;intro x14;refine At.y 14 uW λr15=>?_;exact λh=>At.v 4 (_,_) h
     ·apply rt;exact At.x 0
    ·exact λh=>At.v 3 (_,_) h
  ·apply rt;exact At.x 0
 ·refine At.y 3 xG λr16=>?_;refine At.M 4 [6,12] 4 (λp17=>([],[(3,.var (eA 64 1 k8 p17))],[])) [6,7,11,12] 4 (CU2 (fC N p2 r16)) (cu2 λs18 s19=>([(13,(j64 s19))],[(3,.var (eA 64 1 k8 s18))],[])) (_,_) N (λp17 k=>un2 λs18 s19=>?_) λp17=>?_
  ·refine At.c 2 ?_ ?_
   ·refine At.D 0 [] ?_;refine DD.B 3 bAr λu20=>?_;refine DD.l hT 0 k32 k32 0 λe21=>?_;refine DD.B 2 bAr λu22=>?_;refine DD.l hT 0 k32 k32 0 λe23=>?_;apply lx;intro x24;refine DD.B 4 bSr λx25=>?_;refine DD.B 1 bAr λu26=>?_;refine DD.U 0 (bSv k8 0 (U8 x25)) λe27=>?_;refine De 0 ?_;exact λh=>At.v 3 (_,_) h
   ·apply rt;exact At.x 0
  ·apply rt;exact At.r 2
def aCN : Nat->Bool:=imL [4,6]
def dC(N:Nat)(s5 p1:Int)(r6:(Vector Int 64)):Nat->(List Int)->Int->Option ((List Int))
 | 0,_,_=>none
 | k+1,s8,s9=>
  aN (decide ((I64 (s5+s9)) < p1)) λx10=>
  aN (cond (decide (s9 < 64)) x10 false) λx11=>
  cond x11 (
   ae (aO s9 64) λ_=>
   ae (r6.toList[s9.toNat]?) λe13=>
   ae (fL 1 s8 (([e13]:List Int))) λz14=>
   dC N s5 p1 r6 k z14 (I64 (s9+1))) (
   some s8)
def jZ(N:Nat)(p1:Int)(a0:(Vector Int 32))(a2:(Vector Int 12)):Nat->(List Int)->Int->Int->Option ((List Int))
 | 0,_,_,_=>none
 | k+1,s3,s4,s5=>
  cond (decide (s5 < p1)) (
   ae (nO N a0 s4 a2) λr6=>
   ae (dC N s5 p1 r6 N s3 0) λp7=>
   jZ N p1 a0 a2 k p7 (U32 (s4+1)) (I64 (s5+64))) (
   some s3)
def pC(N:Nat)(a0:(Vector Int 32))(a1:Int)(a2:(Vector Int 12))(a3:Int):Option ((List Int)):=
 ae (cond (decide (a3 > 65536)) (some 65536) (some a3)) λp1=>
 ae (jZ N p1 a0 a2 N [] a1 0) λp2=>
 some p2
theorem aBd{N a0 a1 a2 a3 r}(h:pC N a0 a1 a2 a3=some r):FnM Tryz.prog 118 [] [(eA 32 1 k8 a0),(k32 a1),(eA 12 1 k8 a2),(j64 a3)] (eL 1 k8 r) []:=by
 refine Af aCN Tryz.func118 h ?_;refine At.J 3 1 [1,4,6] 0 (λp1=>([(3,(j64 p1))],[],[])) (λp1=>?_) λp1=>?_
 ·refine At.c 2 ?_ ?_
  ·apply rt;exact At.jn 1
  ·apply rt;exact At.jn 0
 ·refine At.ownn 2 9 1 ?_;refine At.M 0 [] 1 (λp2=>([(9,(eO 0 1 k8 p2))],[(0,.tail (p2.length*1))],[])) [3,4,6] 1 (CU3 (jZ N p1 a0 a2)) (cu3 λs3 s4 s5=>([(1,(k32 s4)),(9,(eO 0 1 k8 s3)),(10,(j64 s5))],[(0,.tail (s3.length*1))],[])) (_,_,_) N (λp2 k=>un3 λs3 s4 s5=>?_) λp2=>?_
  ·refine At.c 3 ?_ ?_
   ·refine At.y 3 xJ λr6=>?_;refine At.M 3 [1,3,4,6,10] 2 (λp7=>([(9,(eO 0 1 k8 p7))],[(0,.tail (p7.length*1))],[])) [1,3,4,6,10,11] 2 (CU2 (dC N s5 p1 r6)) (cu2 λs8 s9=>([(9,(eO 0 1 k8 s8)),(12,(j64 s9))],[(0,.tail (s8.length*1))],[])) (_,_) N (λp7 k=>un2 λs8 s9=>?_) λp7=>?_
    ·apply lx;intro x10;apply lx;intro x11;refine At.c 9 ?_ ?_
     ·refine At.B 2 bAr λu12=>?_;refine At.U 0 (bLd k8 0) λe13=>?_;refine At.O 0 bRw ?_;refine At.U 0 (bAp k8) λz14=>?_;exact λh=>At.v 4 (_,_) h
     ·apply rt;exact At.x 0
    ·exact λh=>At.v 6 (_,_,_) h
   ·apply rt;exact At.x 0
  ·apply rt;exact At.r 2
def aEa : Nat->Bool:=imL [4,6]
def eX(N:Nat)(p1 r4:(List Int)):Nat->(List Int)->Int->Option ((List Int))
 | 0,_,_=>none
 | k+1,s6,s7=>
  aN (decide (s7 < ((p1.length:Int)))) λx8=>
  cond x8 (
   ae (idx p1 s7) λe9=>
   ae (idx r4 s7) λe10=>
   ae (fL 1 s6 (([fG .u8 e9 e10]:List Int))) λz11=>
   eX N p1 r4 k z11 (I64 (s7+1))) (
   some s6)
def sU(N:Nat)(a0:(Vector Int 32))(a1:Int)(a2:(Vector Int 12))(a3:(List Int)):Option ((List Int)):=
 ae (aN (decide (((a3.length:Int)) > 65536)) λx2=>
 cond x2 (
  ae (dM a3 0 65536) λs3=>
  some s3) (
  some a3)) λp1=>
 ae (pC N a0 a1 a2 ((p1.length:Int))) λr4=>
 ae (eX N p1 r4 N [] 0) λp5=>
 some p5
theorem aET{N a0 a1 a2 a3 r}(h:sU N a0 a1 a2 a3=some r):FnM Tryz.prog 96 [] [(eA 32 1 k8 a0),(k32 a1),(eA 12 1 k8 a2),(eL 1 k8 a3)] (eO 0 1 k8 r) [.tail (r.length*1)]:=by
 refine Af aEa Tryz.func96 h ?_;refine At.J 3 1 [1,4,6] 0 (λp1=>([(3,(eL 1 k8 p1))],[],[])) (λp1=>?_) λp1=>?_
 ·apply lx;intro x2;refine At.c 3 ?_ ?_
  ·refine At.B 1 (bSl k8) λs3=>?_;apply rt;exact At.jn 1
  ·apply rt;exact At.jn 0
 ·refine At.y 5 aBd λr4=>?_;refine At.ownn 3 10 1 ?_;refine At.M 0 [] 1 (λp5=>([(10,(eO 0 1 k8 p5))],[(0,.tail (p5.length*1))],[])) [3,9] 1 (CU2 (eX N p1 r4)) (cu2 λs6 s7=>([(10,(eO 0 1 k8 s6)),(11,(j64 s7))],[(0,.tail (s6.length*1))],[])) (_,_) N (λp5 k=>un2 λs6 s7=>?_) λp5=>?_
  ·apply lx;intro x8;refine At.c 4 ?_ ?_
   ·refine At.D 0 [] ?_;refine DD.i hT 3 k8 λe9=>?_;refine DD.i hT 3 k8 λe10=>?_;refine DD.O 2 bRw ?_;refine DD.U 0 (bAp k8) λz11=>?_;refine De 1 ?_;exact λh=>At.v 3 (_,_) h
   ·apply rt;exact At.x 0
  ·apply rt;exact At.r 2
def kG(N:Nat)  : Nat->(List Int)->Option ((List Int))
 | 0,_=>none
 | k+1,s3=>
  aN (cj ((s3.length:Int)) 16) λx4=>
  cond (decide (x4 > 0)) (
   ae (fL 1 s3 (([0]:List Int))) λz5=>
   kG N k z5) (
   some s3)
def mL(N:Nat)(a0:(List Int)):Option ((List Int)):=
 ae (fL 1 (([]:List Int)) a0) λz1=>
 ae (kG N N z1) λp2=>
 some p2
theorem vS{N a0 r}(h:mL N a0=some r):FnM Tryz.prog 119 [] [(eL 1 k8 a0)] (eO 0 1 k8 r) [.tail (r.length*1)]:=by
 refine Af dK Tryz.func119 h ?_;refine At.o 1 (oJ hT k8 (k:=1) ([]:List Int) (by kernel_rfl) (by kernel_rfl)) ?_;refine At.U 1 (bAp k8) λz1=>?_;refine At.M 1 [] 1 (λp2=>([(3,(eO 0 1 k8 p2))],[(0,.tail (p2.length*1))],[])) [] 1 (kG N) (λ(s3:(List Int))=>([(3,(eO 0 1 k8 s3))],[(0,.tail (s3.length*1))],[])) _ N (λp2 k s3=>?_) λp2=>?_
 ·apply lx;intro x4;refine At.c 4 ?_ ?_
  ·refine At.O 1 bRw ?_;refine At.U 0 (bAp k8) λz5=>?_;exact λh=>At.v 1 _ h
  ·apply rt;exact At.x 0
 ·apply rt;exact At.r 2
def cM(N:Nat)  : Nat->(List Int)->Int->Int->Option ((List Int))
 | 0,_,_,_=>none
 | k+1,s2,s3,s4=>
  cond (decide (s4 < 8)) (
   ae (fL 1 s2 (([U8 (cj s3 256)]:List Int))) λz5=>
   cM N k z5 (I64 (de s3 256)) (I64 (s4+1))) (
   some s2)
def kO(N:Nat)(a0:Int):Option ((List Int)):=
 ae (cM N N [] a0 0) λp1=>
 some p1
theorem wP{N a0 r}(h:kO N a0=some r):FnM Tryz.prog 120 [] [(j64 a0)] (eL 1 k8 r) []:=by
 refine Af dK Tryz.func120 h ?_;refine At.ownn 3 3 1 ?_;refine At.M 0 [] 1 (λp1=>([(3,(eO 0 1 k8 p1))],[(0,.tail (p1.length*1))],[])) [] 1 (CU3 (cM N)) (cu3 λs2 s3 s4=>([(0,(j64 s3)),(3,(eO 0 1 k8 s2)),(4,(j64 s4))],[(0,.tail (s2.length*1))],[])) (_,_,_) N (λp1 k=>un3 λs2 s3 s4=>?_) λp1=>?_
 ·refine At.c 2 ?_ ?_
  ·refine At.O 4 bRw ?_;refine At.U 0 (bAp k8) λz5=>?_;exact λh=>At.v 7 (_,_,_) h
  ·apply rt;exact At.x 0
 ·apply rt;exact At.r 2
def aEb : Nat->Bool:=imL [2,3]
def iO(N:Nat)(r1:(Vector Int 64)):Nat->(Vector Int 32)->Int->Option ((Vector Int 32))
 | 0,_,_=>none
 | k+1,s3,s4=>
  cond (decide (s4 < 32)) (
   ae (aO s4 64) λ_=>
   ae (r1.toList[s4.toNat]?) λe6=>
   ae (aO s4 32) λ_=>
   ae (s3.toList[s4.toNat]?) λe8=>
   iO N r1 k (s3.setIfInBounds s4.toNat e6) (I64 (s4+1))) (
   some s3)
def sL(N:Nat)(a0:(Vector Int 32))(a1:(Vector Int 12)):Option ((Vector Int 32)):=
 ae (nO N a0 0 a1) λr1=>
 ae (iO N r1 N (ah 32 0) 0) λp2=>
 some p2
theorem aD0{N a0 a1 r}(h:sL N a0 a1=some r):FnM Tryz.prog 122 [] [(eA 32 1 k8 a0),(eA 12 1 k8 a1)] (eA 32 1 k8 r) []:=by
 refine Af aEb Tryz.func122 h ?_;refine At.y 5 xJ λr1=>?_;refine At.M 4 [4,6] 3 (λp2=>([],[(2,.var (eA 32 1 k8 p2))],[])) [4,5,6] 3 (CU2 (iO N r1)) (cu2 λs3 s4=>([(7,(j64 s4))],[(2,.var (eA 32 1 k8 s3))],[])) (_,_) N (λp2 k=>un2 λs3 s4=>?_) λp2=>?_
 ·refine At.c 2 ?_ ?_
  ·refine At.B 2 bAr λu5=>?_;refine At.U 0 (bLd k8 0) λe6=>?_;refine At.B 0 bAr λu7=>?_;refine At.U 0 (bSv k8 0 e6) λe8=>?_;exact λh=>At.v 3 (_,_) h
  ·apply rt;exact At.x 0
 ·apply rt;exact At.r 2
def jD(N:Nat)  : Nat->(Vector Int 16)->Int->Option ((Vector Int 16))
 | 0,_,_=>none
 | k+1,s2,s3=>
  cond (decide (s3 < 16)) (
   ae (ae (cond ((cj s3 4)==3) (
    ae (aO s3 16) λ_=>
    ae (s2.toList[s3.toNat]?) λe7=>
    ae (aO s3 16) λ_=>
    ae (s2.toList[s3.toNat]?) λe9=>
    some (s2.setIfInBounds s3.toNat (cj e7 16))) (
    some s2)) λp5=>
   aN (cond ((cj s3 4)==0) (decide (s3 > 0)) false) λx10=>
   cond x10 (
    ae (aO s3 16) λ_=>
    ae (p5.toList[s3.toNat]?) λe12=>
    aN (U8 ((U8 (de e12 4))*4)) λx13=>
    ae (aO s3 16) λ_=>
    ae (p5.toList[s3.toNat]?) λe15=>
    some (p5.setIfInBounds s3.toNat x13)) (
    some p5)) λp4=>
   jD N k p4 (I64 (s3+1))) (
   some s2)
def jK(N:Nat)(a0:(Vector Int 16)):Option ((Vector Int 16)):=
 ae (jD N N a0 0) λp1=>
 some p1
theorem aCG{N a0 r}(h:jK N a0=some r):FnM Tryz.prog 153 [] [(eA 16 1 k8 a0)] (eA 16 1 k8 r) []:=by
 refine Af dK Tryz.func153 h ?_;refine At.M 3 [1,2] 2 (λp1=>([],[(0,.var (eA 16 1 k8 p1))],[])) [1,2] 2 (CU2 (jD N)) (cu2 λs2 s3=>([(3,(j64 s3))],[(0,.var (eA 16 1 k8 s2))],[])) (_,_) N (λp1 k=>un2 λs2 s3=>?_) λp1=>?_
 ·refine At.c 2 ?_ ?_
  ·refine At.J 0 3 [1,2,3] 2 (λp4=>([],[(0,.var (eA 16 1 k8 p4))],[])) (λp4=>?_) λp4=>?_
   ·refine At.J 0 1 [1,2,3] 2 (λp5=>([],[(0,.var (eA 16 1 k8 p5))],[])) (λp5=>?_) λp5=>?_
    ·refine At.c 3 ?_ ?_
     ·refine At.B 2 bAr λu6=>?_;refine At.U 0 (bLd k8 0) λe7=>?_;refine At.B 1 bAr λu8=>?_;refine At.U 0 (bSv k8 0 (cj e7 16)) λe9=>?_;apply rt;exact At.jn 0
     ·apply rt;exact At.jn 0
    ·apply lx;intro x10;refine At.c 7 ?_ ?_
     ·refine At.B 2 bAr λu11=>?_;refine At.U 0 (bLd k8 0) λe12=>?_;apply lx;intro x13;refine At.B 2 bAr λu14=>?_;refine At.U 0 (bSv k8 0 x13) λe15=>?_;apply rt;exact At.jn 0
     ·apply rt;exact At.jn 0
   ·exact λh=>At.v 3 (_,_) h
  ·apply rt;exact At.x 0
 ·apply rt;exact At.r 2
def aCL : Nat->Bool:=imL [1]
def fT(N:Nat)(a0:(Vector Int 17)):Nat->(Vector Int 5)->Int->Option ((Vector Int 5))
 | 0,_,_=>none
 | k+1,s2,s3=>
  cond (decide (s3 < 136)) (
   ae (ae (idx a0.toList (I64 (de s3 8))) λe5=>
   ae (wY .u8 e5 (cj s3 8)) λx6=>
   aN (cond ((cF .u8 x6 1)==1) (decide (s3 < 130)) false) λx7=>
   cond x7 (
    ae (aO (I64 (de s3 26)) 5) λ_=>
    ae (s2.toList[(I64 (de s3 26)).toNat]?) λe9=>
    ae (aF1 .i64 1 (cj s3 26)) λx10=>
    ae (aO (I64 (de s3 26)) 5) λ_=>
    ae (s2.toList[(I64 (de s3 26)).toNat]?) λe12=>
    some (s2.setIfInBounds ((I64 (de s3 26)).toNat) (I64 (e9+x10)))) (
    some s2)) λp4=>
   fT N a0 k p4 (I64 (s3+1))) (
   some s2)
def kR(N:Nat)(a0:(Vector Int 17)):Option ((Vector Int 5)):=
 ae (fT N a0 N (ah 5 0) 0) λp1=>
 some p1
theorem vW{N a0 r}(h:kR N a0=some r):FnM Tryz.prog 154 [] [(eA 17 1 k8 a0)] (eA 5 1 j64 r) []:=by
 refine Af aCL Tryz.func154 h ?_;refine At.M 4 [2,3] 2 (λp1=>([],[(1,.var (eA 5 1 j64 p1))],[])) [1,2,3] 2 (CU2 (fT N a0)) (cu2 λs2 s3=>([(4,(j64 s3))],[(1,.var (eA 5 1 j64 s2))],[])) (_,_) N (λp1 k=>un2 λs2 s3=>?_) λp1=>?_
 ·refine At.c 2 ?_ ?_
  ·refine At.J 0 2 [1,2,3,4] 2 (λp4=>([],[(1,.var (eA 5 1 j64 p4))],[])) (λp4=>?_) λp4=>?_
   ·refine At.B 2 (bAi k8) λe5=>?_;refine At.B 3 bSr λx6=>?_;apply lx;intro x7;refine At.c 6 ?_ ?_
    ·refine At.D 0 [] ?_;refine DD.B 4 bAr λu8=>?_;refine DD.l hT 0 j64 j64 0 λe9=>?_;refine DD.B 2 bSh λx10=>?_;refine DD.B 1 bAr λu11=>?_;refine DD.U 0 (bSv j64 0 (I64 (e9+x10))) λe12=>?_;refine De 0 ?_;apply rt;exact At.jn 0
    ·apply rt;exact At.jn 0
   ·exact λh=>At.v 3 (_,_) h
  ·apply rt;exact At.x 0
 ·apply rt;exact At.r 2
def vC(N:Nat)(a0:(List Int)):Option ((List Int)):=
 aN (decide (((a0.length:Int)) > 65536)) λx1=>
 cond x1 (
  ae (dM a0 0 65536) λs2=>
  some s2) (
  some a0)
theorem aD9{N a0 r}(h:vC N a0=some r):FnM Tryz.prog 179 [] [(eL 1 k8 a0)] (eL 1 k8 r) []:=by
 refine Af dK Tryz.func179 h ?_;apply lx;intro x1;refine At.c 4 ?_ ?_
 ·refine At.B 1 (bSl k8) λs2=>?_;apply rt;exact At.r 1
 ·apply rt;exact At.r 2
def eN(N:Nat)(s4:Int)(r1:(List Int)):Nat->(Vector Int 17)->Int->Option ((Vector Int 17)×Int)
 | 0,_,_=>none
 | k+1,s7,s8=>
  aN (decide ((I64 (s4+s8)) < ((r1.length:Int)))) λx9=>
  aN (cond (decide (s8 < 16)) x9 false) λx10=>
  cond x10 (
   ae (idx r1 (I64 (s4+s8))) λe11=>
   ae (aO s8 17) λ_=>
   ae (s7.toList[s8.toNat]?) λe13=>
   eN N s4 r1 k (s7.setIfInBounds s8.toNat e11) (I64 (s8+1))) (
   some ((s7,s8)))
def fX(N:Nat)(r1:(List Int)):Nat->(List (Vector Int 17))->Int->Option ((List (Vector Int 17)))
 | 0,_,_=>none
 | k+1,s3,s4=>
  aN (decide (s4 < ((r1.length:Int)))) λx5=>
  cond x5 (
   ae (eN N s4 r1 N (ah 17 0) 0) λp6=>
   ae (aO p6.2 17) λ_=>
   ae (p6.1.toList[p6.2.toNat]?) λe15=>
   ae (fL 17 s3 (([p6.1.setIfInBounds p6.2.toNat 1]:List (Vector Int 17)))) λz16=>
   fX N r1 k z16 (I64 (s4+16))) (
   some s3)
def pF(N:Nat)(a0:(List Int)):Option ((List (Vector Int 17))):=
 ae (vC N a0) λr1=>
 ae (fX N r1 N [] 0) λp2=>
 some p2
theorem aBX{N a0 r}(h:pF N a0=some r):FnM Tryz.prog 155 [] [(eL 1 k8 a0)] (eL 17 (eA 17 1 k8) r) []:=by
 refine Af dK Tryz.func155 h ?_;refine At.y 2 aD9 λr1=>?_;refine At.ownn 3 3 17 ?_;refine At.M 0 [] 1 (λp2=>([(3,(eO 0 17 (eA 17 1 k8) p2))],[(0,.tail (p2.length*17))],[])) [0] 1 (CU2 (fX N r1)) (cu2 λs3 s4=>([(3,(eO 0 17 (eA 17 1 k8) s3)),(4,(j64 s4))],[(0,.tail (s3.length*17))],[])) (_,_) N (λp2 k=>un2 λs3 s4=>?_) λp2=>?_
 ·apply lx;intro x5;refine At.c 4 ?_ ?_
  ·refine At.M 2 [0,3,4,5] 2 (λp6=>([(6,(j64 p6.2))],[(1,.var (eA 17 1 k8 p6.1))],[])) [0,3,4,5] 2 (CU2 (eN N s4 r1)) (cu2 λs7 s8=>([(6,(j64 s8))],[(1,.var (eA 17 1 k8 s7))],[])) (_,_) N (λp6 k=>un2 λs7 s8=>?_) λp6=>?_
   ·apply lx;intro x9;apply lx;intro x10;refine At.c 10 ?_ ?_
    ·refine At.i hT 5 k8 λe11=>?_;refine At.B 1 bAr λu12=>?_;refine At.U 0 (bSv k8 0 e11) λe13=>?_;exact λh=>At.v 3 (_,_) h
    ·apply rt;exact At.x 0
   ·refine At.B 1 bAr λu14=>?_;refine At.U 0 (bSv k8 0 1) λe15=>?_;refine At.O 2 bRw ?_;refine At.U 0 (bAp (eA 17 1 k8)) λz16=>?_;exact λh=>At.v 4 (_,_) h
  ·apply rt;exact At.x 0
 ·apply rt;exact At.r 2
def bS(N:Nat)  : Nat->(Vector Int 5)->Int->Option ((Vector Int 5))
 | 0,_,_=>none
 | k+1,s5,s6=>
  cond (decide (s6 < 5)) (
   ae (ae (aO s6 5) λ_=>
   ae (s5.toList[s6.toNat]?) λe9=>
   ae (aO s6 5) λ_=>
   ae (s5.toList[s6.toNat]?) λe11=>
   aN (shl .i64 (shr .i64 e9 26) 26) λx12=>
   ae (aO s6 5) λ_=>
   ae (s5.toList[s6.toNat]?) λe14=>
   cond (decide (s6 < 4)) (
    ae (aO (I64 (s6+1)) 5) λ_=>
    ae ((s5.setIfInBounds s6.toNat (I64 (e11 - x12))).toList[(I64 (s6+1)).toNat]?) λe16=>
    aN (I64 (e16+(shr .i64 e9 26))) λx17=>
    ae (aO (I64 (s6+1)) 5) λ_=>
    ae ((s5.setIfInBounds s6.toNat (I64 (e11 - x12))).toList[(I64 (s6+1)).toNat]?) λe19=>
    some ((s5.setIfInBounds s6.toNat (I64 (e11 - x12))).setIfInBounds ((I64 (s6+1)).toNat) x17)) (
    ae (aO 0 5) λ_=>
    ae ((s5.setIfInBounds s6.toNat (I64 (e11 - x12))).toList[(ag 0)]?) λe21=>
    aN (I64 (5*(shr .i64 e9 26))) λx22=>
    ae (aO 0 5) λ_=>
    ae ((s5.setIfInBounds s6.toNat (I64 (e11 - x12))).toList[(ag 0)]?) λe24=>
    some ((s5.setIfInBounds s6.toNat (I64 (e11 - x12))).setIfInBounds ((ag 0)) (I64 (e21+x22))))) λp7=>
   bS N k p7 (I64 (s6+1))) (
   some s5)
def dX(N:Nat)  : Nat->(Vector Int 5)->Int->Option ((Vector Int 5))
 | 0,_,_=>none
 | k+1,s2,s3=>
  cond (decide (s3 < 3)) (
   ae (bS N N s2 0) λp4=>
   dX N k p4 (I64 (s3+1))) (
   some s2)
def lV(N:Nat)(a0:(Vector Int 5)):Option ((Vector Int 5)):=
 ae (dX N N a0 0) λp1=>
 some p1
theorem uU{N a0 r}(h:lV N a0=some r):FnM Tryz.prog 157 [] [(eA 5 1 j64 a0)] (eA 5 1 j64 r) []:=by
 refine Af dK Tryz.func157 h ?_;refine At.M 3 [1,2] 2 (λp1=>([],[(0,.var (eA 5 1 j64 p1))],[])) [1,2] 2 (CU2 (dX N)) (cu2 λs2 s3=>([(3,(j64 s3))],[(0,.var (eA 5 1 j64 s2))],[])) (_,_) N (λp1 k=>un2 λs2 s3=>?_) λp1=>?_
 ·refine At.c 2 ?_ ?_
  ·refine At.M 1 [1,2,3] 2 (λp4=>([],[(0,.var (eA 5 1 j64 p4))],[])) [1,2,3] 2 (CU2 (bS N)) (cu2 λs5 s6=>([(4,(j64 s6))],[(0,.var (eA 5 1 j64 s5))],[])) (_,_) N (λp4 k=>un2 λs5 s6=>?_) λp4=>?_
   ·refine At.c 2 ?_ ?_
    ·refine At.J 0 2 [1,2,3,4] 2 (λp7=>([],[(0,.var (eA 5 1 j64 p7))],[])) (λp7=>?_) λp7=>?_
     ·refine At.B 1 bAr λu8=>?_;refine At.U 0 (bLd j64 0) λe9=>?_;refine At.B 4 bAr λu10=>?_;refine At.U 0 (bLd j64 0) λe11=>?_;apply lx;intro x12;refine At.B 3 bAr λu13=>?_;refine At.U 0 (bSv j64 0 (I64 (e11 - x12))) λe14=>?_;refine At.c 2 ?_ ?_
      ·refine At.B 4 bAr λu15=>?_;refine At.U 0 (bLd j64 0) λe16=>?_;apply lx;intro x17;refine At.B 2 bAr λu18=>?_;refine At.U 0 (bSv j64 0 x17) λe19=>?_;apply rt;exact At.jn 0
      ·refine At.B 0 bAr λu20=>?_;refine At.U 0 (bLd j64 0) λe21=>?_;apply lx;intro x22;refine At.B 3 bAr λu23=>?_;refine At.U 0 (bSv j64 0 (I64 (e21+x22))) λe24=>?_;apply rt;exact At.jn 0
     ·exact λh=>At.v 3 (_,_) h
    ·apply rt;exact At.x 0
   ·exact λh=>At.v 3 (_,_) h
  ·apply rt;exact At.x 0
 ·apply rt;exact At.r 2
def aDA : Nat->Bool:=imL [2,3]
def aI(N:Nat)(a0:(Vector Int 5))(s3:Int)(a1:(Vector Int 5)):Nat->(Vector Int 5)->Int->Option ((Vector Int 5))
 | 0,_,_=>none
 | k+1,s5,s6=>
  cond (decide (s6 < 5)) (
   ae (idx a0.toList s3) λe7=>
   ae (idx a1.toList s6) λe8=>
   ae (aN (decide ((I64 (s3+s6))>=5)) λx10=>
   cond x10 (
    aN (I64 (5*(I64 (e7*e8)))) λx11=>
    some x11) (
    some (I64 (e7*e8)))) λp9=>
   aN (cj (I64 (s3+s6)) 5) λx12=>
   aN (cj (I64 (s3+s6)) 5) λx13=>
   ae (aO x13 5) λ_=>
   ae (s5.toList[x13.toNat]?) λe15=>
   ae (aO x12 5) λ_=>
   ae (s5.toList[x12.toNat]?) λe17=>
   aI N a0 s3 a1 k (s5.setIfInBounds x12.toNat (I64 (e15+p9))) (I64 (s6+1))) (
   some s5)
def cH(N:Nat)(a0 a1:(Vector Int 5)):Nat->(Vector Int 5)->Int->Option ((Vector Int 5))
 | 0,_,_=>none
 | k+1,s2,s3=>
  cond (decide (s3 < 5)) (
   ae (aI N a0 s3 a1 N s2 0) λp4=>
   cH N a0 a1 k p4 (I64 (s3+1))) (
   some s2)
def qL(N:Nat)(a0 a1:(Vector Int 5)):Option ((Vector Int 5)):=
 ae (cH N a0 a1 N (ah 5 0) 0) λp1=>
 ae (lV N p1) λr18=>
 some r18
theorem aCV{N a0 a1 r}(h:qL N a0 a1=some r):FnM Tryz.prog 156 [] [(eA 5 1 j64 a0),(eA 5 1 j64 a1)] (eA 5 1 j64 r) []:=by
 refine Af aDA Tryz.func156 h ?_;refine At.M 5 [4,5] 2 (λp1=>([],[(1,.var (eA 5 1 j64 p1))],[])) [2,3,4,5] 2 (CU2 (cH N a0 a1)) (cu2 λs2 s3=>([(6,(j64 s3))],[(1,.var (eA 5 1 j64 s2))],[])) (_,_) N (λp1 k=>un2 λs2 s3=>?_) λp1=>?_
 ·refine At.c 2 ?_ ?_
  ·refine At.M 1 [2,3,4,5,6] 2 (λp4=>([],[(1,.var (eA 5 1 j64 p4))],[])) [2,3,4,5,6] 2 (CU2 (aI N a0 s3 a1)) (cu2 λs5 s6=>([(7,(j64 s6))],[(1,.var (eA 5 1 j64 s5))],[])) (_,_) N (λp4 k=>un2 λs5 s6=>?_) λp4=>?_
   ·refine At.c 2 ?_ ?_
    ·refine At.D 0 [] ?_;refine DD.B 1 (bAi j64) λe7=>?_;refine DD.B 2 (bAi j64) λe8=>?_;refine De 3 ?_;refine At.J 0 1 [2,3,4,5,6,7] 2 (λp9=>([(8,(j64 p9))],[],[])) (λp9=>?_) λp9=>?_
     ·apply lx;intro x10;refine At.c 4 ?_ ?_
      ·apply lx;intro x11;apply rt;exact At.jn 3
      ·apply rt;exact At.jn 0
     ·apply lx;intro x12;apply lx;intro x13;refine At.B 8 bAr λu14=>?_;refine At.U 0 (bLd j64 0) λe15=>?_;refine At.B 2 bAr λu16=>?_;refine At.U 0 (bSv j64 0 (I64 (e15+p9))) λe17=>?_;exact λh=>At.v 3 (_,_) h
    ·apply rt;exact At.x 0
   ·exact λh=>At.v 3 (_,_) h
  ·apply rt;exact At.x 0
 ·refine At.y 1 uU λr18=>?_;apply rt;exact At.r 1
def cT(N:Nat)  : Nat->(Vector Int 5)->Int->Option ((Vector Int 5))
 | 0,_,_=>none
 | k+1,s10,s11=>
  cond (decide (s11 < 4)) (
   ae (aO s11 5) λ_=>
   ae (s10.toList[s11.toNat]?) λe13=>
   ae (aO s11 5) λ_=>
   ae (s10.toList[s11.toNat]?) λe15=>
   aN (shl .i64 (shr .i64 e13 26) 26) λx16=>
   ae (aO s11 5) λ_=>
   ae (s10.toList[s11.toNat]?) λe18=>
   ae (aO (I64 (s11+1)) 5) λ_=>
   ae ((s10.setIfInBounds s11.toNat (I64 (e15 - x16))).toList[(I64 (s11+1)).toNat]?) λe20=>
   aN (I64 (e20+(shr .i64 e13 26))) λx21=>
   ae (aO (I64 (s11+1)) 5) λ_=>
   ae ((s10.setIfInBounds s11.toNat (I64 (e15 - x16))).toList[(I64 (s11+1)).toNat]?) λe23=>
   cT N k ((s10.setIfInBounds s11.toNat (I64 (e15 - x16))).setIfInBounds ((I64 (s11+1)).toNat) x21) (I64 (s11+1))) (
   some s10)
def cU(N:Nat)  : Nat->(Vector Int 5)->Int->Option ((Vector Int 5))
 | 0,_,_=>none
 | k+1,s2,s3=>
  cond (decide (s3 < 2)) (
   ae (ae (aO 0 5) λ_=>
   ae (s2.toList[(ag 0)]?) λe6=>
   ae (aO 0 5) λ_=>
   ae (s2.toList[(ag 0)]?) λe8=>
   ae (cT N N (s2.setIfInBounds ((ag 0)) (I64 (e6+5))) 0) λp9=>
   ae (aO 4 5) λ_=>
   ae (p9.toList[(ag 4)]?) λe25=>
   aN (decide (e25>=67108864)) λx26=>
   cond x26 (
    ae (aO 4 5) λ_=>
    ae (p9.toList[(ag 4)]?) λe28=>
    ae (aO 4 5) λ_=>
    ae (p9.toList[(ag 4)]?) λe30=>
    some ((p9.setIfInBounds ((ag 4)) (I64 (e28 - 67108864)),p9.setIfInBounds ((ag 4)) (I64 (e28 - 67108864))))) (
    some ((s2,p9)))) λp4=>
   cU N k p4.1 (I64 (s3+1))) (
   some s2)
def qG(N:Nat)(a0:(Vector Int 5)):Option ((Vector Int 5)):=
 ae (cU N N a0 0) λp1=>
 some p1
theorem aCS{N a0 r}(h:qG N a0=some r):FnM Tryz.prog 158 [] [(eA 5 1 j64 a0)] (eA 5 1 j64 r) []:=by
 refine Af dK Tryz.func158 h ?_;refine At.M 3 [1,2] 2 (λp1=>([],[(0,.var (eA 5 1 j64 p1))],[])) [1,2] 2 (CU2 (cU N)) (cu2 λs2 s3=>([(3,(j64 s3))],[(0,.var (eA 5 1 j64 s2))],[])) (_,_) N (λp1 k=>un2 λs2 s3=>?_) λp1=>?_
 ·refine At.c 2 ?_ ?_
  ·refine At.J 0 2 [1,2,3] 2 (λp4=>([],[(0,.var (eA 5 1 j64 p4.1))],[.var (eA 5 1 j64 p4.2)])) (λp4=>?_) λp4=>?_
   ·refine At.B 3 bAr λu5=>?_;refine At.U 0 (bLd j64 0) λe6=>?_;refine At.B 1 bAr λu7=>?_;refine At.U 0 (bSv j64 0 (I64 (e6+5))) λe8=>?_;refine At.M 1 [1,2,3,4] 3 (λp9=>([],[(2,.var (eA 5 1 j64 p9))],[])) [1,2,3,4] 3 (CU2 (cT N)) (cu2 λs10 s11=>([(5,(j64 s11))],[(2,.var (eA 5 1 j64 s10))],[])) (_,_) N (λp9 k=>un2 λs10 s11=>?_) λp9=>?_
    ·refine At.c 2 ?_ ?_
     ·refine At.B 1 bAr λu12=>?_;refine At.U 0 (bLd j64 0) λe13=>?_;refine At.B 4 bAr λu14=>?_;refine At.U 0 (bLd j64 0) λe15=>?_;apply lx;intro x16;refine At.B 3 bAr λu17=>?_;refine At.U 0 (bSv j64 0 (I64 (e15 - x16))) λe18=>?_;refine At.B 4 bAr λu19=>?_;refine At.U 0 (bLd j64 0) λe20=>?_;apply lx;intro x21;refine At.B 2 bAr λu22=>?_;refine At.U 0 (bSv j64 0 x21) λe23=>?_;exact λh=>At.v 3 (_,_) h
     ·apply rt;exact At.x 0
    ·refine At.B 0 bAr λu24=>?_;refine At.U 0 (bLd j64 0) λe25=>?_;apply lx;intro x26;refine At.c 1 ?_ ?_
     ·refine At.B 0 bAr λu27=>?_;refine At.U 0 (bLd j64 0) λe28=>?_;refine At.B 1 bAr λu29=>?_;refine At.U 0 (bSv j64 0 (I64 (e28 - 67108864))) λe30=>?_;apply rt;exact At.jn 2
     ·apply rt;exact At.jn 0
   ·exact λh=>At.v 3 (_,_) h
  ·apply rt;exact At.x 0
 ·apply rt;exact At.r 2
def aEo : Nat->Bool:=imL [2]
def iL(N:Nat)(a0:(Vector Int 32)):Nat->(Vector Int 16)->Int->Option ((Vector Int 16))
 | 0,_,_=>none
 | k+1,s2,s3=>
  cond (decide (s3 < 16)) (
   ae (idx a0.toList s3) λe4=>
   ae (aO s3 16) λ_=>
   ae (s2.toList[s3.toNat]?) λe6=>
   iL N a0 k (s2.setIfInBounds s3.toNat e4) (I64 (s3+1))) (
   some s2)
def iP(N:Nat)(r7:(Vector Int 16)):Nat->(Vector Int 17)->Int->Option ((Vector Int 17))
 | 0,_,_=>none
 | k+1,s9,s10=>
  cond (decide (s10 < 16)) (
   ae (aO s10 16) λ_=>
   ae (r7.toList[s10.toNat]?) λe12=>
   ae (aO s10 17) λ_=>
   ae (s9.toList[s10.toNat]?) λe14=>
   iP N r7 k (s9.setIfInBounds s10.toNat e12) (I64 (s10+1))) (
   some s9)
def cV(N:Nat)(s18:(Vector Int 5)):Nat->(Vector Int 5)->Int->Option ((Vector Int 5))
 | 0,_,_=>none
 | k+1,s24,s25=>
  cond (decide (s25 < 5)) (
   ae (aO s25 5) λ_=>
   ae (s24.toList[s25.toNat]?) λe27=>
   ae (aO s25 5) λ_=>
   ae (s18.toList[s25.toNat]?) λe29=>
   ae (aO s25 5) λ_=>
   ae (s24.toList[s25.toNat]?) λe31=>
   cV N s18 k (s24.setIfInBounds s25.toNat (I64 (e27+e29))) (I64 (s25+1))) (
   some s24)
def kM(N:Nat)(r16:(List (Vector Int 17)))(r15:(Vector Int 5)):Nat->(Vector Int 5)->Int->Option ((Vector Int 5))
 | 0,_,_=>none
 | k+1,s18,s19=>
  aN (decide (s19 < ((r16.length:Int)))) λx20=>
  cond x20 (
   ae (idx r16 s19) λe21=>
   ae (kR N e21) λr22=>
   ae (cV N s18 N r22 0) λp23=>
   ae (lV N p23) λr32=>
   ae (qL N r32 r15) λr33=>
   kM N r16 r15 k r33 (I64 (s19+1))) (
   some s18)
def fB(N:Nat)(s38:Int)(r34:(Vector Int 5)):Nat->Int->Int->Option (Int)
 | 0,_,_=>none
 | k+1,s41,s42=>
  cond (decide (s42 < 8)) (
   aN (I64 ((I64 (8*s38))+s42)) λx43=>
   ae (aO (I64 (de x43 26)) 5) λ_=>
   ae (r34.toList[(I64 (de x43 26)).toNat]?) λe45=>
   ae (wY .i64 e45 (cj x43 26)) λx46=>
   ae (aF1 .i64 (cF .i64 x46 1) s42) λx47=>
   fB N s38 r34 k (I64 (s41+x47)) (I64 (s42+1))) (
   some s41)
def iR(N:Nat)(a0:(Vector Int 32))(r34:(Vector Int 5)):Nat->(Vector Int 16)->Int->Int->Option ((Vector Int 16))
 | 0,_,_,_=>none
 | k+1,s36,s37,s38=>
  cond (decide (s38 < 16)) (
   ae (idx a0.toList (I64 (16+s38))) λe39=>
   ae (fB N s38 r34 N (I64 ((I64 e39)+s37)) 0) λp40=>
   ae (aO s38 16) λ_=>
   ae (s36.toList[s38.toNat]?) λe49=>
   iR N a0 r34 k (s36.setIfInBounds s38.toNat (U8 p40)) (shr .i64 p40 8) (I64 (s38+1))) (
   some s36)
def sE(N:Nat)(a0:(Vector Int 32))(a1:(List Int)):Option ((Vector Int 16)):=
 ae (iL N a0 N (ah 16 0) 0) λp1=>
 ae (jK N p1) λr7=>
 ae (iP N r7 N (ah 17 0) 0) λp8=>
 ae (kR N p8) λr15=>
 ae (pF N a1) λr16=>
 ae (kM N r16 r15 N (ah 5 0) 0) λp17=>
 ae (qG N p17) λr34=>
 ae (iR N a0 r34 N (ah 16 0) 0 0) λp35=>
 some p35
theorem aDy{N a0 a1 r}(h:sE N a0 a1=some r):FnM Tryz.prog 121 [] [(eA 32 1 k8 a0),(eL 1 k8 a1)] (eA 16 1 k8 r) []:=by
 refine Af aEo Tryz.func121 h ?_;refine At.M 4 [1,2,4,5] 2 (λp1=>([],[(1,.var (eA 16 1 k8 p1))],[])) [1,2,4,5] 2 (CU2 (iL N a0)) (cu2 λs2 s3=>([(6,(j64 s3))],[(1,.var (eA 16 1 k8 s2))],[])) (_,_) N (λp1 k=>un2 λs2 s3=>?_) λp1=>?_
 ·refine At.c 2 ?_ ?_
  ·refine At.B 2 (bAi k8) λe4=>?_;refine At.B 1 bAr λu5=>?_;refine At.U 0 (bSv k8 0 e4) λe6=>?_;exact λh=>At.v 3 (_,_) h
  ·apply rt;exact At.x 0
 ·refine At.y 1 aCG λr7=>?_;refine At.M 3 [1,2,4,7] 3 (λp8=>([],[(2,.var (eA 17 1 k8 p8))],[])) [1,2,4,5,7] 3 (CU2 (iP N r7)) (cu2 λs9 s10=>([(8,(j64 s10))],[(2,.var (eA 17 1 k8 s9))],[])) (_,_) N (λp8 k=>un2 λs9 s10=>?_) λp8=>?_
  ·refine At.c 2 ?_ ?_
   ·refine At.B 2 bAr λu11=>?_;refine At.U 0 (bLd k8 0) λe12=>?_;refine At.B 0 bAr λu13=>?_;refine At.U 0 (bSv k8 0 e12) λe14=>?_;exact λh=>At.v 3 (_,_) h
   ·apply rt;exact At.x 0
  ·refine At.y 1 vW λr15=>?_;refine At.y 4 aBX λr16=>?_;refine At.M 2 [2,4,10] 5 (λp17=>([],[(4,.var (eA 5 1 j64 p17))],[])) [2,4,9,10,11] 5 (CU2 (kM N r16 r15)) (cu2 λs18 s19=>([(12,(j64 s19))],[(4,.var (eA 5 1 j64 s18))],[])) (_,_) N (λp17 k=>un2 λs18 s19=>?_) λp17=>?_
   ·apply lx;intro x20;refine At.c 4 ?_ ?_
    ·refine At.i hT 2 (eA 17 1 k8) λe21=>?_;refine At.y 1 vW λr22=>?_;refine At.M 3 [2,4,9,10,11,12,13] 6 (λp23=>([],[(5,.var (eA 5 1 j64 p23))],[])) [2,4,9,10,11,12,13] 6 (CU2 (cV N s18)) (cu2 λs24 s25=>([(14,(j64 s25))],[(5,.var (eA 5 1 j64 s24))],[])) (_,_) N (λp23 k=>un2 λs24 s25=>?_) λp23=>?_
     ·refine At.c 2 ?_ ?_
      ·refine At.D 0 [] ?_;refine DD.B 2 bAr λu26=>?_;refine DD.l hT 0 j64 j64 0 λe27=>?_;refine DD.B 1 bAr λu28=>?_;refine DD.l hT 0 j64 j64 0 λe29=>?_;refine DD.B 1 bAr λu30=>?_;refine DD.U 0 (bSv j64 0 (I64 (e27+e29))) λe31=>?_;refine De 0 ?_;exact λh=>At.v 3 (_,_) h
      ·apply rt;exact At.x 0
     ·refine At.D 0 [] ?_;refine DD.y 1 uU λr32=>?_;refine DD.y 1 aCV λr33=>?_;refine De 1 ?_;exact λh=>At.v 3 (_,_) h
    ·apply rt;exact At.x 0
   ·refine At.y 1 aCS λr34=>?_;refine At.M 4 [4,15] 6 (λp35=>([],[(5,.var (eA 16 1 k8 p35))],[])) [2,4,10,15] 6 (CU3 (iR N a0 r34)) (cu3 λs36 s37 s38=>([(16,(j64 s37)),(17,(j64 s38))],[(5,.var (eA 16 1 k8 s36))],[])) (_,_,_) N (λp35 k=>un3 λs36 s37 s38=>?_) λp35=>?_
    ·refine At.c 2 ?_ ?_
     ·refine At.B 2 (bAi k8) λe39=>?_;refine At.M 6 [2,4,10,15,17] 6 (λp40=>([(18,(j64 p40))],[],[])) [2,4,10,15,17] 6 (CU2 (fB N s38 r34)) (cu2 λs41 s42=>([(18,(j64 s41)),(19,(j64 s42))],[],[])) (_,_) N (λp40 k=>un2 λs41 s42=>?_) λp40=>?_
      ·refine At.c 2 ?_ ?_
       ·apply lx;intro x43;refine At.B 8 bAr λu44=>?_;refine At.U 0 (bLd j64 0) λe45=>?_;refine At.B 2 bSr λx46=>?_;refine At.B 2 bSh λx47=>?_;exact λh=>At.v 5 (_,_) h
       ·apply rt;exact At.x 0
      ·refine At.B 3 bAr λu48=>?_;refine At.U 0 (bSv k8 0 (U8 p40)) λe49=>?_;exact λh=>At.v 6 (_,_,_) h
     ·apply rt;exact At.x 0
    ·apply rt;exact At.r 2
def aEt : Nat->Bool:=imL [4,5]
def qA(N:Nat)(a0:(Vector Int 32))(a1:(Vector Int 12))(a2 a3:(List Int)):Option ((Vector Int 16)):=
 ae (mL N a2) λr1=>
 ae (mL N a3) λr2=>
 ae (fL 1 r1 r2) λz3=>
 ae (kO N ((a2.length:Int))) λr4=>
 ae (fL 1 z3 r4) λz5=>
 ae (sL N a0 a1) λr6=>
 ae (kO N ((a3.length:Int))) λr7=>
 ae (fL 1 z5 r7) λz8=>
 ae (sE N r6 z8) λr9=>
 some r9
theorem aEO{N a0 a1 a2 a3 r}(h:qA N a0 a1 a2 a3=some r):FnM Tryz.prog 97 [] [(eA 32 1 k8 a0),(eA 12 1 k8 a1),(eL 1 k8 a2),(eL 1 k8 a3)] (eA 16 1 k8 r) []:=by
 refine Af aEt Tryz.func97 h ?_;refine At.Y 4 [] vS λr1=>?_;refine At.Y 1 [] vS λr2=>?_;refine At.U 0 (bAp k8) λz3=>?_;refine At.y 4 wP λr4=>?_;refine At.U 0 (bAp k8) λz5=>?_;refine At.y 3 aD0 λr6=>?_;refine At.y 3 wP λr7=>?_;refine At.U 0 (bAp k8) λz8=>?_;refine At.y 0 aDy λr9=>?_;apply rt;exact At.r 1
def aDk : Nat->Bool:=imL [4,5]
def fQ(N:Nat)(r4:(Vector Int 16)):Nat->(List Int)->Int->Option ((List Int))
 | 0,_,_=>none
 | k+1,s6,s7=>
  cond (decide (s7 < 16)) (
   ae (aO s7 16) λ_=>
   ae (r4.toList[s7.toNat]?) λe9=>
   ae (fL 1 s6 (([e9]:List Int))) λz10=>
   fQ N r4 k z10 (I64 (s7+1))) (
   some s6)
def oR(N:Nat)(a0:(Vector Int 32))(a1:(Vector Int 12))(a2 a3:(List Int)):Option ((List Int)×Int):=
 aN (decide (((a2.length:Int)) > 16384)) λx1=>
 aN (decide (((a3.length:Int)) > 16384)) λx2=>
 cond (cond x1 true x2) (
  some (([],3))) (
  ae (sU N a0 1 a1 a3) λr3=>
  ae (qA N a0 a1 a2 r3) λr4=>
  ae (fQ N r4 N r3 0) λp5=>
  some ((p5,0)))
theorem yL{N a0 a1 a2 a3 r}(h:oR N a0 a1 a2 a3=some r):FnM Tryz.prog 59 [] [(eA 32 1 k8 a0),(eA 12 1 k8 a1),(eL 1 k8 a2),(eL 1 k8 a3)] (.tup [(eL 1 k8 r.1),(j64 r.2)]) []:=by
 refine Af aDk Tryz.func59 h ?_;apply lx;intro x1;apply lx;intro x2;refine At.c 12 ?_ ?_
 ·apply rt;exact At.r 2
 ·refine At.Y 3 [] aET λr3=>?_;refine At.y 5 aEO λr4=>?_;refine At.M 3 [] 2 (λp5=>([(10,(eO 0 1 k8 p5))],[(0,.tail (p5.length*1))],[])) [11] 2 (CU2 (fQ N r4)) (cu2 λs6 s7=>([(10,(eO 0 1 k8 s6)),(12,(j64 s7))],[(0,.tail (s6.length*1))],[])) (_,_) N (λp5 k=>un2 λs6 s7=>?_) λp5=>?_
  ·refine At.c 2 ?_ ?_
   ·refine At.B 2 bAr λu8=>?_;refine At.U 0 (bLd k8 0) λe9=>?_;refine At.O 0 bRw ?_;refine At.U 0 (bAp k8) λz10=>?_;exact λh=>At.v 4 (_,_) h
   ·apply rt;exact At.x 0
  ·apply rt;exact At.r 3
def rJ(N:Nat)(a0 a1:Int):Option ((List Int)):=
 aN (U8 (I64 (de a0 256))) λx1=>
 aN (U8 (I64 (de a1 256))) λx2=>
 some ([U8 (cj a0 256),x1,U8 (cj a1 256),x2])
theorem aDP{N a0 a1 r}(h:rJ N a0 a1=some r):FnM Tryz.prog 61 [] [(j64 a0),(j64 a1)] (eL 1 k8 r) []:=by
 refine Af dK Tryz.func61 h ?_;apply lx;intro x1;apply lx;intro x2;refine At.O 13 bRw ?_;apply rt;exact At.r 1
def aEW : Nat->Bool:=imL [4,5]
def iK(N:Nat)(a1:(Vector Int 8)):Nat->(List Int)->Int->Option ((List Int))
 | 0,_,_=>none
 | k+1,s2,s3=>
  cond (decide (s3 < 8)) (
   ae (idx a1.toList s3) λe4=>
   ae (fL 1 s2 (([e4]:List Int))) λz5=>
   iK N a1 k z5 (I64 (s3+1))) (
   some s2)
def kS(N:Nat)(a3:(List Int))(a1:(Vector Int 8))(r8:(List Int)×Int)(a0:(Vector Int 32)):Nat->(List Int)->Int->Option ((List Int))
 | 0,_,_=>none
 | k+1,s11,s12=>
  aN (decide ((I64 (s12*256)) < ((a3.length:Int)))) λx13=>
  cond x13 (
   aN (I64 ((I64 (s12*256))+256)) λx14=>
   aN (lH x14 ((a3.length:Int))) λx15=>
   ae (dM a3 (I64 (s12*256)) x15) λs16=>
   ae (rJ N s12 ((s16.length:Int))) λr17=>
   ae (lM N a1 (I64 (s12+1))) λr18=>
   ae (fL 1 (([]:List Int)) r17) λz19=>
   ae (fL 1 z19 r8.1) λz20=>
   ae (oR N a0 r18 z20 s16) λr21=>
   ae (fL 1 s11 r17) λz22=>
   ae (fL 1 z22 r21.1) λz23=>
   kS N a3 a1 r8 a0 k z23 (I64 (s12+1))) (
   some s11)
def sJ(N:Nat)(a0:(Vector Int 32))(a1:(Vector Int 8))(a2 a3:(List Int)):Option ((List Int)):=
 ae (iK N a1 N (([85,77,66,49]:List Int)) 0) λp1=>
 ae (fL 1 p1 a2) λz6=>
 ae (lM N a1 0) λr7=>
 ae (oR N a0 r7 z6 []) λr8=>
 ae (fL 1 z6 r8.1) λz9=>
 ae (kS N a3 a1 r8 a0 N z9 0) λp10=>
 some p10
theorem aEQ{N a0 a1 a2 a3 r}(h:sJ N a0 a1 a2 a3=some r):FnM Tryz.prog 34 [] [(eA 32 1 k8 a0),(eA 8 1 k8 a1),(eL 1 k8 a2),(eL 1 k8 a3)] (eL 1 k8 r) []:=by
 refine Af aEW Tryz.func34 h ?_;refine At.o 3 (oJ hT k8 (k:=1) ([85,77,66,49]:List Int) (by kernel_rfl) (by kernel_rfl)) ?_;refine At.M 2 [2,3,4,5] 1 (λp1=>([(9,(eO 0 1 k8 p1))],[(0,.tail (p1.length*1))],[])) [2,3,4,5] 1 (CU2 (iK N a1)) (cu2 λs2 s3=>([(9,(eO 0 1 k8 s2)),(10,(j64 s3))],[(0,.tail (s2.length*1))],[])) (_,_) N (λp1 k=>un2 λs2 s3=>?_) λp1=>?_
 ·refine At.c 2 ?_ ?_
  ·refine At.B 2 (bAi k8) λe4=>?_;refine At.O 1 bRw ?_;refine At.U 0 (bAp k8) λz5=>?_;exact λh=>At.v 4 (_,_) h
  ·apply rt;exact At.x 0
 ·refine At.U 2 (bAp k8) λz6=>?_;refine At.D 1 [] ?_;refine DD.y 2 xE λr7=>?_;refine DD.y 1 yL λr8=>?_;refine De 5 ?_;refine At.U 2 (bAp k8) λz9=>?_;refine At.M 2 [] 1 (λp10=>([(9,(eO 0 1 k8 p10))],[(0,.tail (p10.length*1))],[])) [3,4,5,11] 1 (CU2 (kS N a3 a1 r8 a0)) (cu2 λs11 s12=>([(9,(eO 0 1 k8 s11)),(13,(j64 s12))],[(0,.tail (s11.length*1))],[])) (_,_) N (λp10 k=>un2 λs11 s12=>?_) λp10=>?_
  ·apply lx;intro x13;refine At.c 5 ?_ ?_
   ·apply lx;intro x14;apply lx;intro x15;refine At.B 9 (bSl k8) λs16=>?_;refine At.y 4 aDP λr17=>?_;refine At.D 1 [] ?_;refine DD.y 4 xE λr18=>?_;refine DD.N 0 1 (λι=>(eO ι 1 k8 (([]:List Int)))) _ (λ_=>oJ hT k8 (k:=1) ([]:List Int) (by kernel_rfl) (by kernel_rfl)) ?_;refine DD.U 1 (bAp k8) λz19=>?_;refine DD.U 1 (bAp k8) λz20=>?_;refine DD.y 1 yL λr21=>?_;refine De 5 ?_;refine At.U 2 (bAp k8) λz22=>?_;refine At.U 1 (bAp k8) λz23=>?_;exact λh=>At.v 4 (_,_) h
   ·apply rt;exact At.x 0
  ·apply rt;exact At.r 2
def aD1 : Nat->Bool:=imL [4,5,7]
def rK(N:Nat)(a0:(Vector Int 32))(a1:(Vector Int 8))(a2:aF)(a3:aE):Option ((List Int)×Int):=
 ae (pG N a3) λr1=>
 cond (r1.2 != 0) (
  some (([],r1.2))) (
  cond (a2.gC != a3.gC) (
   some (([],12))) (
   ae (mP N ((r1.1.length:Int))) λr2=>
   ae (mJ N (aF.mk a2.gId a2.gC a2.gA6 a2.gA3 a2.gA4 a2.gTo ((r1.1.length:Int)) r2)) λr3=>
   cond (r3.2 != 0) (
    some (([],r3.2))) (
    ae (sJ N a0 a1 r3.1 r1.1) λr4=>
    some ((r4,0)))))
theorem aC5{N a0 a1 a2 a3 r}(h:rK N a0 a1 a2 a3=some r):FnM Tryz.prog 14 [] [(eA 32 1 k8 a0),(eA 8 1 k8 a1),(aF.enc a2),(aE.enc a3)] (.tup [(eL 1 k8 r.1),(j64 r.2)]) []:=by
 refine Af aD1 Tryz.func14 h ?_;refine At.y 7 aBV λr1=>?_;refine At.c 7 ?_ ?_
 ·apply rt;exact At.r 3
 ·refine At.c 5 ?_ ?_
  ·apply rt;exact At.r 2
  ·refine At.y 6 vR λr2=>?_;refine At.y 3 aBo λr3=>?_;refine At.c 7 ?_ ?_
   ·apply rt;exact At.r 3
   ·refine At.y 4 aEQ λr4=>?_;apply rt;exact At.r 2
def aDE : Nat->Bool:=imL [4,6,7]
def fF(N:Nat)(r1:(Vector Int 32)):Nat->(Vector Int 8)->Int->Option ((Vector Int 8))
 | 0,_,_=>none
 | k+1,s3,s4=>
  cond (decide (s4 < 8)) (
   ae (aO s4 32) λ_=>
   ae (r1.toList[s4.toNat]?) λe6=>
   ae (aO s4 8) λ_=>
   ae (s3.toList[s4.toNat]?) λe8=>
   fF N r1 k (s3.setIfInBounds s4.toNat e6) (I64 (s4+1))) (
   some s3)
def qP(N:Nat)(a0:(Vector Int 32))(a1:(List Int))(a2:aF)(a3:aE):Option ((List Int)×Int):=
 ae (jQ N a1) λr1=>
 ae (fF N r1 N (ah 8 0) 0) λp2=>
 ae (rV N a0) λr9=>
 ae (rK N r9 p2 a2 a3) λr10=>
 some ((r10.1,r10.2))
theorem aCI{N a0 a1 a2 a3 r}(h:qP N a0 a1 a2 a3=some r):FnM Tryz.prog 6 [] [(eA 32 1 k8 a0),(eL 1 k8 a1),(aF.enc a2),(aE.enc a3)] (.tup [(eL 1 k8 r.1),(j64 r.2)]) []:=by
 refine Af aDE Tryz.func6 h ?_;refine At.y 6 rD λr1=>?_;refine At.M 4 [4,6,7,11] 2 (λp2=>([],[(1,.var (eA 8 1 k8 p2))],[])) [4,6,7,10,11] 2 (CU2 (fF N r1)) (cu2 λs3 s4=>([(12,(j64 s4))],[(1,.var (eA 8 1 k8 s3))],[])) (_,_) N (λp2 k=>un2 λs3 s4=>?_) λp2=>?_
 ·refine At.c 2 ?_ ?_
  ·refine At.B 2 bAr λu5=>?_;refine At.U 0 (bLd k8 0) λe6=>?_;refine At.B 0 bAr λu7=>?_;refine At.U 0 (bSv k8 0 e6) λe8=>?_;exact λh=>At.v 3 (_,_) h
  ·apply rt;exact At.x 0
 ·refine At.D 0 [] ?_;refine DD.y 1 aBF λr9=>?_;refine DD.y 3 aC5 λr10=>?_;refine De 4 ?_;apply rt;exact At.r 0
def vQ(N:Nat)(a0 a1:(List Int)):Option (Bool):=
 aN (ByteArray.toList (aJS a0)==ByteArray.toList (aJS a1)) λx1=>
 some x1
theorem aH2{N a0 a1 r}(h:vQ N a0 a1=some r):FnM Tryz.prog 7 [] [(eL 1 k8 a0),(eL 1 k8 a1)] (eB r) []:=by
 refine Af dK Tryz.func7 h ?_;refine At.o 2 (aNw hT a0 (v:=(eL 1 k8 a0)) (e:=5) (by kernel_rfl) (by kernel_rfl) (by kernel_rfl)) ?_;refine At.o 1 (aNw hT a1 (v:=(eL 1 k8 a1)) (e:=5) (by kernel_rfl) (by kernel_rfl) (by kernel_rfl)) ?_;apply lx;intro x1;apply rt;exact At.r 2
def aMr : Nat->Bool:=imL [1]
def aHM(N:Nat)(a0:(Vector Int 32)):Option (Unit):=
 some (())
theorem aLW{N a0 r}(h:aHM N a0=some r):FnM Tryz.prog 65 [] [(eA 32 1 k8 a0)] (.ref 1 [] 0) [.mp (eM .i64 aQ.enc []),.var (.st 33 [(eA 32 1 k8 a0),(.mp 0)])]:=by
 refine Af aMr Tryz.func65 h ?_;refine At.o 3 (aJQ .i64 aQ.enc (by kernel_rfl) (by kernel_rfl)) ?_;apply rt;exact At.r 3
def aFY(N:Nat):Option (Unit):=
 some (())
theorem aJ5{N r}(h:aFY N=some r):FnM Tryz.prog 98 [] [] (.ref 2 [] 0) [.mp (eM .i64 kW.enc []),.mp (.kv []),.var (.st 2 [(.mp 0),(.mp 1)])]:=by
 refine Af dK Tryz.func98 h ?_;refine At.o 1 (aJQ .i64 kW.enc (by kernel_rfl) (by kernel_rfl)) ?_;refine At.o 0 (aJQ .i64 j64 (by kernel_rfl) (by kernel_rfl)) ?_;apply rt;exact At.r 3
def aCo(N:Nat)(a0:Int):Option ((Vector Int 32)):=
 ae (kB N (([117,109,98,114,97,32,97,117,100,105,116,32,99,104,97,105,110]:List Int)) 8 ([a0])) λr1=>
 ae (sF N ([r1.1])) λr2=>
 some r2
theorem aHU{N a0 r}(h:aCo N a0=some r):FnM Tryz.prog 123 [] [(j64 a0)] (eA 32 1 k8 r) []:=by
 refine Af dK Tryz.func123 h ?_;refine At.l2 hT 1 (d1:=6) (d2:=7) (t:=23) (e:=5) k8 (z:=1) ([117,109,98,114,97,32,97,117,100,105,116,32,99,104,97,105,110]:List Int) rfl rfl rfl ?_;refine At.O 1 bRw ?_;refine At.Y 0 [] xC λr1=>?_;refine At.wk 6 13 ((eL 1 k8 r1.1)) ?_;refine At.O 0 bRw ?_;refine At.y 0 aAq λr2=>?_;apply rt;exact At.r 1
def oT(N:Nat)(a0:Int):Option ((Vector Int 32)):=
 ae (aCo N a0) λr1=>
 some r1
theorem oF{N a0 r}(h:oT N a0=some r):FnM Tryz.prog 99 [] [(j64 a0)] (.ref 0 [] 0) [.var (.st 35 [(.st 34 [(eA 32 1 k8 r),(k32 0),(eB true)]),(eL 36 aY.enc (([]:(List aY))))])]:=by
 refine Af dK Tryz.func99 h ?_;refine At.y 2 aHU λr1=>?_;apply rt;exact At.r 4
def aM2 : Nat->Bool:=imL [1]
def aHF(N:Nat)(a0:(Vector Int 32)):Option ((Vector Int 32)×(Vector Int 32)×(Vector Int 32)×(Vector Int 32)×(Vector Int 32)×(Vector Int 32)×(Vector Int 32)×(Vector Int 32)):=
 ae (aFY N ) λr1=>
 ae (oT N 0) λr2=>
 ae (oT N 1) λr3=>
 ae (oT N 2) λr4=>
 ae (oT N 3) λr5=>
 ae (oT N 4) λr6=>
 ae (oT N 5) λr7=>
 ae (oT N 6) λr8=>
 ae (oT N 7) λr9=>
 some ((r2,r3,r4,r5,r6,r7,r8,r9))
theorem aLk{N a0 r}(h:aHF N a0=some r):FnM Tryz.prog 66 [] [(eA 32 1 k8 a0)] (.ref 3 [] 0) [.mp (eM .i64 kW.enc []),.mp (.kv []),.var (.st 2 [(.mp 0),(.mp 1)]),.var (.st 429 [(eA 32 1 k8 a0),(.ref 2 [] 0),(k32 0),(.st 392 [(.st 49 [aCT,(eB false),(j64 0),(.v (.pointer none)),(.ref 4 [] 0),(eA 24 3 aC.enc (ah 8 (aC.mk 0 0 0)))]),(.st 49 [aCT,(eB false),(j64 0),(.v (.pointer none)),(.ref 5 [] 0),(eA 24 3 aC.enc (ah 8 (aC.mk 0 0 0)))]),(.st 49 [aCT,(eB false),(j64 0),(.v (.pointer none)),(.ref 6 [] 0),(eA 24 3 aC.enc (ah 8 (aC.mk 0 0 0)))]),(.st 49 [aCT,(eB false),(j64 0),(.v (.pointer none)),(.ref 7 [] 0),(eA 24 3 aC.enc (ah 8 (aC.mk 0 0 0)))]),(.st 49 [aCT,(eB false),(j64 0),(.v (.pointer none)),(.ref 8 [] 0),(eA 24 3 aC.enc (ah 8 (aC.mk 0 0 0)))]),(.st 49 [aCT,(eB false),(j64 0),(.v (.pointer none)),(.ref 9 [] 0),(eA 24 3 aC.enc (ah 8 (aC.mk 0 0 0)))]),(.st 49 [aCT,(eB false),(j64 0),(.v (.pointer none)),(.ref 10 [] 0),(eA 24 3 aC.enc (ah 8 (aC.mk 0 0 0)))]),(.st 49 [aCT,(eB false),(j64 0),(.v (.pointer none)),(.ref 11 [] 0),(eA 24 3 aC.enc (ah 8 (aC.mk 0 0 0)))])]),(.st 3 [(j64 0),(j64 0),(j64 0)])]),.var (.st 35 [(.st 34 [(eA 32 1 k8 r.1),(k32 0),(eB true)]),(eL 36 aY.enc (([]:(List aY))))]),.var (.st 35 [(.st 34 [(eA 32 1 k8 r.2.1),(k32 0),(eB true)]),(eL 36 aY.enc (([]:(List aY))))]),.var (.st 35 [(.st 34 [(eA 32 1 k8 r.2.2.1),(k32 0),(eB true)]),(eL 36 aY.enc (([]:(List aY))))]),.var (.st 35 [(.st 34 [(eA 32 1 k8 r.2.2.2.1),(k32 0),(eB true)]),(eL 36 aY.enc (([]:(List aY))))]),.var (.st 35 [(.st 34 [(eA 32 1 k8 r.2.2.2.2.1),(k32 0),(eB true)]),(eL 36 aY.enc (([]:(List aY))))]),.var (.st 35 [(.st 34 [(eA 32 1 k8 r.2.2.2.2.2.1),(k32 0),(eB true)]),(eL 36 aY.enc (([]:(List aY))))]),.var (.st 35 [(.st 34 [(eA 32 1 k8 r.2.2.2.2.2.2.1),(k32 0),(eB true)]),(eL 36 aY.enc (([]:(List aY))))]),.var (.st 35 [(.st 34 [(eA 32 1 k8 r.2.2.2.2.2.2.2),(k32 0),(eB true)]),(eL 36 aY.enc (([]:(List aY))))])]:=by
 refine Af aM2 Tryz.func66 h ?_;refine At.D 2 [] ?_;refine DD.Z 1 [] 0 aJ5 λr1=>?_;refine De 3 ?_;refine At.u 40 1 ?_;refine At.D 4 [] ?_;refine DD.Z 3 [] 4 oF λr2=>?_;refine De 5 ?_;refine At.D 6 [] ?_;refine DD.Z 3 [] 5 oF λr3=>?_;refine De 5 ?_;refine At.D 6 [] ?_;refine DD.Z 3 [] 6 oF λr4=>?_;refine De 5 ?_;refine At.D 6 [] ?_;refine DD.Z 3 [] 7 oF λr5=>?_;refine De 5 ?_;refine At.D 6 [] ?_;refine DD.Z 3 [] 8 oF λr6=>?_;refine De 5 ?_;refine At.D 6 [] ?_;refine DD.Z 3 [] 9 oF λr7=>?_;refine De 5 ?_;refine At.D 6 [] ?_;refine DD.Z 3 [] 10 oF λr8=>?_;refine De 5 ?_;refine At.D 6 [] ?_;refine DD.Z 3 [] 11 oF λr9=>?_;refine De 5 ?_;apply rt;exact At.r 6
def aKv : Nat->Bool:=imL [1]
def aFE(N:Nat)(a0:(Vector Int 32)):Option ((Vector Int 32)×(Vector Int 32)×(Vector Int 32)×(Vector Int 32)×(Vector Int 32)×(Vector Int 32)×(Vector Int 32)×(Vector Int 32)×(Vector Int 32)×(Vector Int 32)):=
 ae (uD N a0 str_3 []) λr1=>
 ae (aHM N a0) λr2=>
 ae (tM N a0) λr3=>
 ae (aHF N r3) λr4=>
 some ((r3,r4.1,r4.2.1,r4.2.2.1,r4.2.2.2.1,r4.2.2.2.2.1,r4.2.2.2.2.2.1,r4.2.2.2.2.2.2.1,r4.2.2.2.2.2.2.2,r1))
theorem aJZ{N a0 r}(h:aFE N a0=some r):FnM Tryz.prog 36 [] [(eA 32 1 k8 a0)] (.ref 14 [] 0) [.mp (eM .i64 aQ.enc []),.var (.st 33 [(eA 32 1 k8 a0),(.mp 0)]),.mp (eM .i64 kW.enc []),.mp (.kv []),.var (.st 2 [(.mp 2),(.mp 3)]),.var (.st 429 [(eA 32 1 k8 r.1),(.ref 4 [] 0),(k32 0),(.st 392 [(.st 49 [aCT,(eB false),(j64 0),(.v (.pointer none)),(.ref 6 [] 0),(eA 24 3 aC.enc (ah 8 (aC.mk 0 0 0)))]),(.st 49 [aCT,(eB false),(j64 0),(.v (.pointer none)),(.ref 7 [] 0),(eA 24 3 aC.enc (ah 8 (aC.mk 0 0 0)))]),(.st 49 [aCT,(eB false),(j64 0),(.v (.pointer none)),(.ref 8 [] 0),(eA 24 3 aC.enc (ah 8 (aC.mk 0 0 0)))]),(.st 49 [aCT,(eB false),(j64 0),(.v (.pointer none)),(.ref 9 [] 0),(eA 24 3 aC.enc (ah 8 (aC.mk 0 0 0)))]),(.st 49 [aCT,(eB false),(j64 0),(.v (.pointer none)),(.ref 10 [] 0),(eA 24 3 aC.enc (ah 8 (aC.mk 0 0 0)))]),(.st 49 [aCT,(eB false),(j64 0),(.v (.pointer none)),(.ref 11 [] 0),(eA 24 3 aC.enc (ah 8 (aC.mk 0 0 0)))]),(.st 49 [aCT,(eB false),(j64 0),(.v (.pointer none)),(.ref 12 [] 0),(eA 24 3 aC.enc (ah 8 (aC.mk 0 0 0)))]),(.st 49 [aCT,(eB false),(j64 0),(.v (.pointer none)),(.ref 13 [] 0),(eA 24 3 aC.enc (ah 8 (aC.mk 0 0 0)))])]),(.st 3 [(j64 0),(j64 0),(j64 0)])]),.var (.st 35 [(.st 34 [(eA 32 1 k8 r.2.1),(k32 0),(eB true)]),(eL 36 aY.enc (([]:(List aY))))]),.var (.st 35 [(.st 34 [(eA 32 1 k8 r.2.2.1),(k32 0),(eB true)]),(eL 36 aY.enc (([]:(List aY))))]),.var (.st 35 [(.st 34 [(eA 32 1 k8 r.2.2.2.1),(k32 0),(eB true)]),(eL 36 aY.enc (([]:(List aY))))]),.var (.st 35 [(.st 34 [(eA 32 1 k8 r.2.2.2.2.1),(k32 0),(eB true)]),(eL 36 aY.enc (([]:(List aY))))]),.var (.st 35 [(.st 34 [(eA 32 1 k8 r.2.2.2.2.2.1),(k32 0),(eB true)]),(eL 36 aY.enc (([]:(List aY))))]),.var (.st 35 [(.st 34 [(eA 32 1 k8 r.2.2.2.2.2.2.1),(k32 0),(eB true)]),(eL 36 aY.enc (([]:(List aY))))]),.var (.st 35 [(.st 34 [(eA 32 1 k8 r.2.2.2.2.2.2.2.1),(k32 0),(eB true)]),(eL 36 aY.enc (([]:(List aY))))]),.var (.st 35 [(.st 34 [(eA 32 1 k8 r.2.2.2.2.2.2.2.2.1),(k32 0),(eB true)]),(eL 36 aY.enc (([]:(List aY))))]),.var (.st 66 [(eA 32 1 k8 a0),(eA 32 1 k8 r.2.2.2.2.2.2.2.2.2),(.ref 1 [] 0),(.ref 5 [] 0)])]:=by
 refine Af aKv Tryz.func36 h ?_;refine At.D 2 [] ?_;refine DD.y 2 aCn λr1=>?_;refine DD.Z 1 [] 0 aLW λr2=>?_;refine DD.y 1 aAZ λr3=>?_;refine DD.Z 0 [] 2 aLk λr4=>?_;refine De 3 ?_;apply rt;exact At.r 0
def sW(N:Nat)(a0:ByteArray):Nat->Nat->(List ByteArray)->Int->Option (Nat×(List ByteArray)×Int)
 | 0,_,_,_=>none
 | k+1,s2,s3,s4=>
  cond (decide (s2 < ByteArray.size a0)) (
   cond ((aKH a0 s2)==10) (
    ae (aRJ a0 s4 ((s2:Int))) λs5=>
    ae (fL 16 s3 (([s5]:List ByteArray))) λz6=>
    sW N a0 k (wM a0 s2) z6 (I64 (((s2:Int))+1))) (
    sW N a0 k (wM a0 s2) s3 s4)) (
   some ((s2,s3,s4)))
def aCb(N:Nat)(a0:ByteArray):Option ((List ByteArray)):=
 ae (sW N a0 N 0 [] 0) λp1=>
 ae (aN ((ByteArray.size a0:Int)) λx8=>
 cond (decide (p1.2.2 < x8)) (
  ae (aRJ a0 p1.2.2 ((a0.size:Int))) λs9=>
  ae (fL 16 p1.2.1 (([s9]:List ByteArray))) λz10=>
  some z10) (
  some p1.2.1)) λp7=>
 some p7
theorem aHQ{N a0 r}(h:aCb N a0=some r):FnM Tryz.prog 37 [] [(eS a0)] (eL 1 eS r) []:=by
 refine Af dK Tryz.func37 h ?_;refine At.o 4 (aSM (t:=9) (s:=a0) rfl (by kernel_rfl) (by kernel_rfl)) ?_;refine At.ownn 0 3 1 ?_;refine At.M 0 [0] 2 (λp1=>([(3,(eO 1 1 eS p1.2.1)),(4,(j64 p1.2.2))],[(0,.mp (.it a0 p1.1)),(1,.tail (p1.2.1.length*1))],[])) [0,8] 2 (CU3 (sW N a0)) (cu3 λs2 s3 s4=>([(3,(eO 1 1 eS s3)),(4,(j64 s4))],[(0,.mp (.it a0 s2)),(1,.tail (s3.length*1))],[])) (_,_,_) N (λp1 k=>un3 λs2 s3 s4=>?_) λp1=>?_
 ·refine boI (λhc=>?_) (λhc=>?_)
  ·refine At.o 0 (aQG (s:=a0) (p:=s2) (id:=0) hc (by kernel_rfl) (by kernel_rfl) (by kernel_rfl)) ?_;refine At.c 8 ?_ ?_
   ·refine At.b 4 (λ_ e=>aNJ hT e (by kernel_rfl) (by kernel_rfl)) λs5=>?_;refine At.O 0 bRw ?_;refine At.U 0 (bAp eS) λz6=>?_;exact λh=>At.v 4 (_,_,_) h
   ·exact λh=>At.v 0 (_,_,_) h
  ·refine At.o 0 (aPw (s:=a0) (p:=s2) (id:=0) hc (by kernel_rfl) (by kernel_rfl) (by kernel_rfl)) ?_;apply rt;exact At.x 2
 ·refine At.J 0 1 [] 2 (λp7=>([(3,(eO 1 1 eS p7))],[(1,.tail (p7.length*1))],[])) (λp7=>?_) λp7=>?_
  ·apply lx;intro x8;refine At.c 4 ?_ ?_
   ·refine At.b 3 (λ_ e=>aNJ hT e (by kernel_rfl) (by kernel_rfl)) λs9=>?_;refine At.O 0 bRw ?_;refine At.U 0 (bAp eS) λz10=>?_;apply rt;exact At.jn 1
   ·apply rt;exact At.jn 0
  ·apply rt;exact At.r 2
def vU(N:Nat)(b3:(List (Int×aQ)))(b13:(List (Int×kW)))(a2 a3 a4 a5:(Vector Int 32))(a6:Int)(a7:aL)(a8:Bool)(a9:Int)(a10:(Vector aC 8))(a11:aL)(a12:Bool)(a13:Int)(a14:(Vector aC 8))(a15:aL)(a16:Bool)(a17:Int)(a18:(Vector aC 8))(a19:aL)(a20:Bool)(a21:Int)(a22:(Vector aC 8))(a23:aL)(a24:Bool)(a25:Int)(a26:(Vector aC 8))(a27:aL)(a28:Bool)(a29:Int)(a30:(Vector aC 8))(a31:aL)(a32:Bool)(a33:Int)(a34:(Vector aC 8))(a35:aL)(a36:Bool)(a37:Int)(a38:(Vector aC 8))(a39:kY)(a40 a41 a42 a43 a44 a45 a46 a47:aH):Option (Unit):=
 some (())
theorem aBG{N b3 b13 a2 a3 a4 a5 a6 a7 a8 a9 a10 a11 a12 a13 a14 a15 a16 a17 a18 a19 a20 a21 a22 a23 a24 a25 a26 a27 a28 a29 a30 a31 a32 a33 a34 a35 a36 a37 a38 a39 a40 a41 a42 a43 a44 a45 a46 a47 r}(h:vU N b3 b13 a2 a3 a4 a5 a6 a7 a8 a9 a10 a11 a12 a13 a14 a15 a16 a17 a18 a19 a20 a21 a22 a23 a24 a25 a26 a27 a28 a29 a30 a31 a32 a33 a34 a35 a36 a37 a38 a39 a40 a41 a42 a43 a44 a45 a46 a47=some r):FnM Tryz.prog 68 [.var (.st 66 [(eA 32 1 k8 a2),(eA 32 1 k8 a3),(.ref 1 [] 0),(.ref 2 [] 0)]),.var (.st 33 [(eA 32 1 k8 a4),(.mp 3)]),.var (.st 429 [(eA 32 1 k8 a5),(.ref 4 [] 0),(k32 a6),(.st 392 [(.st 49 [(aL.enc a7),(eB a8),(j64 a9),(.v (.pointer none)),(.ref 5 [] 0),(eA 24 3 aC.enc a10)]),(.st 49 [(aL.enc a11),(eB a12),(j64 a13),(.v (.pointer none)),(.ref 6 [] 0),(eA 24 3 aC.enc a14)]),(.st 49 [(aL.enc a15),(eB a16),(j64 a17),(.v (.pointer none)),(.ref 7 [] 0),(eA 24 3 aC.enc a18)]),(.st 49 [(aL.enc a19),(eB a20),(j64 a21),(.v (.pointer none)),(.ref 8 [] 0),(eA 24 3 aC.enc a22)]),(.st 49 [(aL.enc a23),(eB a24),(j64 a25),(.v (.pointer none)),(.ref 9 [] 0),(eA 24 3 aC.enc a26)]),(.st 49 [(aL.enc a27),(eB a28),(j64 a29),(.v (.pointer none)),(.ref 10 [] 0),(eA 24 3 aC.enc a30)]),(.st 49 [(aL.enc a31),(eB a32),(j64 a33),(.v (.pointer none)),(.ref 11 [] 0),(eA 24 3 aC.enc a34)]),(.st 49 [(aL.enc a35),(eB a36),(j64 a37),(.v (.pointer none)),(.ref 12 [] 0),(eA 24 3 aC.enc a38)])]),(kY.enc a39)]),.mp (eM .i64 aQ.enc b3),.var (.st 2 [(.mp 13),(.mp 14)]),.var (aH.enc a40),.var (aH.enc a41),.var (aH.enc a42),.var (aH.enc a43),.var (aH.enc a44),.var (aH.enc a45),.var (aH.enc a46),.var (aH.enc a47),.mp (eM .i64 kW.enc b13),.mp (.kv [])] [(.ref 0 [] 0)] (eB false) [.var (.st 66 [(eA 32 1 k8 a2),(eA 32 1 k8 a3),(.ref 1 [] 0),(.ref 2 [] 0)]),.var (.st 33 [(eA 32 1 k8 a4),(.mp 3)]),.var (.st 429 [(eA 32 1 k8 a5),(.ref 4 [] 0),(k32 a6),(.st 392 [(.st 49 [(aL.enc a7),(eB a8),(j64 a9),(.v (.pointer none)),(.ref 5 [] 0),(eA 24 3 aC.enc a10)]),(.st 49 [(aL.enc a11),(eB a12),(j64 a13),(.v (.pointer none)),(.ref 6 [] 0),(eA 24 3 aC.enc a14)]),(.st 49 [(aL.enc a15),(eB a16),(j64 a17),(.v (.pointer none)),(.ref 7 [] 0),(eA 24 3 aC.enc a18)]),(.st 49 [(aL.enc a19),(eB a20),(j64 a21),(.v (.pointer none)),(.ref 8 [] 0),(eA 24 3 aC.enc a22)]),(.st 49 [(aL.enc a23),(eB a24),(j64 a25),(.v (.pointer none)),(.ref 9 [] 0),(eA 24 3 aC.enc a26)]),(.st 49 [(aL.enc a27),(eB a28),(j64 a29),(.v (.pointer none)),(.ref 10 [] 0),(eA 24 3 aC.enc a30)]),(.st 49 [(aL.enc a31),(eB a32),(j64 a33),(.v (.pointer none)),(.ref 11 [] 0),(eA 24 3 aC.enc a34)]),(.st 49 [(aL.enc a35),(eB a36),(j64 a37),(.v (.pointer none)),(.ref 12 [] 0),(eA 24 3 aC.enc a38)])]),(kY.enc a39)]),.mp (eM .i64 aQ.enc b3),.var (.st 2 [(.mp 13),(.mp 14)]),.var (aH.enc a40),.var (aH.enc a41),.var (aH.enc a42),.var (aH.enc a43),.var (aH.enc a44),.var (aH.enc a45),.var (aH.enc a46),.var (aH.enc a47),.mp (eM .i64 kW.enc b13),.mp (.kv [])]:=by
 refine Af dK Tryz.func68 h ?_;refine At.o 2 (aB6 hT (t:=96) (x:=(.ref 0 [] 0)) (b:=true) (by kernel_rfl) rfl rfl (by kernel_rfl)) ?_;refine At.g [5] 5 ?_;refine At.o 0 (aB6 hT (t:=134) (x:=(.ref 2 [] 0)) (b:=true) (by kernel_rfl) rfl rfl (by kernel_rfl)) ?_;refine At.g [5] 2 ?_;apply rt;exact At.r 0
def aOx : Go.Shelf.Ren:=⟨λ | 221=>127 | 268=>161 | 138=>162 | 143=>163 | 195=>182 | 197=>183 | 218=>184 | 219=>185 | 260=>195 | 217=>196 | 225=>197 | 224=>198 | 267=>199 | 266=>207 | 314=>208 | n=>n,λ | 9=>9 | 3=>3 | 31=>101 | 4=>4 | 0=>0 | 105=>299 | 21=>21 | 5=>5 | 46=>111 | 119=>311 | 139=>314 | 138=>313 | 146=>315 | 51=>25 | n=>n,λ | 1=>0 | 3=>1 | 4=>2 | n=>n⟩
theorem split : Lays.n221 Tryz.prog aOx where
 mixed:=by kernel_rfl
 f138:=Tryz.func162.trans (congrArg some (by kernel_rfl))
 f143:=Tryz.func163.trans (congrArg some (by kernel_rfl))
 f195:=Tryz.func182.trans (congrArg some (by kernel_rfl))
 f197:=Tryz.func183.trans (congrArg some (by kernel_rfl))
 f217:=Tryz.func196.trans (congrArg some (by kernel_rfl))
 f218:=Tryz.func184.trans (congrArg some (by kernel_rfl))
 f219:=Tryz.func185.trans (congrArg some (by kernel_rfl))
 f221:=Tryz.func127.trans (congrArg some (by kernel_rfl))
 f224:=Tryz.func198.trans (congrArg some (by kernel_rfl))
 f225:=Tryz.func197.trans (congrArg some (by kernel_rfl))
 f260:=Tryz.func195.trans (congrArg some (by kernel_rfl))
 f266:=Tryz.func207.trans (congrArg some (by kernel_rfl))
 f267:=Tryz.func199.trans (congrArg some (by kernel_rfl))
 f268:=Tryz.func161.trans (congrArg some (by kernel_rfl))
 f314:=Tryz.func208.trans (congrArg some (by kernel_rfl))
 t0:=Tryz.underlying0
 a0:=Tryz.isAgg0
 z0:=Tryz.sizeOf0
 v0:=Tryz.zeroValue0
 t3:=Tryz.underlying3
 a3:=Tryz.isAgg3
 z3:=Tryz.sizeOf3
 v3:=Tryz.zeroValue3
 t4:=Tryz.underlying4
 a4:=Tryz.isAgg4
 z4:=Tryz.sizeOf4
 v4:=Tryz.zeroValue4
 t5:=Tryz.underlying5
 a5:=Tryz.isAgg5
 z5:=Tryz.sizeOf5
 v5:=Tryz.zeroValue5
 t9:=Tryz.underlying9
 a9:=Tryz.isAgg9
 z9:=Tryz.sizeOf9
 v9:=Tryz.zeroValue9
 t21:=Tryz.underlying21
 a21:=Tryz.isAgg21
 z21:=Tryz.sizeOf21
 v21:=Tryz.zeroValue21
 t31:=Tryz.underlying101
 a31:=Tryz.isAgg101
 z31:=Tryz.sizeOf101
 v31:=Tryz.zeroValue101
 t46:=Tryz.underlying111
 a46:=Tryz.isAgg111
 z46:=Tryz.sizeOf111
 v46:=Tryz.zeroValue111
 t51:=Tryz.underlying25
 a51:=Tryz.isAgg25
 z51:=Tryz.sizeOf25
 v51:=Tryz.zeroValue25
 t105:=Tryz.underlying299
 a105:=Tryz.isAgg299
 z105:=Tryz.sizeOf299
 v105:=Tryz.zeroValue299
 t119:=Tryz.underlying311
 a119:=Tryz.isAgg311
 z119:=Tryz.sizeOf311
 t138:=Tryz.underlying313
 a138:=Tryz.isAgg313
 z138:=Tryz.sizeOf313
 v138:=Tryz.zeroValue313
 t139:=Tryz.underlying314
 a139:=Tryz.isAgg314
 z139:=Tryz.sizeOf314
 v139:=Tryz.zeroValue314
 t146:=Tryz.underlying315
 a146:=Tryz.isAgg315
 z146:=Tryz.sizeOf315
 v146:=Tryz.zeroValue315
 g1:=by kernel_rfl
 g3:=by kernel_rfl
 g4:=by kernel_rfl
def aPR : Go.Shelf.Ren:=⟨λ | 143=>163 | 219=>185 | 217=>196 | 225=>197 | 224=>198 | 267=>199 | 266=>207 | 314=>208 | n=>n,λ | 9=>9 | 3=>3 | 4=>4 | 5=>5 | 46=>111 | 146=>315 | 51=>25 | n=>n,λ | 1=>0 | n=>n⟩
theorem index : Lays.n143 Tryz.prog aPR where
 mixed:=by kernel_rfl
 f143:=Tryz.func163.trans (congrArg some (by kernel_rfl))
 f217:=Tryz.func196.trans (congrArg some (by kernel_rfl))
 f219:=Tryz.func185.trans (congrArg some (by kernel_rfl))
 f224:=Tryz.func198.trans (congrArg some (by kernel_rfl))
 f225:=Tryz.func197.trans (congrArg some (by kernel_rfl))
 f266:=Tryz.func207.trans (congrArg some (by kernel_rfl))
 f267:=Tryz.func199.trans (congrArg some (by kernel_rfl))
 f314:=Tryz.func208.trans (congrArg some (by kernel_rfl))
 t3:=Tryz.underlying3
 a3:=Tryz.isAgg3
 z3:=Tryz.sizeOf3
 v3:=Tryz.zeroValue3
 t4:=Tryz.underlying4
 a4:=Tryz.isAgg4
 z4:=Tryz.sizeOf4
 v4:=Tryz.zeroValue4
 t5:=Tryz.underlying5
 a5:=Tryz.isAgg5
 z5:=Tryz.sizeOf5
 v5:=Tryz.zeroValue5
 t9:=Tryz.underlying9
 a9:=Tryz.isAgg9
 z9:=Tryz.sizeOf9
 v9:=Tryz.zeroValue9
 t46:=Tryz.underlying111
 a46:=Tryz.isAgg111
 z46:=Tryz.sizeOf111
 v46:=Tryz.zeroValue111
 t51:=Tryz.underlying25
 a51:=Tryz.isAgg25
 z51:=Tryz.sizeOf25
 v51:=Tryz.zeroValue25
 t146:=Tryz.underlying315
 a146:=Tryz.isAgg315
 z146:=Tryz.sizeOf315
 v146:=Tryz.zeroValue315
 g1:=by kernel_rfl
theorem aVz{s sep:ByteArray}{r:List ByteArray}(h:aHN s sep=some r):FnM Tryz.prog 127 [] [eS s,eS sep,j64 0,j64 (-1)] (eL 1 eS r) []:=aQ4 split { split with } { split with } (by kernel_rfl) rfl h
theorem aPi : nP Tryz.prog 127:=kA (by kernel_rfl)
def aA5(N:Nat)(a0 a1:ByteArray):Option ((List ByteArray)):=
 ae (aHN a0 a1) λr1=>
 some r1
theorem aEX{N a0 a1 r}(h:aA5 N a0 a1=some r):FnM Tryz.prog 102 [] [(eS a0),(eS a1)] (eL 1 eS r) []:=by
 refine Af dK Tryz.func102 h ?_;refine At.b 3 (λ_ e=>wD [] (aVz e) aPi) λr1=>?_;apply rt;exact At.r 1
def aRp : Go.Shelf.Ren:=⟨λ | 172=>180 | 244=>192 | 245=>193 | 247=>200 | 279=>203 | 280=>204 | 281=>205 | 282=>206 | 287=>209 | 316=>214 | 171=>181 | 205=>215 | 321=>216 | 322=>217 | 243=>194 | 246=>201 | 283=>210 | 284=>211 | 285=>212 | 286=>213 | 129=>219 | 317=>218 | 318=>220 | 319=>221 | 320=>222 | 337=>223 | 338=>224 | n=>n,λ | 9=>9 | 3=>3 | 75=>104 | 76=>105 | 4=>4 | 5=>5 | 167=>307 | 37=>23 | 0=>0 | 85=>302 | 2=>2 | 168=>308 | 53=>24 | 175=>317 | 46=>111 | 210=>325 | 127=>142 | 145=>335 | 143=>333 | 21=>21 | 171=>319 | 173=>322 | 212=>330 | 51=>25 | 20=>20 | 213=>331 | 232=>22 | 233=>90 | 80=>108 | n=>n,λ | 15=>3 | 16=>4 | 17=>5 | 18=>6 | 19=>7 | n=>n⟩
theorem atoi : Lays.n172 Tryz.prog aRp where
 mixed:=by kernel_rfl
 f129:=Tryz.func219.trans (congrArg some (by kernel_rfl))
 f171:=Tryz.func181.trans (congrArg some (by kernel_rfl))
 f172:=Tryz.func180.trans (congrArg some (by kernel_rfl))
 f205:=Tryz.func215.trans (congrArg some (by kernel_rfl))
 f243:=Tryz.func194.trans (congrArg some (by kernel_rfl))
 f244:=Tryz.func192.trans (congrArg some (by kernel_rfl))
 f245:=Tryz.func193.trans (congrArg some (by kernel_rfl))
 f246:=Tryz.func201.trans (congrArg some (by kernel_rfl))
 f247:=Tryz.func200.trans (congrArg some (by kernel_rfl))
 f279:=Tryz.func203.trans (congrArg some (by kernel_rfl))
 f280:=Tryz.func204.trans (congrArg some (by kernel_rfl))
 f281:=Tryz.func205.trans (congrArg some (by kernel_rfl))
 f282:=Tryz.func206.trans (congrArg some (by kernel_rfl))
 f283:=Tryz.func210.trans (congrArg some (by kernel_rfl))
 f284:=Tryz.func211.trans (congrArg some (by kernel_rfl))
 f285:=Tryz.func212.trans (congrArg some (by kernel_rfl))
 f286:=Tryz.func213.trans (congrArg some (by kernel_rfl))
 f287:=Tryz.func209.trans (congrArg some (by kernel_rfl))
 f316:=Tryz.func214.trans (congrArg some (by kernel_rfl))
 f317:=Tryz.func218.trans (congrArg some (by kernel_rfl))
 f318:=Tryz.func220.trans (congrArg some (by kernel_rfl))
 f319:=Tryz.func221.trans (congrArg some (by kernel_rfl))
 f320:=Tryz.func222.trans (congrArg some (by kernel_rfl))
 f321:=Tryz.func216.trans (congrArg some (by kernel_rfl))
 f322:=Tryz.func217.trans (congrArg some (by kernel_rfl))
 f337:=Tryz.func223.trans (congrArg some (by kernel_rfl))
 f338:=Tryz.func224.trans (congrArg some (by kernel_rfl))
 t0:=Tryz.underlying0
 a0:=Tryz.isAgg0
 z0:=Tryz.sizeOf0
 v0:=Tryz.zeroValue0
 t2:=Tryz.underlying2
 a2:=Tryz.isAgg2
 z2:=Tryz.sizeOf2
 v2:=Tryz.zeroValue2
 t3:=Tryz.underlying3
 a3:=Tryz.isAgg3
 z3:=Tryz.sizeOf3
 v3:=Tryz.zeroValue3
 t4:=Tryz.underlying4
 a4:=Tryz.isAgg4
 z4:=Tryz.sizeOf4
 v4:=Tryz.zeroValue4
 t5:=Tryz.underlying5
 a5:=Tryz.isAgg5
 z5:=Tryz.sizeOf5
 v5:=Tryz.zeroValue5
 t9:=Tryz.underlying9
 a9:=Tryz.isAgg9
 z9:=Tryz.sizeOf9
 v9:=Tryz.zeroValue9
 t20:=Tryz.underlying20
 a20:=Tryz.isAgg20
 z20:=Tryz.sizeOf20
 v20:=Tryz.zeroValue20
 t21:=Tryz.underlying21
 a21:=Tryz.isAgg21
 z21:=Tryz.sizeOf21
 v21:=Tryz.zeroValue21
 t37:=Tryz.underlying23
 a37:=Tryz.isAgg23
 z37:=Tryz.sizeOf23
 v37:=Tryz.zeroValue23
 t46:=Tryz.underlying111
 a46:=Tryz.isAgg111
 z46:=Tryz.sizeOf111
 v46:=Tryz.zeroValue111
 t51:=Tryz.underlying25
 a51:=Tryz.isAgg25
 z51:=Tryz.sizeOf25
 v51:=Tryz.zeroValue25
 t53:=Tryz.underlying24
 a53:=Tryz.isAgg24
 z53:=Tryz.sizeOf24
 v53:=Tryz.zeroValue24
 t75:=Tryz.underlying104
 a75:=Tryz.isAgg104
 z75:=Tryz.sizeOf104
 v75:=Tryz.zeroValue104
 t76:=Tryz.underlying105
 a76:=Tryz.isAgg105
 z76:=Tryz.sizeOf105
 v76:=Tryz.zeroValue105
 t85:=Tryz.underlying302
 a85:=Tryz.isAgg302
 z85:=Tryz.sizeOf302
 v85:=Tryz.zeroValue302
 t127:=Tryz.underlying142
 a127:=Tryz.isAgg142
 z127:=Tryz.sizeOf142
 v127:=Tryz.zeroValue142
 t143:=Tryz.underlying333
 a143:=Tryz.isAgg333
 z143:=Tryz.sizeOf333
 v143:=Tryz.zeroValue333
 t145:=Tryz.underlying335
 a145:=Tryz.isAgg335
 z145:=Tryz.sizeOf335
 v145:=Tryz.zeroValue335
 t167:=Tryz.underlying307
 a167:=Tryz.isAgg307
 z167:=Tryz.sizeOf307
 v167:=Tryz.zeroValue307
 t168:=Tryz.underlying308
 a168:=Tryz.isAgg308
 z168:=Tryz.sizeOf308
 v168:=Tryz.zeroValue308
 t171:=Tryz.underlying319
 a171:=Tryz.isAgg319
 z171:=Tryz.sizeOf319
 v171:=Tryz.zeroValue319
 t173:=Tryz.underlying322
 a173:=Tryz.isAgg322
 z173:=Tryz.sizeOf322
 v173:=Tryz.zeroValue322
 t175:=Tryz.underlying317
 a175:=Tryz.isAgg317
 z175:=Tryz.sizeOf317
 v175:=Tryz.zeroValue317
 t210:=Tryz.underlying325
 a210:=Tryz.isAgg325
 z210:=Tryz.sizeOf325
 v210:=Tryz.zeroValue325
 t212:=Tryz.underlying330
 a212:=Tryz.isAgg330
 z212:=Tryz.sizeOf330
 v212:=Tryz.zeroValue330
 t213:=Tryz.underlying331
 a213:=Tryz.isAgg331
 z213:=Tryz.sizeOf331
 t232:=Tryz.underlying22
 a232:=Tryz.isAgg22
 z232:=Tryz.sizeOf22
 v232:=Tryz.zeroValue22
 t233:=Tryz.underlying90
 a233:=Tryz.isAgg90
 z233:=Tryz.sizeOf90
 v233:=Tryz.zeroValue90
 g15:=by kernel_rfl
 g16:=by kernel_rfl
 g17:=by kernel_rfl
 g18:=by kernel_rfl
 g19:=by kernel_rfl
theorem aWA{s:ByteArray}{v:Int}(h:aNq s=some v):FnM Tryz.prog 180 [] [eS s] (.tup [j64 v,.v .nilIface]) []:=aSa atoi rfl h
theorem aRk : nP Tryz.prog 180:=kA (by kernel_rfl)
def aQH : Go.Shelf.Ren:=⟨λ | 171=>181 | 243=>194 | 246=>201 | 283=>210 | 284=>211 | 285=>212 | 286=>213 | 129=>219 | 317=>218 | 318=>220 | 319=>221 | 320=>222 | 337=>223 | 338=>224 | n=>n,λ | 3=>3 | 9=>9 | 2=>2 | 4=>4 | 171=>319 | 0=>0 | 53=>24 | 37=>23 | 5=>5 | 173=>322 | 212=>330 | 51=>25 | 20=>20 | 213=>331 | 46=>111 | 232=>22 | 233=>90 | n=>n,λ | 17=>5 | 18=>6 | 19=>7 | n=>n⟩
theorem itoa : LaysM.n171 Tryz.prog aQH where
 mixed:=by kernel_rfl
 f129:=Tryz.func219.trans (congrArg some (by kernel_rfl))
 f171:=Tryz.func181.trans (congrArg some (by kernel_rfl))
 f243:=Tryz.func194.trans (congrArg some (by kernel_rfl))
 f246:=Tryz.func201.trans (congrArg some (by kernel_rfl))
 f283:=Tryz.func210.trans (congrArg some (by kernel_rfl))
 f284:=Tryz.func211.trans (congrArg some (by kernel_rfl))
 f285:=Tryz.func212.trans (congrArg some (by kernel_rfl))
 f286:=Tryz.func213.trans (congrArg some (by kernel_rfl))
 f317:=Tryz.func218.trans (congrArg some (by kernel_rfl))
 f318:=Tryz.func220.trans (congrArg some (by kernel_rfl))
 f319:=Tryz.func221.trans (congrArg some (by kernel_rfl))
 f320:=Tryz.func222.trans (congrArg some (by kernel_rfl))
 f337:=Tryz.func223.trans (congrArg some (by kernel_rfl))
 f338:=Tryz.func224.trans (congrArg some (by kernel_rfl))
 t0:=Tryz.underlying0
 a0:=Tryz.isAgg0
 z0:=Tryz.sizeOf0
 v0:=Tryz.zeroValue0
 t2:=Tryz.underlying2
 a2:=Tryz.isAgg2
 z2:=Tryz.sizeOf2
 v2:=Tryz.zeroValue2
 t3:=Tryz.underlying3
 a3:=Tryz.isAgg3
 z3:=Tryz.sizeOf3
 v3:=Tryz.zeroValue3
 t4:=Tryz.underlying4
 a4:=Tryz.isAgg4
 z4:=Tryz.sizeOf4
 v4:=Tryz.zeroValue4
 t5:=Tryz.underlying5
 a5:=Tryz.isAgg5
 z5:=Tryz.sizeOf5
 v5:=Tryz.zeroValue5
 t9:=Tryz.underlying9
 a9:=Tryz.isAgg9
 z9:=Tryz.sizeOf9
 v9:=Tryz.zeroValue9
 t20:=Tryz.underlying20
 a20:=Tryz.isAgg20
 z20:=Tryz.sizeOf20
 v20:=Tryz.zeroValue20
 t37:=Tryz.underlying23
 a37:=Tryz.isAgg23
 z37:=Tryz.sizeOf23
 v37:=Tryz.zeroValue23
 t46:=Tryz.underlying111
 a46:=Tryz.isAgg111
 z46:=Tryz.sizeOf111
 v46:=Tryz.zeroValue111
 t51:=Tryz.underlying25
 a51:=Tryz.isAgg25
 z51:=Tryz.sizeOf25
 v51:=Tryz.zeroValue25
 t53:=Tryz.underlying24
 a53:=Tryz.isAgg24
 z53:=Tryz.sizeOf24
 v53:=Tryz.zeroValue24
 t171:=Tryz.underlying319
 a171:=Tryz.isAgg319
 z171:=Tryz.sizeOf319
 v171:=Tryz.zeroValue319
 t173:=Tryz.underlying322
 a173:=Tryz.isAgg322
 z173:=Tryz.sizeOf322
 v173:=Tryz.zeroValue322
 t212:=Tryz.underlying330
 a212:=Tryz.isAgg330
 z212:=Tryz.sizeOf330
 v212:=Tryz.zeroValue330
 t213:=Tryz.underlying331
 a213:=Tryz.isAgg331
 z213:=Tryz.sizeOf331
 t232:=Tryz.underlying22
 a232:=Tryz.isAgg22
 z232:=Tryz.sizeOf22
 v232:=Tryz.zeroValue22
 t233:=Tryz.underlying90
 a233:=Tryz.isAgg90
 z233:=Tryz.sizeOf90
 v233:=Tryz.zeroValue90
 g17:=by kernel_rfl
 g18:=by kernel_rfl
 g19:=by kernel_rfl
 i0:=by kernel_rfl
 i2:=by kernel_rfl
 i3:=by kernel_rfl
 i4:=by kernel_rfl
 i5:=by kernel_rfl
 i9:=by kernel_rfl
 i20:=by kernel_rfl
 i37:=by kernel_rfl
 i46:=by kernel_rfl
 i51:=by kernel_rfl
 i53:=by kernel_rfl
 i171:=by kernel_rfl
 i173:=by kernel_rfl
 i212:=by kernel_rfl
 i232:=by kernel_rfl
 i233:=by kernel_rfl
 m17:=by kernel_rfl
 m18:=by kernel_rfl
 m19:=by kernel_rfl
theorem aVL{i:Int}{r:ByteArray}(h:aRb i=some r):FnM Tryz.prog 181 [] [j64 i] (eS r) []:=aQe itoa rfl (g:=5) aNB (by kernel_rfl) h
theorem aQ0 : nP Tryz.prog 181:=kA (by kernel_rfl)
def aBU(N:Nat)(a0:ByteArray)(a1:Int):Option (Int×Bool):=
 ae (aNq a0) λr1=>
 ae (aN (cond (decide (r1>=0)) (decide (r1<=a1)) false) λx3=>
 cond x3 (
  ae (aRb r1) λr4=>
  aN (ByteArray.toList r4==ByteArray.toList a0) λx5=>
  some x5) (
  some false)) λp2=>
 some ((r1,p2))
theorem aFs{N a0 a1 r}(h:aBU N a0 a1=some r):FnM Tryz.prog 159 [] [(eS a0),(j64 a1)] (.tup [(j64 r.1),(eB r.2)]) []:=by
 refine Af dK Tryz.func159 h ?_;refine At.b 3 (λ_ e=>wD [] (aWA e) aRk) λr1=>?_;refine At.J 5 0 [] 0 (λp2=>([(4,(j64 r1)),(5,(eB p2))],[],[])) (λp2=>?_) λp2=>?_
 ·refine At.o 2 (aSL (t:=104) (by kernel_rfl) rfl rfl .eql true (by decide) (by kernel_rfl)) ?_;apply lx;intro x3;refine At.g [16] 10 ?_;refine At.s 25 0 ?_ ?_
  ·refine At.g [25] 1 ?_;refine At.b 0 (λ_ e=>wD [] (aVL e) aQ0) λr4=>?_;apply lx;intro x5;refine At.g [25] 5 ?_;apply rt;exact At.jn 0
  ·refine At.g [25] 7 ?_;apply rt;exact At.jn 0
 ·apply rt;exact At.r 0
def wS(N:Nat)(a0:(List ByteArray)):Nat->(List Int)->Int->Option (Sum ((List Int)) ((List Int)×Bool))
 | 0,_,_=>none
 | k+1,s2,s3=>
  aN (decide (s3 < ((a0.length:Int)))) λx4=>
  cond x4 (
   ae (idx a0 s3) λe5=>
   ae (aBU N e5 4294967295) λr6=>
   cond (!r6.2) (
    some (Sum.inr (([],false)))) (
    ae (fL 8 s2 (([r6.1]:List Int))) λz7=>
    wS N a0 k z7 (I64 (s3+1)))) (
   some (Sum.inl s2))
def yB(N:Nat)(a0:(List ByteArray)):Option ((List Int)×Bool):=
 ae (wS N a0 N [] 0) λo=>mW o (λp1=>
  some ((p1,true))) (λr=>some r)
theorem zU{N a0 r}(h:yB N a0=some r):FnM Tryz.prog 124 [] [(eL 1 eS a0)] (.tup [(eL 1 j64 r.1),(eB r.2)]) []:=by
 refine Af dK Tryz.func124 h ?_;refine At.ownn 6 4 1 ?_;refine At.MS 0 [] 1 (λp1=>([(4,(eO 0 1 j64 p1))],[(0,.tail (p1.length*1))],[])) [9,10] 1 (CU2 (wS N a0)) (cu2 λs2 s3=>([(4,(eO 0 1 j64 s2)),(11,(j64 s3))],[(0,.tail (s2.length*1))],[])) (_,_) N (λop1 g1 k=>un2 λs2 s3=>?_) λp1=>?_
 ·apply lx;intro x4;refine At.c 1 ?_ ?_
  ·refine At.i hT 0 eS λe5=>?_;refine At.y 3 aFs λr6=>?_;refine At.c 7 ?_ ?_
   ·intro e;apply xB g1 e;exact At.r 2
   ·refine At.O 2 bRw ?_;refine At.U 0 (bAp j64) λz7=>?_;exact λh=>At.v 3 (_,_) h
  ·apply rt;exact At.xs 0
 ·apply rt;exact At.r 3
def zB(N:Nat)(a0:(List ByteArray)):Option (Sum (ByteArray×Int×Int) (Unit)):=
 ae (ae (idx a0 0) λe2=>
 ae (aN (ByteArray.toList e2==ByteArray.toList aUf) λx4=>
 cond x4 (
  some x4) (
  aN (ByteArray.toList e2==ByteArray.toList aUe) λx5=>
  some x5)) λp3=>
 cond p3 (
  ae (dM a0 1 ((a0.length:Int))) λs6=>
  ae (yB N s6) λr7=>
  aN (((r7.1.length:Int))==1) λx8=>
  cond (cond r7.2 x8 false) (
   ae (idx a0 0) λe9=>
   ae (idx r7.1 0) λe10=>
   some (Sum.inr (Sum.inl ((e9,e10,0))))) (
   some (Sum.inl (())))) (
  aN (ByteArray.toList e2==ByteArray.toList str_6) λx11=>
  cond x11 (
   ae (dM a0 1 ((a0.length:Int))) λs12=>
   ae (yB N s12) λr13=>
   aN (((r13.1.length:Int))==2) λx14=>
   cond (cond r13.2 x14 false) (
    ae (idx a0 0) λe15=>
    ae (idx r13.1 0) λe16=>
    ae (idx r13.1 1) λe17=>
    some (Sum.inr (Sum.inl ((e15,e16,e17))))) (
    some (Sum.inl (())))) (
   aN (ByteArray.toList e2==ByteArray.toList str_7) λx18=>
   cond x18 (
    aN (((a0.length:Int)) != 3) λx19=>
    cond x19 (
     some (Sum.inr (Sum.inr (())))) (
     ae (dM a0 1 2) λs20=>
     ae (yB N s20) λr21=>
     ae (idx a0 2) λe22=>
     none)) (
    aN (ByteArray.toList e2==ByteArray.toList str_8) λx23=>
    cond x23 (
     ae (dM a0 1 ((a0.length:Int))) λs24=>
     none) (
     some (Sum.inl (()))))))) λo=>mW o (λp1=>
  some (Sum.inr (()))) (λr=>some r)
theorem aDY{N a0 r}(h:zB N a0=some r):FnM Tryz.prog 101 [] [(eL 1 eS a0)] (selS r (λr=>(.tup [(.ifc 231 (.st 3 [(eS r.1),(j64 r.2.1),(j64 r.2.2)])),(eB true)])) (λr=>(.tup [(.v .nilIface),(eB false)]))) (selS r (λr=>[]) (λr=>[])):=by
 refine Af dK Tryz.func101 h ?_;refine At.JS 2 1 [] 0 (λp1=>([],[],[])) (λop1 g1=>?_) λp1=>?_
 ·refine At.i hT 1 eS λe2=>?_;refine At.J 1 1 [0,14] 0 (λp3=>([(15,(eB p3))],[],[])) (λp3=>?_) λp3=>?_
  ·apply lx;intro x4;refine At.c 2 ?_ ?_
   ·apply rt;exact At.jn 0
   ·apply lx;intro x5;apply rt;exact At.jn 2
  ·refine At.c 0 ?_ ?_
   ·refine At.B 1 (bSl eS) λs6=>?_;refine At.y 0 zU λr7=>?_;apply lx;intro x8;refine At.c 11 ?_ ?_
    ·refine At.D 0 [] ?_;refine DD.i hT 1 eS λe9=>?_;refine DD.i hT 2 j64 λe10=>?_;refine DD.o 2 (λ_=>aNo hT (t:=231) (x:=(.st 3 [(eS e9),(j64 e10),(j64 0)])) (by kernel_rfl) (by kernel_rfl)) ?_;refine De 2 ?_;intro e;apply xB g1 e;exact At.r 0
    ·apply rt;exact At.jsn 0
   ·apply lx;intro x11;refine At.c 2 ?_ ?_
    ·refine At.B 1 (bSl eS) λs12=>?_;refine At.y 0 zU λr13=>?_;apply lx;intro x14;refine At.c 11 ?_ ?_
     ·refine At.D 0 [] ?_;refine DD.i hT 1 eS λe15=>?_;refine DD.i hT 2 j64 λe16=>?_;refine DD.i hT 2 j64 λe17=>?_;refine DD.o 2 (λ_=>aNo hT (t:=231) (x:=(.st 3 [(eS e15),(j64 e16),(j64 e17)])) (by kernel_rfl) (by kernel_rfl)) ?_;refine De 2 ?_;intro e;apply xB g1 e;exact At.r 0
     ·apply rt;exact At.jsn 0
    ·apply lx;intro x18;refine At.c 2 ?_ ?_
     ·apply lx;intro x19;refine At.c 3 ?_ ?_
      ·intro e;apply xB g1 e;exact At.r 2
      ·refine At.B 1 (bSl eS) λs20=>?_;refine At.y 0 zU λr21=>?_;refine At.i hT 6 eS λe22=>?_;exact nn
     ·apply lx;intro x23;refine At.c 2 ?_ ?_
      ·refine At.B 1 (bSl eS) λs24=>?_;exact nn
      ·apply rt;exact At.jsn 0
 ·apply rt;exact At.r 2
theorem aHE{N a0 r}(h:zB N a0=some (Sum.inl r)):FnM Tryz.prog 101 [] [(eL 1 eS a0)] (.tup [(.ifc 231 (.st 3 [(eS r.1),(j64 r.2.1),(j64 r.2.2)])),(eB true)]) []:=aDY h
theorem aGx{N a0 r}(h:zB N a0=some (Sum.inr r)):FnM Tryz.prog 101 [] [(eL 1 eS a0)] (.tup [(.v .nilIface),(eB false)]) []:=aDY h
def aD4(N:Nat)(a0:ByteArray):Option (ByteArray×Int×Int):=
 ae (aA5 N a0 (ByteArray.mk #[32])) λr2=>
 ae (zB N r2) λq=>
 mW q (λr3=>
  some ((r3.1,r3.2.1,r3.2.2))) (λr4=>
  none)
theorem aIO{N a0 r}(h:aD4 N a0=some r):FnM Tryz.prog 70 [] [(eS a0)] (.ifc 231 (.st 3 [(eS r.1),(j64 r.2.1),(j64 r.2.2)])) []:=by
 refine Af dK Tryz.func70 h ?_;refine At.y 2 aEX λr2=>?_;refine sumI (λr3 hr3=>?_) (λr4 hr4=>?_)
 ·refine At.o 0 (aKV [] (aHE hr3)) ?_;apply rt;exact At.r 9
 ·refine At.o 0 (aKV [] (aGx hr4)) ?_;exact nn
def tP(N:Nat)(b1:(List (Int×aQ)))(a1:(Vector Int 32)):Option (Unit):=
 some (())
theorem xF{N b1 a1 r}(h:tP N b1 a1=some r):FnM Tryz.prog 241 [.var (.st 33 [(eA 32 1 k8 a1),(.mp 1)]),.mp (eM .i64 aQ.enc b1)] [(.ref 0 [] 0)] (eB false) [.var (.st 33 [(eA 32 1 k8 a1),(.mp 1)]),.mp (eM .i64 aQ.enc b1)]:=by
 refine Af dK Tryz.func241 h ?_;refine At.o 2 (aB6 hT (t:=132) (x:=(.ref 0 [] 0)) (b:=true) (by kernel_rfl) rfl rfl (by kernel_rfl)) ?_;refine At.g [5] 5 ?_;refine At.o 0 (aSU (t:=167) (kt:=3) (et:=351) (x:=(.mp 1)) (b:=true) (by kernel_rfl) rfl rfl (by kernel_rfl)) ?_;refine At.g [5] 2 ?_;apply rt;exact At.r 0
def aBq(N:Nat)(a0:Int):Option (Bool):=
 aN (cond (decide (a0>=1)) (decide (a0<=65535)) false) λx1=>
 some x1
theorem aF4{N a0 r}(h:aBq N a0=some r):FnM Tryz.prog 552 [] [(j64 a0)] (eB r) []:=by
 refine Af dK Tryz.func552 h ?_;apply lx;intro x1;apply rt;exact At.r 8
theorem aEE : MpT Tryz.prog tbl 167 .i64 ⟨2,16,(aQ.enc (aQ.mk 0 0)),.st [(0,3),(1,3)]⟩:=⟨⟨3,351,rfl,rfl,by kernel_rfl⟩⟩
def yE(N:Nat)(b1:(List (Int×aQ)))(a1:Int)(a2:(Vector Int 32)):Option ((List (Int×aQ))×Int):=
 ae (tP N b1 a2) λr1=>
 ae (aBq N a1) λr2=>
 cond (!r2) (
  some ((b1,2))) (
  cond (aPB b1 a1) (some ((b1,10))) (some ((aCF b1 a1 (aQ.mk 1 1),0))))
theorem aCO{N b1 a1 a2 r}(h:yE N b1 a1 a2=some r):FnM Tryz.prog 549 [.var (.st 33 [(eA 32 1 k8 a2),(.mp 1)]),.mp (eM .i64 aQ.enc b1)] [(.ref 0 [] 0),(j64 a1)] (j64 r.2) [.var (.st 33 [(eA 32 1 k8 a2),(.mp 1)]),.mp (eM .i64 aQ.enc r.1)]:=by
 refine Af dK Tryz.func549 h ?_;refine At.Y 2 [0,1] xF λr1=>?_;refine At.y 3 aF4 λr2=>?_;refine At.c 2 ?_ ?_
 ·apply rt;exact At.r 1
 ·refine At.o 5 (aOD hT (f:=aQ.enc) (z:=aQ.mk 0 0) (id:=1) (k:=a1) aEE (λ_ _ h=>by cases h) (b1:List (Int×aQ)) (by kernel_rfl) (by kernel_rfl) (by kernel_rfl)) ?_;refine At.c 7 ?_ ?_
  ·apply rt;exact At.r 1
  ·refine At.o 6 (aJY (f:=aQ.enc) (id:=1) (k:=a1) (v:=(aQ.mk 1 1)) aEE (λ_=>rfl) (b1:List (Int×aQ)) (by kernel_rfl) (by kernel_rfl) (by kernel_rfl)) ?_;apply rt;exact At.r 1
def zH(N:Nat)(a0:Int):Option (ByteArray):=
 cond (a0==0) (
  some (ByteArray.mk #[111,107])) (
  cond (a0==1) (
   some (ByteArray.mk #[110,105,108])) (
   cond (a0==2) (
    some (ByteArray.mk #[97,114,103])) (
    cond (a0==3) (
     some (ByteArray.mk #[108,111,110,103])) (
     cond (a0==4) (
      some str_9) (
      cond (a0==5) (
       some (ByteArray.mk #[102,111,114,109])) (
       cond (a0==6) (
        some (ByteArray.mk #[116,97,103])) (
        cond (a0==7) (
         some aV4) (
         cond (a0==8) (
          some (ByteArray.mk #[103,114,105,100])) (
          cond (a0==9) (
           some (ByteArray.mk #[99,97,112])) (
           cond (a0==10) (
            some (ByteArray.mk #[100,117,112])) (
            cond (a0==11) (
             some (ByteArray.mk #[110,111,110,101])) (
             cond (a0==12) (
              some (ByteArray.mk #[107,105,110,100])) (
              cond (a0==13) (
               some aW3) (
               cond (a0==14) (
                some aW6) (
                cond (a0==15) (
                 some (ByteArray.mk #[99,108,97,115,115])) (
                 cond (a0==16) (
                  some aWM) (
                  cond (a0==17) (
                   some (ByteArray.mk #[99,108,101,97,114])) (
                   cond (a0==18) (
                    some aU5) (
                    cond (a0==19) (
                     some aVr) (
                     cond (a0==20) (
                      some (ByteArray.mk #[99,104,97,105,110])) (
                      some (ByteArray.mk #[63]))))))))))))))))))))))
theorem aC7{N a0 r}(h:zH N a0=some r):FnM Tryz.prog 69 [] [(j64 a0)] (eS r) []:=by
 refine Af dK Tryz.func69 h ?_;refine At.c 4 ?_ ?_
 ·apply rt;exact At.r 1
 ·refine At.c 2 ?_ ?_
  ·apply rt;exact At.r 1
  ·refine At.c 2 ?_ ?_
   ·apply rt;exact At.r 1
   ·refine At.c 2 ?_ ?_
    ·apply rt;exact At.r 1
    ·refine At.c 2 ?_ ?_
     ·apply rt;exact At.r 1
     ·refine At.c 2 ?_ ?_
      ·apply rt;exact At.r 1
      ·refine At.c 2 ?_ ?_
       ·apply rt;exact At.r 1
       ·refine At.c 2 ?_ ?_
        ·apply rt;exact At.r 1
        ·refine At.c 2 ?_ ?_
         ·apply rt;exact At.r 1
         ·refine At.c 2 ?_ ?_
          ·apply rt;exact At.r 1
          ·refine At.c 2 ?_ ?_
           ·apply rt;exact At.r 1
           ·refine At.c 2 ?_ ?_
            ·apply rt;exact At.r 1
            ·refine At.c 2 ?_ ?_
             ·apply rt;exact At.r 1
             ·refine At.c 2 ?_ ?_
              ·apply rt;exact At.r 1
              ·refine At.c 2 ?_ ?_
               ·apply rt;exact At.r 1
               ·refine At.c 2 ?_ ?_
                ·apply rt;exact At.r 1
                ·refine At.c 2 ?_ ?_
                 ·apply rt;exact At.r 1
                 ·refine At.c 2 ?_ ?_
                  ·apply rt;exact At.r 1
                  ·refine At.c 2 ?_ ?_
                   ·apply rt;exact At.r 1
                   ·refine At.c 2 ?_ ?_
                    ·apply rt;exact At.r 1
                    ·refine At.c 2 ?_ ?_
                     ·apply rt;exact At.r 1
                     ·apply rt;exact At.r 1
theorem aNY : (Tryz.prog.info? 100).map (·.size)=some 2:=by kernel_rfl
theorem aTn : liesAt Tryz.prog Tryz.prog.depth 100 (2 / Tryz.prog.cellsOf 100) 0 100 1=true:=by kernel_rfl
theorem yS : Tryz.prog.follows .mixedOrders=true:=by kernel_rfl
theorem aOC(b:Nat)(w:World)(h0:w.cell? ⟨b,0,none⟩=some (.pointer (some ⟨b,0,none⟩))) :
  Calls Tryz.prog 67 #[.pointer (some ⟨b,0,none⟩)] w λe w'=>e = .returned (.tuple #[])/\w'=w:=by
 obtain⟨j,hj,_⟩:=dm.1 aNY;have mixed:=yS
 go_enter Tryz.func67,Tryz.ntmps67
 go_wp2
 rw[Lib.run_neq_ptr_same w _ Tryz.underlying98 hj]
 go_wp2
 go_end0
 exact⟨rfl,rfl⟩
theorem aLS(b:Nat)(w:World)(h0:w.cell? ⟨b,0,none⟩=some (.pointer none))(hs:w.shape? b=some (100,2))(hf:w.frozen? ⟨b,0,none⟩=false) :
  Calls Tryz.prog 67 #[.pointer (some ⟨b,0,none⟩)] w λe w'=>e = .returned (.tuple #[])/\w'=w.setCell ⟨b,0,none⟩ (.pointer (some ⟨b,0,none⟩)):=by
 obtain⟨j,hj,hz⟩:=dm.1 aNY;have mixed:=yS
 go_enter Tryz.func67,Tryz.ntmps67
 go_wp2
 rw[Lib.run_to_unsafe w ⟨b,0,none⟩ Tryz.underlying98 Tryz.underlying189 hj (by rw[hz];decide) hs (by show 0 < 2;omega)]
 simp only[Result.andThen]
 rw[Oper.upon_value]
 go_wp2
 rw[run_callFunc_extern Tryz.func100 (by kernel_rfl) (by kernel_rfl) (by kernel_rfl) (e:=Extern.AbiNoEscape.same) (by kernel_rfl),Lib.run_noEscape]
 simp only[Result.andThen]
 rw[Oper.upon_value]
 go_wp2
 rw[Lib.run_from_unsafe w ⟨b,0,none⟩ Tryz.underlying189 Tryz.underlying98 hj hs aTn]
 simp only[Result.andThen]
 rw[Oper.upon_value]
 go_wp2
 go_end0
 exact⟨rfl,rfl⟩
theorem aQf(B b:Nat)(bs:List Value)(w:World)(h:Lib.IsBuilder 100 5 B b bs w) :
  Calls Tryz.prog 67 #[.pointer (some ⟨b,0,none⟩)] w λe w'=>e = .returned (.tuple #[])/\Lib.BuilderAt 100 5 B b (.pointer (some ⟨b,0,none⟩)) bs w'/\Below B w w':=by
 rcases h with h | h
 ·refine(aLS b w h.cell0 h.shape h.frozen0).mono ?_;rintro e w' ⟨he,rfl⟩
  exact⟨he,h.used _,(Below.refl B w).setCell (p:=⟨b,0,none⟩) h.1 _⟩
 ·refine(aOC b w h.cell0).mono ?_;rintro e w' ⟨he,rfl⟩
  exact⟨he,h,Below.refl B _⟩
theorem aTh : (Tryz.prog.info? 5).map (λi=>(i.zero,i.size,i.bytes))=some (some (.int .u8 0),1,1):=by kernel_rfl
theorem aLE : Tryz.prog.cellsOf 5=1:=by kernel_rfl
theorem aH5(args:Array Value)(w:World):(callFunc 67 args).run Tryz.prog w = .ok (.enter 67 args) w:=enters_of Tryz.func67 (by kernel_rfl) rfl args w
theorem aK8(B b:Nat)(bs:List Value)(s:ByteArray)(w:World)(h:Lib.IsBuilder 100 5 B b bs w)(hl:bs.length+s.size<=140737488355328)(hB:B<=w.heap.size) :
  Calls Tryz.prog 38 #[.pointer (some ⟨b,0,none⟩),.string s] w λe w'=>e = .returned (.tuple #[.int .i64 s.size,.nilIface])/\Lib.BuilderAt 100 5 B b (.pointer (some ⟨b,0,none⟩)) (bs++Lib.strCells s) w'/\Below B w w':=by
 obtain⟨i0,hi,z0,z1,z2⟩:=info_parts aTh;have mixed:=yS;have e48:=aH5
 go_enter Tryz.func38,Tryz.ntmps38
 go_wp2_with (go_at_fn 67;refine(aQf B b bs _ h).mono ?_)
 rintro e w1 ⟨rfl,⟨hb0,v,hbk,hown,hne⟩,hb1⟩
 have c0:w1.cell? ⟨b,0,none⟩=some (.pointer (some ⟨b,0,none⟩)):=by rw[Lib.cell_of_heap hbk];rfl
 have c1:w1.cell? ⟨b,1,none⟩=some v:=by rw[Lib.cell_of_heap hbk];rfl
 go_wp2_with (at_builtin;refine Lib.wpList_append_own_string _ rfl _ _ 23 9 rfl B 5 i0 Tryz.underlying23 Tryz.underlying9 hi z0 z1 z2 _ _ _ rfl hown s rfl ?q3 ?q4 ?q5 ?_)
 case q3=>unfold maxLen;omega
 case q4=>omega
 case q5=>have:=hb1.size;omega
 intro v' w2 hown' hgrow _;have lt:b < w1.heap.size:=by
  refine Nat.lt_of_not_le λq=>?_;rw[Array.getElem?_eq_none q] at hbk;cases hbk
 have hb2:w2.heap[b]? = some (.cells #[.pointer (some ⟨b,0,none⟩),v] 100 (0,0)):=by rw[hgrow.block b lt (λe=>hne e.symm),hbk]
 have d0:w2.cell? ⟨b,0,none⟩=some (.pointer (some ⟨b,0,none⟩)):=by rw[Lib.cell_of_heap hb2];rfl
 have d1:w2.cell? ⟨b,1,none⟩=some v:=by rw[Lib.cell_of_heap hb2];rfl
 have f1:w2.frozen? ⟨b,1,none⟩=false:=Lib.frozen_of_heap hb2 1;obtain⟨ao,n',cap,rfl⟩:∃ao n' cap,v' = .slice ao n' cap:=by
  rcases hown'.2 with ⟨hv,_⟩ | ⟨g,cap,cur,hv,_⟩ <;> exact⟨_,_,_,hv⟩
 go_wp2
 go_ret2
 refine⟨rfl,Lib.BuilderAt.put hb0 hb2 (by simpa[Lib.strCells_length] using hown') (by decide),?_⟩
 exact(hb1.grown hgrow (by have:=hb1.size;omega) (λk hk=>(hown.lt k hk).1)).setCell (p:=⟨b,1,none⟩) hb0 _
theorem aOq(B b:Nat)(l:List UInt8)(w:World)(h:Lib.BuilderAt 100 5 B b (.pointer (some ⟨b,0,none⟩)) (Lib.byteCells l) w)(h0:l≠[]) :
  Calls Tryz.prog 40 #[.pointer (some ⟨b,0,none⟩)] w λe w'=>e = .returned (.string ⟨l.toArray⟩)/\Below B w w':=by
 obtain⟨hB,v,hbk,hown,hne⟩:=h;have hl0:l.length≠0:=by simpa using h0
 rw[Lib.byteCells_length] at hown;obtain⟨g,cap,cur,rfl,hbg,hg,hnc,hcm,hcs,htk⟩:∃g cap cur,v = .slice (some ⟨g,0,none⟩) l.length cap/\B<=g/\w.heap[g]? = some (.cells cur 5 (0,0))/\l.length<=cap/\cap<=maxLen/\cur.size=cap*1/\cur.toList.take (l.length*1)=Lib.byteCells l:=by
  rcases hown.2 with ⟨_,hz⟩ | ⟨g,cap,cur,hv,r⟩
  ·exact absurd hz hl0
  ·exact⟨g,cap,cur,hv,r⟩
 have c1:w.drew.cell? ⟨b,1,none⟩=some (.slice (some ⟨g,0,none⟩) l.length cap):=by
  rw[Lib.cell_of_heap (w:=w.drew) (b:=b) hbk];rfl
 have hSD:(Builtin.unsafeSliceData_ #[23] 142 #[.slice (some ⟨g,0,none⟩) l.length cap]).run Tryz.prog w.drew = .ok (.pointer (some ⟨g,0,none⟩)) w.drew:=Lib.run_unsafeSliceData_row _ _ _ _ _ _ (by omega)
 have hUS:(Builtin.unsafeString_ #[142,3] 9 #[.pointer (some ⟨g,0,none⟩),.int .i64 l.length]).run Tryz.prog w.drew = .ok (.string ⟨l.toArray⟩) (w.drew.freeze ⟨g,0,none⟩ l.length):=by
  refine Lib.run_unsafeString_row w.drew 142 3 9 5 Tryz.underlying142 aLE g cur.size (by have q:w.drew.heap[g]? = some (.cells cur 5 (0,0)):=hg;simp[World.shape?,q]) l h0 (by omega) (by unfold maxLen at hcm;omega) λj x hx=>?_;exact hown.cells (g:=g) rfl j (.int .u8 x.toNat) (by simp[Lib.byteCells,hx])
 have mixed:=yS
 go_enter Tryz.func40,Tryz.ntmps40
 go_wp2
 go_region_o
 all_goals (go_wp2;go_ret;exact⟨rfl,Lib.below_freeze (Below.drew (Below.refl B w)) (p:=⟨g,0,none⟩) hbg _⟩)
def aHo(w:World):Prop:=Lib.TabIs Tryz.prog w "internal/strconv.uint64pow10" .u64 Lib.pow10Tab
theorem aMd(args:Array Value)(w:World):(callFunc 38 args).run Tryz.prog w = .ok (.enter 38 args) w:=enters_of Tryz.func38 (by kernel_rfl) rfl args w
theorem aMI(args:Array Value)(w:World):(callFunc 181 args).run Tryz.prog w = .ok (.enter 181 args) w:=enters_of Tryz.func181 (by kernel_rfl) rfl args w
theorem aMB(args:Array Value)(w:World):(callFunc 40 args).run Tryz.prog w = .ok (.enter 40 args) w:=enters_of Tryz.func40 (by kernel_rfl) rfl args w
theorem aSB{B b:Nat}{p:Value}{bs:List Value}{w:World}(k:Nat)(os:Array Obj)(h:Lib.BuilderAt 100 5 B b p bs w):Lib.BuilderAt 100 5 B b p bs (grow (w.drewN k) os):=by
 obtain⟨h1,v,h2,h3,h4⟩:=h;exact⟨h1,v,(heap_grow_old _ _ (aGG h2)).trans h2,aQq k os h3,h4⟩
theorem aTq(hI:∀(i:Int) (w:World),-9223372036854775808<=i->i<=9223372036854775807->aHo w->Calls Tryz.prog 181 #[.int .i64 i] w λe w'=>e = .returned (.string ⟨(Lib.itoa i).toArray⟩)/\∃k os,w'=grow (w.drewN k) os)
  (hT:∀w w':World,aHo w->Below w.heap.size w w'->aHo w')
  (first:ByteArray) (l:List Int) (ao:Option Addr) (cap:Nat) (w:World) (tab:aHo w) (h0:first.size≠0) (hf:first.size<=1000000) (hl:l.length<=100000) (h64:∀x∈l,-9223372036854775808<=x/\x<=9223372036854775807)
  (hc:∀(i:Nat) (x:Int),l[i]? = some x->∃b off,ao=some ⟨b,off,none⟩/\b < w.heap.size/\w.cell? ⟨b,off+i,none⟩=some (.int .i64 x)) :
  Calls Tryz.prog 248 #[.string first,.slice ao l.length cap] w λe w'=>e = .returned (.string ⟨(aAX first l).toArray⟩)/\Below w.heap.size w w':=by
 have mixed:=yS;have e34:=aMd;have e35:=aMI;have e36:=aMB;have fresh:=Lib.fresh_isBuilder 100 5 w;have bl0:Below w.heap.size w (w.alloc (.cells #[.pointer none,.slice none 0 0] 100)):=(Below.refl _ w).alloc (Nat.le_refl _) _;have sz0:w.heap.size<=(w.alloc (.cells #[.pointer none,.slice none 0 0] 100)).heap.size:=bl0.size
 go_enter Tryz.func248,Tryz.ntmps248
 go_wp2_with (go_at_fn 38;refine(aK8 w.heap.size w.heap.size [] first _ fresh ?q1 sz0).mono ?_)
 case q1=>simp;omega
 rintro e w1 ⟨rfl,hb1,bl1⟩
 rw[List.nil_append] at hb1;have bl2:=bl0.trans bl1
 go_wp2
 go_loopw [12] (λi wr=>∃k:Nat,k<=l.length/\i = .int .i64 k/\Lib.BuilderAt 100 5 w.heap.size w.heap.size (.pointer (some ⟨w.heap.size,0,none⟩)) (Lib.byteCells (aAX first (l.take k))) wr/\Below w.heap.size w wr) (λi _=>match i with | .int _ m=>l.length - m.toNat | _=>0)
 case atStart=>exact⟨0,Nat.zero_le _,rfl,by rw[List.take_zero];simpa[aAX,aFP,Lib.strCells_eq] using hb1,bl2⟩
 case round=>
  obtain⟨k,hk,rfl,hbr,blr⟩:=hrel;by_cases hlt:k < l.length
  ·have hx:l[k]? = some l[k]:=List.getElem?_eq_getElem hlt;obtain⟨b,off,rfl,hbl,hcell⟩:=hc k _ hx;have r64:=h64 _ (List.getElem_mem hlt)
   have hcr:wr.cell? ⟨b,off+k,none⟩=some (.int .i64 l[k]):=(blr.cell hbl).trans hcell;have tabr:=hT _ _ tab blr;have hln:=aPH first l h64 k
   have iln:=aKt _ r64.1 r64.2;have hcat:(Op.stringOp .add (⟨#[32]⟩:ByteArray) ⟨(Lib.itoa l[k]).toArray⟩).run Tryz.prog=λW => .ok (.string ⟨(32 :: Lib.itoa l[k]).toArray⟩) W:=by
    funext W;rw[run_string_add_sum W _ _ (by show 1+(Lib.itoa l[k]).toArray.size<=_;simp;omega),aOv]
   go_wp2_with (go_at_fn 181;refine(hI l[k] _ r64.1 r64.2 tabr).mono ?_)
   rintro e w2 ⟨rfl,kk,os,rfl⟩
   have hb2:=aSB kk os hbr;have szr:=blr.size;have bl2:=blr.trans (aM0 wr kk os szr)
   have hln2:(Lib.byteCells (aAX first (l.take k))).length+(⟨(32 :: Lib.itoa l[k]).toArray⟩:ByteArray).size<=140737488355328:=by
    rw[Lib.byteCells_length]
    show _+(32 :: Lib.itoa l[k]).toArray.size<=_;rw[List.size_toArray,List.length_cons]
    omega
   go_wp2_with (go_at_fn 38;refine(aK8 w.heap.size w.heap.size _ _ _ (.inr hb2) hln2 (by simp;omega)).mono ?_)
   rintro e w3 ⟨rfl,hb3,bl3⟩
   have e3:Lib.byteCells (aAX first (l.take k))++Lib.strCells ⟨(32 :: Lib.itoa l[k]).toArray⟩=Lib.byteCells (aAX first (l.take (k+1))):=by
    rw[Lib.strCells_eq,<- Lib.byteCells_append]
    congr 1;unfold aAX;rw[List.append_assoc,List.take_succ_eq_append_getElem hlt,aL8]
   rw[e3] at hb3;have bl4:=bl2.trans bl3;clear hcat hb2 bl3 bl2 hbr blr hcr tabr
   go_wp2
   have ek:((k:Int)+1+9223372036854775808) % 18446744073709551616 - 9223372036854775808=((k+1:Nat):Int):=by omega
   exact⟨⟨k+1,hlt,rfl,hb3,bl4⟩,by show l.length - ((k:Int)+1).toNat < l.length - (k:Int).toNat;omega⟩
  ·have hk2:k=l.length:=by omega
   subst hk2;rw[List.take_length] at hbr;have hne:aAX first l≠[]:=by
    unfold aAX;intro h;have:=congrArg List.length h;rw[List.length_append] at this;apply h0;have e:first.size=first.data.toList.length:=rfl
    simp only[List.length_nil] at this;omega
   go_wp2_with (go_at_fn 40;refine(aOq w.heap.size w.heap.size _ _ hbr hne).mono ?_)
   rintro e w2 ⟨rfl,bl2⟩
   have bl3:=blr.trans bl2
   go_wp2
   go_ret
   exact⟨rfl,bl3⟩
theorem aPA{g:Nat}(hn:Tryz.prog.globalNamed "internal/strconv.uint64pow10" = some g)(w w':World)(h:aHo w)(bl:RowKit.Below w.heap.size w w'):aHo w':=by
 unfold aHo Lib.TabIs World.var? at *;rw[hn,Option.bind_some] at *;cases hg:w.heap[g]? with
 | none=>rw[hg] at h;cases h
 | some o=>rw[bl.block g (aGG hg)];exact h
theorem aSf{ρ:Shelf.Ren}(L:LaysM.n171 Tryz.prog ρ)(hf:ρ.f 171=181){g:Nat}(hm:(g,aAy .u64 Lib.pow10Tab)∈bL.l)(hn:Tryz.prog.globalNamed "internal/strconv.uint64pow10" = some g){first r:ByteArray}{l:List Int}(h:aLe first l=some r):FnM Tryz.prog 248 [] [eS first,eL 1 j64 l] (eS r) []:=by
 obtain⟨rfl,h0,h1,h2,h3⟩:=aSg h;unfold FnM;rintro w G bs vs ok ⟨y0,r0,rfl,g0,y1,r1,rfl,g1,rfl⟩
 have e0:=bH (uN g0)
 subst e0;obtain⟨a,cap,rfl,hcap,hn1,hcs⟩:=aCi (uN g1)
 rw[List.length_map]
 refine Calls.mono (aTq (λi w h0 h1 tab=>hf▸Any.strconv_Itoa L i h0 h1 w tab) (λw w'=>aPA hn w w') first l a cap w (aR0 ok hm hn) h0 h1 h2 h3 λi x hx=>?_) ?_
 ·rcases hcs with hcs | ⟨b,off,zs,rfl,hrd,hat⟩
  ·rw[List.map_eq_nil_iff] at hcs;subst hcs;cases hx
  ·have hz:=aLU l hrd;have hc:=(hat i (.int .i64 x) (by rw[hz,List.getElem?_map,hx];rfl)).1;refine⟨b,off,rfl,?_,hc⟩
   have:w.heap[b]? ≠ none:=λq=>by
    unfold World.cell? at hc;simp[q] at hc
   cases hb:w.heap[b]? with
   | none=>exact absurd hb this
   | some o=>exact aGG hb
 ·rintro e w' ⟨rfl,bl⟩
  have later:cL w w':=⟨bl.size,λb hb=>bl.block b hb,bl.os,bl.tape,bl.output⟩
  exact⟨_,bs,rfl,Ext.later later,OK.later later ok,tQ rfl⟩
theorem aWq{first r:ByteArray}{l:List Int}(h:aLe first l=some r):FnM Tryz.prog 248 [] [eS first,eL 1 j64 l] (eS r) []:=aSf itoa rfl (g:=5) aNB (by kernel_rfl) h
def aII : Nat->Bool:=imL [1]
def aCg(N:Nat)(a0:wJ):Option (ByteArray):=
 ae (zH N a0.gB2) λr1=>
 ae (aLe r1 a0.gB5) λr2=>
 ae (aN ((a0.gB6.length:Int)) λx4=>
 cond (decide (x4 > 0)) (none) (some (()))) λp3=>
 some r2
theorem aHi{N a0 r}(h:aCg N a0=some r):FnM Tryz.prog 247 [] [(wJ.enc a0)] (eS r) []:=by
 refine Af aII Tryz.func247 h ?_;refine At.D 2 [] ?_;refine DD.y 2 aC7 λr1=>?_;refine DD.y 2 aWq λr2=>?_;refine De 1 ?_;refine At.J 0 1 [3] 0 (λp3=>([],[],[])) (λp3=>?_) λp3=>?_
 ·apply lx;intro x4;refine At.c 4 ?_ ?_
  ·exact nn
  ·apply rt;exact At.jn 0
 ·apply rt;exact At.r 2
def uG(N:Nat)(a0:Int)(a1:(List Int)):Option (ByteArray):=
 ae (aCg N (wJ.mk a0 a1 [])) λr1=>
 some r1
theorem vN{N a0 a1 r}(h:uG N a0 a1=some r):FnM Tryz.prog 246 [] [(j64 a0),(eL 1 j64 a1)] (eS r) []:=by
 refine Af dK Tryz.func246 h ?_;refine At.y 4 aHi λr1=>?_;apply rt;exact At.r 1
def tC(N:Nat)(b1:(List (Int×aQ)))(a1:Int)(a2:(Vector Int 32)):Option (aQ×Int):=
 ae (tP N b1 a2) λr1=>
 cond (!(aPB b1 a1)) (
  some ((aQ.mk 0 0,11))) (
  some ((aLA b1 a1 (aQ.mk 0 0),0)))
theorem wI{N b1 a1 a2 r}(h:tC N b1 a1 a2=some r):FnM Tryz.prog 553 [.var (.st 33 [(eA 32 1 k8 a2),(.mp 1)]),.mp (eM .i64 aQ.enc b1)] [(.ref 0 [] 0),(j64 a1)] (.tup [(aQ.enc r.1),(j64 r.2)]) [.var (.st 33 [(eA 32 1 k8 a2),(.mp 1)]),.mp (eM .i64 aQ.enc b1)]:=by
 refine Af dK Tryz.func553 h ?_;refine At.Y 3 [0,1] xF λr1=>?_;refine At.o 6 (aOD hT (f:=aQ.enc) (z:=aQ.mk 0 0) (id:=1) (k:=a1) aEE (λ_ _ h=>by cases h) (b1:List (Int×aQ)) (by kernel_rfl) (by kernel_rfl) (by kernel_rfl)) ?_;refine At.c 8 ?_ ?_
 ·apply rt;exact At.r 3
 ·apply rt;exact At.r 3
def uQ(N:Nat)(b1:(List (Int×aQ)))(a1:Int)(a2:(Vector Int 32)):Option ((List (Int×aQ))×Int×Int):=
 ae (tC N b1 a1 a2) λr1=>
 cond (r1.2 != 0) (
  some ((b1,0,r1.2))) (
  cond (r1.1.gto==65535) (
   some ((b1,0,3))) (
   some ((aCF b1 a1 (aQ.mk r1.1.gA9 (I64 (r1.1.gto+1))),I64 (r1.1.gto+1),0))))
theorem aAj{N b1 a1 a2 r}(h:uQ N b1 a1 a2=some r):FnM Tryz.prog 550 [.var (.st 33 [(eA 32 1 k8 a2),(.mp 1)]),.mp (eM .i64 aQ.enc b1)] [(.ref 0 [] 0),(j64 a1)] (.tup [(j64 r.2.1),(j64 r.2.2)]) [.var (.st 33 [(eA 32 1 k8 a2),(.mp 1)]),.mp (eM .i64 aQ.enc r.1)]:=by
 refine Af dK Tryz.func550 h ?_;refine At.Y 4 [0,1] wI λr1=>?_;refine At.c 8 ?_ ?_
 ·apply rt;exact At.r 3
 ·refine At.c 3 ?_ ?_
  ·apply rt;exact At.r 2
  ·refine At.D 5 [] ?_;refine DD.w 6 (.v (.bool false)) ⟨[(1,.mp (eM .i64 aQ.enc (aCF b1 a1 (aQ.mk r1.1.gA9 (I64 (r1.1.gto+1))))))],[]⟩ (λ_ e=>aJY (f:=aQ.enc) (id:=1) (k:=a1) (v:=(aQ.mk r1.1.gA9 (I64 (r1.1.gto+1)))) aEE (λ_=>rfl) (b1:List (Int×aQ)) (pj1 e) (pj1 (pj2 e)) (pj2 (pj2 e))) ?_;refine De 0 ?_;apply rt;exact At.r 4
def uF(N:Nat)(b1:(List (Int×aQ)))(a1 a2:Int)(a3:(Vector Int 32)):Option ((List (Int×aQ))×Int):=
 ae (tC N b1 a1 a3) λr1=>
 cond (r1.2 != 0) (
  some ((b1,r1.2))) (
  aN (decide (a2 < r1.1.gA9)) λx2=>
  aN (cond x2 true (decide (a2>=r1.1.gto))) λx3=>
  cond x3 (
   some ((b1,2))) (
   some ((aCF b1 a1 (aQ.mk (I64 (a2+1)) r1.1.gto),0))))
theorem aAG{N b1 a1 a2 a3 r}(h:uF N b1 a1 a2 a3=some r):FnM Tryz.prog 551 [.var (.st 33 [(eA 32 1 k8 a3),(.mp 1)]),.mp (eM .i64 aQ.enc b1)] [(.ref 0 [] 0),(j64 a1),(j64 a2)] (j64 r.2) [.var (.st 33 [(eA 32 1 k8 a3),(.mp 1)]),.mp (eM .i64 aQ.enc r.1)]:=by
 refine Af dK Tryz.func551 h ?_;refine At.Y 3 [0,1] wI λr1=>?_;refine At.c 8 ?_ ?_
 ·apply rt;exact At.r 2
 ·apply lx;intro x2;apply lx;intro x3;refine At.c 10 ?_ ?_
  ·apply rt;exact At.r 1
  ·refine At.D 4 [] ?_;refine DD.w 6 (.v (.bool false)) ⟨[(1,.mp (eM .i64 aQ.enc (aCF b1 a1 (aQ.mk (I64 (a2+1)) r1.1.gto))))],[]⟩ (λ_ e=>aJY (f:=aQ.enc) (id:=1) (k:=a1) (v:=(aQ.mk (I64 (a2+1)) r1.1.gto)) aEE (λ_=>rfl) (b1:List (Int×aQ)) (pj1 e) (pj1 (pj2 e)) (pj2 (pj2 e))) ?_;refine De 0 ?_;apply rt;exact At.r 1
def aBD : Nat->Bool:=imL [2]
def uS(N:Nat)(b3:(List (Int×aQ)))(b13:(List (Int×kW)))(a2:qR)(a3 a4 a5 a6:(Vector Int 32))(a7:Int)(a8:aL)(a9:Bool)(a10:Int)(a11:(Vector aC 8))(a12:aL)(a13:Bool)(a14:Int)(a15:(Vector aC 8))(a16:aL)(a17:Bool)(a18:Int)(a19:(Vector aC 8))(a20:aL)(a21:Bool)(a22:Int)(a23:(Vector aC 8))(a24:aL)(a25:Bool)(a26:Int)(a27:(Vector aC 8))(a28:aL)(a29:Bool)(a30:Int)(a31:(Vector aC 8))(a32:aL)(a33:Bool)(a34:Int)(a35:(Vector aC 8))(a36:aL)(a37:Bool)(a38:Int)(a39:(Vector aC 8))(a40:kY)(a41 a42 a43 a44 a45 a46 a47 a48:aH):Option ((List (Int×aQ))×ByteArray):=
 aN (ByteArray.toList a2.gB3==ByteArray.toList aUf) λx1=>
 cond x1 (
  ae (yE N b3 a2.gid a5) λr2=>
  ae (uG N r2.2 []) λr3=>
  some ((r2.1,r3))) (
  aN (ByteArray.toList a2.gB3==ByteArray.toList aUe) λx4=>
  cond x4 (
   ae (uQ N b3 a2.gid a5) λr5=>
   cond (r5.2.2 != 0) (
    ae (uG N r5.2.2 []) λr6=>
    some ((r5.1,r6))) (
    ae (uG N r5.2.2 ([r5.2.1])) λr7=>
    some ((r5.1,r7)))) (
   ae (uF N b3 a2.gid a2.gB4 a5) λr8=>
   ae (uG N r8.2 []) λr9=>
   some ((r8.1,r9))))
theorem aAp{N b3 b13 a2 a3 a4 a5 a6 a7 a8 a9 a10 a11 a12 a13 a14 a15 a16 a17 a18 a19 a20 a21 a22 a23 a24 a25 a26 a27 a28 a29 a30 a31 a32 a33 a34 a35 a36 a37 a38 a39 a40 a41 a42 a43 a44 a45 a46 a47 a48 r}(h:uS N b3 b13 a2 a3 a4 a5 a6 a7 a8 a9 a10 a11 a12 a13 a14 a15 a16 a17 a18 a19 a20 a21 a22 a23 a24 a25 a26 a27 a28 a29 a30 a31 a32 a33 a34 a35 a36 a37 a38 a39 a40 a41 a42 a43 a44 a45 a46 a47 a48=some r):FnM Tryz.prog 548 [.var (.st 66 [(eA 32 1 k8 a3),(eA 32 1 k8 a4),(.ref 1 [] 0),(.ref 2 [] 0)]),.var (.st 33 [(eA 32 1 k8 a5),(.mp 3)]),.var (.st 429 [(eA 32 1 k8 a6),(.ref 4 [] 0),(k32 a7),(.st 392 [(.st 49 [(aL.enc a8),(eB a9),(j64 a10),(.v (.pointer none)),(.ref 5 [] 0),(eA 24 3 aC.enc a11)]),(.st 49 [(aL.enc a12),(eB a13),(j64 a14),(.v (.pointer none)),(.ref 6 [] 0),(eA 24 3 aC.enc a15)]),(.st 49 [(aL.enc a16),(eB a17),(j64 a18),(.v (.pointer none)),(.ref 7 [] 0),(eA 24 3 aC.enc a19)]),(.st 49 [(aL.enc a20),(eB a21),(j64 a22),(.v (.pointer none)),(.ref 8 [] 0),(eA 24 3 aC.enc a23)]),(.st 49 [(aL.enc a24),(eB a25),(j64 a26),(.v (.pointer none)),(.ref 9 [] 0),(eA 24 3 aC.enc a27)]),(.st 49 [(aL.enc a28),(eB a29),(j64 a30),(.v (.pointer none)),(.ref 10 [] 0),(eA 24 3 aC.enc a31)]),(.st 49 [(aL.enc a32),(eB a33),(j64 a34),(.v (.pointer none)),(.ref 11 [] 0),(eA 24 3 aC.enc a35)]),(.st 49 [(aL.enc a36),(eB a37),(j64 a38),(.v (.pointer none)),(.ref 12 [] 0),(eA 24 3 aC.enc a39)])]),(kY.enc a40)]),.mp (eM .i64 aQ.enc b3),.var (.st 2 [(.mp 13),(.mp 14)]),.var (aH.enc a41),.var (aH.enc a42),.var (aH.enc a43),.var (aH.enc a44),.var (aH.enc a45),.var (aH.enc a46),.var (aH.enc a47),.var (aH.enc a48),.mp (eM .i64 kW.enc b13),.mp (.kv [])] [(qR.enc a2),(.ref 0 [] 0)] (eS r.2) [.var (.st 66 [(eA 32 1 k8 a3),(eA 32 1 k8 a4),(.ref 1 [] 0),(.ref 2 [] 0)]),.var (.st 33 [(eA 32 1 k8 a5),(.mp 3)]),.var (.st 429 [(eA 32 1 k8 a6),(.ref 4 [] 0),(k32 a7),(.st 392 [(.st 49 [(aL.enc a8),(eB a9),(j64 a10),(.v (.pointer none)),(.ref 5 [] 0),(eA 24 3 aC.enc a11)]),(.st 49 [(aL.enc a12),(eB a13),(j64 a14),(.v (.pointer none)),(.ref 6 [] 0),(eA 24 3 aC.enc a15)]),(.st 49 [(aL.enc a16),(eB a17),(j64 a18),(.v (.pointer none)),(.ref 7 [] 0),(eA 24 3 aC.enc a19)]),(.st 49 [(aL.enc a20),(eB a21),(j64 a22),(.v (.pointer none)),(.ref 8 [] 0),(eA 24 3 aC.enc a23)]),(.st 49 [(aL.enc a24),(eB a25),(j64 a26),(.v (.pointer none)),(.ref 9 [] 0),(eA 24 3 aC.enc a27)]),(.st 49 [(aL.enc a28),(eB a29),(j64 a30),(.v (.pointer none)),(.ref 10 [] 0),(eA 24 3 aC.enc a31)]),(.st 49 [(aL.enc a32),(eB a33),(j64 a34),(.v (.pointer none)),(.ref 11 [] 0),(eA 24 3 aC.enc a35)]),(.st 49 [(aL.enc a36),(eB a37),(j64 a38),(.v (.pointer none)),(.ref 12 [] 0),(eA 24 3 aC.enc a39)])]),(kY.enc a40)]),.mp (eM .i64 aQ.enc r.1),.var (.st 2 [(.mp 13),(.mp 14)]),.var (aH.enc a41),.var (aH.enc a42),.var (aH.enc a43),.var (aH.enc a44),.var (aH.enc a45),.var (aH.enc a46),.var (aH.enc a47),.var (aH.enc a48),.mp (eM .i64 kW.enc b13),.mp (.kv [])]:=by
 refine Af aBD Tryz.func548 h ?_;apply lx;intro x1;refine At.c 6 ?_ ?_
 ·refine At.D 0 [] ?_;refine DD.Y 6 [1,3] aCO λr2=>?_;refine DD.y 0 vN λr3=>?_;refine De 1 ?_;apply rt;exact At.r 0
 ·apply lx;intro x4;refine At.c 2 ?_ ?_
  ·refine At.D 0 [] ?_;refine DD.Y 6 [1,3] aAj λr5=>?_;refine De 5 ?_;refine At.c 2 ?_ ?_
   ·refine At.y 1 vN λr6=>?_;apply rt;exact At.r 1
   ·refine At.O 2 bRw ?_;refine At.y 0 vN λr7=>?_;apply rt;exact At.r 1
  ·refine At.D 0 [] ?_;refine DD.Y 8 [1,3] aAG λr8=>?_;refine DD.y 0 vN λr9=>?_;refine De 1 ?_;apply rt;exact At.r 0
def uT(N:Nat)(b3:(List (Int×aQ)))(b13:(List (Int×kW)))(a2:ByteArray)(a3 a4 a5 a6:(Vector Int 32))(a7:Int)(a8:aL)(a9:Bool)(a10:Int)(a11:(Vector aC 8))(a12:aL)(a13:Bool)(a14:Int)(a15:(Vector aC 8))(a16:aL)(a17:Bool)(a18:Int)(a19:(Vector aC 8))(a20:aL)(a21:Bool)(a22:Int)(a23:(Vector aC 8))(a24:aL)(a25:Bool)(a26:Int)(a27:(Vector aC 8))(a28:aL)(a29:Bool)(a30:Int)(a31:(Vector aC 8))(a32:aL)(a33:Bool)(a34:Int)(a35:(Vector aC 8))(a36:aL)(a37:Bool)(a38:Int)(a39:(Vector aC 8))(a40:kY)(a41 a42 a43 a44 a45 a46 a47 a48:aH):Option ((List (Int×aQ))×ByteArray):=
 ae (vU N b3 b13 a3 a4 a5 a6 a7 a8 a9 a10 a11 a12 a13 a14 a15 a16 a17 a18 a19 a20 a21 a22 a23 a24 a25 a26 a27 a28 a29 a30 a31 a32 a33 a34 a35 a36 a37 a38 a39 a40 a41 a42 a43 a44 a45 a46 a47 a48) λr1=>
 ae (aD4 N a2) λr2=>
 ae (uS N b3 b13 (qR.mk r2.1 r2.2.1 r2.2.2) a3 a4 a5 a6 a7 a8 a9 a10 a11 a12 a13 a14 a15 a16 a17 a18 a19 a20 a21 a22 a23 a24 a25 a26 a27 a28 a29 a30 a31 a32 a33 a34 a35 a36 a37 a38 a39 a40 a41 a42 a43 a44 a45 a46 a47 a48) λr3=>
 some ((r3.1,r3.2))
theorem aAf{N b3 b13 a2 a3 a4 a5 a6 a7 a8 a9 a10 a11 a12 a13 a14 a15 a16 a17 a18 a19 a20 a21 a22 a23 a24 a25 a26 a27 a28 a29 a30 a31 a32 a33 a34 a35 a36 a37 a38 a39 a40 a41 a42 a43 a44 a45 a46 a47 a48 r}(h:uT N b3 b13 a2 a3 a4 a5 a6 a7 a8 a9 a10 a11 a12 a13 a14 a15 a16 a17 a18 a19 a20 a21 a22 a23 a24 a25 a26 a27 a28 a29 a30 a31 a32 a33 a34 a35 a36 a37 a38 a39 a40 a41 a42 a43 a44 a45 a46 a47 a48=some r):FnM Tryz.prog 39 [.var (.st 66 [(eA 32 1 k8 a3),(eA 32 1 k8 a4),(.ref 1 [] 0),(.ref 2 [] 0)]),.var (.st 33 [(eA 32 1 k8 a5),(.mp 3)]),.var (.st 429 [(eA 32 1 k8 a6),(.ref 4 [] 0),(k32 a7),(.st 392 [(.st 49 [(aL.enc a8),(eB a9),(j64 a10),(.v (.pointer none)),(.ref 5 [] 0),(eA 24 3 aC.enc a11)]),(.st 49 [(aL.enc a12),(eB a13),(j64 a14),(.v (.pointer none)),(.ref 6 [] 0),(eA 24 3 aC.enc a15)]),(.st 49 [(aL.enc a16),(eB a17),(j64 a18),(.v (.pointer none)),(.ref 7 [] 0),(eA 24 3 aC.enc a19)]),(.st 49 [(aL.enc a20),(eB a21),(j64 a22),(.v (.pointer none)),(.ref 8 [] 0),(eA 24 3 aC.enc a23)]),(.st 49 [(aL.enc a24),(eB a25),(j64 a26),(.v (.pointer none)),(.ref 9 [] 0),(eA 24 3 aC.enc a27)]),(.st 49 [(aL.enc a28),(eB a29),(j64 a30),(.v (.pointer none)),(.ref 10 [] 0),(eA 24 3 aC.enc a31)]),(.st 49 [(aL.enc a32),(eB a33),(j64 a34),(.v (.pointer none)),(.ref 11 [] 0),(eA 24 3 aC.enc a35)]),(.st 49 [(aL.enc a36),(eB a37),(j64 a38),(.v (.pointer none)),(.ref 12 [] 0),(eA 24 3 aC.enc a39)])]),(kY.enc a40)]),.mp (eM .i64 aQ.enc b3),.var (.st 2 [(.mp 13),(.mp 14)]),.var (aH.enc a41),.var (aH.enc a42),.var (aH.enc a43),.var (aH.enc a44),.var (aH.enc a45),.var (aH.enc a46),.var (aH.enc a47),.var (aH.enc a48),.mp (eM .i64 kW.enc b13),.mp (.kv [])] [(.ref 0 [] 0),(eS a2)] (eS r.2) [.var (.st 66 [(eA 32 1 k8 a3),(eA 32 1 k8 a4),(.ref 1 [] 0),(.ref 2 [] 0)]),.var (.st 33 [(eA 32 1 k8 a5),(.mp 3)]),.var (.st 429 [(eA 32 1 k8 a6),(.ref 4 [] 0),(k32 a7),(.st 392 [(.st 49 [(aL.enc a8),(eB a9),(j64 a10),(.v (.pointer none)),(.ref 5 [] 0),(eA 24 3 aC.enc a11)]),(.st 49 [(aL.enc a12),(eB a13),(j64 a14),(.v (.pointer none)),(.ref 6 [] 0),(eA 24 3 aC.enc a15)]),(.st 49 [(aL.enc a16),(eB a17),(j64 a18),(.v (.pointer none)),(.ref 7 [] 0),(eA 24 3 aC.enc a19)]),(.st 49 [(aL.enc a20),(eB a21),(j64 a22),(.v (.pointer none)),(.ref 8 [] 0),(eA 24 3 aC.enc a23)]),(.st 49 [(aL.enc a24),(eB a25),(j64 a26),(.v (.pointer none)),(.ref 9 [] 0),(eA 24 3 aC.enc a27)]),(.st 49 [(aL.enc a28),(eB a29),(j64 a30),(.v (.pointer none)),(.ref 10 [] 0),(eA 24 3 aC.enc a31)]),(.st 49 [(aL.enc a32),(eB a33),(j64 a34),(.v (.pointer none)),(.ref 11 [] 0),(eA 24 3 aC.enc a35)]),(.st 49 [(aL.enc a36),(eB a37),(j64 a38),(.v (.pointer none)),(.ref 12 [] 0),(eA 24 3 aC.enc a39)])]),(kY.enc a40)]),.mp (eM .i64 aQ.enc r.1),.var (.st 2 [(.mp 13),(.mp 14)]),.var (aH.enc a41),.var (aH.enc a42),.var (aH.enc a43),.var (aH.enc a44),.var (aH.enc a45),.var (aH.enc a46),.var (aH.enc a47),.var (aH.enc a48),.mp (eM .i64 kW.enc b13),.mp (.kv [])]:=by
 refine Af dK Tryz.func39 h ?_;refine At.Y 2 [0,1,2,3,4,5,6,7,8,9,10,11,12,13,14] aBG λr1=>?_;refine At.y 2 aIO λr2=>?_;refine At.Y 1 [0,1,2,3,4,5,6,7,8,9,10,11,12,13,14] aAp λr3=>?_;apply rt;exact At.r 1
def ccP(b:Nat)(v:Value)(w w':World):Prop:=w'=aZ w b (.cells #[.pointer (some ⟨b,0,none⟩),v] 100 (0,0))
theorem bl_cc(b:Nat)(p v:Value)(w:World)(h:w.heap[b]? = some (.cells #[p,v] 100 (0,0)))(hp:p = .pointer none\/p = .pointer (some ⟨b,0,none⟩)) :
  Calls Tryz.prog 67 #[.pointer (some ⟨b,0,none⟩)] w λe w'=>e = .returned (.tuple #[])/\ccP b v w w':=by
 have c0:w.cell? ⟨b,0,none⟩=some p:=by rw[Lib.cell_of_heap h];rfl
 rcases hp with rfl | rfl
 ·refine(aLS b w c0 (by simp[World.shape?,h]) (Lib.frozen_of_heap h 0)).mono ?_;rintro e w' ⟨rfl,rfl⟩
  exact⟨rfl,aFZ h⟩
 ·refine(aOC b w c0).mono ?_;rintro e w' ⟨rfl,rfl⟩
  exact⟨rfl,(aKc h).symm⟩
theorem lib38{s x r:ByteArray}(h:bwO s x=some r):FnM Tryz.prog 38 [.mp (.bl 100 5 1 s),.gro 1 (yR s)] [.it 0,eS x] (.tup [j64 (x.size:Int),.v .nilIface]) [.mp (.bl 100 5 1 r),.gro 1 (yR r)]:=by
 obtain⟨rfl,hl⟩:=bwO_t h;unfold FnM;rintro w G bs vs ok ⟨y0,r0,rfl,g0,y1,r1,rfl,g1,rfl⟩
 have e1:=bH (uN g1)
 subst e1;obtain⟨b,c,hb,_,e0⟩:∃b c,bs[0]? = some (some b)/\_:=by simpa only[Rv0,AV.isAgg,Rc,Bool.false_eq_true,if_false] using g0
 have e0:=(List.cons.inj e0).1;subst e0;obtain⟨p,v,hbk,hp,hv,hty⟩:=aRu (id:=0) ok rfl hb;have mixed:=yS;have e48:=aH5;show Calls Tryz.prog 38 #[.pointer (some ⟨b,0,none⟩),.string x] w _
 go_enter Tryz.func38,Tryz.ntmps38
 go_wp2_with (go_at_fn 67;refine(bl_cc b p v _ hbk hp).mono ?_)
 rintro e w1 rfl hw1;unfold ccP at hw1;obtain⟨ext1,ok1⟩:=aRS (id:=0) (s':=s) (p' := .pointer (some ⟨b,0,none⟩)) ok rfl hb hbk (.inr rfl) hv hty;rw[<- hw1] at ext1 ok1;have hk1:w1.heap[b]? = some (.cells #[.pointer (some ⟨b,0,none⟩),v] 100 (0,0)):=by rw[hw1];exact bK (cG hbk)
 have hv1:=Rc.ext ext1 _ _ hv;have hty1:=ext1.typd hty;clear hw1;have c0:w1.cell? ⟨b,0,none⟩=some (.pointer (some ⟨b,0,none⟩)):=by rw[Lib.cell_of_heap hk1];rfl
 have c1:w1.cell? ⟨b,1,none⟩=some v:=by rw[Lib.cell_of_heap hk1];rfl
 go_wp2_with (at_builtin;refine aEZ (j:=1) (s:=s) (x:=x) hT rfl _ _ 23 9 5 rfl rfl rfl rfl rfl rfl rfl ok1 rfl hv1 hty1 rfl hl ?_)
 intro v' bs2 w2 ok2 ext2 hv2 hty2;have hb2:bs2[0]? = some (some b):=(ext2.maps 0 _ rfl).2.trans hb;obtain⟨p2,v2,hk2,hp2,_,_⟩:=aRu (id:=0) ok2 rfl hb2;have d0:w2.cell? ⟨b,0,none⟩=some p2:=by rw[Lib.cell_of_heap hk2];rfl
 have d1:w2.cell? ⟨b,1,none⟩=some v2:=by rw[Lib.cell_of_heap hk2];rfl
 have f1:w2.frozen? ⟨b,1,none⟩=false:=Lib.frozen_of_heap hk2 1;obtain⟨ao,n',cap,rfl⟩:∃ao n' cap,v' = .slice ao n' cap:=by
  simp only[Rc] at hv2;obtain⟨y,e,_,a,cap,e2,_⟩:=hv2;cases e;exact⟨_,_,_,e2⟩
 go_wp2
 go_ret2
 rw[<- ByteArray.size_append] at hv2 hty2;obtain⟨ext3,ok3⟩:=aRS (id:=0) (s':=s++x) ok2 rfl hb2 hk2 hp2 hv2 hty2;rw[aFZ hk2]
 exact⟨_,bs2,rfl,ext1.trans (ext2.trans ext3),ok3,⟨_,rfl,_,_,rfl,aFg rfl,_,_,rfl,aFg rfl,rfl⟩⟩
theorem aSb : nP Tryz.prog 38:=kA (by kernel_rfl)
theorem aOu(b g cap:Nat)(s:ByteArray)(cur:Array Value)(p:Value)(w:World)(hbk:w.heap[b]? = some (.cells #[p,.slice (some ⟨g,0,none⟩) s.size cap] 100 (0,0)))(hbg:w.heap[g]? = some (.cells cur 5 (0,0)))(hnc:s.size<=cap)(hcs:cur.size=cap)(hcm:s.size<=1000000)(htk:cur.toList.take s.size=Lib.byteCells s.data.toList)(h0:s.size≠0) :
  Calls Tryz.prog 40 #[.pointer (some ⟨b,0,none⟩)] w λe w'=>e = .returned (.string s)/\w'=w.drew.freeze ⟨g,0,none⟩ s.size:=by
 have c1:w.drew.cell? ⟨b,1,none⟩=some (.slice (some ⟨g,0,none⟩) s.size cap):=by
  rw[Lib.cell_of_heap (w:=w.drew) (b:=b) hbk];rfl
 have hne:s.data.toList≠[]:=by
  intro h;apply h0;have:=congrArg List.length h;exact this
 have hSD:(Builtin.unsafeSliceData_ #[23] 142 #[.slice (some ⟨g,0,none⟩) s.size cap]).run Tryz.prog w.drew = .ok (.pointer (some ⟨g,0,none⟩)) w.drew:=Lib.run_unsafeSliceData_row _ _ _ _ _ _ (by omega)
 have hUS:(Builtin.unsafeString_ #[142,3] 9 #[.pointer (some ⟨g,0,none⟩),.int .i64 s.size]).run Tryz.prog w.drew = .ok (.string s) (w.drew.freeze ⟨g,0,none⟩ s.size):=by
  have:=Lib.run_unsafeString_row w.drew 142 3 9 5 Tryz.underlying142 aLE g cur.size (by have q:w.drew.heap[g]? = some (.cells cur 5 (0,0)):=hbg;simp[World.shape?,q]) s.data.toList hne (by show s.size<=_;omega) (by show s.size<=_;omega) λj x hx=>by
   have hq:cur.toList[j]? = some (.int .u8 x.toNat):=by
    have h1:(cur.toList.take s.size)[j]? = some (.int .u8 x.toNat):=by rw[htk];simp[Lib.byteCells,hx]
    rw[List.getElem?_take] at h1;split at h1
    ·exact h1
    ·cases h1
   have q:w.drew.heap[g]? = some (.cells cur 5 (0,0)):=hbg;rw[show(⟨g,0,none⟩:Addr).add j=⟨g,j,none⟩ by cases j with | zero=>rfl | succ j=>simp[Addr.add],Lib.cell_of_heap q,<- Array.getElem?_toList]
   exact hq
  exact this
 have mixed:=yS
 go_enter Tryz.func40,Tryz.ntmps40
 go_wp2
 go_region_o
 all_goals (go_wp2;go_ret;exact⟨rfl,rfl⟩)
theorem lib40{s r:ByteArray}(h:bsO s=some r):FnM Tryz.prog 40 [.mp (.bl 100 5 1 s),.gro 1 (yR s)] [.it 0] (eS r) [.mp (.bl 100 5 1 s),.dead]:=by
 obtain⟨rfl,h0,hm⟩:=bsO_t h;unfold FnM;rintro w G bs vs ok ⟨y0,r0,rfl,g0,rfl⟩
 obtain⟨b,c,hb,_,e0⟩:∃b c,bs[0]? = some (some b)/\_:=by simpa only[Rv0,AV.isAgg,Rc,Bool.false_eq_true,if_false] using g0
 have e0:=(List.cons.inj e0).1;subst e0;obtain⟨p,v,hbk,hp,hv,hty⟩:=aRu (id:=0) ok rfl hb;obtain⟨g,cap,cur,rfl,hg,hbg,h1,h2,h3⟩:=aVy (j:=1) ok rfl hv hty h0;refine(aOu b g cap r cur p w hbk hbg h1 h2 hm h3 h0).mono ?_;rintro e w' ⟨rfl,rfl⟩
 obtain⟨q1,q2,q3,q4,q5,q6⟩:=aJF w g r.size;obtain⟨ext,ok'⟩:=aPY (j:=1) ok rfl hg q1 q2 q3 q4 q5 q6;exact⟨_,bs,rfl,ext,ok',tQ rfl⟩
theorem aSv : nP Tryz.prog 40:=kA (by kernel_rfl)
def aLO : Nat->Bool:=imL [2,6]
def yT(N:Nat)(r2:(List ByteArray))(a0:(Vector Int 32))(r1:(Vector Int 32)×(Vector Int 32)×(Vector Int 32)×(Vector Int 32)×(Vector Int 32)×(Vector Int 32)×(Vector Int 32)×(Vector Int 32)×(Vector Int 32)×(Vector Int 32)):Nat->(List (Int×aQ))->ByteArray->Int->Option ((List (Int×aQ))×ByteArray)
 | 0,_,_,_=>none
 | k+1,s4,s5,s6=>
  aN (decide (s6 < ((r2.length:Int)))) λx7=>
  cond x7 (
   ae (idx r2 s6) λe8=>
   ae (uT N s4 (([]:(List (Int×kW)))) e8 a0 r1.2.2.2.2.2.2.2.2.2 a0 r1.1 0 (aL.mk 0 0 0 0 0 0 (jG.mk (aA.mk 0 0 0) (aA.mk 0 0 0) (aA.mk 0 0 0) (aA.mk 0 0 0) 0 0) false) false 0 (ah 8 (aC.mk 0 0 0)) (aL.mk 0 0 0 0 0 0 (jG.mk (aA.mk 0 0 0) (aA.mk 0 0 0) (aA.mk 0 0 0) (aA.mk 0 0 0) 0 0) false) false 0 (ah 8 (aC.mk 0 0 0)) (aL.mk 0 0 0 0 0 0 (jG.mk (aA.mk 0 0 0) (aA.mk 0 0 0) (aA.mk 0 0 0) (aA.mk 0 0 0) 0 0) false) false 0 (ah 8 (aC.mk 0 0 0)) (aL.mk 0 0 0 0 0 0 (jG.mk (aA.mk 0 0 0) (aA.mk 0 0 0) (aA.mk 0 0 0) (aA.mk 0 0 0) 0 0) false) false 0 (ah 8 (aC.mk 0 0 0)) (aL.mk 0 0 0 0 0 0 (jG.mk (aA.mk 0 0 0) (aA.mk 0 0 0) (aA.mk 0 0 0) (aA.mk 0 0 0) 0 0) false) false 0 (ah 8 (aC.mk 0 0 0)) (aL.mk 0 0 0 0 0 0 (jG.mk (aA.mk 0 0 0) (aA.mk 0 0 0) (aA.mk 0 0 0) (aA.mk 0 0 0) 0 0) false) false 0 (ah 8 (aC.mk 0 0 0)) (aL.mk 0 0 0 0 0 0 (jG.mk (aA.mk 0 0 0) (aA.mk 0 0 0) (aA.mk 0 0 0) (aA.mk 0 0 0) 0 0) false) false 0 (ah 8 (aC.mk 0 0 0)) (aL.mk 0 0 0 0 0 0 (jG.mk (aA.mk 0 0 0) (aA.mk 0 0 0) (aA.mk 0 0 0) (aA.mk 0 0 0) 0 0) false) false 0 (ah 8 (aC.mk 0 0 0)) (kY.mk 0 0 0) (aH.mk (lB.mk r1.2.1 0 true) (([]:(List aY)))) (aH.mk (lB.mk r1.2.2.1 0 true) (([]:(List aY)))) (aH.mk (lB.mk r1.2.2.2.1 0 true) (([]:(List aY)))) (aH.mk (lB.mk r1.2.2.2.2.1 0 true) (([]:(List aY)))) (aH.mk (lB.mk r1.2.2.2.2.2.1 0 true) (([]:(List aY)))) (aH.mk (lB.mk r1.2.2.2.2.2.2.1 0 true) (([]:(List aY)))) (aH.mk (lB.mk r1.2.2.2.2.2.2.2.1 0 true) (([]:(List aY)))) (aH.mk (lB.mk r1.2.2.2.2.2.2.2.2.1 0 true) (([]:(List aY))))) λr9=>
   ae (catO r9.2 (ByteArray.mk #[10])) λx10=>
   ae (bwO s5 x10) λr11=>
   yT N r2 a0 r1 k r9.1 r11 (I64 (s6+1))) (
   some ((s4,s5)))
def aFa(N:Nat)(a0:(Vector Int 32))(a1:ByteArray):Option (ByteArray):=
 ae (aFE N a0) λr1=>
 ae (aCb N a1) λr2=>
 ae (yT N r2 a0 r1 N [] (ByteArray.mk #[]) 0) λp3=>
 ae (bsO p3.2) λr12=>
 some r12
theorem aJl{N a0 a1 r}(h:aFa N a0 a1=some r):FnM Tryz.prog 16 [] [(eA 32 1 k8 a0),(eS a1)] (eS r) []:=by
 refine Af aLO Tryz.func16 h ?_;refine At.Y 3 [] aJZ λr1=>?_;refine At.o 1 (aTU (t:=100) hT 5 (by kernel_rfl) (by kernel_rfl)) ?_;refine At.y 1 aHQ λr2=>?_;refine At.M 2 [6] 17 (λp3=>([],[(0,.mp (eM .i64 aQ.enc p3.1)),(15,.gro 1 (yR p3.2)),(16,.mp (.bl 100 5 15 p3.2))],[])) [5,6,12,13] 17 (CU3 (yT N r2 a0 r1)) (cu3 λs4 s5 s6=>([(14,(j64 s6))],[(0,.mp (eM .i64 aQ.enc s4)),(15,.gro 1 (yR s5)),(16,.mp (.bl 100 5 15 s5))],[])) (_,_,_) N (λp3 k=>un3 λs4 s5 s6=>?_) λp3=>?_
 ·apply lx;intro x7;refine At.c 1 ?_ ?_
  ·refine At.i hT 0 eS λe8=>?_;refine At.Y 4 [14,1,5,0,4,6,7,8,9,10,11,12,13,2,3] aAf λr9=>?_;refine At.b 0 (λ_ e=>aS3 e (by kernel_rfl) (by kernel_rfl)) λx10=>?_;refine At.b 0 (λ_ e=>wD [16,15] (lib38 e) aSb) λr11=>?_;exact λh=>At.v 2 (_,_,_) h
  ·apply rt;exact At.x 0
 ·refine At.b 0 (λ_ e=>wD [16,15] (lib40 e) aSv) λr12=>?_;apply rt;exact At.r 1
def qI(N:Nat):Option (Bool):=
 ae (aFa N (ah 32 0) str_2) λr1=>
 aN (ByteArray.toList r1==ByteArray.toList aW7) λx2=>
 some x2
theorem aCU{N r}(h:qI N=some r):FnM Tryz.prog 8 [] [] (eB r) []:=by
 refine Af dK Tryz.func8 h ?_;refine At.y 2 aJl λr1=>?_;apply lx;intro x2;apply rt;exact At.r 2
def aAF : Nat->Bool:=imL [3]
def pO(N:Nat)(a0:(Vector Int 32))(a1:(List Int))(a2:bM):Option (Bool):=
 ae (sX N a2) λr1=>
 aN (lH ((a1.length:Int)) 200) λx2=>
 ae (dM a1 0 x2) λs3=>
 ae (vO N a0 s3 r1.gM r1.gA) λr4=>
 ae (qP N a0 s3 r1.gM r1.gA) λr5=>
 ae (ae (vQ N r4.1 r5.1) λr7=>
 aN (cond r7 (r4.2==r5.2) false) λx8=>
 cond x8 (
  ae (qI N ) λr9=>
  some r9) (
  some false)) λp6=>
 some p6
theorem zY{N a0 a1 a2 r}(h:pO N a0 a1 a2=some r):FnM Tryz.prog 3 [] [(eA 32 1 k8 a0),(eL 1 k8 a1),(bM.enc a2)] (eB r) []:=by
 refine Af aAF Tryz.func3 h ?_;refine At.y 4 aD8 λr1=>?_;apply lx;intro x2;refine At.B 5 (bSl k8) λs3=>?_;refine At.y 7 aGe λr4=>?_;refine At.y 11 aCI λr5=>?_;refine At.J 5 0 [] 1 (λp6=>([(6,(eB p6))],[],[])) (λp6=>?_) λp6=>?_
 ·refine At.y 2 aH2 λr7=>?_;apply lx;intro x8;refine At.s 46 6 ?_ ?_
  ·refine At.y 0 aCU λr9=>?_;refine At.g [46] 2 ?_;apply rt;exact At.jn 0
  ·refine At.g [46] 3 ?_;apply rt;exact At.jn 0
 ·apply rt;exact At.r 0
end Go.UK
