/- A part of the proof: what the functions of the program compute. -/
import Derived.Test.YtidamaopieegkaaGreatDoorAJ1
open Int renaming tmod→dc,toNat→bz
open Option renaming bind→ae
open Vector renaming replicate→am
namespace Go.UK
open Go Go.Proofs
set_option maxRecDepth 20000
set_option maxHeartbeats 40000000
set_option linter.all false
attribute [local irreducible] adv vK uX mR brPt aDK yI fE nG aDL bO jW cW qE aBG aAu lPt bS opD jR oK aAW stD dCl dEn dH DD cB owp awl aw FnM opS Stab TOK Big
def qL(N:Nat):Option (Unit):=
 some (())
theorem aAK{N r}(h:qL N=some r):FnM Tryz.prog 43 [] [] (.ref 2 [] 0) [.mp (eM .i64 aO.enc []),.mp (.kv []),.var (.st 2 [(.mp 0),(.mp 1)])]:=by
 unfold qL at h;refine At.f eD hT hmo Tryz.func43 rfl h ?_;refine At.o 1 (tX .i64 aO.enc (by kernel_rfl) (by kernel_rfl)) ?_;refine At.o 0 (tX .i64 j64 (by kernel_rfl) (by kernel_rfl)) ?_;apply rt;exact At.r 3
def uO(N:Nat):Option (Unit):=
 some (())
theorem aCR{N r}(h:uO N=some r):FnM Tryz.prog 112 [] [] (.ref 0 [] 0) [.var (.st 73 [(.arr 8 1 [(k32 1779033703),(k32 3144134277),(k32 1013904242),(k32 2773480762),(k32 1359893119),(k32 2600822924),(k32 528734635),(k32 1541459225)]),(eA 64 1 k8 (am 64 0)),(j64 0)])]:=by
 unfold uO at h;refine At.f eD hT hmo Tryz.func112 rfl h ?_;apply rt;exact At.r 5
def iX(N:Nat)(a0:bF):Option (Bool):=
 cB ((eqV (λa b=>a==b)) a0.gh (am 8 0)) λx1=>
 cB (cond x1 (a0.gn==0) false) λx2=>
 some x2
theorem nA{N a0 r}(h:iX N a0=some r):FnM Tryz.prog 159 [.var (bF.enc a0)] [(.ref 0 [] 0)] (eB r) [.var (bF.enc a0)]:=by
 unfold iX at h;refine At.f eD hT hmo Tryz.func159 rfl h ?_;refine At.o 2 (pP hT (t:=229) (x:=(.ref 0 [] 0)) (b:=true) (by kernel_rfl) rfl rfl (by kernel_rfl)) ?_;refine At.g [5] 6 ?_;refine At.o 0 (aGa aG5 (a0.gh:(Vector Int 8)) (am 8 0:(Vector Int 8)) (by kernel_rfl) (by kernel_rfl) (λ_=>rfl) (λ_=>rfl) (by kernel_rfl) (by kernel_rfl)) ?_;refine lx ?_;intro x1;refine lx ?_;intro x2;refine At.g [5] 9 ?_;apply rt;exact At.r 0
def hQ(N:Nat)(a0 a1:Int):Option (Int):=
 ae (aBt .u32 a0 (aCb .u64 (U64 a1) 31)) λx1=>
 cB (U64 (32 - (aCb .u64 (U64 a1) 31))) λx2=>
 ae (xL .u32 a0 x2) λx3=>
 some (bor .u32 x1 x3)
theorem nE{N a0 a1 r}(h:hQ N a0 a1=some r):FnM Tryz.prog 281 [] [(k32 a0),(j64 a1)] (k32 r) []:=by
 unfold hQ at h;refine At.f eD hT hmo Tryz.func281 rfl h ?_;refine At.b 7 (λ_ e=>uB hT (k' := .u64) e (by kernel_rfl) (by kernel_rfl)) λx1=>?_;refine lx ?_;intro x2;refine At.b 3 (λ_ e=>pI hT (k' := .u64) e (by kernel_rfl) (by kernel_rfl)) λx3=>?_;apply rt;exact At.r 2
def fR(N:Nat)(a0 a1:Int):Option (Int):=
 ae (hQ N a0 (I64 (0 - a1))) λr1=>
 some r1
theorem hP{N a0 a1 r}(h:fR N a0 a1=some r):FnM Tryz.prog 222 [] [(k32 a0),(j64 a1)] (k32 r) []:=by
 unfold fR at h;refine At.f eD hT hmo Tryz.func222 rfl h ?_;refine At.y 4 nE λr1=>?_;apply rt;exact At.r 1
def xJ : Nat->Bool:=imL [2,3]
def nH : (Vector Int 64):=#v[1116352408,1899447441,3049323471,3921009573,961987163,1508970993,2453635748,2870763221,3624381080,310598401,607225278,1426881987,1925078388,2162078206,2614888103,3248222580,3835390401,4022224774,264347078,604807628,770255983,1249150122,1555081692,1996064986,2554220882,2821834349,2952996808,3210313671,3336571891,3584528711,113926993,338241895,666307205,773529912,1294757372,1396182291,1695183700,1986661051,2177026350,2456956037,2730485921,2820302411,3259730800,3345764771,3516065817,3600352804,4094571909,275423344,430227734,506948616,659060556,883997877,958139571,1322822218,1537002063,1747873779,1955562222,2024104815,2227730452,2361852424,2428436474,2756734187,3204031479,3329325298]
def kU(N:Nat)(a1:(Vector Int 64)):Nat->(Vector Int 64)->Int->Option ((Vector Int 64))
 | 0,_,_=>none
 | k+1,s2,s3=>
  cond (decide (s3 < 64)) (
   ae (cond (decide (s3 < 16)) (
    ae (idx a1.toList (I64 (4*s3))) λe5=>
    cB (I64 ((I64 (4*s3))+1)) λx6=>
    ae (idx a1.toList x6) λe7=>
    cB (bor .u32 (shl .u32 (U32 e5) 24) (shl .u32 (U32 e7) 16)) λx8=>
    cB (I64 ((I64 (4*s3))+2)) λx9=>
    ae (idx a1.toList x9) λe10=>
    cB (bor .u32 x8 (shl .u32 (U32 e10) 8)) λx11=>
    cB (I64 ((I64 (4*s3))+3)) λx12=>
    ae (idx a1.toList x12) λe13=>
    ae (iO s3 64) λ_=>
    ae (s2.toList[s3.toNat]?) λe15=>
    some (s2.setIfInBounds s3.toNat (bor .u32 x11 (U32 e13)))) (
    ae (iO (I64 (s3 - 15)) 64) λ_=>
    ae (s2.toList[(I64 (s3 - 15)).toNat]?) λe17=>
    ae (iO (I64 (s3 - 2)) 64) λ_=>
    ae (s2.toList[(I64 (s3 - 2)).toNat]?) λe19=>
    ae (iO (I64 (s3 - 16)) 64) λ_=>
    ae (s2.toList[(I64 (s3 - 16)).toNat]?) λe21=>
    ae (fR N e17 7) λr22=>
    ae (fR N e17 18) λr23=>
    cB (yF .u32 (yF .u32 r22 r23) (shr .u32 e17 3)) λx24=>
    ae (iO (I64 (s3 - 7)) 64) λ_=>
    ae (s2.toList[(I64 (s3 - 7)).toNat]?) λe26=>
    cB (U32 ((U32 (e21+x24))+e26)) λx27=>
    ae (fR N e19 17) λr28=>
    ae (fR N e19 19) λr29=>
    cB (yF .u32 (yF .u32 r28 r29) (shr .u32 e19 10)) λx30=>
    ae (iO s3 64) λ_=>
    ae (s2.toList[s3.toNat]?) λe32=>
    some (s2.setIfInBounds s3.toNat (U32 (x27+x30))))) λp4=>
   kU N a1 k p4 (I64 (s3+1))) (
   some s2)
def kY(N:Nat)(p1:(Vector Int 64)):Nat->(Vector Int 8)->Int->Option ((Vector Int 8))
 | 0,_,_=>none
 | k+1,s34,s35=>
  cond (decide (s35 < 64)) (
   ae (iO 0 8) λ_=>
   ae (s34.toList[(bz 0)]?) λe37=>
   ae (iO 4 8) λ_=>
   ae (s34.toList[(bz 4)]?) λe39=>
   ae (iO 7 8) λ_=>
   ae (s34.toList[(bz 7)]?) λe41=>
   ae (fR N e39 6) λr42=>
   ae (fR N e39 11) λr43=>
   ae (fR N e39 25) λr44=>
   cB (yF .u32 (yF .u32 r42 r43) r44) λx45=>
   ae (iO 5 8) λ_=>
   ae (s34.toList[(bz 5)]?) λe47=>
   ae (iO 6 8) λ_=>
   ae (s34.toList[(bz 6)]?) λe49=>
   cB (aCb .u32 (bnot .u32 e39) e49) λx50=>
   cB (yF .u32 (aCb .u32 e39 e47) x50) λx51=>
   cB (U32 ((U32 (e41+x45))+x51)) λx52=>
   ae (iO s35 64) λ_=>
   ae (nH.toList[s35.toNat]?) λe54=>
   ae (iO s35 64) λ_=>
   ae (p1.toList[s35.toNat]?) λe56=>
   cB (U32 ((U32 (x52+e54))+e56)) λx57=>
   ae (fR N e37 2) λr58=>
   ae (fR N e37 13) λr59=>
   ae (fR N e37 22) λr60=>
   cB (yF .u32 (yF .u32 r58 r59) r60) λx61=>
   ae (iO 1 8) λ_=>
   ae (s34.toList[(bz 1)]?) λe63=>
   ae (iO 2 8) λ_=>
   ae (s34.toList[(bz 2)]?) λe65=>
   cB (yF .u32 (aCb .u32 e37 e63) (aCb .u32 e37 e65)) λx66=>
   ae (iO 1 8) λ_=>
   ae (s34.toList[(bz 1)]?) λe68=>
   ae (iO 2 8) λ_=>
   ae (s34.toList[(bz 2)]?) λe70=>
   cB (yF .u32 x66 (aCb .u32 e68 e70)) λx71=>
   cB (U32 (x57+(U32 (x61+x71)))) λx72=>
   ae (iO 0 8) λ_=>
   ae (s34.toList[(bz 0)]?) λe74=>
   ae (iO 1 8) λ_=>
   ae (s34.toList[(bz 1)]?) λe76=>
   ae (iO 2 8) λ_=>
   ae (s34.toList[(bz 2)]?) λe78=>
   ae (iO 3 8) λ_=>
   ae (s34.toList[(bz 3)]?) λe80=>
   ae (iO 4 8) λ_=>
   ae (s34.toList[(bz 4)]?) λe82=>
   ae (iO 5 8) λ_=>
   ae (s34.toList[(bz 5)]?) λe84=>
   ae (iO 6 8) λ_=>
   ae (s34.toList[(bz 6)]?) λe86=>
   kY N p1 k (#v[x72,e74,e76,e78,U32 (e80+x57),e82,e84,e86]) (I64 (s35+1))) (
   some s34)
def kV(N:Nat)(a0:(Vector Int 8)):Nat->(Vector Int 8)->Int->Option ((Vector Int 8))
 | 0,_,_=>none
 | k+1,s88,s89=>
  cond (decide (s89 < 8)) (
   ae (iO s89 8) λ_=>
   ae (s88.toList[s89.toNat]?) λe91=>
   ae (idx a0.toList s89) λe92=>
   ae (iO s89 8) λ_=>
   ae (s88.toList[s89.toNat]?) λe94=>
   kV N a0 k (s88.setIfInBounds s89.toNat (U32 (e91+e92))) (I64 (s89+1))) (
   some s88)
def mY(N:Nat)(a0:(Vector Int 8))(a1:(Vector Int 64)):Option ((Vector Int 8)):=
 ae (kU N a1 N (am 64 0) 0) λp1=>
 ae (kY N p1 N a0 0) λp33=>
 ae (kV N a0 N p33 0) λp87=>
 some p87
theorem wH{N a0 a1 r}(h:mY N a0 a1=some r):FnM Tryz.prog 160 [] [(eA 8 1 k32 a0),(eA 64 1 k8 a1)] (eA 8 1 k32 r) []:=by
 unfold mY at h;refine At.f xJ hT hmo Tryz.func160 rfl h ?_;refine At.M 8 [2,4,5,6] 3 (λp1=>([],[(2,.var (eA 64 1 k32 p1))],[])) [2,3,4,5,6] 3 (CU2 (kU N a1)) (cu2 λ(s2:(Vector Int 64)) (s3:Int)=>([(18,(j64 s3))],[(2,.var (eA 64 1 k32 s2))],[])) (_,_) N (λp1 k=>un2 λs2 s3=>?_) λp1=>?_
 ·refine At.c 1 ?_ ?_
  ·refine At.J 0 2 [2,3,4,5,6,18] 3 (λp4=>([],[(2,.var (eA 64 1 k32 p4))],[])) (λp4=>?_) λp4=>?_
   ·refine At.c 4 ?_ ?_
    ·refine At.D 0 [] ?_;refine DD.b 3 (λe _=>sZ hT (N:=64) (k:=1) k8 a1 e) λe5=>?_;refine lx ?_;intro x6;refine DD.b 6 (λe _=>sZ hT (N:=64) (k:=1) k8 a1 e) λe7=>?_;refine lx ?_;intro x8;refine lx ?_;intro x9;refine DD.b 7 (λe _=>sZ hT (N:=64) (k:=1) k8 a1 e) λe10=>?_;refine lx ?_;intro x11;refine lx ?_;intro x12;refine DD.b 7 (λe _=>sZ hT (N:=64) (k:=1) k8 a1 e) λe13=>?_;refine DD.b 3 (λe _=>cQ hT (k:=1) 2 [] 0 e) λu14=>?_;refine bi λe15 he15=>?_;refine DD.w 0 (.v (.bool false)) ⟨[(2,.var (eA 64 1 k32 (s2.setIfInBounds s3.toNat (bor .u32 x11 (U32 e13)))))],[]⟩ (λ_ e=>pR hT k32 0 s2 he15 (bor .u32 x11 (U32 e13)) (pj1 e) (pj1 (pj2 e)) (pj2 (pj2 e))) ?_;refine DD.e hT hmo 0 ?_;apply rt;exact At.jn 0
    ·refine At.D 0 [] ?_;refine DD.b 2 (λe _=>cQ hT (k:=1) 2 [] 0 e) λu16=>?_;refine DD.l hT 0 k32 k32 0 λe17=>?_;refine DD.b 2 (λe _=>cQ hT (k:=1) 2 [] 0 e) λu18=>?_;refine DD.l hT 0 k32 k32 0 λe19=>?_;refine DD.e hT hmo 2 ?_;refine At.D 0 [] ?_;refine DD.b 3 (λe _=>cQ hT (k:=1) 2 [] 0 e) λu20=>?_;refine DD.l hT 0 k32 k32 0 λe21=>?_;refine DD.y 1 hP λr22=>?_;refine DD.y 1 hP λr23=>?_;refine lx ?_;intro x24;refine DD.b 7 (λe _=>cQ hT (k:=1) 2 [] 0 e) λu25=>?_;refine DD.l hT 0 k32 k32 0 λe26=>?_;refine lx ?_;intro x27;refine DD.y 2 hP λr28=>?_;refine DD.y 1 hP λr29=>?_;refine lx ?_;intro x30;refine DD.b 5 (λe _=>cQ hT (k:=1) 2 [] 0 e) λu31=>?_;refine bi λe32 he32=>?_;refine DD.w 0 (.v (.bool false)) ⟨[(2,.var (eA 64 1 k32 (s2.setIfInBounds s3.toNat (U32 (x27+x30)))))],[]⟩ (λ_ e=>pR hT k32 0 s2 he32 (U32 (x27+x30)) (pj1 e) (pj1 (pj2 e)) (pj2 (pj2 e))) ?_;refine DD.e hT hmo 0 ?_;apply rt;exact At.jn 0
   ·exact λh=>At.v 2 (_,_) h
  ·apply rt;exact At.x 0
 ·refine At.M 4 [2,4,10] 4 (λp33=>([],[(3,.var (eA 8 1 k32 p33))],[])) [2,4,5,6,10] 4 (CU2 (kY N p1)) (cu2 λ(s34:(Vector Int 8)) (s35:Int)=>([(93,(j64 s35))],[(3,.var (eA 8 1 k32 s34))],[])) (_,_) N (λp33 k=>un2 λs34 s35=>?_) λp33=>?_
  ·refine At.c 1 ?_ ?_
   ·refine At.D 2 [] ?_;refine DD.b 0 (λe _=>cQ hT (k:=1) 3 [] 0 e) λu36=>?_;refine DD.l hT 0 k32 k32 0 λe37=>?_;refine DD.b 0 (λe _=>cQ hT (k:=1) 3 [] 0 e) λu38=>?_;refine DD.l hT 0 k32 k32 0 λe39=>?_;refine DD.e hT hmo 2 ?_;refine At.D 0 [] ?_;refine DD.b 0 (λe _=>cQ hT (k:=1) 3 [] 0 e) λu40=>?_;refine DD.l hT 0 k32 k32 0 λe41=>?_;refine DD.y 1 hP λr42=>?_;refine DD.y 1 hP λr43=>?_;refine DD.y 2 hP λr44=>?_;refine lx ?_;intro x45;refine DD.b 3 (λe _=>cQ hT (k:=1) 3 [] 0 e) λu46=>?_;refine DD.l hT 0 k32 k32 0 λe47=>?_;refine DD.b 3 (λe _=>cQ hT (k:=1) 3 [] 0 e) λu48=>?_;refine DD.l hT 0 k32 k32 0 λe49=>?_;refine lx ?_;intro x50;refine lx ?_;intro x51;refine lx ?_;intro x52;refine DD.b 4 (λe _=>cQ hT (k:=1) 1 [] 0 e) λu53=>?_;refine DD.l hT 0 k32 k32 0 λe54=>?_;refine DD.b 2 (λe _=>cQ hT (k:=1) 2 [] 0 e) λu55=>?_;refine DD.l hT 0 k32 k32 0 λe56=>?_;refine lx ?_;intro x57;refine DD.e hT hmo 2 ?_;refine At.D 0 [] ?_;refine DD.y 1 hP λr58=>?_;refine DD.y 1 hP λr59=>?_;refine DD.y 2 hP λr60=>?_;refine lx ?_;intro x61;refine DD.b 2 (λe _=>cQ hT (k:=1) 3 [] 0 e) λu62=>?_;refine DD.l hT 0 k32 k32 0 λe63=>?_;refine DD.b 2 (λe _=>cQ hT (k:=1) 3 [] 0 e) λu64=>?_;refine DD.l hT 0 k32 k32 0 λe65=>?_;refine lx ?_;intro x66;refine DD.b 2 (λe _=>cQ hT (k:=1) 3 [] 0 e) λu67=>?_;refine DD.l hT 0 k32 k32 0 λe68=>?_;refine DD.b 0 (λe _=>cQ hT (k:=1) 3 [] 0 e) λu69=>?_;refine DD.l hT 0 k32 k32 0 λe70=>?_;refine lx ?_;intro x71;refine DD.e hT hmo 4 ?_;refine lx ?_;intro x72;refine At.b 3 (λ_ e=>cQ hT (k:=1) 3 [] 0 e) λu73=>?_;refine At.b 0 (λ_ e=>nK hT k32 0 e) λe74=>?_;refine At.b 0 (λ_ e=>cQ hT (k:=1) 3 [] 0 e) λu75=>?_;refine At.b 0 (λ_ e=>nK hT k32 0 e) λe76=>?_;refine At.b 0 (λ_ e=>cQ hT (k:=1) 3 [] 0 e) λu77=>?_;refine At.b 0 (λ_ e=>nK hT k32 0 e) λe78=>?_;refine At.b 0 (λ_ e=>cQ hT (k:=1) 3 [] 0 e) λu79=>?_;refine At.b 0 (λ_ e=>nK hT k32 0 e) λe80=>?_;refine At.b 2 (λ_ e=>cQ hT (k:=1) 3 [] 0 e) λu81=>?_;refine At.b 0 (λ_ e=>nK hT k32 0 e) λe82=>?_;refine At.b 0 (λ_ e=>cQ hT (k:=1) 3 [] 0 e) λu83=>?_;refine At.b 0 (λ_ e=>nK hT k32 0 e) λe84=>?_;refine At.b 0 (λ_ e=>cQ hT (k:=1) 3 [] 0 e) λu85=>?_;refine At.b 0 (λ_ e=>nK hT k32 0 e) λe86=>?_;exact λh=>At.v 4 (_,_) h
   ·apply rt;exact At.x 0
  ·refine At.M 1 [4,10] 4 (λp87=>([],[(3,.var (eA 8 1 k32 p87))],[])) [2,4,10] 4 (CU2 (kV N a0)) (cu2 λ(s88:(Vector Int 8)) (s89:Int)=>([(175,(j64 s89))],[(3,.var (eA 8 1 k32 s88))],[])) (_,_) N (λp87 k=>un2 λs88 s89=>?_) λp87=>?_
   ·refine At.c 1 ?_ ?_
    ·refine At.D 2 [] ?_;refine DD.b 1 (λe _=>cQ hT (k:=1) 3 [] 0 e) λu90=>?_;refine DD.l hT 0 k32 k32 0 λe91=>?_;refine DD.b 1 (λe _=>sZ hT (N:=8) (k:=1) k32 a0 e) λe92=>?_;refine DD.b 2 (λe _=>cQ hT (k:=1) 3 [] 0 e) λu93=>?_;refine bi λe94 he94=>?_;refine DD.w 0 (.v (.bool false)) ⟨[(3,.var (eA 8 1 k32 (s88.setIfInBounds s89.toNat (U32 (e91+e92)))))],[]⟩ (λ_ e=>pR hT k32 0 s88 he94 (U32 (e91+e92)) (pj1 e) (pj1 (pj2 e)) (pj2 (pj2 e))) ?_;refine DD.e hT hmo 0 ?_;exact λh=>At.v 2 (_,_) h
    ·apply rt;exact At.x 0
   ·apply rt;exact At.r 2
def fG(N:Nat)  : Nat->bF->(List Int)->Option (bF)
 | 0,_,_=>none
 | k+1,s8,s9=>
  cB (decide (((s9.length:Int)) > 0)) λx10=>
  cond x10 (
   ae (slcL 64 (dc s8.gn 64) 64) λ_=>
   ae (cpV s8.gC6 s9 ((dc s8.gn 64).toNat) ((64:Int).toNat - (dc s8.gn 64).toNat)) λv12=>
   cB (((min s9.length ((64:Int).toNat - (dc s8.gn 64).toNat):Nat):Int)) λx13=>
   ae (nD s9 x13 ((s9.length:Int))) λs14=>
   cB (dc (I64 (s8.gn+x13)) 64) λx15=>
   cond (x15==0) (
    ae (mY N s8.gh v12) λr16=>
    fG N k (bF.mk r16 v12 (I64 (s8.gn+x13))) s14) (
    fG N k (bF.mk s8.gh v12 (I64 (s8.gn+x13))) s14)) (
   some s8)
def iK(N:Nat)(a0:(List (List Int))):Nat->bF->Int->Option (bF)
 | 0,_,_=>none
 | k+1,s3,s4=>
  cB (decide (s4 < ((a0.length:Int)))) λx5=>
  cond x5 (
   ae (idx a0 s4) λe6=>
   ae (fG N N s3 e6) λp7=>
   iK N a0 k p7 (I64 (s4+1))) (
   some s3)
def iA(N:Nat)(a0:(List (List Int)))(a1:bF):Option (bF):=
 ae (iX N a1) λr1=>
 cond r1 (
  some a1) (
  ae (iK N a0 N a1 0) λp2=>
  some p2)
theorem lO{N a0 a1 r}(h:iA N a0 a1=some r):FnM Tryz.prog 113 [.var (bF.enc a1)] [(.ref 0 [] 0),(eL 1 (eL 1 k8) a0)] (.tup []) [.var (bF.enc r)]:=by
 unfold iA at h;refine At.f eD hT hmo Tryz.func113 rfl h ?_;refine At.Y 1 [0] nA λr1=>?_;refine At.c 0 ?_ ?_
 ·apply rt;exact At.r 0
 ·refine At.M 3 [] 1 (λp2=>([],[(0,.var (bF.enc p2))],[])) [0,9,10] 1 (CU2 (iK N a0)) (cu2 λ(s3:bF) (s4:Int)=>([(11,(j64 s4))],[(0,.var (bF.enc s3))],[])) (_,_) N (λp2 k=>un2 λs3 s4=>?_) λp2=>?_
  ·refine lx ?_;intro x5;refine At.c 1 ?_ ?_
   ·refine At.i hT 0 (eL 1 k8) λe6=>?_;refine At.M 2 [0,9,10,11] 1 (λp7=>([],[(0,.var (bF.enc p7))],[])) [0,9,10,11] 1 (CU2 (fG N)) (cu2 λ(s8:bF) (s9:(List Int))=>([(5,(eL 1 k8 s9))],[(0,.var (bF.enc s8))],[])) (_,_) N (λp7 k=>un2 λs8 s9=>?_) λp7=>?_
    ·refine lx ?_;intro x10;refine At.c 3 ?_ ?_
     ·refine At.D 0 [] ?_;refine DD.b 8 (λe _=>aEb hT (k:=1) 0 [1] 8 e (by kernel_rfl) (by kernel_rfl)) λs11=>?_;refine bi λv12 hv12=>?_;refine DD.w 1 (j64 (((min s9.length ((64:Int).toNat - (dc s8.gn 64).toNat):Nat):Int))) ⟨[(0,.var (.st 73 [(eA 8 1 k32 s8.gh),(eA 64 1 k8 v12),(j64 s8.gn)]))],[]⟩ (λ_ e=>aEx hT k8 (id:=0) (path:=[1]) (off:=8) hv12 (pj1 e) (pj1 (pj2 e)) (pj2 (pj2 e))) ?_;refine lx ?_;intro x13;refine DD.e hT hmo 1 ?_;refine At.b 11 (λ_ e=>pT hT (k:=1) k8 e) λs14=>?_;refine lx ?_;intro x15;refine At.c 7 ?_ ?_
      ·refine At.D 0 [] ?_;refine DD.y 9 wH λr16=>?_;refine DD.e hT hmo 3 ?_;exact λh=>At.v 0 (_,_) h
      ·exact λh=>At.v 0 (_,_) h
     ·apply rt;exact At.x 0
    ·exact λh=>At.v 2 (_,_) h
   ·apply rt;exact At.x 0
  ·apply rt;exact At.z 0
def pM(N:Nat)(x3 a0:Int):Nat->(List Int)->Int->Option ((List Int))
 | 0,_,_=>none
 | k+1,s8,s9=>
  cond (decide (s9 < 8)) (
   cB (I64 (((x3.toNat:Int)) - 1)) λx10=>
   cB (shl .u64 (U64 (imax a0 0)) 3) λx11=>
   ae (xL .u64 x11 (I64 (8*s9))) λx12=>
   ae (iO (I64 (x10 - s9)) x3.toNat) λ_=>
   ae (s8[(I64 (x10 - s9)).toNat]?) λe14=>
   pM N x3 a0 k (s8.set ((I64 (x10 - s9)).toNat) (U8 x12)) (I64 (s9+1))) (
   some s8)
def uK(N:Nat)(a0:Int):Option ((List Int)):=
 cB (dc (imax a0 0) 64) λx1=>
 cB (dc (I64 (119 - x1)) 64) λx2=>
 cB (I64 ((I64 (1+x2))+8)) λx3=>
 ae (mkO 1 x3) λ_=>
 ae (iO 0 x3.toNat) λ_=>
 ae ((List.replicate x3.toNat (0:Int))[(bz 0)]?) λe6=>
 ae (pM N x3 a0 N ((List.replicate x3.toNat (0:Int)).set ((bz 0)) 128) 0) λp7=>
 ae (lenO p7 x3.toNat) λ_=>
 some p7
theorem aCO{N a0 r}(h:uK N a0=some r):FnM Tryz.prog 161 [] [(j64 a0)] (eL 1 k8 r) []:=by
 unfold uK at h;refine At.f eD hT hmo Tryz.func161 rfl h ?_;refine lx ?_;intro x1;refine lx ?_;intro x2;refine lx ?_;intro x3;refine At.b 10 (λ_ e=>aHu hT k8 ((0:Int)) (k:=1) (kd := .int .u8) e (by kernel_rfl) (by kernel_rfl) rfl) λu4=>?_;refine At.b 2 (λ_ e=>aDT hT 0 [] 0 0 x3.toNat (k:=1) e (by kernel_rfl) (by kernel_rfl)) λu5=>?_;refine At.b 0 (λ_ e=>aAQ hT k8 0 e 128 (by kernel_rfl) (by kernel_rfl) (by kernel_rfl)) λe6=>?_;refine At.M 1 [3] 1 (λp7=>([],[(0,.var (.arr (x3.toNat*1) 1 (List.map k8 p7)))],[])) [0,3] 1 (CU2 (pM N x3 a0)) (cu2 λ(s8:(List Int)) (s9:Int)=>([(16,(j64 s9))],[(0,.var (.arr (x3.toNat*1) 1 (List.map k8 s8)))],[])) (_,_) N (λp7 k=>un2 λs8 s9=>?_) λp7=>?_
 ·refine At.c 1 ?_ ?_
  ·refine lx ?_;intro x10;refine lx ?_;intro x11;refine At.b 13 (λ_ e=>pI hT (k' := .i64) e (by kernel_rfl) (by kernel_rfl)) λx12=>?_;refine At.b 1 (λ_ e=>aDT hT 0 [] 0 0 x3.toNat (k:=1) e (by kernel_rfl) (by kernel_rfl)) λu13=>?_;refine At.b 0 (λ_ e=>aAQ hT k8 0 e (U8 x12) (by kernel_rfl) (by kernel_rfl) (by kernel_rfl)) λe14=>?_;exact λh=>At.v 2 (_,_) h
  ·apply rt;exact At.x 0
 ·refine bi λu15 hu15=>?_;refine At.fz 2 0 1 x3.toNat _ (List.map k8 p7) (List.length_map _) (lenM k8 hu15) ?_;apply rt;exact At.r 0
def jQ(N:Nat)(r3:bF):Nat->(Vector Int 32)->Int->Option ((Vector Int 32))
 | 0,_,_=>none
 | k+1,s5,s6=>
  cond (decide (s6 < 8)) (
   ae (idx r3.gh.toList s6) λe7=>
   cB (I64 ((I64 (4*s6))+1)) λx8=>
   cB (I64 ((I64 (4*s6))+2)) λx9=>
   cB (I64 ((I64 (4*s6))+3)) λx10=>
   ae (iO (I64 (4*s6)) 32) λ_=>
   ae (s5.toList[(I64 (4*s6)).toNat]?) λe12=>
   ae (iO x8 32) λ_=>
   ae ((s5.setIfInBounds ((I64 (4*s6)).toNat) (U8 (shr .u32 e7 24))).toList[x8.toNat]?) λe14=>
   ae (iO x9 32) λ_=>
   ae (((s5.setIfInBounds ((I64 (4*s6)).toNat) (U8 (shr .u32 e7 24))).setIfInBounds x8.toNat (U8 (shr .u32 e7 16))).toList[x9.toNat]?) λe16=>
   ae (iO x10 32) λ_=>
   ae ((((s5.setIfInBounds ((I64 (4*s6)).toNat) (U8 (shr .u32 e7 24))).setIfInBounds x8.toNat (U8 (shr .u32 e7 16))).setIfInBounds x9.toNat (U8 (shr .u32 e7 8))).toList[x10.toNat]?) λe18=>
   jQ N r3 k ((((s5.setIfInBounds ((I64 (4*s6)).toNat) (U8 (shr .u32 e7 24))).setIfInBounds x8.toNat (U8 (shr .u32 e7 16))).setIfInBounds x9.toNat (U8 (shr .u32 e7 8))).setIfInBounds x10.toNat (U8 e7)) (I64 (s6+1))) (
   some s5)
def lH(N:Nat)(a0:bF):Option ((Vector Int 32)):=
 ae (iX N a0) λr1=>
 cond r1 (
  some (am 32 0)) (
  ae (uK N a0.gn) λr2=>
  ae (iA N ([r2]) a0) λr3=>
  ae (jQ N r3 N (am 32 0) 0) λp4=>
  some p4)
theorem uA{N a0 r}(h:lH N a0=some r):FnM Tryz.prog 114 [.var (bF.enc a0)] [(.ref 0 [] 0)] (eA 32 1 k8 r) [.var (bF.enc a0)]:=by
 unfold lH at h;refine At.f eD hT hmo Tryz.func114 rfl h ?_;refine At.Y 2 [0] nA λr1=>?_;refine At.c 0 ?_ ?_
 ·apply rt;exact At.r 2
 ·refine At.y 9 aCO λr2=>?_;refine At.o 0 (cM hT (x:=(.sl 1 1 [(eL 1 k8 r2)]))) ?_;refine At.Y 0 [2] lO λr3=>?_;refine At.M 4 [2,4] 4 (λp4=>([],[(3,.var (eA 32 1 k8 p4))],[])) [2,4,21] 4 (CU2 (jQ N r3)) (cu2 λ(s5:(Vector Int 32)) (s6:Int)=>([(22,(j64 s6))],[(3,.var (eA 32 1 k8 s5))],[])) (_,_) N (λp4 k=>un2 λs5 s6=>?_) λp4=>?_
  ·refine At.c 1 ?_ ?_
   ·refine At.b 1 (λ_ e=>aGy hT k32 r3.gh e (by kernel_rfl) (by kernel_rfl)) λe7=>?_;refine lx ?_;intro x8;refine lx ?_;intro x9;refine lx ?_;intro x10;refine At.b 24 (λ_ e=>cQ hT (k:=1) 3 [] 0 e) λu11=>?_;refine At.b 0 (λ_ e=>pR hT k8 0 s5 e (U8 (shr .u32 e7 24)) (by kernel_rfl) (by kernel_rfl) (H':=[.var (bF.enc a0),.var (eA 32 1 k8 (am 32 0)),.var (bF.enc r3),.var (eA 32 1 k8 (s5.setIfInBounds ((I64 (4*s6)).toNat) (U8 (shr .u32 e7 24))))])) λe12=>?_;refine At.b 0 (λ_ e=>cQ hT (k:=1) 3 [] 0 e) λu13=>?_;refine At.b 0 (λ_ e=>pR hT k8 0 (s5.setIfInBounds ((I64 (4*s6)).toNat) (U8 (shr .u32 e7 24))) e (U8 (shr .u32 e7 16)) (by kernel_rfl) (by kernel_rfl) (H':=[.var (bF.enc a0),.var (eA 32 1 k8 (am 32 0)),.var (bF.enc r3),.var (eA 32 1 k8 ((s5.setIfInBounds ((I64 (4*s6)).toNat) (U8 (shr .u32 e7 24))).setIfInBounds x8.toNat (U8 (shr .u32 e7 16))))])) λe14=>?_;refine At.b 0 (λ_ e=>cQ hT (k:=1) 3 [] 0 e) λu15=>?_;refine At.b 0 (λ_ e=>pR hT k8 0 ((s5.setIfInBounds ((I64 (4*s6)).toNat) (U8 (shr .u32 e7 24))).setIfInBounds x8.toNat (U8 (shr .u32 e7 16))) e (U8 (shr .u32 e7 8)) (by kernel_rfl) (by kernel_rfl) (H':=[.var (bF.enc a0),.var (eA 32 1 k8 (am 32 0)),.var (bF.enc r3),.var (eA 32 1 k8 (((s5.setIfInBounds ((I64 (4*s6)).toNat) (U8 (shr .u32 e7 24))).setIfInBounds x8.toNat (U8 (shr .u32 e7 16))).setIfInBounds x9.toNat (U8 (shr .u32 e7 8))))])) λe16=>?_;refine At.b 0 (λ_ e=>cQ hT (k:=1) 3 [] 0 e) λu17=>?_;refine At.b 0 (λ_ e=>pR hT k8 0 (((s5.setIfInBounds ((I64 (4*s6)).toNat) (U8 (shr .u32 e7 24))).setIfInBounds x8.toNat (U8 (shr .u32 e7 16))).setIfInBounds x9.toNat (U8 (shr .u32 e7 8))) e (U8 e7) (by kernel_rfl) (by kernel_rfl) (H':=[.var (bF.enc a0),.var (eA 32 1 k8 (am 32 0)),.var (bF.enc r3),.var (eA 32 1 k8 ((((s5.setIfInBounds ((I64 (4*s6)).toNat) (U8 (shr .u32 e7 24))).setIfInBounds x8.toNat (U8 (shr .u32 e7 16))).setIfInBounds x9.toNat (U8 (shr .u32 e7 8))).setIfInBounds x10.toNat (U8 e7)))])) λe18=>?_;exact λh=>At.v 2 (_,_) h
   ·apply rt;exact At.x 0
  ·apply rt;exact At.r 2
def uQ(N:Nat)(a0:(List (List Int))):Option ((Vector Int 32)):=
 ae (uO N ) λr1=>
 ae (iA N a0 (bF.mk (#v[1779033703,3144134277,1013904242,2773480762,1359893119,2600822924,528734635,1541459225]) (am 64 0) 0)) λr2=>
 ae (lH N r2) λr3=>
 some r3
theorem aCn{N a0 r}(h:uQ N a0=some r):FnM Tryz.prog 75 [] [(eL 1 (eL 1 k8) a0)] (eA 32 1 k8 r) []:=by
 unfold uQ at h;refine At.f eD hT hmo Tryz.func75 rfl h ?_;refine At.Y 1 [] aCR λr1=>?_;refine At.Y 3 [1] lO λr2=>?_;refine At.Y 1 [1] uA λr3=>?_;apply rt;exact At.r 1
def oB(N:Nat)(a0:Int):Option ((Vector Int 32)):=
 ae (dC N (([117,109,98,114,97,32,97,117,100,105,116,32,99,104,97,105,110]:List Int)) 8 ([a0])) λr1=>
 ae (uQ N ([r1.1])) λr2=>
 some r2
theorem wV{N a0 r}(h:oB N a0=some r):FnM Tryz.prog 56 [] [(j64 a0)] (eA 32 1 k8 r) []:=by
 unfold oB at h;refine At.f eD hT hmo Tryz.func56 rfl h ?_;refine At.l2 hT 1 (d1:=6) (d2:=7) (t:=25) (e:=5) k8 (z:=1) ([117,109,98,114,97,32,97,117,100,105,116,32,99,104,97,105,110]:List Int) rfl rfl rfl ?_;refine At.o 1 (cM hT (x:=(.sl 1 1 [(j64 a0)]))) ?_;refine At.Y 0 [] jY λr1=>?_;refine At.wk 6 13 ((eL 1 k8 r1.1)) ?_;refine At.o 0 (cM hT (x:=(.sl 1 1 [(eL 1 k8 r1.1)]))) ?_;refine At.y 0 aCn λr2=>?_;apply rt;exact At.r 1
def fH(N:Nat)(a0:Int):Option ((Vector Int 32)):=
 ae (oB N a0) λr1=>
 some r1
theorem fV{N a0 r}(h:fH N a0=some r):FnM Tryz.prog 44 [] [(j64 a0)] (.ref 0 [] 0) [.var (.st 35 [(.st 34 [(eA 32 1 k8 r),(k32 0),(eB true)]),(eL 36 aS.enc (([]:(List aS))))])]:=by
 unfold fH at h;refine At.f eD hT hmo Tryz.func44 rfl h ?_;refine At.y 2 wV λr1=>?_;apply rt;exact At.r 4
def aCL : Nat->Bool:=imL [1]
def sS(N:Nat)(a0:(Vector Int 32)):Option ((Vector Int 32)×(Vector Int 32)×(Vector Int 32)×(Vector Int 32)×(Vector Int 32)×(Vector Int 32)×(Vector Int 32)×(Vector Int 32)):=
 ae (qL N ) λr1=>
 ae (fH N 0) λr2=>
 ae (fH N 1) λr3=>
 ae (fH N 2) λr4=>
 ae (fH N 3) λr5=>
 ae (fH N 4) λr6=>
 ae (fH N 5) λr7=>
 ae (fH N 6) λr8=>
 ae (fH N 7) λr9=>
 some ((r2,r3,r4,r5,r6,r7,r8,r9))
theorem aBq{N a0 r}(h:sS N a0=some r):FnM Tryz.prog 31 [] [(eA 32 1 k8 a0)] (.ref 3 [] 0) [.mp (eM .i64 aO.enc []),.mp (.kv []),.var (.st 2 [(.mp 0),(.mp 1)]),.var (.st 429 [(eA 32 1 k8 a0),(.ref 2 [] 0),(k32 0),(.st 392 [(.st 49 [aBy,(eB false),(j64 0),(.v (.pointer none)),(.ref 4 [] 0),(eA 24 3 aC.enc (am 8 (aC.mk 0 0 0)))]),(.st 49 [aBy,(eB false),(j64 0),(.v (.pointer none)),(.ref 5 [] 0),(eA 24 3 aC.enc (am 8 (aC.mk 0 0 0)))]),(.st 49 [aBy,(eB false),(j64 0),(.v (.pointer none)),(.ref 6 [] 0),(eA 24 3 aC.enc (am 8 (aC.mk 0 0 0)))]),(.st 49 [aBy,(eB false),(j64 0),(.v (.pointer none)),(.ref 7 [] 0),(eA 24 3 aC.enc (am 8 (aC.mk 0 0 0)))]),(.st 49 [aBy,(eB false),(j64 0),(.v (.pointer none)),(.ref 8 [] 0),(eA 24 3 aC.enc (am 8 (aC.mk 0 0 0)))]),(.st 49 [aBy,(eB false),(j64 0),(.v (.pointer none)),(.ref 9 [] 0),(eA 24 3 aC.enc (am 8 (aC.mk 0 0 0)))]),(.st 49 [aBy,(eB false),(j64 0),(.v (.pointer none)),(.ref 10 [] 0),(eA 24 3 aC.enc (am 8 (aC.mk 0 0 0)))]),(.st 49 [aBy,(eB false),(j64 0),(.v (.pointer none)),(.ref 11 [] 0),(eA 24 3 aC.enc (am 8 (aC.mk 0 0 0)))])]),(.st 3 [(j64 0),(j64 0),(j64 0)])]),.var (.st 35 [(.st 34 [(eA 32 1 k8 r.1),(k32 0),(eB true)]),(eL 36 aS.enc (([]:(List aS))))]),.var (.st 35 [(.st 34 [(eA 32 1 k8 r.2.1),(k32 0),(eB true)]),(eL 36 aS.enc (([]:(List aS))))]),.var (.st 35 [(.st 34 [(eA 32 1 k8 r.2.2.1),(k32 0),(eB true)]),(eL 36 aS.enc (([]:(List aS))))]),.var (.st 35 [(.st 34 [(eA 32 1 k8 r.2.2.2.1),(k32 0),(eB true)]),(eL 36 aS.enc (([]:(List aS))))]),.var (.st 35 [(.st 34 [(eA 32 1 k8 r.2.2.2.2.1),(k32 0),(eB true)]),(eL 36 aS.enc (([]:(List aS))))]),.var (.st 35 [(.st 34 [(eA 32 1 k8 r.2.2.2.2.2.1),(k32 0),(eB true)]),(eL 36 aS.enc (([]:(List aS))))]),.var (.st 35 [(.st 34 [(eA 32 1 k8 r.2.2.2.2.2.2.1),(k32 0),(eB true)]),(eL 36 aS.enc (([]:(List aS))))]),.var (.st 35 [(.st 34 [(eA 32 1 k8 r.2.2.2.2.2.2.2),(k32 0),(eB true)]),(eL 36 aS.enc (([]:(List aS))))])]:=by
 unfold sS at h;refine At.f aCL hT hmo Tryz.func31 rfl h ?_;refine At.D 2 [] ?_;refine DD.Z 1 [] 0 aAK λr1=>?_;refine DD.e hT hmo 3 ?_;refine At.u 40 1 ?_;refine At.D 4 [] ?_;refine DD.Z 3 [] 4 fV λr2=>?_;refine DD.e hT hmo 5 ?_;refine At.D 6 [] ?_;refine DD.Z 3 [] 5 fV λr3=>?_;refine DD.e hT hmo 5 ?_;refine At.D 6 [] ?_;refine DD.Z 3 [] 6 fV λr4=>?_;refine DD.e hT hmo 5 ?_;refine At.D 6 [] ?_;refine DD.Z 3 [] 7 fV λr5=>?_;refine DD.e hT hmo 5 ?_;refine At.D 6 [] ?_;refine DD.Z 3 [] 8 fV λr6=>?_;refine DD.e hT hmo 5 ?_;refine At.D 6 [] ?_;refine DD.Z 3 [] 9 fV λr7=>?_;refine DD.e hT hmo 5 ?_;refine At.D 6 [] ?_;refine DD.Z 3 [] 10 fV λr8=>?_;refine DD.e hT hmo 5 ?_;refine At.D 6 [] ?_;refine DD.Z 3 [] 11 fV λr9=>?_;refine DD.e hT hmo 5 ?_;apply rt;exact At.r 6
def iT(N:Nat)(b10:(List (Int×aO)))(a1:(Vector Int 32))(a2:Int)(a3:aD)(a4:Bool)(a5:Int)(a6:(Vector aC 8))(a7:aD)(a8:Bool)(a9:Int)(a10:(Vector aC 8))(a11:aD)(a12:Bool)(a13:Int)(a14:(Vector aC 8))(a15:aD)(a16:Bool)(a17:Int)(a18:(Vector aC 8))(a19:aD)(a20:Bool)(a21:Int)(a22:(Vector aC 8))(a23:aD)(a24:Bool)(a25:Int)(a26:(Vector aC 8))(a27:aD)(a28:Bool)(a29:Int)(a30:(Vector aC 8))(a31:aD)(a32:Bool)(a33:Int)(a34:(Vector aC 8))(a35:bG)(a36 a37 a38 a39 a40 a41 a42 a43:aE):Option (Unit):=
 some (())
theorem pB{N b10 a1 a2 a3 a4 a5 a6 a7 a8 a9 a10 a11 a12 a13 a14 a15 a16 a17 a18 a19 a20 a21 a22 a23 a24 a25 a26 a27 a28 a29 a30 a31 a32 a33 a34 a35 a36 a37 a38 a39 a40 a41 a42 a43 r}(h:iT N b10 a1 a2 a3 a4 a5 a6 a7 a8 a9 a10 a11 a12 a13 a14 a15 a16 a17 a18 a19 a20 a21 a22 a23 a24 a25 a26 a27 a28 a29 a30 a31 a32 a33 a34 a35 a36 a37 a38 a39 a40 a41 a42 a43=some r):FnM Tryz.prog 45 [.var (.st 429 [(eA 32 1 k8 a1),(.ref 1 [] 0),(k32 a2),(.st 392 [(.st 49 [(aD.enc a3),(eB a4),(j64 a5),(.v (.pointer none)),(.ref 2 [] 0),(eA 24 3 aC.enc a6)]),(.st 49 [(aD.enc a7),(eB a8),(j64 a9),(.v (.pointer none)),(.ref 3 [] 0),(eA 24 3 aC.enc a10)]),(.st 49 [(aD.enc a11),(eB a12),(j64 a13),(.v (.pointer none)),(.ref 4 [] 0),(eA 24 3 aC.enc a14)]),(.st 49 [(aD.enc a15),(eB a16),(j64 a17),(.v (.pointer none)),(.ref 5 [] 0),(eA 24 3 aC.enc a18)]),(.st 49 [(aD.enc a19),(eB a20),(j64 a21),(.v (.pointer none)),(.ref 6 [] 0),(eA 24 3 aC.enc a22)]),(.st 49 [(aD.enc a23),(eB a24),(j64 a25),(.v (.pointer none)),(.ref 7 [] 0),(eA 24 3 aC.enc a26)]),(.st 49 [(aD.enc a27),(eB a28),(j64 a29),(.v (.pointer none)),(.ref 8 [] 0),(eA 24 3 aC.enc a30)]),(.st 49 [(aD.enc a31),(eB a32),(j64 a33),(.v (.pointer none)),(.ref 9 [] 0),(eA 24 3 aC.enc a34)])]),(bG.enc a35)]),.var (.st 2 [(.mp 10),(.mp 11)]),.var (aE.enc a36),.var (aE.enc a37),.var (aE.enc a38),.var (aE.enc a39),.var (aE.enc a40),.var (aE.enc a41),.var (aE.enc a42),.var (aE.enc a43),.mp (eM .i64 aO.enc b10),.mp (.kv [])] [(.ref 0 [] 0)] (eB false) [.var (.st 429 [(eA 32 1 k8 a1),(.ref 1 [] 0),(k32 a2),(.st 392 [(.st 49 [(aD.enc a3),(eB a4),(j64 a5),(.v (.pointer none)),(.ref 2 [] 0),(eA 24 3 aC.enc a6)]),(.st 49 [(aD.enc a7),(eB a8),(j64 a9),(.v (.pointer none)),(.ref 3 [] 0),(eA 24 3 aC.enc a10)]),(.st 49 [(aD.enc a11),(eB a12),(j64 a13),(.v (.pointer none)),(.ref 4 [] 0),(eA 24 3 aC.enc a14)]),(.st 49 [(aD.enc a15),(eB a16),(j64 a17),(.v (.pointer none)),(.ref 5 [] 0),(eA 24 3 aC.enc a18)]),(.st 49 [(aD.enc a19),(eB a20),(j64 a21),(.v (.pointer none)),(.ref 6 [] 0),(eA 24 3 aC.enc a22)]),(.st 49 [(aD.enc a23),(eB a24),(j64 a25),(.v (.pointer none)),(.ref 7 [] 0),(eA 24 3 aC.enc a26)]),(.st 49 [(aD.enc a27),(eB a28),(j64 a29),(.v (.pointer none)),(.ref 8 [] 0),(eA 24 3 aC.enc a30)]),(.st 49 [(aD.enc a31),(eB a32),(j64 a33),(.v (.pointer none)),(.ref 9 [] 0),(eA 24 3 aC.enc a34)])]),(bG.enc a35)]),.var (.st 2 [(.mp 10),(.mp 11)]),.var (aE.enc a36),.var (aE.enc a37),.var (aE.enc a38),.var (aE.enc a39),.var (aE.enc a40),.var (aE.enc a41),.var (aE.enc a42),.var (aE.enc a43),.mp (eM .i64 aO.enc b10),.mp (.kv [])]:=by
 unfold iT at h;refine At.f eD hT hmo Tryz.func45 rfl h ?_;refine At.o 2 (pP hT (t:=85) (x:=(.ref 0 [] 0)) (b:=true) (by kernel_rfl) rfl rfl (by kernel_rfl)) ?_;refine At.g [5] 5 ?_;refine At.o 0 (pP hT (t:=99) (x:=(.ref 1 [] 0)) (b:=true) (by kernel_rfl) rfl rfl (by kernel_rfl)) ?_;refine At.g [5] 2 ?_;apply rt;exact At.r 0
def iH(N:Nat)(a0:Int):Option (dA):=
 some (dA.mk a0 [] [])
theorem jL{N a0 r}(h:iH N a0=some r):FnM Tryz.prog 46 [] [(j64 a0)] (dA.enc r) []:=by
 unfold iH at h;refine At.f eD hT hmo Tryz.func46 rfl h ?_;apply rt;exact At.r 4
def dU(N:Nat)(b10:(List (Int×aO)))(a1:Int)(a2:(Vector Int 32))(a3:Int)(a4:aD)(a5:Bool)(a6:Int)(a7:(Vector aC 8))(a8:aD)(a9:Bool)(a10:Int)(a11:(Vector aC 8))(a12:aD)(a13:Bool)(a14:Int)(a15:(Vector aC 8))(a16:aD)(a17:Bool)(a18:Int)(a19:(Vector aC 8))(a20:aD)(a21:Bool)(a22:Int)(a23:(Vector aC 8))(a24:aD)(a25:Bool)(a26:Int)(a27:(Vector aC 8))(a28:aD)(a29:Bool)(a30:Int)(a31:(Vector aC 8))(a32:aD)(a33:Bool)(a34:Int)(a35:(Vector aC 8))(a36:bG)(a37 a38 a39 a40 a41 a42 a43 a44:aE):Option (Sum (Unit) (Unit)):=
 cB (cond (decide (a1 < 0)) true (decide (a1>=8))) λx1=>
 cond x1 (
  some (Sum.inl (()))) (
  ae (isO a1 0) λ_=>
  some (Sum.inr (())))
theorem jT{N b10 a1 a2 a3 a4 a5 a6 a7 a8 a9 a10 a11 a12 a13 a14 a15 a16 a17 a18 a19 a20 a21 a22 a23 a24 a25 a26 a27 a28 a29 a30 a31 a32 a33 a34 a35 a36 a37 a38 a39 a40 a41 a42 a43 a44 r}(h:dU N b10 a1 a2 a3 a4 a5 a6 a7 a8 a9 a10 a11 a12 a13 a14 a15 a16 a17 a18 a19 a20 a21 a22 a23 a24 a25 a26 a27 a28 a29 a30 a31 a32 a33 a34 a35 a36 a37 a38 a39 a40 a41 a42 a43 a44=some r):FnM Tryz.prog 52 [.var (.st 429 [(eA 32 1 k8 a2),(.ref 1 [] 0),(k32 a3),(.st 392 [(.st 49 [(aD.enc a4),(eB a5),(j64 a6),(.v (.pointer none)),(.ref 2 [] 0),(eA 24 3 aC.enc a7)]),(.st 49 [(aD.enc a8),(eB a9),(j64 a10),(.v (.pointer none)),(.ref 3 [] 0),(eA 24 3 aC.enc a11)]),(.st 49 [(aD.enc a12),(eB a13),(j64 a14),(.v (.pointer none)),(.ref 4 [] 0),(eA 24 3 aC.enc a15)]),(.st 49 [(aD.enc a16),(eB a17),(j64 a18),(.v (.pointer none)),(.ref 5 [] 0),(eA 24 3 aC.enc a19)]),(.st 49 [(aD.enc a20),(eB a21),(j64 a22),(.v (.pointer none)),(.ref 6 [] 0),(eA 24 3 aC.enc a23)]),(.st 49 [(aD.enc a24),(eB a25),(j64 a26),(.v (.pointer none)),(.ref 7 [] 0),(eA 24 3 aC.enc a27)]),(.st 49 [(aD.enc a28),(eB a29),(j64 a30),(.v (.pointer none)),(.ref 8 [] 0),(eA 24 3 aC.enc a31)]),(.st 49 [(aD.enc a32),(eB a33),(j64 a34),(.v (.pointer none)),(.ref 9 [] 0),(eA 24 3 aC.enc a35)])]),(bG.enc a36)]),.var (.st 2 [(.mp 10),(.mp 11)]),.var (aE.enc a37),.var (aE.enc a38),.var (aE.enc a39),.var (aE.enc a40),.var (aE.enc a41),.var (aE.enc a42),.var (aE.enc a43),.var (aE.enc a44),.mp (eM .i64 aO.enc b10),.mp (.kv [])] [(.ref 0 [] 0),(j64 a1)] (selS r (λr=>(.tup [(.v (.pointer none)),(eB false)])) (λr=>(.tup [(.ref 0 [3,0] 34),(eB true)]))) (selS r (λr=>[.var (.st 429 [(eA 32 1 k8 a2),(.ref 1 [] 0),(k32 a3),(.st 392 [(.st 49 [(aD.enc a4),(eB a5),(j64 a6),(.v (.pointer none)),(.ref 2 [] 0),(eA 24 3 aC.enc a7)]),(.st 49 [(aD.enc a8),(eB a9),(j64 a10),(.v (.pointer none)),(.ref 3 [] 0),(eA 24 3 aC.enc a11)]),(.st 49 [(aD.enc a12),(eB a13),(j64 a14),(.v (.pointer none)),(.ref 4 [] 0),(eA 24 3 aC.enc a15)]),(.st 49 [(aD.enc a16),(eB a17),(j64 a18),(.v (.pointer none)),(.ref 5 [] 0),(eA 24 3 aC.enc a19)]),(.st 49 [(aD.enc a20),(eB a21),(j64 a22),(.v (.pointer none)),(.ref 6 [] 0),(eA 24 3 aC.enc a23)]),(.st 49 [(aD.enc a24),(eB a25),(j64 a26),(.v (.pointer none)),(.ref 7 [] 0),(eA 24 3 aC.enc a27)]),(.st 49 [(aD.enc a28),(eB a29),(j64 a30),(.v (.pointer none)),(.ref 8 [] 0),(eA 24 3 aC.enc a31)]),(.st 49 [(aD.enc a32),(eB a33),(j64 a34),(.v (.pointer none)),(.ref 9 [] 0),(eA 24 3 aC.enc a35)])]),(bG.enc a36)]),.var (.st 2 [(.mp 10),(.mp 11)]),.var (aE.enc a37),.var (aE.enc a38),.var (aE.enc a39),.var (aE.enc a40),.var (aE.enc a41),.var (aE.enc a42),.var (aE.enc a43),.var (aE.enc a44),.mp (eM .i64 aO.enc b10),.mp (.kv [])]) (λr=>[.var (.st 429 [(eA 32 1 k8 a2),(.ref 1 [] 0),(k32 a3),(.st 392 [(.st 49 [(aD.enc a4),(eB a5),(j64 a6),(.v (.pointer none)),(.ref 2 [] 0),(eA 24 3 aC.enc a7)]),(.st 49 [(aD.enc a8),(eB a9),(j64 a10),(.v (.pointer none)),(.ref 3 [] 0),(eA 24 3 aC.enc a11)]),(.st 49 [(aD.enc a12),(eB a13),(j64 a14),(.v (.pointer none)),(.ref 4 [] 0),(eA 24 3 aC.enc a15)]),(.st 49 [(aD.enc a16),(eB a17),(j64 a18),(.v (.pointer none)),(.ref 5 [] 0),(eA 24 3 aC.enc a19)]),(.st 49 [(aD.enc a20),(eB a21),(j64 a22),(.v (.pointer none)),(.ref 6 [] 0),(eA 24 3 aC.enc a23)]),(.st 49 [(aD.enc a24),(eB a25),(j64 a26),(.v (.pointer none)),(.ref 7 [] 0),(eA 24 3 aC.enc a27)]),(.st 49 [(aD.enc a28),(eB a29),(j64 a30),(.v (.pointer none)),(.ref 8 [] 0),(eA 24 3 aC.enc a31)]),(.st 49 [(aD.enc a32),(eB a33),(j64 a34),(.v (.pointer none)),(.ref 9 [] 0),(eA 24 3 aC.enc a35)])]),(bG.enc a36)]),.var (.st 2 [(.mp 10),(.mp 11)]),.var (aE.enc a37),.var (aE.enc a38),.var (aE.enc a39),.var (aE.enc a40),.var (aE.enc a41),.var (aE.enc a42),.var (aE.enc a43),.var (aE.enc a44),.mp (eM .i64 aO.enc b10),.mp (.kv [])])):=by
 unfold dU at h;refine At.f eD hT hmo Tryz.func52 rfl h ?_;refine lx ?_;intro x1;refine At.c 8 ?_ ?_
 ·apply rt;exact At.r 2
 ·refine At.b 4 (λ_ e=>aGp hT 8 (k:=49) 0 [3] 34 e (by kernel_rfl) (by kernel_rfl)) λu2=>?_;apply rt;exact At.r 2
theorem mV{N b10 a1 a2 a3 a4 a5 a6 a7 a8 a9 a10 a11 a12 a13 a14 a15 a16 a17 a18 a19 a20 a21 a22 a23 a24 a25 a26 a27 a28 a29 a30 a31 a32 a33 a34 a35 a36 a37 a38 a39 a40 a41 a42 a43 a44 r}(h:dU N b10 a1 a2 a3 a4 a5 a6 a7 a8 a9 a10 a11 a12 a13 a14 a15 a16 a17 a18 a19 a20 a21 a22 a23 a24 a25 a26 a27 a28 a29 a30 a31 a32 a33 a34 a35 a36 a37 a38 a39 a40 a41 a42 a43 a44=some (Sum.inl r)):FnM Tryz.prog 52 [.var (.st 429 [(eA 32 1 k8 a2),(.ref 1 [] 0),(k32 a3),(.st 392 [(.st 49 [(aD.enc a4),(eB a5),(j64 a6),(.v (.pointer none)),(.ref 2 [] 0),(eA 24 3 aC.enc a7)]),(.st 49 [(aD.enc a8),(eB a9),(j64 a10),(.v (.pointer none)),(.ref 3 [] 0),(eA 24 3 aC.enc a11)]),(.st 49 [(aD.enc a12),(eB a13),(j64 a14),(.v (.pointer none)),(.ref 4 [] 0),(eA 24 3 aC.enc a15)]),(.st 49 [(aD.enc a16),(eB a17),(j64 a18),(.v (.pointer none)),(.ref 5 [] 0),(eA 24 3 aC.enc a19)]),(.st 49 [(aD.enc a20),(eB a21),(j64 a22),(.v (.pointer none)),(.ref 6 [] 0),(eA 24 3 aC.enc a23)]),(.st 49 [(aD.enc a24),(eB a25),(j64 a26),(.v (.pointer none)),(.ref 7 [] 0),(eA 24 3 aC.enc a27)]),(.st 49 [(aD.enc a28),(eB a29),(j64 a30),(.v (.pointer none)),(.ref 8 [] 0),(eA 24 3 aC.enc a31)]),(.st 49 [(aD.enc a32),(eB a33),(j64 a34),(.v (.pointer none)),(.ref 9 [] 0),(eA 24 3 aC.enc a35)])]),(bG.enc a36)]),.var (.st 2 [(.mp 10),(.mp 11)]),.var (aE.enc a37),.var (aE.enc a38),.var (aE.enc a39),.var (aE.enc a40),.var (aE.enc a41),.var (aE.enc a42),.var (aE.enc a43),.var (aE.enc a44),.mp (eM .i64 aO.enc b10),.mp (.kv [])] [(.ref 0 [] 0),(j64 a1)] (.tup [(.v (.pointer none)),(eB false)]) [.var (.st 429 [(eA 32 1 k8 a2),(.ref 1 [] 0),(k32 a3),(.st 392 [(.st 49 [(aD.enc a4),(eB a5),(j64 a6),(.v (.pointer none)),(.ref 2 [] 0),(eA 24 3 aC.enc a7)]),(.st 49 [(aD.enc a8),(eB a9),(j64 a10),(.v (.pointer none)),(.ref 3 [] 0),(eA 24 3 aC.enc a11)]),(.st 49 [(aD.enc a12),(eB a13),(j64 a14),(.v (.pointer none)),(.ref 4 [] 0),(eA 24 3 aC.enc a15)]),(.st 49 [(aD.enc a16),(eB a17),(j64 a18),(.v (.pointer none)),(.ref 5 [] 0),(eA 24 3 aC.enc a19)]),(.st 49 [(aD.enc a20),(eB a21),(j64 a22),(.v (.pointer none)),(.ref 6 [] 0),(eA 24 3 aC.enc a23)]),(.st 49 [(aD.enc a24),(eB a25),(j64 a26),(.v (.pointer none)),(.ref 7 [] 0),(eA 24 3 aC.enc a27)]),(.st 49 [(aD.enc a28),(eB a29),(j64 a30),(.v (.pointer none)),(.ref 8 [] 0),(eA 24 3 aC.enc a31)]),(.st 49 [(aD.enc a32),(eB a33),(j64 a34),(.v (.pointer none)),(.ref 9 [] 0),(eA 24 3 aC.enc a35)])]),(bG.enc a36)]),.var (.st 2 [(.mp 10),(.mp 11)]),.var (aE.enc a37),.var (aE.enc a38),.var (aE.enc a39),.var (aE.enc a40),.var (aE.enc a41),.var (aE.enc a42),.var (aE.enc a43),.var (aE.enc a44),.mp (eM .i64 aO.enc b10),.mp (.kv [])]:=jT h
theorem nB{N b10 a1 a2 a3 a4 a5 a6 a7 a8 a9 a10 a11 a12 a13 a14 a15 a16 a17 a18 a19 a20 a21 a22 a23 a24 a25 a26 a27 a28 a29 a30 a31 a32 a33 a34 a35 a36 a37 a38 a39 a40 a41 a42 a43 a44 r}(h:dU N b10 a1 a2 a3 a4 a5 a6 a7 a8 a9 a10 a11 a12 a13 a14 a15 a16 a17 a18 a19 a20 a21 a22 a23 a24 a25 a26 a27 a28 a29 a30 a31 a32 a33 a34 a35 a36 a37 a38 a39 a40 a41 a42 a43 a44=some (Sum.inr r)):FnM Tryz.prog 52 [.var (.st 429 [(eA 32 1 k8 a2),(.ref 1 [] 0),(k32 a3),(.st 392 [(.st 49 [(aD.enc a4),(eB a5),(j64 a6),(.v (.pointer none)),(.ref 2 [] 0),(eA 24 3 aC.enc a7)]),(.st 49 [(aD.enc a8),(eB a9),(j64 a10),(.v (.pointer none)),(.ref 3 [] 0),(eA 24 3 aC.enc a11)]),(.st 49 [(aD.enc a12),(eB a13),(j64 a14),(.v (.pointer none)),(.ref 4 [] 0),(eA 24 3 aC.enc a15)]),(.st 49 [(aD.enc a16),(eB a17),(j64 a18),(.v (.pointer none)),(.ref 5 [] 0),(eA 24 3 aC.enc a19)]),(.st 49 [(aD.enc a20),(eB a21),(j64 a22),(.v (.pointer none)),(.ref 6 [] 0),(eA 24 3 aC.enc a23)]),(.st 49 [(aD.enc a24),(eB a25),(j64 a26),(.v (.pointer none)),(.ref 7 [] 0),(eA 24 3 aC.enc a27)]),(.st 49 [(aD.enc a28),(eB a29),(j64 a30),(.v (.pointer none)),(.ref 8 [] 0),(eA 24 3 aC.enc a31)]),(.st 49 [(aD.enc a32),(eB a33),(j64 a34),(.v (.pointer none)),(.ref 9 [] 0),(eA 24 3 aC.enc a35)])]),(bG.enc a36)]),.var (.st 2 [(.mp 10),(.mp 11)]),.var (aE.enc a37),.var (aE.enc a38),.var (aE.enc a39),.var (aE.enc a40),.var (aE.enc a41),.var (aE.enc a42),.var (aE.enc a43),.var (aE.enc a44),.mp (eM .i64 aO.enc b10),.mp (.kv [])] [(.ref 0 [] 0),(j64 a1)] (.tup [(.ref 0 [3,0] 34),(eB true)]) [.var (.st 429 [(eA 32 1 k8 a2),(.ref 1 [] 0),(k32 a3),(.st 392 [(.st 49 [(aD.enc a4),(eB a5),(j64 a6),(.v (.pointer none)),(.ref 2 [] 0),(eA 24 3 aC.enc a7)]),(.st 49 [(aD.enc a8),(eB a9),(j64 a10),(.v (.pointer none)),(.ref 3 [] 0),(eA 24 3 aC.enc a11)]),(.st 49 [(aD.enc a12),(eB a13),(j64 a14),(.v (.pointer none)),(.ref 4 [] 0),(eA 24 3 aC.enc a15)]),(.st 49 [(aD.enc a16),(eB a17),(j64 a18),(.v (.pointer none)),(.ref 5 [] 0),(eA 24 3 aC.enc a19)]),(.st 49 [(aD.enc a20),(eB a21),(j64 a22),(.v (.pointer none)),(.ref 6 [] 0),(eA 24 3 aC.enc a23)]),(.st 49 [(aD.enc a24),(eB a25),(j64 a26),(.v (.pointer none)),(.ref 7 [] 0),(eA 24 3 aC.enc a27)]),(.st 49 [(aD.enc a28),(eB a29),(j64 a30),(.v (.pointer none)),(.ref 8 [] 0),(eA 24 3 aC.enc a31)]),(.st 49 [(aD.enc a32),(eB a33),(j64 a34),(.v (.pointer none)),(.ref 9 [] 0),(eA 24 3 aC.enc a35)])]),(bG.enc a36)]),.var (.st 2 [(.mp 10),(.mp 11)]),.var (aE.enc a37),.var (aE.enc a38),.var (aE.enc a39),.var (aE.enc a40),.var (aE.enc a41),.var (aE.enc a42),.var (aE.enc a43),.var (aE.enc a44),.mp (eM .i64 aO.enc b10),.mp (.kv [])]:=jT h
def eT(N:Nat)(b1:(List (Int×aO))):Option (Unit):=
 some (())
theorem iU{N b1 r}(h:eT N b1=some r):FnM Tryz.prog 62 [.var (.st 2 [(.mp 1),(.mp 2)]),.mp (eM .i64 aO.enc b1),.mp (.kv [])] [(.ref 0 [] 0)] (eB false) [.var (.st 2 [(.mp 1),(.mp 2)]),.mp (eM .i64 aO.enc b1),.mp (.kv [])]:=by
 unfold eT at h;refine At.f eD hT hmo Tryz.func62 rfl h ?_;refine At.o 2 (pP hT (t:=99) (x:=(.ref 0 [] 0)) (b:=true) (by kernel_rfl) rfl rfl (by kernel_rfl)) ?_;refine At.g [5] 5 ?_;refine At.o 0 (aGN (t:=142) (kt:=3) (et:=161) (x:=(.mp 1)) (b:=true) (by kernel_rfl) rfl rfl (by kernel_rfl)) ?_;refine At.g [5] 2 ?_;apply rt;exact At.r 0
def aCP : Go.Shelf.Ren:=⟨λ | 5=>186 | 7=>239 | n=>n,λ | 23=>142 | 25=>3 | 3=>161 | 4=>4 | 20=>20 | n=>n,λ | n=>n⟩
theorem aH2 : SlLaysW.n5 Tryz.prog aCP where
 mixed:=by kernel_rfl
 f5:=⟨"maps.Clone[map[int]umbra/api.Row,int,umbra/api.Row]",by decide,Tryz.func186.trans (congrArg some (by kernel_rfl))⟩
 f7:=Tryz.func239.trans (congrArg some (by kernel_rfl))
 t4:=Tryz.underlying4
 a4:=Tryz.isAgg4
 z4:=Tryz.sizeOf4
 v4:=Tryz.zeroValue4
 t20:=Tryz.underlying20
 a20:=Tryz.isAgg20
 z20:=Tryz.sizeOf20
 v20:=Tryz.zeroValue20
 t23:=Tryz.underlying142
 a23:=Tryz.isAgg142
 z23:=Tryz.sizeOf142
 v23:=Tryz.zeroValue142
theorem aD3(l:List (Int×aO)):FnM Tryz.prog 186 [.mp (eM .i64 aO.enc l)] [.mp 0] (.mp 1) [.mp (eM .i64 aO.enc l),.mp (eM .i64 aO.enc l)]:=aBj aH2 rfl l
def aCG : Go.Shelf.Ren:=⟨λ | 5=>187 | 7=>239 | n=>n,λ | 23=>143 | 25=>167 | 3=>45 | 4=>4 | 20=>20 | n=>n,λ | n=>n⟩
theorem aIG : SlLaysW.n5 Tryz.prog aCG where
 mixed:=by kernel_rfl
 f5:=⟨"maps.Clone[map[umbra/table.name]umbra/api.Affine,umbra/table.name,umbra/api.Affine]",by decide,Tryz.func187.trans (congrArg some (by kernel_rfl))⟩
 f7:=Tryz.func239.trans (congrArg some (by kernel_rfl))
 t4:=Tryz.underlying4
 a4:=Tryz.isAgg4
 z4:=Tryz.sizeOf4
 v4:=Tryz.zeroValue4
 t20:=Tryz.underlying20
 a20:=Tryz.isAgg20
 z20:=Tryz.sizeOf20
 v20:=Tryz.zeroValue20
 t23:=Tryz.underlying143
 a23:=Tryz.isAgg143
 z23:=Tryz.sizeOf143
 v23:=Tryz.zeroValue143
theorem aDv : FnM Tryz.prog 187 [.mp (.kv [])] [.mp 0] (.mp 1) [.mp (.kv []),.mp (.kv [])]:=aBj (q := .i64) (F:=j64) aIG rfl []
def jH(N:Nat)(b1:(List (Int×aO))):Option (Unit):=
 ae (eT N b1) λr1=>
 some (())
theorem qA{N b1 r}(h:jH N b1=some r):FnM Tryz.prog 141 [.var (.st 2 [(.mp 1),(.mp 2)]),.mp (eM .i64 aO.enc b1),.mp (.kv [])] [(.ref 0 [] 0)] (.ref 5 [] 0) [.var (.st 2 [(.mp 1),(.mp 2)]),.mp (eM .i64 aO.enc b1),.mp (.kv []),.mp (eM .i64 aO.enc b1),.mp (.kv []),.var (.st 2 [(.mp 3),(.mp 4)])]:=by
 unfold jH at h;refine At.f eD hT hmo Tryz.func141 rfl h ?_;refine At.Y 2 [0,1,2] iU λr1=>?_;refine At.D 1 [] ?_;refine DD.Zo 4 [1] 3 (aD3 b1) ?_;refine DD.Zo 4 [2] 4 aDv ?_;refine DD.e hT hmo 3 ?_;apply rt;exact At.r 0
def aEB : Go.Shelf.Ren:=⟨λ | 7=>192 | 10=>246 | n=>n,λ | 23=>142 | 26=>3 | 3=>161 | 28=>334 | 0=>0 | 27=>333 | 33=>394 | 4=>4 | n=>n,λ | n=>n⟩
theorem aHE : SlLaysZI.n7 Tryz.prog aEB where
 mixed:=by kernel_rfl
 f7:=⟨"maps.Keys[map[int]umbra/api.Row,int,umbra/api.Row]",by decide,Tryz.func192.trans (congrArg some (by kernel_rfl))⟩
 f10:=⟨"maps.Keys[map[int]umbra/api.Row,int,umbra/api.Row]$1",by decide,Tryz.func246.trans (congrArg some (by kernel_rfl))⟩
 t0:=Tryz.underlying0
 a0:=Tryz.isAgg0
 z0:=Tryz.sizeOf0
 v0:=Tryz.zeroValue0
 t4:=Tryz.underlying4
 a4:=Tryz.isAgg4
 z4:=Tryz.sizeOf4
 v4:=Tryz.zeroValue4
 t23:=Tryz.underlying142
 a23:=Tryz.isAgg142
 z23:=Tryz.sizeOf142
 v23:=Tryz.zeroValue142
 t26:=Tryz.underlying3
 a26:=Tryz.isAgg3
 z26:=Tryz.sizeOf3
 v26:=Tryz.zeroValue3
 t27:=Tryz.underlying333
 a27:=Tryz.isAgg333
 z27:=Tryz.sizeOf333
 v27:=Tryz.zeroValue333
 t28:=Tryz.underlying334
 a28:=Tryz.isAgg334
 z28:=Tryz.sizeOf334
 v28:=Tryz.zeroValue334
 t33:=Tryz.underlying394
 a33:=Tryz.isAgg394
 z33:=Tryz.sizeOf394
 v33:=Tryz.zeroValue394
def vS : Go.Shelf.Ren:=⟨λ | 6=>191 | 8=>244 | 9=>245 | 11=>292 | 13=>248 | 12=>293 | 23=>302 | 24=>303 | 14=>342 | 15=>343 | 16=>344 | 17=>345 | 18=>346 | 19=>347 | 20=>348 | 21=>349 | 22=>350 | 25=>381 | 26=>352 | 27=>353 | 28=>382 | 29=>383 | 30=>304 | 31=>400 | n=>n,λ | 26=>3 | 28=>334 | 24=>24 | 0=>0 | 3=>3 | 37=>303 | 48=>55 | 50=>48 | 4=>4 | 40=>487 | 39=>486 | 45=>339 | 5=>5 | 9=>9 | 51=>542 | 55=>546 | 57=>581 | 58=>351 | 33=>394 | n=>n,λ | n=>n⟩
theorem aF6 : SlLaysZI.n6 Tryz.prog vS where
 mixed:=by kernel_rfl
 f6:=⟨"slices.Sorted[int]",by decide,Tryz.func191.trans (congrArg some (by kernel_rfl))⟩
 f8:=⟨"slices.Collect[int]",by decide,Tryz.func244.trans (congrArg some (by kernel_rfl))⟩
 f11:=⟨"slices.AppendSeq[[]int,int]",by decide,Tryz.func292.trans (congrArg some (by kernel_rfl))⟩
 t0:=Tryz.underlying0
 a0:=Tryz.isAgg0
 z0:=Tryz.sizeOf0
 v0:=Tryz.zeroValue0
 t24:=Tryz.underlying24
 a24:=Tryz.isAgg24
 z24:=Tryz.sizeOf24
 v24:=Tryz.zeroValue24
 t26:=Tryz.underlying3
 a26:=Tryz.isAgg3
 z26:=Tryz.sizeOf3
 v26:=Tryz.zeroValue3
 t28:=Tryz.underlying334
 a28:=Tryz.isAgg334
 z28:=Tryz.sizeOf334
 v28:=Tryz.zeroValue334
 i26:=by kernel_rfl
def aEE : Go.Shelf.Ren:=⟨λ | 5=>245 | 8=>248 | 7=>293 | 19=>302 | 20=>303 | 10=>342 | 11=>343 | 12=>344 | 13=>345 | 14=>346 | 15=>347 | 16=>348 | 17=>349 | 18=>350 | 30=>381 | 31=>352 | 32=>353 | 33=>382 | 34=>383 | 35=>304 | 40=>400 | n=>n,λ | 23=>24 | 25=>3 | 3=>3 | 32=>303 | 22=>24 | 0=>0 | 44=>55 | 46=>48 | 4=>4 | 36=>487 | 35=>486 | 41=>339 | 5=>5 | 9=>9 | 53=>542 | 57=>546 | 63=>581 | 64=>351 | n=>n,λ | n=>n⟩
theorem aHH : SlLaysM.n5 Tryz.prog aEE where
 mixed:=by kernel_rfl
 f5:=⟨"slices.Sort[[]int,int]",by decide,Tryz.func245.trans (congrArg some (by kernel_rfl))⟩
 f7:=⟨"slices.pdqsortOrdered[int]",by decide,Tryz.func293.trans (congrArg some (by kernel_rfl))⟩
 f8:=Tryz.func248.trans (congrArg some (by kernel_rfl))
 f10:=⟨"slices.insertionSortOrdered[int]",by decide,Tryz.func342.trans (congrArg some (by kernel_rfl))⟩
 f11:=⟨"slices.heapSortOrdered[int]",by decide,Tryz.func343.trans (congrArg some (by kernel_rfl))⟩
 f12:=⟨"slices.breakPatternsOrdered[int]",by decide,Tryz.func344.trans (congrArg some (by kernel_rfl))⟩
 f13:=⟨"slices.choosePivotOrdered[int]",by decide,Tryz.func345.trans (congrArg some (by kernel_rfl))⟩
 f14:=⟨"slices.reverseRangeOrdered[int]",by decide,Tryz.func346.trans (congrArg some (by kernel_rfl))⟩
 f15:=⟨"slices.partialInsertionSortOrdered[int]",by decide,Tryz.func347.trans (congrArg some (by kernel_rfl))⟩
 f16:=⟨"cmp.Less[int]",by decide,Tryz.func348.trans (congrArg some (by kernel_rfl))⟩
 f17:=⟨"slices.partitionEqualOrdered[int]",by decide,Tryz.func349.trans (congrArg some (by kernel_rfl))⟩
 f18:=⟨"slices.partitionOrdered[int]",by decide,Tryz.func350.trans (congrArg some (by kernel_rfl))⟩
 f19:=Tryz.func302.trans (congrArg some (by kernel_rfl))
 f20:=Tryz.func303.trans (congrArg some (by kernel_rfl))
 f30:=⟨"slices.siftDownOrdered[int]",by decide,Tryz.func381.trans (congrArg some (by kernel_rfl))⟩
 f31:=Tryz.func352.trans (congrArg some (by kernel_rfl))
 f32:=Tryz.func353.trans (congrArg some (by kernel_rfl))
 f33:=⟨"slices.medianAdjacentOrdered[int]",by decide,Tryz.func382.trans (congrArg some (by kernel_rfl))⟩
 f34:=⟨"slices.medianOrdered[int]",by decide,Tryz.func383.trans (congrArg some (by kernel_rfl))⟩
 f35:=⟨"cmp.isNaN[int]",by decide,Tryz.func304.trans (congrArg some (by kernel_rfl))⟩
 f40:=⟨"slices.order2Ordered[int]",by decide,Tryz.func400.trans (congrArg some (by kernel_rfl))⟩
 t0:=Tryz.underlying0
 a0:=Tryz.isAgg0
 z0:=Tryz.sizeOf0
 v0:=Tryz.zeroValue0
 t3:=Tryz.underlying3
 a3:=Tryz.isAgg3
 z3:=Tryz.sizeOf3
 v3:=Tryz.zeroValue3
 t4:=Tryz.underlying4
 a4:=Tryz.isAgg4
 z4:=Tryz.sizeOf4
 v4:=Tryz.zeroValue4
 t5:=Tryz.underlying5
 a5:=Tryz.isAgg5
 z5:=Tryz.sizeOf5
 v5:=Tryz.zeroValue5
 t9:=Tryz.underlying9
 a9:=Tryz.isAgg9
 z9:=Tryz.sizeOf9
 v9:=Tryz.zeroValue9
 t22:=Tryz.underlying24
 a22:=Tryz.isAgg24
 z22:=Tryz.sizeOf24
 v22:=Tryz.zeroValue24
 t23:=Tryz.underlying24
 a23:=Tryz.isAgg24
 z23:=Tryz.sizeOf24
 v23:=Tryz.zeroValue24
 t25:=Tryz.underlying3
 a25:=Tryz.isAgg3
 z25:=Tryz.sizeOf3
 v25:=Tryz.zeroValue3
 t32:=Tryz.underlying303
 a32:=Tryz.isAgg303
 z32:=Tryz.sizeOf303
 v32:=Tryz.zeroValue303
 t35:=Tryz.underlying486
 a35:=Tryz.isAgg486
 z35:=Tryz.sizeOf486
 v35:=Tryz.zeroValue486
 t36:=Tryz.underlying487
 a36:=Tryz.isAgg487
 z36:=Tryz.sizeOf487
 v36:=Tryz.zeroValue487
 t41:=Tryz.underlying339
 a41:=Tryz.isAgg339
 z41:=Tryz.sizeOf339
 v41:=Tryz.zeroValue339
 t44:=Tryz.underlying55
 a44:=Tryz.isAgg55
 z44:=Tryz.sizeOf55
 v44:=Tryz.zeroValue55
 t46:=Tryz.underlying48
 a46:=Tryz.isAgg48
 z46:=Tryz.sizeOf48
 v46:=Tryz.zeroValue48
 t53:=Tryz.underlying542
 a53:=Tryz.isAgg542
 z53:=Tryz.sizeOf542
 v53:=Tryz.zeroValue542
 t57:=Tryz.underlying546
 a57:=Tryz.isAgg546
 z57:=Tryz.sizeOf546
 v57:=Tryz.zeroValue546
 t63:=Tryz.underlying581
 a63:=Tryz.isAgg581
 z63:=Tryz.sizeOf581
 v63:=Tryz.zeroValue581
 t64:=Tryz.underlying351
 a64:=Tryz.isAgg351
 z64:=Tryz.sizeOf351
 v64:=Tryz.zeroValue351
theorem aHb(m:Nat):AnyZI.SortsIn Tryz.prog vS Fence.wide m:=
 ⟨λblk off cap ss W hH hblk hsz=>callsIn_wide.2 (AnyM.slices_Sort_int aHH blk off cap ss W hH hblk hsz),λp cap W=>callsIn_wide.2 (AnyM.slices_Sort_int_none aHH p cap W)⟩
theorem aEj(l:List (Int×aO)):FnM Tryz.prog 192 [.mp (eM .i64 aO.enc l)] [.mp 0] (.fn (.func 246) [] [.ref 1 [] 0]) [.mp (eM .i64 aO.enc l),.var (.mp 0)]:=aGJ aHE rfl rfl l
theorem aCH : jS Tryz.prog 192:=kO (show eP Tryz.prog 192=true by kernel_rfl)
theorem aCX{l:List (Int×aO)}{r:List Int}(h:aBu l=some r):FnM Tryz.prog 191 [.mp (eM .i64 aO.enc l),.var (.mp 0)] [.fn (.func 246) [] [.ref 1 [] 0]] (eL 1 j64 r) [.mp (eM .i64 aO.enc l),.var (.mp 0)]:=
 aDg aF6 { aHE with } aHb rfl rfl (enters_of Tryz.func245 (by kernel_rfl) rfl) (enters_of Tryz.func246 (by kernel_rfl) rfl) h
theorem aAY : jS Tryz.prog 191:=kO (show eP Tryz.prog 191=true by kernel_rfl)
def iD(N:Nat)(r2:(List Int)):Nat->Option (Unit)
 | 0=>none
 | k+1=>
  cB (decide (0 < ((r2.length:Int)))) λx4=>
  cond x4 (
   ae (idx r2 0) λe5=>
   none) (
   some (()))
def jJ(N:Nat)(b1:(List (Int×aO))):Option ((List aO)):=
 ae (eT N b1) λr1=>
 ae (aBu b1) λr2=>
 ae (iD N r2 N ) λp3=>
 some []
theorem qI{N b1 r}(h:jJ N b1=some r):FnM Tryz.prog 143 [.var (.st 2 [(.mp 1),(.mp 2)]),.mp (eM .i64 aO.enc b1),.mp (.kv [])] [(.ref 0 [] 0)] (eL 40 aO.enc r) [.var (.st 2 [(.mp 1),(.mp 2)]),.mp (eM .i64 aO.enc b1),.mp (.kv [])]:=by
 unfold jJ at h;refine At.f eD hT hmo Tryz.func143 rfl h ?_;refine At.Y 2 [0,1,2] iU λr1=>?_;refine At.o 6 (tK [1] (aEj b1) aCH) ?_;refine At.b 0 (λ_ e=>tK [1,3] (aCX e) aAY) λr2=>?_;refine At.M 2 [3] 4 (λp3=>([],[],[])) [0,3,14,15,16] 4 (CU0 (iD N r2)) (λ(_:Unit)=>([],[],[])) () N (λp3 k _=>?_) λp3=>?_
 ·unfold iD;dsimp only;refine lx ?_;intro x4;refine At.c 1 ?_ ?_
  ·refine At.i hT 0 j64 λe5=>?_;exact nn
  ·apply rt;exact At.x 0
 ·apply rt;exact At.r 2
def fK(N:Nat)(a3:(List aO)):Nat->Option (Unit)
 | 0=>none
 | k+1=>
  cB (decide (0 < ((a3.length:Int)))) λx2=>
  cond x2 (
   ae (idx a3 0) λe4=>
   none) (
   some (()))
def iC(N:Nat)(b1:(List (Int×aO)))(b2 b3:(List (Int×Int)))(a3:(List aO))(a4:Int)(a5:cI):Option (Unit):=
 ae (fK N a3 N ) λp1=>
 some (())
theorem nZ{N b1 b2 b3 a3 a4 a5 r}(h:iC N b1 b2 b3 a3 a4 a5=some r):FnM Tryz.prog 142 [.var (.st 12 [(cI.enc a5),(.mp 1),(.mp 2),(.mp 3)]),.mp (eM .i64 aO.enc b1),.mp (eM .i64 j64 b2),.mp (eM .i64 j64 b3)] [(.ref 0 [] 0),(eL 40 aO.enc a3),(j64 a4)] (.tup []) [.var (.st 12 [(.st 9 [(eL 19 oO.enc a5.gB6),(eL 5 fM.enc a5.gC0),(eL 2 fY.enc a5.gC1),(eL 13 iZ.enc a5.gC2),(eL 1 k64 a5.gC3),(eL 1 k32 a5.gC4),(k32 a5.gA0),(k32 a5.gB5),(k32 4294967295)]),(.mp 1),(.mp 2),(.mp 3)]),.mp (eM .i64 aO.enc b1),.mp (eM .i64 j64 b2),.mp (eM .i64 j64 b3)]:=by
 unfold iC at h;refine At.f eD hT hmo Tryz.func142 rfl h ?_;refine At.M 8 [] 4 (λp1=>([],[],[])) [0,2,12,13,14] 4 (CU0 (fK N a3)) (λ(_:Unit)=>([],[],[])) () N (λp1 k _=>?_) λp1=>?_
 ·unfold fK;dsimp only;refine lx ?_;intro x2;refine At.c 1 ?_ ?_
  ·refine At.i hT 0 aO.enc λe4=>?_;exact nn
  ·apply rt;exact At.x 0
 ·apply rt;exact At.z 0
def kS(N:Nat)(a0:Int):Option (Int):=
 ae (cB (decide (a0>=4294967296)) λx2=>
 cond x2 (some ((shr .u64 a0 32,32))) (some ((a0,0)))) λp1=>
 ae (cond (decide (p1.1>=65536)) (
  some ((shr .u64 p1.1 16,I64 (p1.2+16)))) (
  some ((p1.1,p1.2)))) λp3=>
 ae (cond (decide (p3.1>=256)) (some ((shr .u64 p3.1 8,I64 (p3.2+8)))) (some ((p3.1,p3.2)))) λp4=>
 ae (idx str_0.data.toList (U8 p4.1)) λc5=>
 cB (I64 ((UInt8.toNat c5:Int))) λx6=>
 some (I64 (p4.2+x6))
theorem sG{N a0 r}(h:kS N a0=some r):FnM Tryz.prog 303 [] [(k64 a0)] (j64 r) []:=by
 unfold kS at h;refine At.f eD hT hmo Tryz.func303 rfl h ?_;refine At.J 1 1 [] 0 (λp1=>([(0,(k64 p1.1)),(2,(j64 p1.2))],[],[])) (λp1=>?_) λp1=>?_
 ·refine lx ?_;intro x2;refine At.c 2 ?_ ?_
  ·apply rt;exact At.jn 4
  ·apply rt;exact At.jn 0
 ·refine At.J 0 1 [] 0 (λp3=>([(0,(k64 p3.1)),(2,(j64 p3.2))],[],[])) (λp3=>?_) λp3=>?_
  ·refine At.c 2 ?_ ?_
   ·apply rt;exact At.jn 6
   ·apply rt;exact At.jn 0
  ·refine At.J 0 1 [] 0 (λp4=>([(0,(k64 p4.1)),(2,(j64 p4.2))],[],[])) (λp4=>?_) λp4=>?_
   ·refine At.c 2 ?_ ?_
    ·apply rt;exact At.jn 6
    ·apply rt;exact At.jn 0
   ·refine At.b 3 (λ_ e=>aGB hT e (by kernel_rfl) (by kernel_rfl)) λc5=>?_;refine lx ?_;intro x6;apply rt;exact At.r 3
def mB(N:Nat)(a0:Int):Option (Int):=
 ae (kS N a0) λr1=>
 some r1
theorem uL{N a0 r}(h:mB N a0=some r):FnM Tryz.prog 248 [] [(k64 a0)] (j64 r) []:=by
 unfold mB at h;refine At.f eD hT hmo Tryz.func248 rfl h ?_;refine At.y 3 sG λr1=>?_;apply rt;exact At.r 1
def bT(N:Nat)(s2 a0:Int):Nat->Option (Unit)
 | 0=>none
 | k+1=>
  ae (cond (decide (s2 > a0)) (
   none) (
   some (()))) λp4=>
  some (())
def bU(N:Nat)(a1 a0:Int):Nat->Int->Option (Unit)
 | 0,_=>none
 | k+1,s2=>
  cond (decide (s2 < a1)) (
   ae (bT N s2 a0 N ) λp3=>
   bU N a1 a0 k (I64 (s2+1))) (
   some (()))
def bZ(N:Nat)(a0 a1:Int):Option (Unit):=
 ae (bU N a1 a0 N (I64 (a0+1))) λp1=>
 some (())
theorem eU{N a0 a1 r}(h:bZ N a0 a1=some r):FnM Tryz.prog 294 [] [(.v (.slice none 0 0)),(j64 a0),(j64 a1),(.fn (.func 194) [] [])] (.tup []) []:=by
 unfold bZ at h;refine At.f eD hT hmo Tryz.func294 rfl h ?_;refine At.M 3 [] 0 (λp1=>([],[],[])) [0,1,2,3] 0 (bU N a1 a0) (λ(s2:Int)=>([(8,(j64 s2))],[],[])) _ N (λp1 k s2=>?_) λp1=>?_
 ·refine At.c 3 ?_ ?_
  ·refine At.M 2 [0,1,2,3,8] 0 (λp3=>([],[],[])) [0,1,2,3,8,9] 0 (CU0 (bT N s2 a0)) (λ(_:Unit)=>([],[],[])) () N (λp3 k _=>?_) λp3=>?_
   ·unfold bT;dsimp only;refine At.J 0 0 [0,1,2,3,8,9] 0 (λp4=>([(34,(eB false))],[],[])) (λp4=>?_) λp4=>?_
    ·refine At.D 0 [] ?_;refine DD.s hT 4 ?_ ?_
     ·exact nn
     ·refine DD.e hT hmo 13 ?_;apply rt;exact At.jn 0
    ·apply rt;exact At.x 1
   ·exact λh=>At.v 3 _ h
  ·apply rt;exact At.x 0
 ·apply rt;exact At.z 0
def cF(N:Nat)(a1 a0 a2:Int):Nat->Option (Sum (Unit) (Unit))
 | 0=>none
 | k+1=>
  cB (decide ((I64 (a1 - a0))<=12)) λx2=>
  cond x2 (
   ae (bZ N a0 a1) λr3=>
   some (Sum.inr (()))) (
   cond (a2==0) (
    none) (
    ae (some (())) λp4=>
    none))
def cG(N:Nat)(a0 a1 a2:Int):Option (Unit):=
 ae (cF N a1 a0 a2 N ) λo=>oL o (λp1=>
  none) (λr=>some r)
theorem fP{N a0 a1 a2 r}(h:cG N a0 a1 a2=some r):FnM Tryz.prog 247 [] [(.v (.slice none 0 0)),(j64 a0),(j64 a1),(j64 a2),(.fn (.func 194) [] [])] (.tup []) []:=by
 unfold cG at h;refine At.f eD hT hmo Tryz.func247 rfl h ?_;refine At.MS 2 [] 0 (λp1=>([],[],[])) [0,1,2,3,4,10,11] 0 (CU0 (cF N a1 a0 a2)) (λ(_:Unit)=>([],[],[])) () N (λop1 g1 k _=>?_) λp1=>?_
 ·unfold cF;dsimp only;refine lx ?_;intro x2;refine At.c 6 ?_ ?_
  ·refine At.y 4 eU λr3=>?_;intro e;apply aB0 g1 e;exact At.r 0
  ·refine At.c 2 ?_ ?_
   ·exact nn
   ·refine At.J 0 1 [0,1,2,3,4,10,11,12] 0 (λp4=>([],[],[])) (λp4=>?_) λp4=>?_
    ·apply rt;exact At.jn 3
    ·exact nn
 ·exact nn
def cE(N:Nat):Option (Unit):=
 ae (mB N (U64 0)) λr1=>
 ae (cG N 0 0 r1) λr2=>
 some (())
theorem fB{N r}(h:cE N=some r):FnM Tryz.prog 193 [] [(.v (.slice none 0 0)),(.fn (.func 194) [] [])] (.tup []) []:=by
 unfold cE at h;refine At.f eD hT hmo Tryz.func193 rfl h ?_;refine At.y 7 uL λr1=>?_;refine At.y 1 fP λr2=>?_;apply rt;exact At.z 0
def hU(N:Nat)  : Nat->Option (Unit)
 | 0=>none
 | k+1=>
  some (())
def iV(N:Nat)(b1:(List (Int×aO))):Option ((List aN)):=
 ae (eT N b1) λr1=>
 ae (hU N N ) λp2=>
 ae (cE N ) λr3=>
 some []
theorem pD{N b1 r}(h:iV N b1=some r):FnM Tryz.prog 144 [.var (.st 2 [(.mp 1),(.mp 2)]),.mp (eM .i64 aO.enc b1),.mp (.kv [])] [(.ref 0 [] 0)] (eL 16 aN.enc r) [.var (.st 2 [(.mp 1),(.mp 2)]),.mp (eM .i64 aO.enc b1),.mp (.kv [])]:=by
 unfold iV at h;refine At.f eD hT hmo Tryz.func144 rfl h ?_;refine At.Y 2 [0,1,2] iU λr1=>?_;refine At.o 6 (aGR (t:=143) (id:=2) rfl (by kernel_rfl) (by kernel_rfl) (by kernel_rfl)) ?_;refine At.M 0 [3] 4 (λp2=>([],[],[])) [3,12] 4 (CU0 (hU N)) (λ(_:Unit)=>([],[],[])) () N (λp2 k _=>?_) λp2=>?_
 ·unfold hU;dsimp only;refine At.o 0 (aGD (id:=3) (m:=2) (by kernel_rfl) (by kernel_rfl) (by kernel_rfl) (by kernel_rfl)) ?_;apply rt;exact At.x 2
 ·refine At.y 1 fB λr3=>?_;apply rt;exact At.r 2
def iF(N:Nat)(r5:(List aN)):Nat->Option (Unit)
 | 0=>none
 | k+1=>
  cB (decide (0 < ((r5.length:Int)))) λx7=>
  cond x7 (
   ae (idx r5 0) λe8=>
   none) (
   some (()))
def jI(N:Nat)(b1:(List (Int×aO)))(a1:Int):Option (cI×Int):=
 ae (jH N b1) λr1=>
 cB (cond (decide (a1 < 0)) true (decide (a1>=8))) λx2=>
 cond x2 (
  some ((cI.mk [] [] [] [] [] [] 0 0 0,13))) (
  ae (jJ N b1) λr3=>
  ae (iC N (([]:(List (Int×aO)))) (([]:(List (Int×Int)))) (([]:(List (Int×Int)))) r3 a1 (cI.mk [] [] [] [] [] [] 0 0 0)) λr4=>
  ae (iV N b1) λr5=>
  ae (iF N r5 N ) λp6=>
  some ((cI.mk ((cI.mk [] [] [] [] [] [] 0 0 0).gB6) ((cI.mk [] [] [] [] [] [] 0 0 0).gC0) ((cI.mk [] [] [] [] [] [] 0 0 0).gC1) ((cI.mk [] [] [] [] [] [] 0 0 0).gC2) ((cI.mk [] [] [] [] [] [] 0 0 0).gC3) ((cI.mk [] [] [] [] [] [] 0 0 0).gC4) ((cI.mk [] [] [] [] [] [] 0 0 0).gA0) ((cI.mk [] [] [] [] [] [] 0 0 0).gB5) 4294967295,0)))
theorem qD{N b1 a1 r}(h:jI N b1 a1=some r):FnM Tryz.prog 103 [.var (.st 2 [(.mp 1),(.mp 2)]),.mp (eM .i64 aO.enc b1),.mp (.kv [])] [(.ref 0 [] 0),(j64 a1)] (.tup [(cI.enc r.1),(j64 r.2)]) [.var (.st 2 [(.mp 1),(.mp 2)]),.mp (eM .i64 aO.enc b1),.mp (.kv [])]:=by
 unfold jI at h;refine At.f eD hT hmo Tryz.func103 rfl h ?_;refine At.Y 3 [0,1,2] qA λr1=>?_;refine At.o 0 (pP hT (t:=99) (x:=(.ref 6 [] 0)) (b:=true) (by kernel_rfl) rfl rfl (by kernel_rfl)) ?_;refine lx ?_;intro x2;refine At.c 9 ?_ ?_
 ·apply rt;exact At.r 3
 ·refine At.o 0 (tX .i64 aO.enc (by kernel_rfl) (by kernel_rfl)) ?_;refine At.o 0 (tX .i64 j64 (by kernel_rfl) (by kernel_rfl)) ?_;refine At.o 0 (tX .i64 j64 (by kernel_rfl) (by kernel_rfl)) ?_;refine At.Y 5 [0,1,2] qI λr3=>?_;refine At.Y 1 [10,7,8,9] nZ λr4=>?_;refine At.Y 1 [0,1,2] pD λr5=>?_;refine At.M 2 [4,6] 11 (λp6=>([],[],[])) [1,4,6,33,34,35] 11 (CU0 (iF N r5)) (λ(_:Unit)=>([],[],[])) () N (λp6 k _=>?_) λp6=>?_
  ·unfold iF;dsimp only;refine lx ?_;intro x7;refine At.c 1 ?_ ?_
   ·refine At.i hT 0 aN.enc λe8=>?_;exact nn
   ·apply rt;exact At.x 0
  ·apply rt;exact At.r 6
def hJ(N:Nat)(b10:(List (Int×aO)))(a1:Int)(a2:(Vector Int 32))(a3:Int)(a4:aD)(a5:Bool)(a6:Int)(a7:(Vector aC 8))(a8:aD)(a9:Bool)(a10:Int)(a11:(Vector aC 8))(a12:aD)(a13:Bool)(a14:Int)(a15:(Vector aC 8))(a16:aD)(a17:Bool)(a18:Int)(a19:(Vector aC 8))(a20:aD)(a21:Bool)(a22:Int)(a23:(Vector aC 8))(a24:aD)(a25:Bool)(a26:Int)(a27:(Vector aC 8))(a28:aD)(a29:Bool)(a30:Int)(a31:(Vector aC 8))(a32:aD)(a33:Bool)(a34:Int)(a35:(Vector aC 8))(a36:bG)(a37 a38 a39 a40 a41 a42 a43 a44:aE):Option (cI):=
 ae (jI N b10 a1) λr1=>
 some r1.1
theorem nF{N b10 a1 a2 a3 a4 a5 a6 a7 a8 a9 a10 a11 a12 a13 a14 a15 a16 a17 a18 a19 a20 a21 a22 a23 a24 a25 a26 a27 a28 a29 a30 a31 a32 a33 a34 a35 a36 a37 a38 a39 a40 a41 a42 a43 a44 r}(h:hJ N b10 a1 a2 a3 a4 a5 a6 a7 a8 a9 a10 a11 a12 a13 a14 a15 a16 a17 a18 a19 a20 a21 a22 a23 a24 a25 a26 a27 a28 a29 a30 a31 a32 a33 a34 a35 a36 a37 a38 a39 a40 a41 a42 a43 a44=some r):FnM Tryz.prog 100 [.var (.st 429 [(eA 32 1 k8 a2),(.ref 1 [] 0),(k32 a3),(.st 392 [(.st 49 [(aD.enc a4),(eB a5),(j64 a6),(.v (.pointer none)),(.ref 2 [] 0),(eA 24 3 aC.enc a7)]),(.st 49 [(aD.enc a8),(eB a9),(j64 a10),(.v (.pointer none)),(.ref 3 [] 0),(eA 24 3 aC.enc a11)]),(.st 49 [(aD.enc a12),(eB a13),(j64 a14),(.v (.pointer none)),(.ref 4 [] 0),(eA 24 3 aC.enc a15)]),(.st 49 [(aD.enc a16),(eB a17),(j64 a18),(.v (.pointer none)),(.ref 5 [] 0),(eA 24 3 aC.enc a19)]),(.st 49 [(aD.enc a20),(eB a21),(j64 a22),(.v (.pointer none)),(.ref 6 [] 0),(eA 24 3 aC.enc a23)]),(.st 49 [(aD.enc a24),(eB a25),(j64 a26),(.v (.pointer none)),(.ref 7 [] 0),(eA 24 3 aC.enc a27)]),(.st 49 [(aD.enc a28),(eB a29),(j64 a30),(.v (.pointer none)),(.ref 8 [] 0),(eA 24 3 aC.enc a31)]),(.st 49 [(aD.enc a32),(eB a33),(j64 a34),(.v (.pointer none)),(.ref 9 [] 0),(eA 24 3 aC.enc a35)])]),(bG.enc a36)]),.var (.st 2 [(.mp 10),(.mp 11)]),.var (aE.enc a37),.var (aE.enc a38),.var (aE.enc a39),.var (aE.enc a40),.var (aE.enc a41),.var (aE.enc a42),.var (aE.enc a43),.var (aE.enc a44),.mp (eM .i64 aO.enc b10),.mp (.kv [])] [(.ref 0 [] 0),(.ref 0 [3,0] 34),(j64 a1)] (.tup [(cI.enc r),(eB false)]) [.var (.st 429 [(eA 32 1 k8 a2),(.ref 1 [] 0),(k32 a3),(.st 392 [(.st 49 [(aD.enc a4),(eB a5),(j64 a6),(.v (.pointer none)),(.ref 2 [] 0),(eA 24 3 aC.enc a7)]),(.st 49 [(aD.enc a8),(eB a9),(j64 a10),(.v (.pointer none)),(.ref 3 [] 0),(eA 24 3 aC.enc a11)]),(.st 49 [(aD.enc a12),(eB a13),(j64 a14),(.v (.pointer none)),(.ref 4 [] 0),(eA 24 3 aC.enc a15)]),(.st 49 [(aD.enc a16),(eB a17),(j64 a18),(.v (.pointer none)),(.ref 5 [] 0),(eA 24 3 aC.enc a19)]),(.st 49 [(aD.enc a20),(eB a21),(j64 a22),(.v (.pointer none)),(.ref 6 [] 0),(eA 24 3 aC.enc a23)]),(.st 49 [(aD.enc a24),(eB a25),(j64 a26),(.v (.pointer none)),(.ref 7 [] 0),(eA 24 3 aC.enc a27)]),(.st 49 [(aD.enc a28),(eB a29),(j64 a30),(.v (.pointer none)),(.ref 8 [] 0),(eA 24 3 aC.enc a31)]),(.st 49 [(aD.enc a32),(eB a33),(j64 a34),(.v (.pointer none)),(.ref 9 [] 0),(eA 24 3 aC.enc a35)])]),(bG.enc a36)]),.var (.st 2 [(.mp 10),(.mp 11)]),.var (aE.enc a37),.var (aE.enc a38),.var (aE.enc a39),.var (aE.enc a40),.var (aE.enc a41),.var (aE.enc a42),.var (aE.enc a43),.var (aE.enc a44),.mp (eM .i64 aO.enc b10),.mp (.kv [])]:=by
 unfold hJ at h;refine At.f eD hT hmo Tryz.func100 rfl h ?_;refine At.Y 7 [1,10,11] qD λr1=>?_;refine At.D 6 [] ?_;refine DD.o 5 (λ_=>aF8 hT (t:=101) (x:=(.v (.pointer none))) (b:=false) (by kernel_rfl) rfl rfl (by kernel_rfl)) ?_;refine DD.e hT hmo 14 ?_;apply rt;exact At.r 0
def iM(N:Nat)(a0:aE):Option (Bool):=
 some (!a0.gB9.gB3)
theorem mE{N a0 r}(h:iM N a0=some r):FnM Tryz.prog 139 [.var (aE.enc a0)] [(.ref 0 [] 0)] (eB r) [.var (aE.enc a0)]:=by
 unfold iM at h;refine At.f eD hT hmo Tryz.func139 rfl h ?_;refine At.o 2 (pP hT (t:=102) (x:=(.ref 0 [] 0)) (b:=true) (by kernel_rfl) rfl rfl (by kernel_rfl)) ?_;refine At.g [5] 9 ?_;apply rt;exact At.r 0
def kB(N:Nat)(a0:aE):Option ((Vector Int 32)):=
 ae (iM N a0) λr1=>
 cond r1 (some (am 32 0)) (some a0.gB9.gC7)
theorem rU{N a0 r}(h:kB N a0=some r):FnM Tryz.prog 101 [.var (aE.enc a0)] [(.ref 0 [] 0)] (eA 32 1 k8 r) [.var (aE.enc a0)]:=by
 unfold kB at h;refine At.f eD hT hmo Tryz.func101 rfl h ?_;refine At.Y 2 [0] mE λr1=>?_;refine At.c 0 ?_ ?_
 ·apply rt;exact At.r 2
 ·apply rt;exact At.r 6
def fF(N:Nat)(a0:Bool):Option (Int):=
 cond a0 (some 1) (some 0)
theorem kI{N a0 r}(h:fF N a0=some r):FnM Tryz.prog 99 [] [(eB a0)] (j64 r) []:=by
 unfold fF at h;refine At.f eD hT hmo Tryz.func99 rfl h ?_;refine At.c 2 ?_ ?_
 ·apply rt;exact At.r 1
 ·apply rt;exact At.r 1
def dQ(N:Nat)(a0:(List aS)):Option ((List aS)):=
 ae (pK 64 (([]:List aS)) a0) λz1=>
 some z1
theorem jU{N a0 r}(h:dQ N a0=some r):FnM Tryz.prog 140 [] [(eL 36 aS.enc a0)] (eL 36 aS.enc r) []:=by
 unfold dQ at h;refine At.f eD hT hmo Tryz.func140 rfl h ?_;refine At.q hT 2 (d:=4) (t:=149) (e:=225) (z:=36) (x:=(eL 36 aS.enc a0)) (es:=List.map aS.enc a0) rfl ?_ (λhe=>?_)
 ·refine At.o 1 (aBb hT aS.enc (k:=36) ([]:List aS) (by kernel_rfl) (by kernel_rfl)) ?_;refine At.b 1 (λ_ e=>kA hT aS.enc (id:=0) (k:=36) e) λz1=>?_;apply rt;exact At.r 1
 ·have h0:a0=[]:=List.map_eq_nil_iff.1 he;subst h0;change some []=_->_;apply rt;exact At.r 2
def iS(N:Nat)(a0:aE):Option ((List aS)):=
 ae (iM N a0) λr1=>
 cond r1 (
  some []) (
  ae (dQ N a0.gl) λr2=>
  some r2)
theorem oY{N a0 r}(h:iS N a0=some r):FnM Tryz.prog 102 [.var (aE.enc a0)] [(.ref 0 [] 0)] (eL 36 aS.enc r) [.var (aE.enc a0)]:=by
 unfold iS at h;refine At.f eD hT hmo Tryz.func102 rfl h ?_;refine At.Y 2 [0] mE λr1=>?_;refine At.c 0 ?_ ?_
 ·apply rt;exact At.r 1
 ·refine At.y 4 jU λr2=>?_;apply rt;exact At.r 1
def oG : Nat->Bool:=imL [5]
def hK(N:Nat)(b10:(List (Int×aO)))(a1:aF)(a2:(Vector Int 32))(a3:Int)(a4:aD)(a5:Bool)(a6:Int)(a7:(Vector aC 8))(a8:aD)(a9:Bool)(a10:Int)(a11:(Vector aC 8))(a12:aD)(a13:Bool)(a14:Int)(a15:(Vector aC 8))(a16:aD)(a17:Bool)(a18:Int)(a19:(Vector aC 8))(a20:aD)(a21:Bool)(a22:Int)(a23:(Vector aC 8))(a24:aD)(a25:Bool)(a26:Int)(a27:(Vector aC 8))(a28:aD)(a29:Bool)(a30:Int)(a31:(Vector aC 8))(a32:aD)(a33:Bool)(a34:Int)(a35:(Vector aC 8))(a36:bG)(a37 a38 a39 a40 a41 a42 a43 a44:aE):Option (dA):=
 ae (hJ N b10 a1.gF a2 a3 a4 a5 a6 a7 a8 a9 a10 a11 a12 a13 a14 a15 a16 a17 a18 a19 a20 a21 a22 a23 a24 a25 a26 a27 a28 a29 a30 a31 a32 a33 a34 a35 a36 a37 a38 a39 a40 a41 a42 a43 a44) λr1=>
 ae (kB N a37) λr2=>
 ae (fF N a5) λr3=>
 ae (fF N false) λr4=>
 ae (iS N a37) λr5=>
 ae (nD r2.toList 0 32) λs6=>
 some (dA.mk 0 ([r3,r4,(r5.length:Int)]) s6)
theorem nI{N b10 a1 a2 a3 a4 a5 a6 a7 a8 a9 a10 a11 a12 a13 a14 a15 a16 a17 a18 a19 a20 a21 a22 a23 a24 a25 a26 a27 a28 a29 a30 a31 a32 a33 a34 a35 a36 a37 a38 a39 a40 a41 a42 a43 a44 r}(h:hK N b10 a1 a2 a3 a4 a5 a6 a7 a8 a9 a10 a11 a12 a13 a14 a15 a16 a17 a18 a19 a20 a21 a22 a23 a24 a25 a26 a27 a28 a29 a30 a31 a32 a33 a34 a35 a36 a37 a38 a39 a40 a41 a42 a43 a44=some r):FnM Tryz.prog 72 [.var (.st 429 [(eA 32 1 k8 a2),(.ref 1 [] 0),(k32 a3),(.st 392 [(.st 49 [(aD.enc a4),(eB a5),(j64 a6),(.v (.pointer none)),(.ref 2 [] 0),(eA 24 3 aC.enc a7)]),(.st 49 [(aD.enc a8),(eB a9),(j64 a10),(.v (.pointer none)),(.ref 3 [] 0),(eA 24 3 aC.enc a11)]),(.st 49 [(aD.enc a12),(eB a13),(j64 a14),(.v (.pointer none)),(.ref 4 [] 0),(eA 24 3 aC.enc a15)]),(.st 49 [(aD.enc a16),(eB a17),(j64 a18),(.v (.pointer none)),(.ref 5 [] 0),(eA 24 3 aC.enc a19)]),(.st 49 [(aD.enc a20),(eB a21),(j64 a22),(.v (.pointer none)),(.ref 6 [] 0),(eA 24 3 aC.enc a23)]),(.st 49 [(aD.enc a24),(eB a25),(j64 a26),(.v (.pointer none)),(.ref 7 [] 0),(eA 24 3 aC.enc a27)]),(.st 49 [(aD.enc a28),(eB a29),(j64 a30),(.v (.pointer none)),(.ref 8 [] 0),(eA 24 3 aC.enc a31)]),(.st 49 [(aD.enc a32),(eB a33),(j64 a34),(.v (.pointer none)),(.ref 9 [] 0),(eA 24 3 aC.enc a35)])]),(bG.enc a36)]),.var (.st 2 [(.mp 10),(.mp 11)]),.var (aE.enc a37),.var (aE.enc a38),.var (aE.enc a39),.var (aE.enc a40),.var (aE.enc a41),.var (aE.enc a42),.var (aE.enc a43),.var (aE.enc a44),.mp (eM .i64 aO.enc b10),.mp (.kv [])] [(.ref 0 [] 0),(.ref 0 [3,0] 34),(aF.enc a1)] (dA.enc r) [.var (.st 429 [(eA 32 1 k8 a2),(.ref 1 [] 0),(k32 a3),(.st 392 [(.st 49 [(aD.enc a4),(eB a5),(j64 a6),(.v (.pointer none)),(.ref 2 [] 0),(eA 24 3 aC.enc a7)]),(.st 49 [(aD.enc a8),(eB a9),(j64 a10),(.v (.pointer none)),(.ref 3 [] 0),(eA 24 3 aC.enc a11)]),(.st 49 [(aD.enc a12),(eB a13),(j64 a14),(.v (.pointer none)),(.ref 4 [] 0),(eA 24 3 aC.enc a15)]),(.st 49 [(aD.enc a16),(eB a17),(j64 a18),(.v (.pointer none)),(.ref 5 [] 0),(eA 24 3 aC.enc a19)]),(.st 49 [(aD.enc a20),(eB a21),(j64 a22),(.v (.pointer none)),(.ref 6 [] 0),(eA 24 3 aC.enc a23)]),(.st 49 [(aD.enc a24),(eB a25),(j64 a26),(.v (.pointer none)),(.ref 7 [] 0),(eA 24 3 aC.enc a27)]),(.st 49 [(aD.enc a28),(eB a29),(j64 a30),(.v (.pointer none)),(.ref 8 [] 0),(eA 24 3 aC.enc a31)]),(.st 49 [(aD.enc a32),(eB a33),(j64 a34),(.v (.pointer none)),(.ref 9 [] 0),(eA 24 3 aC.enc a35)])]),(bG.enc a36)]),.var (.st 2 [(.mp 10),(.mp 11)]),.var (aE.enc a37),.var (aE.enc a38),.var (aE.enc a39),.var (aE.enc a40),.var (aE.enc a41),.var (aE.enc a42),.var (aE.enc a43),.var (aE.enc a44),.mp (eM .i64 aO.enc b10),.mp (.kv [])]:=by
 unfold hK at h;refine At.f oG hT hmo Tryz.func72 rfl h ?_;refine At.Y 7 [0,1,2,3,4,5,6,7,8,9,10,11] nF λr1=>?_;refine At.Y 10 [2] rU λr2=>?_;refine At.gz 2 14 ((eA 32 1 k8 r2)) ?_;refine At.D 0 [] ?_;refine DD.y 5 kI λr3=>?_;refine DD.y 2 kI λr4=>?_;refine DD.Y 4 [2] oY λr5=>?_;refine DD.o 1 (λ_=>cM hT (x:=(.sl 1 3 [(j64 r3),(j64 r4),(j64 ((r5.length:Int)))]))) ?_;refine DD.b 0 (λe _=>aGh hT (N:=32) (k:=1) k8 r2 e) λs6=>?_;refine DD.e hT hmo 2 ?_;apply rt;exact At.r 0
def qC : Nat->Bool:=imL [5]
def iW(N:Nat)(b10:(List (Int×aO)))(a1:aF)(a2:(Vector Int 32))(a3:Int)(a4:aD)(a5:Bool)(a6:Int)(a7:(Vector aC 8))(a8:aD)(a9:Bool)(a10:Int)(a11:(Vector aC 8))(a12:aD)(a13:Bool)(a14:Int)(a15:(Vector aC 8))(a16:aD)(a17:Bool)(a18:Int)(a19:(Vector aC 8))(a20:aD)(a21:Bool)(a22:Int)(a23:(Vector aC 8))(a24:aD)(a25:Bool)(a26:Int)(a27:(Vector aC 8))(a28:aD)(a29:Bool)(a30:Int)(a31:(Vector aC 8))(a32:aD)(a33:Bool)(a34:Int)(a35:(Vector aC 8))(a36:bG)(a37 a38 a39 a40 a41 a42 a43 a44:aE):Option (dA):=
 cond (a1.gE==5) (
  none) (
  cond (a1.gE==7) (
   none) (
   cond (a1.gE==9) (
    ae (hK N b10 a1 a2 a3 a4 a5 a6 a7 a8 a9 a10 a11 a12 a13 a14 a15 a16 a17 a18 a19 a20 a21 a22 a23 a24 a25 a26 a27 a28 a29 a30 a31 a32 a33 a34 a35 a36 a37 a38 a39 a40 a41 a42 a43 a44) λr1=>
    some r1) (
    cond (!a5) (
     ae (iH N 13) λr2=>
     some r2) (
     cond (a1.gE==6) (
      none) (
      cB (cond (decide (a1.gJ < 0)) true (decide (a1.gJ>=8))) λx3=>
      cond x3 (
       ae (iH N 2) λr4=>
       some r4) (
       none))))))
theorem pH{N b10 a1 a2 a3 a4 a5 a6 a7 a8 a9 a10 a11 a12 a13 a14 a15 a16 a17 a18 a19 a20 a21 a22 a23 a24 a25 a26 a27 a28 a29 a30 a31 a32 a33 a34 a35 a36 a37 a38 a39 a40 a41 a42 a43 a44 r}(h:iW N b10 a1 a2 a3 a4 a5 a6 a7 a8 a9 a10 a11 a12 a13 a14 a15 a16 a17 a18 a19 a20 a21 a22 a23 a24 a25 a26 a27 a28 a29 a30 a31 a32 a33 a34 a35 a36 a37 a38 a39 a40 a41 a42 a43 a44=some r):FnM Tryz.prog 53 [.var (.st 429 [(eA 32 1 k8 a2),(.ref 1 [] 0),(k32 a3),(.st 392 [(.st 49 [(aD.enc a4),(eB a5),(j64 a6),(.v (.pointer none)),(.ref 2 [] 0),(eA 24 3 aC.enc a7)]),(.st 49 [(aD.enc a8),(eB a9),(j64 a10),(.v (.pointer none)),(.ref 3 [] 0),(eA 24 3 aC.enc a11)]),(.st 49 [(aD.enc a12),(eB a13),(j64 a14),(.v (.pointer none)),(.ref 4 [] 0),(eA 24 3 aC.enc a15)]),(.st 49 [(aD.enc a16),(eB a17),(j64 a18),(.v (.pointer none)),(.ref 5 [] 0),(eA 24 3 aC.enc a19)]),(.st 49 [(aD.enc a20),(eB a21),(j64 a22),(.v (.pointer none)),(.ref 6 [] 0),(eA 24 3 aC.enc a23)]),(.st 49 [(aD.enc a24),(eB a25),(j64 a26),(.v (.pointer none)),(.ref 7 [] 0),(eA 24 3 aC.enc a27)]),(.st 49 [(aD.enc a28),(eB a29),(j64 a30),(.v (.pointer none)),(.ref 8 [] 0),(eA 24 3 aC.enc a31)]),(.st 49 [(aD.enc a32),(eB a33),(j64 a34),(.v (.pointer none)),(.ref 9 [] 0),(eA 24 3 aC.enc a35)])]),(bG.enc a36)]),.var (.st 2 [(.mp 10),(.mp 11)]),.var (aE.enc a37),.var (aE.enc a38),.var (aE.enc a39),.var (aE.enc a40),.var (aE.enc a41),.var (aE.enc a42),.var (aE.enc a43),.var (aE.enc a44),.mp (eM .i64 aO.enc b10),.mp (.kv [])] [(.ref 0 [] 0),(.ref 0 [3,0] 34),(aF.enc a1)] (dA.enc r) [.var (.st 429 [(eA 32 1 k8 a2),(.ref 1 [] 0),(k32 a3),(.st 392 [(.st 49 [(aD.enc a4),(eB a5),(j64 a6),(.v (.pointer none)),(.ref 2 [] 0),(eA 24 3 aC.enc a7)]),(.st 49 [(aD.enc a8),(eB a9),(j64 a10),(.v (.pointer none)),(.ref 3 [] 0),(eA 24 3 aC.enc a11)]),(.st 49 [(aD.enc a12),(eB a13),(j64 a14),(.v (.pointer none)),(.ref 4 [] 0),(eA 24 3 aC.enc a15)]),(.st 49 [(aD.enc a16),(eB a17),(j64 a18),(.v (.pointer none)),(.ref 5 [] 0),(eA 24 3 aC.enc a19)]),(.st 49 [(aD.enc a20),(eB a21),(j64 a22),(.v (.pointer none)),(.ref 6 [] 0),(eA 24 3 aC.enc a23)]),(.st 49 [(aD.enc a24),(eB a25),(j64 a26),(.v (.pointer none)),(.ref 7 [] 0),(eA 24 3 aC.enc a27)]),(.st 49 [(aD.enc a28),(eB a29),(j64 a30),(.v (.pointer none)),(.ref 8 [] 0),(eA 24 3 aC.enc a31)]),(.st 49 [(aD.enc a32),(eB a33),(j64 a34),(.v (.pointer none)),(.ref 9 [] 0),(eA 24 3 aC.enc a35)])]),(bG.enc a36)]),.var (.st 2 [(.mp 10),(.mp 11)]),.var (aE.enc a37),.var (aE.enc a38),.var (aE.enc a39),.var (aE.enc a40),.var (aE.enc a41),.var (aE.enc a42),.var (aE.enc a43),.var (aE.enc a44),.mp (eM .i64 aO.enc b10),.mp (.kv [])]:=by
 unfold iW at h;refine At.f qC hT hmo Tryz.func53 rfl h ?_;refine At.c 6 ?_ ?_
 ·exact nn
 ·refine At.c 2 ?_ ?_
  ·exact nn
  ·refine At.c 2 ?_ ?_
   ·refine At.Y 3 [0,1,2,3,4,5,6,7,8,9,10,11] nI λr1=>?_;apply rt;exact At.r 1
   ·refine At.c 6 ?_ ?_
    ·refine At.y 0 jL λr2=>?_;apply rt;exact At.r 1
    ·refine At.c 4 ?_ ?_
     ·exact nn
     ·refine lx ?_;intro x3;refine At.c 9 ?_ ?_
      ·refine At.y 0 jL λr4=>?_;apply rt;exact At.r 1
      ·exact nn
def qW : Nat->Bool:=imL [3]
def jG(N:Nat)(b10:(List (Int×aO)))(a1:aF)(a2:(Vector Int 32))(a3:Int)(a4:aD)(a5:Bool)(a6:Int)(a7:(Vector aC 8))(a8:aD)(a9:Bool)(a10:Int)(a11:(Vector aC 8))(a12:aD)(a13:Bool)(a14:Int)(a15:(Vector aC 8))(a16:aD)(a17:Bool)(a18:Int)(a19:(Vector aC 8))(a20:aD)(a21:Bool)(a22:Int)(a23:(Vector aC 8))(a24:aD)(a25:Bool)(a26:Int)(a27:(Vector aC 8))(a28:aD)(a29:Bool)(a30:Int)(a31:(Vector aC 8))(a32:aD)(a33:Bool)(a34:Int)(a35:(Vector aC 8))(a36:bG)(a37 a38 a39 a40 a41 a42 a43 a44:aE):Option (Int×dA):=
 ae (iT N b10 a2 a3 a4 a5 a6 a7 a8 a9 a10 a11 a12 a13 a14 a15 a16 a17 a18 a19 a20 a21 a22 a23 a24 a25 a26 a27 a28 a29 a30 a31 a32 a33 a34 a35 a36 a37 a38 a39 a40 a41 a42 a43 a44) λr1=>
 cond (a1.gE==1) (
  none) (
  cond (a1.gE==2) (
   none) (
   cond (a1.gE==3) (
    none) (
    cond (a1.gE==4) (
     none) (
     cond (a1.gE==10) (
      cB (decide (a1.gA8 > 1048576)) λx2=>
      cB (cond (decide (a1.gA8 < 1)) true x2) λx3=>
      cond x3 (
       ae (iH N 2) λr4=>
       some ((a3,r4))) (
       cB (U64 ((U64 a3)+(U64 a1.gA8))) λx5=>
       cB (U32 (aAX x5 4294967295)) λx6=>
       ae (iH N 0) λr7=>
       some ((x6,r7)))) (
      ae (cond (a1.gE==5) (
       some (a1.gE==5)) (
       cond (a1.gE==6) (
        some (a1.gE==6)) (
        cond (a1.gE==7) (
         some (a1.gE==7)) (
         cond (a1.gE==8) (some (a1.gE==8)) (some (a1.gE==9)))))) λp8=>
      cond p8 (
       ae (dU N b10 a1.gF a2 a3 a4 a5 a6 a7 a8 a9 a10 a11 a12 a13 a14 a15 a16 a17 a18 a19 a20 a21 a22 a23 a24 a25 a26 a27 a28 a29 a30 a31 a32 a33 a34 a35 a36 a37 a38 a39 a40 a41 a42 a43 a44) λq=>
       oL q (λr10=>
        ae (iH N 13) λr12=>
        some ((a3,r12))) (λr11=>
        ae (iW N b10 a1 a2 a3 a4 a5 a6 a7 a8 a9 a10 a11 a12 a13 a14 a15 a16 a17 a18 a19 a20 a21 a22 a23 a24 a25 a26 a27 a28 a29 a30 a31 a32 a33 a34 a35 a36 a37 a38 a39 a40 a41 a42 a43 a44) λr13=>
        some ((a3,r13)))) (
       ae (iH N 2) λr14=>
       some ((a3,r14))))))))
theorem qB{N b10 a1 a2 a3 a4 a5 a6 a7 a8 a9 a10 a11 a12 a13 a14 a15 a16 a17 a18 a19 a20 a21 a22 a23 a24 a25 a26 a27 a28 a29 a30 a31 a32 a33 a34 a35 a36 a37 a38 a39 a40 a41 a42 a43 a44 r}(h:jG N b10 a1 a2 a3 a4 a5 a6 a7 a8 a9 a10 a11 a12 a13 a14 a15 a16 a17 a18 a19 a20 a21 a22 a23 a24 a25 a26 a27 a28 a29 a30 a31 a32 a33 a34 a35 a36 a37 a38 a39 a40 a41 a42 a43 a44=some r):FnM Tryz.prog 32 [.var (.st 429 [(eA 32 1 k8 a2),(.ref 1 [] 0),(k32 a3),(.st 392 [(.st 49 [(aD.enc a4),(eB a5),(j64 a6),(.v (.pointer none)),(.ref 2 [] 0),(eA 24 3 aC.enc a7)]),(.st 49 [(aD.enc a8),(eB a9),(j64 a10),(.v (.pointer none)),(.ref 3 [] 0),(eA 24 3 aC.enc a11)]),(.st 49 [(aD.enc a12),(eB a13),(j64 a14),(.v (.pointer none)),(.ref 4 [] 0),(eA 24 3 aC.enc a15)]),(.st 49 [(aD.enc a16),(eB a17),(j64 a18),(.v (.pointer none)),(.ref 5 [] 0),(eA 24 3 aC.enc a19)]),(.st 49 [(aD.enc a20),(eB a21),(j64 a22),(.v (.pointer none)),(.ref 6 [] 0),(eA 24 3 aC.enc a23)]),(.st 49 [(aD.enc a24),(eB a25),(j64 a26),(.v (.pointer none)),(.ref 7 [] 0),(eA 24 3 aC.enc a27)]),(.st 49 [(aD.enc a28),(eB a29),(j64 a30),(.v (.pointer none)),(.ref 8 [] 0),(eA 24 3 aC.enc a31)]),(.st 49 [(aD.enc a32),(eB a33),(j64 a34),(.v (.pointer none)),(.ref 9 [] 0),(eA 24 3 aC.enc a35)])]),(bG.enc a36)]),.var (.st 2 [(.mp 10),(.mp 11)]),.var (aE.enc a37),.var (aE.enc a38),.var (aE.enc a39),.var (aE.enc a40),.var (aE.enc a41),.var (aE.enc a42),.var (aE.enc a43),.var (aE.enc a44),.mp (eM .i64 aO.enc b10),.mp (.kv [])] [(.ref 0 [] 0),(aF.enc a1)] (dA.enc r.2) [.var (.st 429 [(eA 32 1 k8 a2),(.ref 1 [] 0),(k32 r.1),(.st 392 [(.st 49 [(aD.enc a4),(eB a5),(j64 a6),(.v (.pointer none)),(.ref 2 [] 0),(eA 24 3 aC.enc a7)]),(.st 49 [(aD.enc a8),(eB a9),(j64 a10),(.v (.pointer none)),(.ref 3 [] 0),(eA 24 3 aC.enc a11)]),(.st 49 [(aD.enc a12),(eB a13),(j64 a14),(.v (.pointer none)),(.ref 4 [] 0),(eA 24 3 aC.enc a15)]),(.st 49 [(aD.enc a16),(eB a17),(j64 a18),(.v (.pointer none)),(.ref 5 [] 0),(eA 24 3 aC.enc a19)]),(.st 49 [(aD.enc a20),(eB a21),(j64 a22),(.v (.pointer none)),(.ref 6 [] 0),(eA 24 3 aC.enc a23)]),(.st 49 [(aD.enc a24),(eB a25),(j64 a26),(.v (.pointer none)),(.ref 7 [] 0),(eA 24 3 aC.enc a27)]),(.st 49 [(aD.enc a28),(eB a29),(j64 a30),(.v (.pointer none)),(.ref 8 [] 0),(eA 24 3 aC.enc a31)]),(.st 49 [(aD.enc a32),(eB a33),(j64 a34),(.v (.pointer none)),(.ref 9 [] 0),(eA 24 3 aC.enc a35)])]),(bG.enc a36)]),.var (.st 2 [(.mp 10),(.mp 11)]),.var (aE.enc a37),.var (aE.enc a38),.var (aE.enc a39),.var (aE.enc a40),.var (aE.enc a41),.var (aE.enc a42),.var (aE.enc a43),.var (aE.enc a44),.mp (eM .i64 aO.enc b10),.mp (.kv [])]:=by
 unfold jG at h;refine At.f qW hT hmo Tryz.func32 rfl h ?_;refine At.Y 3 [0,1,2,3,4,5,6,7,8,9,10,11] pB λr1=>?_;refine At.c 5 ?_ ?_
 ·refine At.D 0 [] ?_;exact nn
 ·refine At.c 2 ?_ ?_
  ·refine At.D 0 [] ?_;exact nn
  ·refine At.c 2 ?_ ?_
   ·refine At.D 0 [] ?_;exact nn
   ·refine At.c 2 ?_ ?_
    ·refine At.D 0 [] ?_;exact nn
    ·refine At.c 2 ?_ ?_
     ·refine lx ?_;intro x2;refine lx ?_;intro x3;refine At.c 8 ?_ ?_
      ·refine At.y 0 jL λr4=>?_;apply rt;exact At.r 1
      ·refine At.D 0 [] ?_;refine lx ?_;intro x5;refine lx ?_;intro x6;refine DD.e hT hmo 15 ?_;refine At.y 0 jL λr7=>?_;apply rt;exact At.r 1
     ·refine At.J 0 1 [0,3,4] 13 (λp8=>([(98,(eB p8))],[],[])) (λp8=>?_) λp8=>?_
      ·refine At.c 2 ?_ ?_
       ·apply rt;exact At.jn 0
       ·refine At.c 2 ?_ ?_
        ·apply rt;exact At.jn 0
        ·refine At.c 2 ?_ ?_
         ·apply rt;exact At.jn 0
         ·refine At.c 2 ?_ ?_
          ·apply rt;exact At.jn 0
          ·apply rt;exact At.jn 2
      ·refine At.c 0 ?_ ?_
       ·refine sumI (λr10 hr10=>?_) (λr11 hr11=>?_)
        ·refine At.o 3 (aBK [0,1,2,3,4,5,6,7,8,9,10,11] (mV hr10)) ?_;refine At.y 8 jL λr12=>?_;apply rt;exact At.r 1
        ·refine At.o 3 (aBK [0,1,2,3,4,5,6,7,8,9,10,11] (nB hr11)) ?_;refine At.Y 11 [0,1,2,3,4,5,6,7,8,9,10,11] pH λr13=>?_;apply rt;exact At.r 1
       ·refine At.y 0 jL λr14=>?_;apply rt;exact At.r 1
def aAe : Nat->Bool:=imL [2]
def mC(N:Nat)(r1:(List aF)×Int×Int)(a0:(Vector Int 32))(r2:(Vector Int 32)×(Vector Int 32)×(Vector Int 32)×(Vector Int 32)×(Vector Int 32)×(Vector Int 32)×(Vector Int 32)×(Vector Int 32)):Nat->(List Int)->Int->aD->(Vector aC 8)->aD->(Vector aC 8)->aD->(Vector aC 8)->aD->(Vector aC 8)->aD->(Vector aC 8)->aD->(Vector aC 8)->aD->(Vector aC 8)->aD->(Vector aC 8)->bG->Int->Option ((List Int)×Int×aD×(Vector aC 8)×aD×(Vector aC 8)×aD×(Vector aC 8)×aD×(Vector aC 8)×aD×(Vector aC 8)×aD×(Vector aC 8)×aD×(Vector aC 8)×aD×(Vector aC 8)×bG)
 | 0,_,_,_,_,_,_,_,_,_,_,_,_,_,_,_,_,_,_,_,_=>none
 | k+1,s4,s5,s6,s7,s8,s9,s10,s11,s12,s13,s14,s15,s16,s17,s18,s19,s20,s21,s22,s23=>
  cB (decide (s23 < ((r1.1.length:Int)))) λx24=>
  cond x24 (
   ae (idx r1.1 s23) λe25=>
   ae (jG N (([]:(List (Int×aO)))) e25 a0 s5 s6 false 0 s7 s8 false 0 s9 s10 false 0 s11 s12 false 0 s13 s14 false 0 s15 s16 false 0 s17 s18 false 0 s19 s20 false 0 s21 s22 (aE.mk (dY.mk r2.1 0 true) (([]:(List aS)))) (aE.mk (dY.mk r2.2.1 0 true) (([]:(List aS)))) (aE.mk (dY.mk r2.2.2.1 0 true) (([]:(List aS)))) (aE.mk (dY.mk r2.2.2.2.1 0 true) (([]:(List aS)))) (aE.mk (dY.mk r2.2.2.2.2.1 0 true) (([]:(List aS)))) (aE.mk (dY.mk r2.2.2.2.2.2.1 0 true) (([]:(List aS)))) (aE.mk (dY.mk r2.2.2.2.2.2.2.1 0 true) (([]:(List aS)))) (aE.mk (dY.mk r2.2.2.2.2.2.2.2 0 true) (([]:(List aS))))) λr26=>
   ae (jZ N r26.2) λr27=>
   ae (pK 1 s4 r27) λz28=>
   mC N r1 a0 r2 k z28 r26.1 s6 s7 s8 s9 s10 s11 s12 s13 s14 s15 s16 s17 s18 s19 s20 s21 s22 (I64 (s23+1))) (
   some ((s4,s5,s6,s7,s8,s9,s10,s11,s12,s13,s14,s15,s16,s17,s18,s19,s20,s21,s22)))
def pA(N:Nat)(a0:(Vector Int 32))(a1:(List Int)):Option ((List Int)):=
 ae (dD N a1) λr1=>
 ae (sS N a0) λr2=>
 ae (mC N r1 a0 r2 N [] 0 (aD.mk 0 0 0 0 0 0 (bA.mk (aG.mk 0 0 0) (aG.mk 0 0 0) (aG.mk 0 0 0) (aG.mk 0 0 0) 0 0) false) (am 8 (aC.mk 0 0 0)) (aD.mk 0 0 0 0 0 0 (bA.mk (aG.mk 0 0 0) (aG.mk 0 0 0) (aG.mk 0 0 0) (aG.mk 0 0 0) 0 0) false) (am 8 (aC.mk 0 0 0)) (aD.mk 0 0 0 0 0 0 (bA.mk (aG.mk 0 0 0) (aG.mk 0 0 0) (aG.mk 0 0 0) (aG.mk 0 0 0) 0 0) false) (am 8 (aC.mk 0 0 0)) (aD.mk 0 0 0 0 0 0 (bA.mk (aG.mk 0 0 0) (aG.mk 0 0 0) (aG.mk 0 0 0) (aG.mk 0 0 0) 0 0) false) (am 8 (aC.mk 0 0 0)) (aD.mk 0 0 0 0 0 0 (bA.mk (aG.mk 0 0 0) (aG.mk 0 0 0) (aG.mk 0 0 0) (aG.mk 0 0 0) 0 0) false) (am 8 (aC.mk 0 0 0)) (aD.mk 0 0 0 0 0 0 (bA.mk (aG.mk 0 0 0) (aG.mk 0 0 0) (aG.mk 0 0 0) (aG.mk 0 0 0) 0 0) false) (am 8 (aC.mk 0 0 0)) (aD.mk 0 0 0 0 0 0 (bA.mk (aG.mk 0 0 0) (aG.mk 0 0 0) (aG.mk 0 0 0) (aG.mk 0 0 0) 0 0) false) (am 8 (aC.mk 0 0 0)) (aD.mk 0 0 0 0 0 0 (bA.mk (aG.mk 0 0 0) (aG.mk 0 0 0) (aG.mk 0 0 0) (aG.mk 0 0 0) 0 0) false) (am 8 (aC.mk 0 0 0)) (bG.mk 0 0 0) 0) λp3=>
 ae (cond (r1.2.2 != 0) (
  ae (jZ N (dA.mk r1.2.2 [] [])) λr30=>
  ae (pK 1 p3.1 r30) λz31=>
  some z31) (
  some p3.1)) λp29=>
 some p29
theorem zH{N a0 a1 r}(h:pA N a0 a1=some r):FnM Tryz.prog 19 [] [(eA 32 1 k8 a0),(eL 1 k8 a1)] (eL 1 k8 r) []:=by
 unfold pA at h;refine At.f aAe hT hmo Tryz.func19 rfl h ?_;refine At.y 3 lF λr1=>?_;refine At.Y 8 [] aBq λr2=>?_;refine At.ownn 5 9 1 ?_;refine At.L 0 [7] 13 (λp3=>([(9,(eO 12 1 k8 p3.1))],[(3,.var (.st 429 [(eA 32 1 k8 a0),(.ref 2 [] 0),(k32 p3.2.1),(.st 392 [(.st 49 [(aD.enc p3.2.2.1),(eB false),(j64 0),(.v (.pointer none)),(.ref 4 [] 0),(eA 24 3 aC.enc p3.2.2.2.1)]),(.st 49 [(aD.enc p3.2.2.2.2.1),(eB false),(j64 0),(.v (.pointer none)),(.ref 5 [] 0),(eA 24 3 aC.enc p3.2.2.2.2.2.1)]),(.st 49 [(aD.enc p3.2.2.2.2.2.2.1),(eB false),(j64 0),(.v (.pointer none)),(.ref 6 [] 0),(eA 24 3 aC.enc p3.2.2.2.2.2.2.2.1)]),(.st 49 [(aD.enc p3.2.2.2.2.2.2.2.2.1),(eB false),(j64 0),(.v (.pointer none)),(.ref 7 [] 0),(eA 24 3 aC.enc p3.2.2.2.2.2.2.2.2.2.1)]),(.st 49 [(aD.enc p3.2.2.2.2.2.2.2.2.2.2.1),(eB false),(j64 0),(.v (.pointer none)),(.ref 8 [] 0),(eA 24 3 aC.enc p3.2.2.2.2.2.2.2.2.2.2.2.1)]),(.st 49 [(aD.enc p3.2.2.2.2.2.2.2.2.2.2.2.2.1),(eB false),(j64 0),(.v (.pointer none)),(.ref 9 [] 0),(eA 24 3 aC.enc p3.2.2.2.2.2.2.2.2.2.2.2.2.2.1)]),(.st 49 [(aD.enc p3.2.2.2.2.2.2.2.2.2.2.2.2.2.2.1),(eB false),(j64 0),(.v (.pointer none)),(.ref 10 [] 0),(eA 24 3 aC.enc p3.2.2.2.2.2.2.2.2.2.2.2.2.2.2.2.1)]),(.st 49 [(aD.enc p3.2.2.2.2.2.2.2.2.2.2.2.2.2.2.2.2.1),(eB false),(j64 0),(.v (.pointer none)),(.ref 11 [] 0),(eA 24 3 aC.enc p3.2.2.2.2.2.2.2.2.2.2.2.2.2.2.2.2.2.1)])]),(bG.enc p3.2.2.2.2.2.2.2.2.2.2.2.2.2.2.2.2.2.2)])),(12,.tail (p3.1.length*1))],[])) (λp3 J k=>∃s4 s5 s6 s7 s8 s9 s10 s11 s12 s13 s14 s15 s16 s17 s18 s19 s20 s21 s22 s23,mC N r1 a0 r2 k s4 s5 s6 s7 s8 s9 s10 s11 s12 s13 s14 s15 s16 s17 s18 s19 s20 s21 s22 s23=some p3/\J [7,8,20,21] 13 [(9,(eO 12 1 k8 s4)),(22,(j64 s23))] [(3,.var (.st 429 [(eA 32 1 k8 a0),(.ref 2 [] 0),(k32 s5),(.st 392 [(.st 49 [(aD.enc s6),(eB false),(j64 0),(.v (.pointer none)),(.ref 4 [] 0),(eA 24 3 aC.enc s7)]),(.st 49 [(aD.enc s8),(eB false),(j64 0),(.v (.pointer none)),(.ref 5 [] 0),(eA 24 3 aC.enc s9)]),(.st 49 [(aD.enc s10),(eB false),(j64 0),(.v (.pointer none)),(.ref 6 [] 0),(eA 24 3 aC.enc s11)]),(.st 49 [(aD.enc s12),(eB false),(j64 0),(.v (.pointer none)),(.ref 7 [] 0),(eA 24 3 aC.enc s13)]),(.st 49 [(aD.enc s14),(eB false),(j64 0),(.v (.pointer none)),(.ref 8 [] 0),(eA 24 3 aC.enc s15)]),(.st 49 [(aD.enc s16),(eB false),(j64 0),(.v (.pointer none)),(.ref 9 [] 0),(eA 24 3 aC.enc s17)]),(.st 49 [(aD.enc s18),(eB false),(j64 0),(.v (.pointer none)),(.ref 10 [] 0),(eA 24 3 aC.enc s19)]),(.st 49 [(aD.enc s20),(eB false),(j64 0),(.v (.pointer none)),(.ref 11 [] 0),(eA 24 3 aC.enc s21)])]),(bG.enc s22)])),(12,.tail (s4.length*1))] []) N (λ_ h=>⟨_,_,_,_,_,_,_,_,_,_,_,_,_,_,_,_,_,_,_,_,h,jr⟩) (λp3 k s hI=>?_) λp3=>?_
 ·obtain⟨s4,s5,s6,s7,s8,s9,s10,s11,s12,s13,s14,s15,s16,s17,s18,s19,s20,s21,s22,s23,h,hj⟩:=hI;cases k with
  | zero=>cases h
  | succ k=>
   refine At.jr hj ?_ h;refine lx ?_;intro x24;refine At.c 1 ?_ ?_
   ·refine At.i hT 0 aF.enc λe25=>?_;refine At.Y 6 [3,2,4,5,6,7,8,9,10,11,0,1] qB λr26=>?_;refine At.y 0 oV λr27=>?_;refine At.b 0 (λ_ e=>kA hT k8 (id:=12) (k:=1) e) λz28=>?_;exact λh=>At.k 3 ⟨_,_,_,_,_,_,_,_,_,_,_,_,_,_,_,_,_,_,_,_,h,jr⟩
   ·apply rt;exact At.x 0
 ·refine At.J 0 1 [] 13 (λp29=>([(9,(eO 12 1 k8 p29))],[(12,.tail (p29.length*1))],[])) (λp29=>?_) λp29=>?_
  ·refine At.c 2 ?_ ?_
   ·refine At.y 3 oV λr30=>?_;refine At.b 0 (λ_ e=>kA hT k8 (id:=12) (k:=1) e) λz31=>?_;apply rt;exact At.jn 1
   ·apply rt;exact At.jn 0
  ·apply rt;exact At.r 2
def eN(N:Nat):Option (Bool):=
 ae (pA N (am 32 0) ([9,0])) λr1=>
 cB (((r1.length:Int))==62) λx2=>
 some x2
theorem mG{N r}(h:eN N=some r):FnM Tryz.prog 10 [] [] (eB r) []:=by
 unfold eN at h;refine At.f eD hT hmo Tryz.func10 rfl h ?_;refine At.o 2 (cM hT (x:=(.sl 1 2 [(k8 9),(k8 0)]))) ?_;refine At.y 0 zH λr1=>?_;refine lx ?_;intro x2;apply rt;exact At.r 3
def iE(N:Nat)(a0:(List Int)):Option ((List Int)):=
 cB (aAX ((a0.length:Int)) 9000) λx1=>
 ae (nD a0 0 x1) λs2=>
 some s2
theorem tS{N a0 r}(h:iE N a0=some r):FnM Tryz.prog 11 [] [(eL 1 k8 a0)] (eL 1 k8 r) []:=by
 unfold iE at h;refine At.f eD hT hmo Tryz.func11 rfl h ?_;refine lx ?_;intro x1;refine At.b 5 (λ_ e=>pT hT (k:=1) k8 e) λs2=>?_;apply rt;exact At.r 1
def eW(N:Nat)(a0:(List aF))(a1:(List Int)):Option (Bool):=
 cB (aAX ((a0.length:Int)) 60) λx1=>
 ae (nD a0 0 x1) λs2=>
 ae (iE N a1) λr3=>
 ae (ae (cT N s2) λr5=>
 cond (r5.2==0) (
  ae (dD N r5.1) λr6=>
  ae (cT N r6.1) λr7=>
  ae (cB (r6.2.1 != ((r5.1.length:Int))) λx9=>
  cB (cond (r6.2.2 != 0) true x9) λx10=>
  cB (((r6.1.length:Int)) != ((s2.length:Int))) λx11=>
  cB (cond (cond x10 true x11) true (r7.2 != 0)) λx12=>
  cond x12 (
   some true) (
   ae (fZ N r5.1 r7.1) λr13=>
   some (!r13))) λp8=>
  cond p8 (some (Sum.inr false)) (some (Sum.inl (())))) (
  some (Sum.inl (())))) λo=>oL o (λp4=>
  ae (dD N r3) λr14=>
  cB (((r14.1.length:Int))==0) λx15=>
  cB (cond (r14.2.2==3) x15 false) λx16=>
  cond x16 (
   ae (eN N ) λr17=>
   some r17) (
   ae (cB (decide (r14.2.1 > ((r3.length:Int)))) λx19=>
   cB (cond (decide (r14.2.1 < 0)) true x19) λx20=>
   cond x20 (
    some true) (
    cB (r14.2.1 != ((r3.length:Int))) λx21=>
    cB (cond (r14.2.2==0) x21 false) λx22=>
    some x22)) λp18=>
   cond p18 (
    some false) (
    ae (cT N r14.1) λr23=>
    ae (cond (r23.2==0) (
     ae (nD r3 0 r14.2.1) λs25=>
     ae (fZ N r23.1 s25) λr26=>
     cond r26 (
      ae (eN N ) λr27=>
      some r27) (
      some false)) (
     some false)) λp24=>
    some p24))) (λr=>some r)
theorem oE{N a0 a1 r}(h:eW N a0 a1=some r):FnM Tryz.prog 4 [] [(eL 46 aF.enc a0),(eL 1 k8 a1)] (eB r) []:=by
 unfold eW at h;refine At.f eD hT hmo Tryz.func4 rfl h ?_;refine At.D 1 [] ?_;refine lx ?_;intro x1;refine DD.b 4 (λe _=>pT hT (k:=46) aF.enc e) λs2=>?_;refine DD.y 1 tS λr3=>?_;refine DD.e hT hmo 2 ?_;refine At.JS 0 1 [1] 0 (λp4=>([],[],[])) (λop4 g4=>?_) λp4=>?_
 ·refine At.y 1 lD λr5=>?_;refine At.c 7 ?_ ?_
  ·refine At.y 1 lF λr6=>?_;refine At.y 8 lD λr7=>?_;refine At.J 5 0 [1] 0 (λp8=>([(66,(eB p8))],[],[])) (λp8=>?_) λp8=>?_
   ·refine lx ?_;intro x9;refine lx ?_;intro x10;refine lx ?_;intro x11;refine lx ?_;intro x12;refine At.s 61 20 ?_ ?_
    ·refine At.g [61] 5 ?_;apply rt;exact At.jn 0
    ·refine At.g [61] 2 ?_;refine At.y 0 qO λr13=>?_;refine At.g [61] 2 ?_;apply rt;exact At.jn 0
   ·refine At.c 0 ?_ ?_
    ·intro e;apply aB0 g4 e;exact At.r 1
    ·apply rt;exact At.jsn 0
  ·apply rt;exact At.jsn 0
 ·refine At.y 1 lF λr14=>?_;refine lx ?_;intro x15;refine lx ?_;intro x16;refine At.c 14 ?_ ?_
  ·refine At.y 0 mG λr17=>?_;apply rt;exact At.r 1
  ·refine At.J 0 0 [1,12,13] 0 (λp18=>([(98,(eB p18))],[],[])) (λp18=>?_) λp18=>?_
   ·refine lx ?_;intro x19;refine lx ?_;intro x20;refine At.s 89 9 ?_ ?_
    ·refine At.g [89,92] 9 ?_;apply rt;exact At.jn 0
    ·refine lx ?_;intro x21;refine lx ?_;intro x22;refine At.g [89] 9 ?_;apply rt;exact At.jn 0
   ·refine At.c 0 ?_ ?_
    ·apply rt;exact At.r 1
    ·refine At.y 1 lD λr23=>?_;refine At.J 5 0 [] 0 (λp24=>([(4,(eB p24))],[],[])) (λp24=>?_) λp24=>?_
     ·refine At.s 106 3 ?_ ?_
      ·refine At.g [106] 3 ?_;refine At.b 0 (λ_ e=>pT hT (k:=1) k8 e) λs25=>?_;refine At.y 0 qO λr26=>?_;refine At.g [106] 2 ?_;refine At.s 113 0 ?_ ?_
       ·refine At.y 0 mG λr27=>?_;refine At.g [113] 2 ?_;apply rt;exact At.jn 0
       ·refine At.g [113] 3 ?_;apply rt;exact At.jn 0
      ·refine At.g [106,113] 10 ?_;apply rt;exact At.jn 0
     ·apply rt;exact At.r 0
end Go.UK
