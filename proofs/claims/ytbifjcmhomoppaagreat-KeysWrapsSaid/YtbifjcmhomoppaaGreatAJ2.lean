/- A part of the proof: what the functions of the program compute. -/
import Derived.Test.YtbifjcmhomoppaaGreatAJ1
open Int renaming tdiv→cv,tmod→br,toNat→af
open Option renaming bind→ae
open Vector renaming replicate→ag
namespace Go.UK
open Go Go.Proofs
set_option maxRecDepth 20000
set_option maxHeartbeats 40000000
set_option linter.all false
attribute [local irreducible] adv aKp aFN aAk brPt aNx aIQ sJ aBF aNU dS qH fK aGb aLg aJ8 lPt owp awl aw FnM aLZ opS Stab TOK Big
def aBz : Nat->Bool:=imL [2,3]
def lV : (Vector Int 64):=#v[1116352408,1899447441,3049323471,3921009573,961987163,1508970993,2453635748,2870763221,3624381080,310598401,607225278,1426881987,1925078388,2162078206,2614888103,3248222580,3835390401,4022224774,264347078,604807628,770255983,1249150122,1555081692,1996064986,2554220882,2821834349,2952996808,3210313671,3336571891,3584528711,113926993,338241895,666307205,773529912,1294757372,1396182291,1695183700,1986661051,2177026350,2456956037,2730485921,2820302411,3259730800,3345764771,3516065817,3600352804,4094571909,275423344,430227734,506948616,659060556,883997877,958139571,1322822218,1537002063,1747873779,1955562222,2024104815,2227730452,2361852424,2428436474,2756734187,3204031479,3329325298]
def mV(N:Nat)(a0:(Vector Int 8))(a1:(Vector Int 64)):Option ((Vector Int 8)):=
 ae (vN N lV a0 a1) λr1=>
 some r1
theorem aBk{N a0 a1 r}(h:mV N a0 a1=some r):FnM Tryz.prog 150 [] [(eA 8 1 k32 a0),(eA 64 1 k8 a1)] (eA 8 1 k32 r) []:=by
 unfold mV at h;refine At.f aBz hT hmo Tryz.func150 rfl h ?_;refine At.b 6 (λ_ e=>aH [] (aFm e)) λr1=>?_;apply rt;exact At.r 1
def jQ(N:Nat)(z3:(List Int))(s6:Int):Nat->(Vector Int 64)->Int->Option ((Vector Int 64))
 | 0,_,_=>none
 | k+1,s9,s10=>
  cond (decide (s10 < 64)) (
   ae (idx z3 (I64 (s6+s10))) λe11=>
   ae (aP s10 64) λ_=>
   ae (s9.toList[s10.toNat]?) λe13=>
   jQ N z3 s6 k (s9.setIfInBounds s10.toNat e11) (I64 (s10+1))) (
   some s9)
def mQ(N:Nat)(z3:(List Int)):Nat->(Vector Int 8)->Int->Option ((Vector Int 8))
 | 0,_,_=>none
 | k+1,s5,s6=>
  aN (decide ((I64 (s6+64))<=((z3.length:Int)))) λx7=>
  cond x7 (
   ae (jQ N z3 s6 N (ag 64 0) 0) λp8=>
   ae (mV N s5 p8) λr14=>
   mQ N z3 k r14 (I64 (s6+64))) (
   some s5)
def rO(N:Nat)(p4:(Vector Int 8)):Nat->(Vector Int 32)->Int->Option ((Vector Int 32))
 | 0,_,_=>none
 | k+1,s16,s17=>
  cond (decide (s17 < 32)) (
   ae (aP (I64 (cv s17 4)) 8) λ_=>
   ae (p4.toList[(I64 (cv s17 4)).toNat]?) λe19=>
   aN (I64 (8*(br s17 4))) λx20=>
   ae (yW .u32 e19 (I64 (24 - x20))) λx21=>
   ae (aP s17 32) λ_=>
   ae (s16.toList[s17.toNat]?) λe23=>
   rO N p4 k (s16.setIfInBounds s17.toNat (U8 x21)) (I64 (s17+1))) (
   some s16)
def lE(N:Nat)(a0:(List Int)):Option ((Vector Int 32)):=
 ae (iB 1 (([]:List Int)) a0) λz1=>
 ae (sE N ((a0.length:Int))) λr2=>
 ae (iB 1 z1 r2) λz3=>
 ae (mQ N z3 N (#v[1779033703,3144134277,1013904242,2773480762,1359893119,2600822924,528734635,1541459225]) 0) λp4=>
 ae (rO N p4 N (ag 32 0) 0) λp15=>
 some p15
theorem wP{N a0 r}(h:lE N a0=some r):FnM Tryz.prog 101 [] [(eL 1 k8 a0)] (eA 32 1 k8 r) []:=by
 unfold lE at h;refine At.f dI hT hmo Tryz.func101 rfl h ?_;refine At.o 1 (pM hT k8 (k:=1) ([]:List Int) (by kernel_rfl) (by kernel_rfl)) ?_;refine At.b 1 (λ_ e=>bN hT k8 (id:=1) (k:=1) e) λz1=>?_;refine At.b 2 (λ_ e=>aH [] (aEj e)) λr2=>?_;refine At.b 0 (λ_ e=>bN hT k8 (id:=1) (k:=1) e) λz3=>?_;refine At.L 5 [2,4] 3 (λp4=>([],[(2,.var (eA 8 1 k32 p4))],[])) (λp4 J k=>∃s5 s6,mQ N z3 k s5 s6=some p4/\J [2,3,4] 3 [(5,(j64 s6))] [(2,.var (eA 8 1 k32 s5))] []) N (λ_ h=>⟨_,_,h,jr⟩) (λp4 k s hI=>?_) λp4=>?_
 ·obtain⟨s5,s6,h,hj⟩:=hI;cases k with
  | zero=>cases h
  | succ k=>
   refine At.jr hj ?_ h;refine lx ?_;intro x7;refine At.c 5 ?_ ?_
   ·refine At.L 2 [2,3,4,5,6] 4 (λp8=>([],[(3,.var (eA 64 1 k8 p8))],[])) (λp8 J k=>∃s9 s10,jQ N z3 s6 k s9 s10=some p8/\J [2,3,4,5,6] 4 [(7,(j64 s10))] [(3,.var (eA 64 1 k8 s9))] []) N (λ_ h=>⟨_,_,h,jr⟩) (λp8 k s hI=>?_) λp8=>?_
    ·obtain⟨s9,s10,h,hj⟩:=hI;cases k with
     | zero=>cases h
     | succ k=>
      refine At.jr hj ?_ h;refine At.c 2 ?_ ?_
      ·refine At.b 5 (λ_ e=>bA hT k8 e) λe11=>?_;refine At.b 1 (λ_ e=>aD hT (k:=1) 3 [] 0 e) λu12=>?_;refine At.b 0 (λ_ e=>bB hT k8 0 s9 e e11 (by kernel_rfl) (by kernel_rfl) (H':=[.var (eA 32 1 k8 (ag 32 0)),.tail (z3.length*1),.var (eA 8 1 k32 s5),.var (eA 64 1 k8 (s9.setIfInBounds s10.toNat e11))])) λe13=>?_;exact λh=>At.k 3 ⟨_,_,h,jr⟩
      ·apply rt;exact At.x 0
    ·refine At.b 2 (λ_ e=>aH [] (aBk e)) λr14=>?_;exact λh=>At.k 4 ⟨_,_,h,jr⟩
   ·apply rt;exact At.x 0
 ·refine At.L 2 [2,8] 4 (λp15=>([],[(3,.var (eA 32 1 k8 p15))],[])) (λp15 J k=>∃s16 s17,rO N p4 k s16 s17=some p15/\J [2,4,8] 4 [(9,(j64 s17))] [(3,.var (eA 32 1 k8 s16))] []) N (λ_ h=>⟨_,_,h,jr⟩) (λp15 k s hI=>?_) λp15=>?_
  ·obtain⟨s16,s17,h,hj⟩:=hI;cases k with
   | zero=>cases h
   | succ k=>
    refine At.jr hj ?_ h;refine At.c 2 ?_ ?_
    ·refine At.b 3 (λ_ e=>aD hT (k:=1) 2 [] 0 e) λu18=>?_;refine At.b 0 (λ_ e=>aV hT k32 0 e) λe19=>?_;refine lx ?_;intro x20;refine At.b 4 (λ_ e=>nN hT (k' := .i64) e (by kernel_rfl) (by kernel_rfl)) λx21=>?_;refine At.b 1 (λ_ e=>aD hT (k:=1) 3 [] 0 e) λu22=>?_;refine At.b 0 (λ_ e=>bB hT k8 0 s16 e (U8 x21) (by kernel_rfl) (by kernel_rfl) (H':=[.var (eA 32 1 k8 (ag 32 0)),.tail (z3.length*1),.var (eA 8 1 k32 p4),.var (eA 32 1 k8 (s16.setIfInBounds s17.toNat (U8 x21)))])) λe23=>?_;exact λh=>At.k 3 ⟨_,_,h,jr⟩
    ·apply rt;exact At.x 0
  ·apply rt;exact At.r 2
def jO(N:Nat)(r4:(Vector Int 32)):Nat->(List Int)->Int->Option ((List Int))
 | 0,_,_=>none
 | k+1,s6,s7=>
  cond (decide (s7 < 32)) (
   ae (aP s7 32) λ_=>
   ae (r4.toList[s7.toNat]?) λe9=>
   ae (iB 1 s6 (([e9]:List Int))) λz10=>
   jO N r4 k z10 (I64 (s7+1))) (
   some s6)
def oH(N:Nat)  : Nat->(List Int)->Option ((List Int))
 | 0,_=>none
 | k+1,s12=>
  aN (decide (((s12.length:Int)) < 64)) λx13=>
  cond x13 (
   ae (iB 1 s12 (([0]:List Int))) λz14=>
   oH N k z14) (
   some s12)
def mG(N:Nat)(p11:(List Int)):Nat->(List Int)->(List Int)->Int->Option ((List Int)×(List Int))
 | 0,_,_,_=>none
 | k+1,s16,s17,s18=>
  cond (decide (s18 < 64)) (
   ae (idx p11 s18) λe19=>
   ae (iB 1 s16 (([eZ .u8 e19 54]:List Int))) λz20=>
   ae (idx p11 s18) λe21=>
   ae (iB 1 s17 (([eZ .u8 e21 92]:List Int))) λz22=>
   mG N p11 k z20 z22 (I64 (s18+1))) (
   some ((s16,s17)))
def mK(N:Nat)(r24:(Vector Int 32)):Nat->(List Int)->Int->Option ((List Int))
 | 0,_,_=>none
 | k+1,s26,s27=>
  cond (decide (s27 < 32)) (
   ae (aP s27 32) λ_=>
   ae (r24.toList[s27.toNat]?) λe29=>
   ae (iB 1 s26 (([e29]:List Int))) λz30=>
   mK N r24 k z30 (I64 (s27+1))) (
   some s26)
def sC(N:Nat)(a0 a1:(List Int)):Option ((Vector Int 32)):=
 ae (iB 1 (([]:List Int)) a0) λz1=>
 ae (aN (decide (((z1.length:Int)) > 64)) λx3=>
 cond x3 (
  ae (lE N z1) λr4=>
  ae (jO N r4 N [] 0) λp5=>
  some p5) (
  some z1)) λp2=>
 ae (oH N N p2) λp11=>
 ae (mG N p11 N [] [] 0) λp15=>
 ae (iB 1 p15.1 a1) λz23=>
 ae (lE N z23) λr24=>
 ae (mK N r24 N p15.2 0) λp25=>
 ae (lE N p25) λr31=>
 some r31
theorem aEH{N a0 a1 r}(h:sC N a0 a1=some r):FnM Tryz.prog 66 [] [(eL 1 k8 a0),(eL 1 k8 a1)] (eA 32 1 k8 r) []:=by
 unfold sC at h;refine At.f dI hT hmo Tryz.func66 rfl h ?_;refine At.o 1 (pM hT k8 (k:=1) ([]:List Int) (by kernel_rfl) (by kernel_rfl)) ?_;refine At.b 1 (λ_ e=>bN hT k8 (id:=1) (k:=1) e) λz1=>?_;refine At.J 1 1 [1,4] 2 (λp2=>([(5,(eO 1 1 k8 p2))],[(1,.tail (p2.length*1))],[])) (λp2=>?_) λp2=>?_
 ·refine lx ?_;intro x3;refine At.c 3 ?_ ?_
  ·refine At.b 1 (λ_ e=>aH [] (wP e)) λr4=>?_;refine At.ownn 4 5 1 ?_;refine At.L 0 [1,4] 4 (λp5=>([(5,(eO 3 1 k8 p5))],[(3,.tail (p5.length*1))],[])) (λp5 J k=>∃s6 s7,jO N r4 k s6 s7=some p5/\J [1,4,6] 4 [(5,(eO 3 1 k8 s6)),(7,(j64 s7))] [(3,.tail (s6.length*1))] []) N (λ_ h=>⟨_,_,h,jr⟩) (λp5 k s hI=>?_) λp5=>?_
   ·obtain⟨s6,s7,h,hj⟩:=hI;cases k with
    | zero=>cases h
    | succ k=>
     refine At.jr hj ?_ h;refine At.c 2 ?_ ?_
     ·refine At.b 2 (λ_ e=>aD hT (k:=1) 2 [] 0 e) λu8=>?_;refine At.b 0 (λ_ e=>aV hT k8 0 e) λe9=>?_;refine At.o 0 (aY hT (x:=(.sl 1 1 [(k8 e9)]))) ?_;refine At.b 0 (λ_ e=>bN hT k8 (id:=3) (k:=1) e) λz10=>?_;exact λh=>At.k 4 ⟨_,_,h,jr⟩
     ·apply rt;exact At.x 0
   ·apply rt;exact At.jw 0 (aLa 3 1 (by kernel_rfl) jr)
  ·apply rt;exact At.jn 0
 ·refine At.L 0 [1,4] 2 (λp11=>([(5,(eO 1 1 k8 p11))],[(1,.tail (p11.length*1))],[])) (λp11 J k=>∃s12,oH N k s12=some p11/\J [1,4] 2 [(5,(eO 1 1 k8 s12))] [(1,.tail (s12.length*1))] []) N (λ_ h=>⟨_,h,jr⟩) (λp11 k s hI=>?_) λp11=>?_
  ·obtain⟨s12,h,hj⟩:=hI;cases k with
   | zero=>cases h
   | succ k=>
    refine At.jr hj ?_ h;refine lx ?_;intro x13;refine At.c 3 ?_ ?_
    ·refine At.o 1 (aY hT (x:=(.sl 1 1 [(k8 0)]))) ?_;refine At.b 0 (λ_ e=>bN hT k8 (id:=1) (k:=1) e) λz14=>?_;exact λh=>At.k 1 ⟨_,h,jr⟩
    ·apply rt;exact At.x 0
  ·refine At.ownn 3 8 1 ?_;refine At.ownn 0 9 1 ?_;refine At.L 0 [1,4] 4 (λp15=>([(8,(eO 2 1 k8 p15.1)),(9,(eO 3 1 k8 p15.2))],[(2,.tail (p15.1.length*1)),(3,.tail (p15.2.length*1))],[])) (λp15 J k=>∃s16 s17 s18,mG N p11 k s16 s17 s18=some p15/\J [1,4,5] 4 [(8,(eO 2 1 k8 s16)),(9,(eO 3 1 k8 s17)),(10,(j64 s18))] [(2,.tail (s16.length*1)),(3,.tail (s17.length*1))] []) N (λ_ h=>⟨_,_,_,h,jr⟩) (λp15 k s hI=>?_) λp15=>?_
   ·obtain⟨s16,s17,s18,h,hj⟩:=hI;cases k with
    | zero=>cases h
    | succ k=>
     refine At.jr hj ?_ h;refine At.c 2 ?_ ?_
     ·refine At.b 3 (λ_ e=>bA hT k8 e) λe19=>?_;refine At.o 2 (aY hT (x:=(.sl 1 1 [(k8 (eZ .u8 e19 54))]))) ?_;refine At.b 0 (λ_ e=>bN hT k8 (id:=2) (k:=1) e) λz20=>?_;refine At.b 4 (λ_ e=>bA hT k8 e) λe21=>?_;refine At.o 2 (aY hT (x:=(.sl 1 1 [(k8 (eZ .u8 e21 92))]))) ?_;refine At.b 0 (λ_ e=>bN hT k8 (id:=3) (k:=1) e) λz22=>?_;exact λh=>At.k 4 ⟨_,_,_,h,jr⟩
     ·apply rt;exact At.x 0
   ·refine At.b 2 (λ_ e=>bN hT k8 (id:=2) (k:=1) e) λz23=>?_;refine At.b 0 (λ_ e=>aH [] (wP e)) λr24=>?_;refine At.L 3 [4] 5 (λp25=>([(9,(eO 3 1 k8 p25))],[(3,.tail (p25.length*1))],[])) (λp25 J k=>∃s26 s27,mK N r24 k s26 s27=some p25/\J [4,11] 5 [(9,(eO 3 1 k8 s26)),(12,(j64 s27))] [(3,.tail (s26.length*1))] []) N (λ_ h=>⟨_,_,h,jr⟩) (λp25 k s hI=>?_) λp25=>?_
    ·obtain⟨s26,s27,h,hj⟩:=hI;cases k with
     | zero=>cases h
     | succ k=>
      refine At.jr hj ?_ h;refine At.c 2 ?_ ?_
      ·refine At.b 2 (λ_ e=>aD hT (k:=1) 4 [] 0 e) λu28=>?_;refine At.b 0 (λ_ e=>aV hT k8 0 e) λe29=>?_;refine At.o 0 (aY hT (x:=(.sl 1 1 [(k8 e29)]))) ?_;refine At.b 0 (λ_ e=>bN hT k8 (id:=3) (k:=1) e) λz30=>?_;exact λh=>At.k 4 ⟨_,_,h,jr⟩
      ·apply rt;exact At.x 0
    ·refine At.b 1 (λ_ e=>aH [] (wP e)) λr31=>?_;apply rt;exact At.r 1
def aCs : Nat->Bool:=imL [3]
def lT(N:Nat)(a2:(List (List Int))):Nat->(List Int)->Int->Option ((List Int))
 | 0,_,_=>none
 | k+1,s5,s6=>
  aN (decide (s6 < ((a2.length:Int)))) λx7=>
  cond x7 (
   ae (idx a2 s6) λe8=>
   ae (mP N ((e8.length:Int))) λr9=>
   ae (iB 1 s5 r9) λz10=>
   ae (idx a2 s6) λe11=>
   ae (iB 1 z10 e11) λz12=>
   lT N a2 k z12 (I64 (s6+1))) (
   some s5)
def oL(N:Nat)(a0:(Vector Int 32))(a1:ByteArray)(a2:(List (List Int))):Option ((Vector Int 32)):=
 aN ((ByteArray.size a1:Int)) λx1=>
 ae (mP N x1) λr2=>
 ae (iB 1 r2 (uZ a1)) λz3=>
 ae (lT N a2 N z3 0) λp4=>
 ae (qG N a0) λr13=>
 ae (sC N r13 p4) λr14=>
 some r14
theorem aCN{N a0 a1 a2 r}(h:oL N a0 a1 a2=some r):FnM Tryz.prog 34 [] [(eA 32 1 k8 a0),(eS a1),(eL 1 (eL 1 k8) a2)] (eA 32 1 k8 r) []:=by
 unfold oL at h;refine At.f aCs hT hmo Tryz.func34 rfl h ?_;refine lx ?_;intro x1;refine At.b 4 (λ_ e=>aH [] (yG e)) λr2=>?_;refine At.o 1 (aN7 hT a1 (e:=5) (by kernel_rfl) (by kernel_rfl)) ?_;refine At.b 0 (λ_ e=>bN hT k8 (id:=1) (k:=1) e) λz3=>?_;refine At.L 2 [3,6] 2 (λp4=>([(7,(eO 1 1 k8 p4))],[(1,.tail (p4.length*1))],[])) (λp4 J k=>∃s5 s6,lT N a2 k s5 s6=some p4/\J [2,3,6] 2 [(7,(eO 1 1 k8 s5)),(8,(j64 s6))] [(1,.tail (s5.length*1))] []) N (λ_ h=>⟨_,_,h,jr⟩) (λp4 k s hI=>?_) λp4=>?_
 ·obtain⟨s5,s6,h,hj⟩:=hI;cases k with
  | zero=>cases h
  | succ k=>
   refine At.jr hj ?_ h;refine lx ?_;intro x7;refine At.c 4 ?_ ?_
   ·refine bi λe8 he8=>?_;refine bi λr9 hr9=>?_;refine bi λz10 hz10=>?_;refine bi λe11 he11=>?_;refine bi λz12 hz12=>?_;refine At.d 0 (dE1 3 (λ_=>bA hT (eL 1 k8) he8) (dE1 10 (λ_=>bA hT (eL 1 k8) he11) dE0)) (dF 6 (eO 2 1 k8 r9) [] [.tail (r9.length*1)] (bG (aH [] (yG hr9))) (dF 7 (eO 1 1 k8 z10) [(1,.tail (z10.length*1))] [] (bG (bN hT k8 (id:=1) (k:=1) hz10)) (dF 12 (eO 1 1 k8 z12) [(1,.tail (z12.length*1))] [] (bG (bN hT k8 (id:=1) (k:=1) hz12)) dF0))) ?_;exact λh=>At.k 3 ⟨_,_,h,jr⟩
   ·apply rt;exact At.x 0
 ·refine At.b 1 (λ_ e=>aH [] (aCx e)) λr13=>?_;refine At.b 1 (λ_ e=>aH [] (aEH e)) λr14=>?_;apply rt;exact At.r 1
def aFY : Nat->Bool:=imL [3]
def pF(N:Nat)(a0:(Vector Int 32))(a1 a2:Int):Option ((Vector Int 32)):=
 aN (br (U64 a1) 65536) λx1=>
 aN (br (U64 a2) 4294967296) λx2=>
 ae (oL N a0 aLW ([[U8 x1,U8 (shr .u64 x1 8)],[U8 x2,U8 (shr .u64 x2 8),U8 (shr .u64 x2 16),U8 (shr .u64 x2 24)]])) λr3=>
 some r3
theorem wQ{N a0 a1 a2 r}(h:pF N a0 a1 a2=some r):FnM Tryz.prog 12 [] [(eA 32 1 k8 a0),(j64 a1),(j64 a2)] (eA 32 1 k8 r) []:=by
 unfold pF at h;refine At.f aFY hT hmo Tryz.func12 rfl h ?_;refine lx ?_;intro x1;refine lx ?_;intro x2;refine At.o 15 (aY hT (x:=(.sl 1 2 [(k8 (U8 x1)),(k8 (U8 (shr .u64 x1 8)))]))) ?_;refine At.o 12 (aY hT (x:=(.sl 1 4 [(k8 (U8 x2)),(k8 (U8 (shr .u64 x2 8))),(k8 (U8 (shr .u64 x2 16))),(k8 (U8 (shr .u64 x2 24)))]))) ?_;refine At.o 4 (aY hT (x:=(.sl 1 2 [(.sl 1 2 [(k8 (U8 x1)),(k8 (U8 (shr .u64 x1 8)))]),(.sl 1 4 [(k8 (U8 x2)),(k8 (U8 (shr .u64 x2 8))),(k8 (U8 (shr .u64 x2 16))),(k8 (U8 (shr .u64 x2 24)))])]))) ?_;refine At.b 0 (λ_ e=>aH [] (aCN e)) λr3=>?_;apply rt;exact At.r 1
def aFU : Nat->Bool:=imL [2]
def lF(N:Nat)(a0:aB)(a1:Int):Option (Bool):=
 aN (decide (a0.gX < (I64 (0 - a1)))) λx1=>
 aN (cond (decide (a0.gX > a1)) true x1) λx2=>
 aN (cond x2 true (decide (a0.gY > a1))) λx3=>
 aN (decide (a0.gY < (I64 (0 - a1)))) λx4=>
 aN (cond (cond x3 true x4) true (decide (a0.gZ > a1))) λx5=>
 aN (decide (a0.gZ < (I64 (0 - a1)))) λx6=>
 some (cond x5 true x6)
theorem tN{N a0 a1 r}(h:lF N a0 a1=some r):FnM Tryz.prog 182 [] [(aB.enc a0),(j64 a1)] (eB r) []:=by
 unfold lF at h;refine At.f aFU hT hmo Tryz.func182 rfl h ?_;refine lx ?_;intro x1;refine lx ?_;intro x2;refine lx ?_;intro x3;refine lx ?_;intro x4;refine lx ?_;intro x5;refine lx ?_;intro x6;apply rt;exact At.r 40
def aDt : Nat->Bool:=imL [1]
def kB(N:Nat)(a0:aL):Nat->Int->Option (Sum (Unit) (Int))
 | 0,_=>none
 | k+1,s10=>
  aN ((a0.gG.length:Int)) λx11=>
  cond (decide (s10 < x11)) (
   ae (idx a0.gG s10) λe12=>
   ae (lF N e12 4096) λr13=>
   cond r13 (
    some (Sum.inr 8)) (
    kB N a0 k (I64 (s10+1)))) (
   some (Sum.inl (())))
def iA(N:Nat)(a0:aL)(s15:Int):Nat->Int->Option (Sum (Unit) (Int))
 | 0,_=>none
 | k+1,s18=>
  cond (decide (s18 < 2)) (
   ae (ae (idx a0.gO s15) λe20=>
   ae (idx e20.toList s18) λe21=>
   cond (decide (e21 < 0)) (
    some true) (
    ae (idx a0.gO s15) λe22=>
    ae (idx e22.toList s18) λe23=>
    some (decide (e23 > 65535)))) λp19=>
   cond p19 (
    some (Sum.inr 5)) (
    iA N a0 s15 k (I64 (s18+1)))) (
   some (Sum.inl (())))
def kD(N:Nat)(a0:aL):Nat->Int->Option (Sum (Unit) (Int))
 | 0,_=>none
 | k+1,s15=>
  aN (decide (s15 < ((a0.gO.length:Int)))) λx16=>
  cond x16 (
   ae (iA N a0 s15 N 0) λo=>qS o (λp17=>
    kD N a0 k (I64 (s15+1))) (λr=>some (Sum.inr r))) (
   some (Sum.inl (())))
def eP(N:Nat)(a0:aL)(s25:Int):Nat->Int->Option (Sum (Unit) (Int))
 | 0,_=>none
 | k+1,s28=>
  cond (decide (s28 < 3)) (
   ae (ae (idx a0.gK s25) λe30=>
   ae (idx e30.toList s28) λe31=>
   cond (decide (e31 < 0)) (
    some true) (
    ae (idx a0.gK s25) λe32=>
    ae (idx e32.toList s28) λe33=>
    aN ((a0.gG.length:Int)) λx34=>
    cond (decide (e33>=x34)) (
     some true) (
     ae (idx a0.gK s25) λe35=>
     ae (idx e35.toList s28) λe36=>
     aN (br (I64 (s28+1)) 3) λx37=>
     ae (idx a0.gK s25) λe38=>
     ae (idx e38.toList x37) λe39=>
     some (e36==e39)))) λp29=>
   cond p29 (
    some (Sum.inr 5)) (
    eP N a0 s25 k (I64 (s28+1)))) (
   some (Sum.inl (())))
def kG(N:Nat)(a0:aL):Nat->Int->Option (Sum (Unit) (Int))
 | 0,_=>none
 | k+1,s25=>
  aN ((a0.gK.length:Int)) λx26=>
  cond (decide (s25 < x26)) (
   ae (eP N a0 s25 N 0) λo=>qS o (λp27=>
    kG N a0 k (I64 (s25+1))) (λr=>some (Sum.inr r))) (
   some (Sum.inl (())))
def nD(N:Nat)(a0:aL):Option (Int):=
 aN ((a0.gG.length:Int)) λx1=>
 aN ((a0.gK.length:Int)) λx2=>
 aN (cond (decide (x1 > 64)) true (decide (x2 > 64))) λx3=>
 cond x3 (
  some 3) (
  aN ((a0.gG.length:Int)) λx4=>
  aN ((a0.gK.length:Int)) λx5=>
  aN (cond (decide (x4 < 1)) true (decide (x5 < 1))) λx6=>
  aN ((a0.gG.length:Int)) λx7=>
  aN (((a0.gO.length:Int)) != x7) λx8=>
  cond (cond x6 true x8) (
   some 5) (
   ae (kB N a0 N 0) λo=>qS o (λp9=>
    ae (kD N a0 N 0) λo=>qS o (λp14=>
     ae (kG N a0 N 0) λo=>qS o (λp24=>
      some 0) (λr=>some r)) (λr=>some r)) (λr=>some r)))
theorem zF{N a0 r}(h:nD N a0=some r):FnM Tryz.prog 135 [] [(aL.enc a0)] (j64 r) []:=by
 unfold nD at h;refine At.f aDt hT hmo Tryz.func135 rfl h ?_;refine lx ?_;intro x1;refine lx ?_;intro x2;refine lx ?_;intro x3;refine At.c 12 ?_ ?_
 ·apply rt;exact At.r 1
 ·refine lx ?_;intro x4;refine lx ?_;intro x5;refine lx ?_;intro x6;refine lx ?_;intro x7;refine lx ?_;intro x8;refine At.c 19 ?_ ?_
  ·apply rt;exact At.r 1
  ·refine At.LS 1 [1] 0 (λp9=>([],[],[])) (λop9 J k=>∃s10,kB N a0 k s10=some op9/\J [1] 0 [(3,(j64 s10))] [] []) N (λ_ h=>⟨_,h,jr⟩) (λop9 g9 k s hI=>?_) λp9=>?_
   ·obtain⟨s10,h,hj⟩:=hI;cases k with
    | zero=>cases h
    | succ k=>
     refine At.jr hj ?_ h;refine lx ?_;intro x11;refine At.c 5 ?_ ?_
     ·refine At.b 3 (λ_ e=>bA hT aB.enc e) λe12=>?_;refine At.b 1 (λ_ e=>aH [] (tN e)) λr13=>?_;refine At.c 0 ?_ ?_
      ·intro e;apply aAT g9 e;exact At.r 1
      ·exact λh=>At.k 3 ⟨_,h,jr⟩
     ·apply rt;exact At.xs 0
   ·refine At.LS 1 [1] 0 (λp14=>([],[],[])) (λop14 J k=>∃s15,kD N a0 k s15=some op14/\J [1] 0 [(4,(j64 s15))] [] []) N (λ_ h=>⟨_,h,jr⟩) (λop14 g14 k s hI=>?_) λp14=>?_
    ·obtain⟨s15,h,hj⟩:=hI;cases k with
     | zero=>cases h
     | succ k=>
      refine At.jr hj ?_ h;refine lx ?_;intro x16;refine At.c 5 ?_ ?_
      ·refine At.LS 1 [1,4] 0 (λp17=>([],[],[])) (λop17 J k=>∃s18,iA N a0 s15 k s18=some op17/\J [1,4] 0 [(5,(j64 s18))] [] []) N (λ_ h=>⟨_,h,jr⟩) (λop17 g17 k s hI=>?_) λp17=>?_
       ·obtain⟨s18,h,hj⟩:=hI;cases k with
        | zero=>cases h
        | succ k=>
         refine At.jr hj ?_ h;refine At.c 2 ?_ ?_
         ·refine At.J 0 0 [1,4,5] 0 (λp19=>([(78,(eB p19))],[],[])) (λp19=>?_) λp19=>?_
          ·refine At.b 4 (λ_ e=>bA hT (eA 2 1 j64) e) λe20=>?_;refine At.b 0 (λ_ e=>bK hT (N:=2) (k:=1) j64 e20 e) λe21=>?_;refine At.s 69 3 ?_ ?_
           ·refine At.g [69] 9 ?_;apply rt;exact At.jn 0
           ·refine At.g [69] 4 ?_;refine At.b 0 (λ_ e=>bA hT (eA 2 1 j64) e) λe22=>?_;refine At.b 0 (λ_ e=>bK hT (N:=2) (k:=1) j64 e22 e) λe23=>?_;refine At.g [69] 3 ?_;apply rt;exact At.jn 0
          ·refine At.c 0 ?_ ?_
           ·intro e;apply rtS2 g17 g14 e;exact At.r 1
           ·exact λh=>At.k 3 ⟨_,h,jr⟩
         ·apply rt;exact At.xs 0
       ·exact λh=>At.k 3 ⟨_,h,jr⟩
      ·apply rt;exact At.xs 0
    ·refine At.LS 1 [] 0 (λp24=>([],[],[])) (λop24 J k=>∃s25,kG N a0 k s25=some op24/\J [1] 0 [(6,(j64 s25))] [] []) N (λ_ h=>⟨_,h,jr⟩) (λop24 g24 k s hI=>?_) λp24=>?_
     ·obtain⟨s25,h,hj⟩:=hI;cases k with
      | zero=>cases h
      | succ k=>
       refine At.jr hj ?_ h;refine lx ?_;intro x26;refine At.c 5 ?_ ?_
       ·refine At.LS 1 [1,6] 0 (λp27=>([],[],[])) (λop27 J k=>∃s28,eP N a0 s25 k s28=some op27/\J [1,6] 0 [(7,(j64 s28))] [] []) N (λ_ h=>⟨_,h,jr⟩) (λop27 g27 k s hI=>?_) λp27=>?_
        ·obtain⟨s28,h,hj⟩:=hI;cases k with
         | zero=>cases h
         | succ k=>
          refine At.jr hj ?_ h;refine At.c 2 ?_ ?_
          ·refine At.J 0 0 [1,6,7] 0 (λp29=>([(129,(eB p29))],[],[])) (λp29=>?_) λp29=>?_
           ·refine bi λe30 he30=>?_;refine bi λe31 he31=>?_;refine boI (λhc8=>?_) (λhc8=>?_)
            ·refine At.d 0 (dE1 4 (λ_=>bA hT (eA 3 1 j64) he30) (dE1 5 (λ_=>bK hT (N:=3) (k:=1) j64 e30 he31) (dE1 8 (λ_=>tR hc8 rfl (qX hT (im:=false) (by kernel_rfl))) dE0))) dF0 ?_;apply rt;exact At.jn 0
            ·refine bi λe32 he32=>?_;refine bi λe33 he33=>?_;refine lx ?_;intro x34;refine boI (λhc21=>?_) (λhc21=>?_)
             ·refine At.d 0 (dE1 4 (λ_=>bA hT (eA 3 1 j64) he30) (dE1 5 (λ_=>bK hT (N:=3) (k:=1) j64 e30 he31) (dE1 8 (λ_=>tR hc8 rfl (qX hT (im:=false) (by kernel_rfl))) (dE1 13 (λ_=>bA hT (eA 3 1 j64) he32) (dE1 14 (λ_=>bK hT (N:=3) (k:=1) j64 e32 he33) (dE1 21 (λ_=>tR hc21 rfl (qX hT (im:=false) (by kernel_rfl))) dE0)))))) dF0 ?_;apply rt;exact At.jn 0
             ·refine bi λe35 he35=>?_;refine bi λe36 he36=>?_;refine lx ?_;intro x37;refine bi λe38 he38=>?_;refine bi λe39 he39=>?_;refine At.d 0 (dE1 4 (λ_=>bA hT (eA 3 1 j64) he30) (dE1 5 (λ_=>bK hT (N:=3) (k:=1) j64 e30 he31) (dE1 8 (λ_=>tR hc8 rfl (qX hT (im:=false) (by kernel_rfl))) (dE1 13 (λ_=>bA hT (eA 3 1 j64) he32) (dE1 14 (λ_=>bK hT (N:=3) (k:=1) j64 e32 he33) (dE1 21 (λ_=>tR hc21 rfl (qX hT (im:=false) (by kernel_rfl))) (dE1 26 (λ_=>bA hT (eA 3 1 j64) he35) (dE1 27 (λ_=>bK hT (N:=3) (k:=1) j64 e35 he36) (dE1 35 (λ_=>bA hT (eA 3 1 j64) he38) (dE1 36 (λ_=>bK hT (N:=3) (k:=1) j64 e38 he39) dE0)))))))))) dF0 ?_;apply rt;exact At.jn 0
           ·refine At.c 0 ?_ ?_
            ·intro e;apply rtS2 g27 g24 e;exact At.r 1
            ·exact λh=>At.k 3 ⟨_,h,jr⟩
          ·apply rt;exact At.xs 0
        ·exact λh=>At.k 3 ⟨_,h,jr⟩
       ·apply rt;exact At.xs 0
     ·apply rt;exact At.r 1
def aCC : Nat->Bool:=imL [1]
def lI(N:Nat)(a0:aI):Option (Bool):=
 aN ((a0.gL.length:Int)) λx1=>
 aN (cond (a0.gQ != 0) true (decide (x1 > 0))) λx2=>
 some x2
theorem tI{N a0 r}(h:lI N a0=some r):FnM Tryz.prog 136 [] [(aI.enc a0)] (eB r) []:=by
 unfold lI at h;refine At.f aCC hT hmo Tryz.func136 rfl h ?_;refine lx ?_;intro x1;refine lx ?_;intro x2;apply rt;exact At.r 12
def aDe : Nat->Bool:=imL [1]
def eK(N:Nat)(a0:aI)(s9:Int):Nat->Int->Option (Sum (Unit) (Int))
 | 0,_=>none
 | k+1,s12=>
  cond (decide (s12 < 3)) (
   ae (ae (idx a0.gL s9) λe14=>
   ae (idx e14.toList s12) λe15=>
   cond (decide (e15 < 0)) (
    some true) (
    ae (idx a0.gL s9) λe16=>
    ae (idx e16.toList s12) λe17=>
    some (decide (e17 > 255)))) λp13=>
   cond p13 (
    some (Sum.inr 5)) (
    eK N a0 s9 k (I64 (s12+1)))) (
   some (Sum.inl (())))
def kK(N:Nat)(a0:aI):Nat->Int->Option (Sum (Unit) (Int))
 | 0,_=>none
 | k+1,s9=>
  aN ((a0.gL.length:Int)) λx10=>
  cond (decide (s9 < x10)) (
   ae (eK N a0 s9 N 0) λo=>qS o (λp11=>
    kK N a0 k (I64 (s9+1))) (λr=>some (Sum.inr r))) (
   some (Sum.inl (())))
def lD(N:Nat)(a0:aI):Option (Int):=
 aN (cond (a0.gQ != 1) (a0.gQ != 2) false) λx1=>
 aN (cond x1 (a0.gQ != 4) false) λx2=>
 aN (cond x2 (a0.gQ != 8) false) λx3=>
 aN (cond x3 (a0.gQ != 16) false) λx4=>
 aN ((a0.gL.length:Int)) λx5=>
 aN (I64 (a0.gQ*a0.gQ)) λx6=>
 aN (cond x4 true (x5 != x6)) λx7=>
 cond x7 (
  some 5) (
  ae (kK N a0 N 0) λo=>qS o (λp8=>
   some 0) (λr=>some r))
theorem zC{N a0 r}(h:lD N a0=some r):FnM Tryz.prog 137 [] [(aI.enc a0)] (j64 r) []:=by
 unfold lD at h;refine At.f aDe hT hmo Tryz.func137 rfl h ?_;refine lx ?_;intro x1;refine lx ?_;intro x2;refine lx ?_;intro x3;refine lx ?_;intro x4;refine lx ?_;intro x5;refine lx ?_;intro x6;refine lx ?_;intro x7;refine At.c 36 ?_ ?_
 ·apply rt;exact At.r 1
 ·refine At.LS 1 [] 0 (λp8=>([],[],[])) (λop8 J k=>∃s9,kK N a0 k s9=some op8/\J [1] 0 [(3,(j64 s9))] [] []) N (λ_ h=>⟨_,h,jr⟩) (λop8 g8 k s hI=>?_) λp8=>?_
  ·obtain⟨s9,h,hj⟩:=hI;cases k with
   | zero=>cases h
   | succ k=>
    refine At.jr hj ?_ h;refine lx ?_;intro x10;refine At.c 5 ?_ ?_
    ·refine At.LS 1 [1,3] 0 (λp11=>([],[],[])) (λop11 J k=>∃s12,eK N a0 s9 k s12=some op11/\J [1,3] 0 [(4,(j64 s12))] [] []) N (λ_ h=>⟨_,h,jr⟩) (λop11 g11 k s hI=>?_) λp11=>?_
     ·obtain⟨s12,h,hj⟩:=hI;cases k with
      | zero=>cases h
      | succ k=>
       refine At.jr hj ?_ h;refine At.c 2 ?_ ?_
       ·refine At.J 0 0 [1,3,4] 0 (λp13=>([(67,(eB p13))],[],[])) (λp13=>?_) λp13=>?_
        ·refine At.b 4 (λ_ e=>bA hT (eA 3 1 j64) e) λe14=>?_;refine At.b 0 (λ_ e=>bK hT (N:=3) (k:=1) j64 e14 e) λe15=>?_;refine At.s 58 3 ?_ ?_
         ·refine At.g [58] 9 ?_;apply rt;exact At.jn 0
         ·refine At.g [58] 4 ?_;refine At.b 0 (λ_ e=>bA hT (eA 3 1 j64) e) λe16=>?_;refine At.b 0 (λ_ e=>bK hT (N:=3) (k:=1) j64 e16 e) λe17=>?_;refine At.g [58] 3 ?_;apply rt;exact At.jn 0
        ·refine At.c 0 ?_ ?_
         ·intro e;apply rtS2 g11 g8 e;exact At.r 1
         ·exact λh=>At.k 3 ⟨_,h,jr⟩
       ·apply rt;exact At.xs 0
     ·exact λh=>At.k 3 ⟨_,h,jr⟩
    ·apply rt;exact At.xs 0
  ·apply rt;exact At.r 1
def aEX : Nat->Bool:=imL [1]
def oA(N:Nat)(a0:aL):Option (Bool):=
 aN ((a0.gG.length:Int)) λx1=>
 aN (I64 (x1+((a0.gO.length:Int)))) λx2=>
 aN ((a0.gK.length:Int)) λx3=>
 aN (decide ((I64 (x2+x3)) > 0)) λx4=>
 some x4
theorem vV{N a0 r}(h:oA N a0=some r):FnM Tryz.prog 138 [] [(aL.enc a0)] (eB r) []:=by
 unfold oA at h;refine At.f aEX hT hmo Tryz.func138 rfl h ?_;refine lx ?_;intro x1;refine lx ?_;intro x2;refine lx ?_;intro x3;refine lx ?_;intro x4;apply rt;exact At.r 15
def aB0 : Nat->Bool:=imL [1]
def dH(N:Nat)(a0:aG):Nat->Int->Option (Sum (Unit) (Int))
 | 0,_=>none
 | k+1,s5=>
  cond (decide (s5 < 3)) (
   ae (ae (idx a0.gF.toList s5) λe7=>
   cond (decide (e7 < 0)) (
    some true) (
    ae (idx a0.gF.toList s5) λe8=>
    some (decide (e8 > 65535)))) λp6=>
   cond p6 (
    some (Sum.inr 5)) (
    dH N a0 k (I64 (s5+1)))) (
   some (Sum.inl (())))
def nB(N:Nat)(a0:aG):Option (Int):=
 aN (cond (decide (a0.gD < 0)) true (decide (a0.gD > 4))) λx1=>
 aN (cond x1 true (decide (a0.gA5 < 0))) λx2=>
 aN (decide (a0.gA5 > 65535)) λx3=>
 cond (cond x2 true x3) (
  some 5) (
  ae (dH N a0 N 0) λo=>qS o (λp4=>
   some 0) (λr=>some r))
theorem aBd{N a0 r}(h:nB N a0=some r):FnM Tryz.prog 139 [] [(aG.enc a0)] (j64 r) []:=by
 unfold nB at h;refine At.f aB0 hT hmo Tryz.func139 rfl h ?_;refine lx ?_;intro x1;refine lx ?_;intro x2;refine lx ?_;intro x3;refine At.c 20 ?_ ?_
 ·apply rt;exact At.r 1
 ·refine At.LS 1 [] 0 (λp4=>([],[],[])) (λop4 J k=>∃s5,dH N a0 k s5=some op4/\J [1] 0 [(3,(j64 s5))] [] []) N (λ_ h=>⟨_,h,jr⟩) (λop4 g4 k s hI=>?_) λp4=>?_
  ·obtain⟨s5,h,hj⟩:=hI;cases k with
   | zero=>cases h
   | succ k=>
    refine At.jr hj ?_ h;refine At.c 2 ?_ ?_
    ·refine At.J 0 0 [1,3] 0 (λp6=>([(37,(eB p6))],[],[])) (λp6=>?_) λp6=>?_
     ·refine At.b 2 (λ_ e=>bK hT (N:=3) (k:=1) j64 a0.gF e) λe7=>?_;refine At.s 31 3 ?_ ?_
      ·refine At.g [31] 6 ?_;apply rt;exact At.jn 0
      ·refine At.g [31] 2 ?_;refine At.b 0 (λ_ e=>bK hT (N:=3) (k:=1) j64 a0.gF e) λe8=>?_;refine At.g [31] 3 ?_;apply rt;exact At.jn 0
     ·refine At.c 0 ?_ ?_
      ·intro e;apply aAT g4 e;exact At.r 1
      ·exact λh=>At.k 3 ⟨_,h,jr⟩
    ·apply rt;exact At.xs 0
  ·apply rt;exact At.r 1
def aDh : Nat->Bool:=imL [1]
def eN(N:Nat)(a0:aK):Nat->Int->Option (Sum (Unit) (Int))
 | 0,_=>none
 | k+1,s3=>
  cond (decide (s3 < 3)) (
   ae (ae (idx a0.gF.toList s3) λe5=>
   cond (decide (e5 < 0)) (
    some true) (
    ae (idx a0.gF.toList s3) λe6=>
    some (decide (e6 > 1048576)))) λp4=>
   cond p4 (
    some (Sum.inr 5)) (
    eN N a0 k (I64 (s3+1)))) (
   some (Sum.inl (())))
def pV(N:Nat)(a0:aK):Option (Int):=
 aN (cond (decide (a0.gD < 0)) true (decide (a0.gD > 2))) λx1=>
 cond x1 (
  some 5) (
  ae (eN N a0 N 0) λo=>qS o (λp2=>
   ae (ae (lF N a0.gAt 4096) λr8=>
   cond r8 (
    some true) (
    ae (lF N a0.gU 4096) λr9=>
    cond r9 (
     some true) (
     ae (lF N a0.gV 4096) λr10=>
     some r10))) λp7=>
   cond p7 (
    some 8) (
    ae (cond (a0.gD==2) (
     aN (!(aB.eq a0.gAt (aB.mk 0 0 0))) λx12=>
     cond x12 (
      some true) (
      cond (a0.gD != 1) (
       aN (!(aB.eq a0.gU (aB.mk 0 0 0))) λx13=>
       cond x13 (
        some true) (
        some (!(aB.eq a0.gV (aB.mk 0 0 0))))) (
       some false))) (
     cond (a0.gD != 1) (
      aN (!(aB.eq a0.gU (aB.mk 0 0 0))) λx14=>
      cond x14 (
       some true) (
       some (!(aB.eq a0.gV (aB.mk 0 0 0))))) (
      some false))) λp11=>
    cond p11 (some 5) (some 0))) (λr=>some r))
theorem aC0{N a0 r}(h:pV N a0=some r):FnM Tryz.prog 140 [] [(aK.enc a0)] (j64 r) []:=by
 unfold pV at h;refine At.f aDh hT hmo Tryz.func140 rfl h ?_;refine lx ?_;intro x1;refine At.c 10 ?_ ?_
 ·apply rt;exact At.r 1
 ·refine At.LS 1 [1] 0 (λp2=>([],[],[])) (λop2 J k=>∃s3,eN N a0 k s3=some op2/\J [1] 0 [(3,(j64 s3))] [] []) N (λ_ h=>⟨_,h,jr⟩) (λop2 g2 k s hI=>?_) λp2=>?_
  ·obtain⟨s3,h,hj⟩:=hI;cases k with
   | zero=>cases h
   | succ k=>
    refine At.jr hj ?_ h;refine At.c 2 ?_ ?_
    ·refine At.J 0 0 [1,3] 0 (λp4=>([(28,(eB p4))],[],[])) (λp4=>?_) λp4=>?_
     ·refine At.b 2 (λ_ e=>bK hT (N:=3) (k:=1) j64 a0.gF e) λe5=>?_;refine At.s 22 3 ?_ ?_
      ·refine At.g [22] 6 ?_;apply rt;exact At.jn 0
      ·refine At.g [22] 2 ?_;refine At.b 0 (λ_ e=>bK hT (N:=3) (k:=1) j64 a0.gF e) λe6=>?_;refine At.g [22] 3 ?_;apply rt;exact At.jn 0
     ·refine At.c 0 ?_ ?_
      ·intro e;apply aAT g2 e;exact At.r 1
      ·exact λh=>At.k 3 ⟨_,h,jr⟩
    ·apply rt;exact At.xs 0
  ·refine At.J 0 0 [1] 0 (λp7=>([(41,(eB p7))],[],[])) (λp7=>?_) λp7=>?_
   ·refine At.b 2 (λ_ e=>aH [] (tN e)) λr8=>?_;refine At.s 32 1 ?_ ?_
    ·refine At.g [32,37] 9 ?_;apply rt;exact At.jn 0
    ·refine At.g [32] 2 ?_;refine At.b 0 (λ_ e=>aH [] (tN e)) λr9=>?_;refine At.g [32] 2 ?_;refine At.s 37 0 ?_ ?_
     ·refine At.g [37] 4 ?_;apply rt;exact At.jn 0
     ·refine At.g [37] 2 ?_;refine At.b 0 (λ_ e=>aH [] (tN e)) λr10=>?_;refine At.g [37] 1 ?_;apply rt;exact At.jn 0
   ·refine At.c 0 ?_ ?_
    ·apply rt;exact At.r 1
    ·refine At.J 3 0 [] 1 (λp11=>([(68,(eB p11))],[],[])) (λp11=>?_) λp11=>?_
     ·refine At.s 46 4 ?_ ?_
      ·refine At.g [46] 3 ?_;refine At.o 0 (nK wS (a0.gAt:aB) (aB.mk 0 0 0:aB) (by kernel_rfl) (by kernel_rfl) (λ_=>rfl) (λ_=>rfl) (by kernel_rfl) (by kernel_rfl)) ?_;refine lx ?_;intro x12;refine At.g [46] 2 ?_;refine At.s 52 0 ?_ ?_
       ·refine At.g [52,56,61] 16 ?_;apply rt;exact At.jn 0
       ·refine At.g [52] 4 ?_;refine At.s 56 0 ?_ ?_
        ·refine At.g [56] 3 ?_;refine At.o 0 (nK wS (a0.gU:aB) (aB.mk 0 0 0:aB) (by kernel_rfl) (by kernel_rfl) (λ_=>rfl) (λ_=>rfl) (by kernel_rfl) (by kernel_rfl)) ?_;refine lx ?_;intro x13;refine At.g [56] 1 ?_;refine At.s 61 0 ?_ ?_
         ·refine At.g [61,56,52] 7 ?_;apply rt;exact At.jn 0
         ·refine At.g [61] 3 ?_;refine At.o 0 (nK wS (a0.gV:aB) (aB.mk 0 0 0:aB) (by kernel_rfl) (by kernel_rfl) (λ_=>rfl) (λ_=>rfl) (by kernel_rfl) (by kernel_rfl)) ?_;refine At.g [56,61,52] 3 ?_;apply rt;exact At.jn 0
        ·refine At.g [56,61,52] 12 ?_;apply rt;exact At.jn 0
      ·refine At.g [46,52] 10 ?_;refine At.s 56 0 ?_ ?_
       ·refine At.g [56] 3 ?_;refine At.o 0 (nK wS (a0.gU:aB) (aB.mk 0 0 0:aB) (by kernel_rfl) (by kernel_rfl) (λ_=>rfl) (λ_=>rfl) (by kernel_rfl) (by kernel_rfl)) ?_;refine lx ?_;intro x14;refine At.g [56] 1 ?_;refine At.s 61 0 ?_ ?_
        ·refine At.g [61,56,52] 7 ?_;apply rt;exact At.jn 0
        ·refine At.g [61] 3 ?_;refine At.o 0 (nK wS (a0.gV:aB) (aB.mk 0 0 0:aB) (by kernel_rfl) (by kernel_rfl) (λ_=>rfl) (λ_=>rfl) (by kernel_rfl) (by kernel_rfl)) ?_;refine At.g [56,61,52] 3 ?_;apply rt;exact At.jn 0
       ·refine At.g [56,61,52] 12 ?_;apply rt;exact At.jn 0
     ·refine At.c 0 ?_ ?_
      ·apply rt;exact At.r 1
      ·apply rt;exact At.r 1
def nR(N:Nat)(a0:Int):Nat->Int->Int->Option (Int)
 | 0,_,_=>none
 | k+1,s2,s3=>
  cond (decide (s3 < a0)) (
   aN (U64 ((U64 (s2*256))+255)) λx4=>
   nR N a0 k x4 (I64 (s3+1))) (
   some s2)
def jY(N:Nat)(a0:Int):Option (Int):=
 ae (nR N a0 N 0 0) λp1=>
 some p1
theorem vY{N a0 r}(h:jY N a0=some r):FnM Tryz.prog 145 [] [(j64 a0)] (k64 r) []:=by
 unfold jY at h;refine At.f dI hT hmo Tryz.func145 rfl h ?_;refine At.L 3 [] 0 (λp1=>([(3,(k64 p1))],[],[])) (λp1 J k=>∃s2 s3,nR N a0 k s2 s3=some p1/\J [0] 0 [(3,(k64 s2)),(4,(j64 s3))] [] []) N (λ_ h=>⟨_,_,h,jr⟩) (λp1 k s hI=>?_) λp1=>?_
 ·obtain⟨s2,s3,h,hj⟩:=hI;cases k with
  | zero=>cases h
  | succ k=>
   refine At.jr hj ?_ h;refine At.c 3 ?_ ?_
   ·refine lx ?_;intro x4;exact λh=>At.k 7 ⟨_,_,h,jr⟩
   ·apply rt;exact At.x 0
 ·apply rt;exact At.r 2
def oJ(N:Nat)(a1:Int):Nat->(List Int)->Int->Int->Option ((List Int))
 | 0,_,_,_=>none
 | k+1,s11,s12,s13=>
  cond (decide (s13 < a1)) (
   ae (iB 1 s11 (([U8 (br s12 256)]:List Int))) λz14=>
   oJ N a1 k z14 (U64 (cv s12 256)) (I64 (s13+1))) (
   some s11)
def mH(N:Nat)(a2:(List Int))(a1:Int):Nat->(List Int)->Int->Option (Sum ((List Int)) ((List Int)×Int))
 | 0,_,_=>none
 | k+1,s4,s5=>
  aN (decide (s5 < ((a2.length:Int)))) λx6=>
  cond x6 (
   ae (idx a2 s5) λe7=>
   ae (jY N a1) λr8=>
   cond (decide (e7 > r8)) (
    some (Sum.inr (([],3)))) (
    ae (idx a2 s5) λe9=>
    ae (oJ N a1 N s4 e9 0) λp10=>
    mH N a2 a1 k p10 (I64 (s5+1)))) (
   some (Sum.inl s4))
def bP(N:Nat)(a0:(List Int))(a1:Int)(a2:(List Int)):Option ((List Int)×Int):=
 aN (cond (decide (a1 < 1)) true (decide (a1 > 8))) λx1=>
 cond x1 (
  some (([],2))) (
  ae (iB 1 (([]:List Int)) a0) λz2=>
  ae (mH N a2 a1 N z2 0) λo=>qS o (λp3=>
   some ((p3,0))) (λr=>some r))
theorem mA{N a0 a1 a2 r}(h:bP N a0 a1 a2=some r):FnM Tryz.prog 94 [] [(eL 1 k8 a0),(j64 a1),(eL 1 k64 a2)] (.tup [(eO 0 1 k8 r.1),(j64 r.2)]) [.tail (r.1.length*1)]:=by
 unfold bP at h;refine At.f dI hT hmo Tryz.func94 rfl h ?_;refine lx ?_;intro x1;refine At.c 8 ?_ ?_
 ·refine At.ownn 2 6 1 ?_;apply rt;exact At.r 0
 ·refine At.o 0 (pM hT k8 (k:=1) ([]:List Int) (by kernel_rfl) (by kernel_rfl)) ?_;refine At.b 1 (λ_ e=>bN hT k8 (id:=0) (k:=1) e) λz2=>?_;refine At.LS 2 [] 1 (λp3=>([(8,(eO 0 1 k8 p3))],[(0,.tail (p3.length*1))],[])) (λop3 J k=>∃s4 s5,mH N a2 a1 k s4 s5=some op3/\J [1,2] 1 [(8,(eO 0 1 k8 s4)),(9,(j64 s5))] [(0,.tail (s4.length*1))] []) N (λ_ h=>⟨_,_,h,jr⟩) (λop3 g3 k s hI=>?_) λp3=>?_
  ·obtain⟨s4,s5,h,hj⟩:=hI;cases k with
   | zero=>cases h
   | succ k=>
    refine At.jr hj ?_ h;refine lx ?_;intro x6;refine At.c 4 ?_ ?_
    ·refine bi λe7 he7=>?_;refine bi λr8 hr8=>?_;refine At.d 0 (dE1 2 (λ_=>bA hT k64 he7) (dE2 5 (k64 r8) (λ_=>bM (vY hr8)) dE0)) dF0 ?_;refine At.c 0 ?_ ?_
     ·refine At.ownn 2 6 1 ?_;refine At.sw 0 1 0 ?_;intro e;apply aAT g3 e;exact At.r 0
     ·refine At.b 2 (λ_ e=>bA hT k64 e) λe9=>?_;refine At.L 3 [1,2,9] 1 (λp10=>([(8,(eO 0 1 k8 p10))],[(0,.tail (p10.length*1))],[])) (λp10 J k=>∃s11 s12 s13,oJ N a1 k s11 s12 s13=some p10/\J [1,2,9] 1 [(8,(eO 0 1 k8 s11)),(10,(k64 s12)),(11,(j64 s13))] [(0,.tail (s11.length*1))] []) N (λ_ h=>⟨_,_,_,h,jr⟩) (λp10 k s hI=>?_) λp10=>?_
      ·obtain⟨s11,s12,s13,h,hj⟩:=hI;cases k with
       | zero=>cases h
       | succ k=>
        refine At.jr hj ?_ h;refine At.c 3 ?_ ?_
        ·refine At.o 4 (aY hT (x:=(.sl 1 1 [(k8 (U8 (br s12 256)))]))) ?_;refine At.b 0 (λ_ e=>bN hT k8 (id:=0) (k:=1) e) λz14=>?_;exact λh=>At.k 7 ⟨_,_,_,h,jr⟩
        ·apply rt;exact At.x 0
      ·exact λh=>At.k 3 ⟨_,_,h,jr⟩
    ·apply rt;exact At.xs 0
  ·apply rt;exact At.r 3
def iV(N:Nat)(a2:(List Int))(x3 a1:Int):Nat->(List Int)->Int->Option (Sum ((List Int)) ((List Int)×Int))
 | 0,_,_=>none
 | k+1,s5,s6=>
  aN (decide (s6 < ((a2.length:Int)))) λx7=>
  cond x7 (
   ae (ae (idx a2 s6) λe9=>
   cond (decide (e9 > x3)) (
    some true) (
    ae (idx a2 s6) λe10=>
    aN (I64 ((I64 (0 - x3)) - 1)) λx11=>
    some (decide (e10 < x11)))) λp8=>
   cond p8 (
    some (Sum.inr (([],3)))) (
    ae (idx a2 s6) λe12=>
    ae (ae (idx a2 s6) λe14=>
    cond (decide (e14 < 0)) (
     ae (jY N a1) λr15=>
     ae (idx a2 s6) λe16=>
     aN (I64 (0 - (I64 (e16+1)))) λx17=>
     some (U64 (r15 - (U64 x17)))) (
     some (U64 e12))) λp13=>
    ae (iB 8 s5 (([p13]:List Int))) λz18=>
    iV N a2 x3 a1 k z18 (I64 (s6+1)))) (
   some (Sum.inl s5))
def mN(N:Nat)(a0:(List Int))(a1:Int)(a2:(List Int)):Option ((List Int)×Int):=
 aN (cond (decide (a1 < 1)) true (decide (a1 > 8))) λx1=>
 cond x1 (
  some (([],2))) (
  ae (jY N a1) λr2=>
  aN (I64 (U64 (cv r2 2))) λx3=>
  ae (iV N a2 x3 a1 N [] 0) λo=>qS o (λp4=>
   ae (bP N a0 a1 p4) λr19=>
   some ((r19.1,r19.2))) (λr=>some r))
theorem aB4{N a0 a1 a2 r}(h:mN N a0 a1 a2=some r):FnM Tryz.prog 183 [] [(eL 1 k8 a0),(j64 a1),(eL 1 j64 a2)] (.tup [(eO 0 1 k8 r.1),(j64 r.2)]) [.tail (r.1.length*1)]:=by
 unfold mN at h;refine At.f dI hT hmo Tryz.func183 rfl h ?_;refine lx ?_;intro x1;refine At.c 8 ?_ ?_
 ·refine At.ownn 2 6 1 ?_;apply rt;exact At.r 0
 ·refine At.b 1 (λ_ e=>aH [] (vY e)) λr2=>?_;refine lx ?_;intro x3;refine At.ownn 5 9 1 ?_;refine At.LS 0 [0,1] 1 (λp4=>([(9,(eO 0 1 k64 p4))],[(0,.tail (p4.length*1))],[])) (λop4 J k=>∃s5 s6,iV N a2 x3 a1 k s5 s6=some op4/\J [0,1,2,8] 1 [(9,(eO 0 1 k64 s5)),(10,(j64 s6))] [(0,.tail (s5.length*1))] []) N (λ_ h=>⟨_,_,h,jr⟩) (λop4 g4 k s hI=>?_) λp4=>?_
  ·obtain⟨s5,s6,h,hj⟩:=hI;cases k with
   | zero=>cases h
   | succ k=>
    refine At.jr hj ?_ h;refine lx ?_;intro x7;refine At.c 4 ?_ ?_
    ·refine At.J 0 0 [0,1,2,8,9,10] 1 (λp8=>([(43,(eB p8))],[],[])) (λp8=>?_) λp8=>?_
     ·refine At.b 2 (λ_ e=>bA hT j64 e) λe9=>?_;refine At.s 34 4 ?_ ?_
      ·refine At.g [34] 9 ?_;apply rt;exact At.jn 0
      ·refine At.g [34] 2 ?_;refine At.b 0 (λ_ e=>bA hT j64 e) λe10=>?_;refine lx ?_;intro x11;refine At.g [34] 6 ?_;apply rt;exact At.jn 0
     ·refine At.c 0 ?_ ?_
      ·refine At.ownn 2 6 1 ?_;refine At.sw 0 1 0 ?_;intro e;apply aAT g4 e;exact At.r 0
      ·refine At.b 2 (λ_ e=>bA hT j64 e) λe12=>?_;refine At.J 3 1 [0,1,2,8,9,10] 1 (λp13=>([(11,(k64 p13))],[],[])) (λp13=>?_) λp13=>?_
       ·refine At.b 2 (λ_ e=>bA hT j64 e) λe14=>?_;refine At.c 2 ?_ ?_
        ·refine bi λr15 hr15=>?_;refine bi λe16 he16=>?_;refine lx ?_;intro x17;refine At.d 0 (dE2 1 (k64 r15) (λ_=>bM (vY hr15)) (dE1 4 (λ_=>bA hT j64 he16) dE0)) dF0 ?_;apply rt;exact At.jn 0
        ·apply rt;exact At.jn 0
       ·refine At.o 2 (aY hT (x:=(.sl 1 1 [(k64 p13)]))) ?_;refine At.b 0 (λ_ e=>bN hT k64 (id:=0) (k:=1) e) λz18=>?_;exact λh=>At.k 4 ⟨_,_,h,jr⟩
    ·apply rt;exact At.xs 0
  ·refine At.b 3 (λ_ e=>aH [] (mA e)) λr19=>?_;refine At.sw 4 1 0 ?_;apply rt;exact At.r 0
def aDz : Nat->Bool:=imL [3]
def iS(N:Nat)(a0:(List Int))(a1:aB):Option ((List Int)):=
 ae (mN N a0 2 ([a1.gX,a1.gY,a1.gZ])) λr1=>
 some r1.1
theorem rQ{N a0 a1 r}(h:iS N a0 a1=some r):FnM Tryz.prog 144 [] [(eL 1 k8 a0),(aB.enc a1)] (eO 0 1 k8 r) [.tail (r.length*1)]:=by
 unfold iS at h;refine At.f aDz hT hmo Tryz.func144 rfl h ?_;refine At.o 9 (aY hT (x:=(.sl 1 3 [(j64 a1.gX),(j64 a1.gY),(j64 a1.gZ)]))) ?_;refine At.b 0 (λ_ e=>aH [] (aB4 e)) λr1=>?_;apply rt;exact At.r 7
def aC8 : Nat->Bool:=imL [1]
def iY(N:Nat)(a0:aL):Nat->(List Int)->Int->Option ((List Int))
 | 0,_,_=>none
 | k+1,s5,s6=>
  aN ((a0.gG.length:Int)) λx7=>
  cond (decide (s6 < x7)) (
   ae (idx a0.gG s6) λe8=>
   ae (iS N s5 e8) λr9=>
   iY N a0 k r9 (I64 (s6+1))) (
   some s5)
def jH(N:Nat)(a0:aL)(s12:Int):Nat->(List Int)->Int->Option ((List Int))
 | 0,_,_=>none
 | k+1,s15,s16=>
  cond (decide (s16 < 2)) (
   ae (idx a0.gO s12) λe17=>
   ae (idx e17.toList s16) λe18=>
   ae (idx a0.gO s12) λe19=>
   ae (idx e19.toList s16) λe20=>
   aN (U8 (I64 (cv e20 256))) λx21=>
   ae (iB 1 s15 (([U8 (br e18 256),x21]:List Int))) λz22=>
   jH N a0 s12 k z22 (I64 (s16+1))) (
   some s15)
def jC(N:Nat)(a0:aL):Nat->(List Int)->Int->Option ((List Int))
 | 0,_,_=>none
 | k+1,s11,s12=>
  aN (decide (s12 < ((a0.gO.length:Int)))) λx13=>
  cond x13 (
   ae (jH N a0 s12 N s11 0) λp14=>
   jC N a0 k p14 (I64 (s12+1))) (
   some s11)
def fT(N:Nat)(a0:aL)(s25:Int):Nat->(List Int)->Int->Option ((List Int))
 | 0,_,_=>none
 | k+1,s28,s29=>
  cond (decide (s29 < 3)) (
   ae (idx a0.gK s25) λe30=>
   ae (idx e30.toList s29) λe31=>
   ae (iB 1 s28 (([U8 e31]:List Int))) λz32=>
   fT N a0 s25 k z32 (I64 (s29+1))) (
   some s28)
def jG(N:Nat)(a0:aL):Nat->(List Int)->Int->Option ((List Int))
 | 0,_,_=>none
 | k+1,s24,s25=>
  aN ((a0.gK.length:Int)) λx26=>
  cond (decide (s25 < x26)) (
   ae (fT N a0 s25 N s24 0) λp27=>
   jG N a0 k p27 (I64 (s25+1))) (
   some s24)
def oI(N:Nat)(a0:aL):Option ((List Int)×Int):=
 ae (nD N a0) λr1=>
 cond (r1 != 0) (
  some (([],r1))) (
  aN ((a0.gG.length:Int)) λx2=>
  aN ((a0.gK.length:Int)) λx3=>
  ae (iY N a0 N (([U8 x2,U8 x3]:List Int)) 0) λp4=>
  ae (jC N a0 N p4 0) λp10=>
  ae (jG N a0 N p10 0) λp23=>
  some ((p23,0)))
theorem aCG{N a0 r}(h:oI N a0=some r):FnM Tryz.prog 142 [] [(aL.enc a0)] (.tup [(eL 1 k8 r.1),(j64 r.2)]) []:=by
 unfold oI at h;refine At.f aC8 hT hmo Tryz.func142 rfl h ?_;refine At.b 4 (λ_ e=>aH [] (zF e)) λr1=>?_;refine At.c 3 ?_ ?_
 ·apply rt;exact At.r 3
 ·refine lx ?_;intro x2;refine lx ?_;intro x3;refine At.o 8 (pM hT k8 (k:=1) ([U8 x2,U8 x3]:List Int) (by kernel_rfl) (by kernel_rfl)) ?_;refine At.L 2 [1] 1 (λp4=>([(5,(eO 0 1 k8 p4))],[(0,.tail (p4.length*1))],[])) (λp4 J k=>∃s5 s6,iY N a0 k s5 s6=some p4/\J [1] 1 [(5,(eO 0 1 k8 s5)),(6,(j64 s6))] [(0,.tail (s5.length*1))] []) N (λ_ h=>⟨_,_,h,jr⟩) (λp4 k s hI=>?_) λp4=>?_
  ·obtain⟨s5,s6,h,hj⟩:=hI;cases k with
   | zero=>cases h
   | succ k=>
    refine At.jr hj ?_ h;refine lx ?_;intro x7;refine At.c 5 ?_ ?_
    ·refine At.b 4 (λ_ e=>bA hT aB.enc e) λe8=>?_;refine At.b 1 (λ_ e=>aH [] (rQ e)) λr9=>?_;exact λh=>At.k 4 ⟨_,_,h,(aLa 1 0 (by kernel_rfl) jr)⟩
    ·apply rt;exact At.x 0
  ·refine At.L 1 [1] 1 (λp10=>([(5,(eO 0 1 k8 p10))],[(0,.tail (p10.length*1))],[])) (λp10 J k=>∃s11 s12,jC N a0 k s11 s12=some p10/\J [1] 1 [(5,(eO 0 1 k8 s11)),(7,(j64 s12))] [(0,.tail (s11.length*1))] []) N (λ_ h=>⟨_,_,h,jr⟩) (λp10 k s hI=>?_) λp10=>?_
   ·obtain⟨s11,s12,h,hj⟩:=hI;cases k with
    | zero=>cases h
    | succ k=>
     refine At.jr hj ?_ h;refine lx ?_;intro x13;refine At.c 5 ?_ ?_
     ·refine At.L 1 [1,7] 1 (λp14=>([(5,(eO 0 1 k8 p14))],[(0,.tail (p14.length*1))],[])) (λp14 J k=>∃s15 s16,jH N a0 s12 k s15 s16=some p14/\J [1,7] 1 [(5,(eO 0 1 k8 s15)),(8,(j64 s16))] [(0,.tail (s15.length*1))] []) N (λ_ h=>⟨_,_,h,jr⟩) (λp14 k s hI=>?_) λp14=>?_
      ·obtain⟨s15,s16,h,hj⟩:=hI;cases k with
       | zero=>cases h
       | succ k=>
        refine At.jr hj ?_ h;refine At.c 2 ?_ ?_
        ·refine bi λe17 he17=>?_;refine bi λe18 he18=>?_;refine bi λe19 he19=>?_;refine bi λe20 he20=>?_;refine lx ?_;intro x21;refine bi λz22 hz22=>?_;refine At.d 0 (dE1 5 (λ_=>bA hT (eA 2 1 j64) he17) (dE1 6 (λ_=>bK hT (N:=2) (k:=1) j64 e17 he18) (dE1 14 (λ_=>bA hT (eA 2 1 j64) he19) (dE1 15 (λ_=>bK hT (N:=2) (k:=1) j64 e19 he20) (dE1 19 (λ_=>aY hT (x:=(.sl 1 2 [(k8 (U8 (br e18 256))),(k8 x21)]))) dE0))))) (dF 20 (eO 0 1 k8 z22) [(0,.tail (z22.length*1))] [] (bG (bN hT k8 (id:=0) (k:=1) hz22)) dF0) ?_;exact λh=>At.k 3 ⟨_,_,h,jr⟩
        ·apply rt;exact At.x 0
      ·exact λh=>At.k 3 ⟨_,_,h,jr⟩
     ·apply rt;exact At.x 0
   ·refine At.L 1 [] 1 (λp23=>([(5,(eO 0 1 k8 p23))],[(0,.tail (p23.length*1))],[])) (λp23 J k=>∃s24 s25,jG N a0 k s24 s25=some p23/\J [1] 1 [(5,(eO 0 1 k8 s24)),(9,(j64 s25))] [(0,.tail (s24.length*1))] []) N (λ_ h=>⟨_,_,h,jr⟩) (λp23 k s hI=>?_) λp23=>?_
    ·obtain⟨s24,s25,h,hj⟩:=hI;cases k with
     | zero=>cases h
     | succ k=>
      refine At.jr hj ?_ h;refine lx ?_;intro x26;refine At.c 5 ?_ ?_
      ·refine At.L 1 [1,9] 1 (λp27=>([(5,(eO 0 1 k8 p27))],[(0,.tail (p27.length*1))],[])) (λp27 J k=>∃s28 s29,fT N a0 s25 k s28 s29=some p27/\J [1,9] 1 [(5,(eO 0 1 k8 s28)),(10,(j64 s29))] [(0,.tail (s28.length*1))] []) N (λ_ h=>⟨_,_,h,jr⟩) (λp27 k s hI=>?_) λp27=>?_
       ·obtain⟨s28,s29,h,hj⟩:=hI;cases k with
        | zero=>cases h
        | succ k=>
         refine At.jr hj ?_ h;refine At.c 2 ?_ ?_
         ·refine At.b 5 (λ_ e=>bA hT (eA 3 1 j64) e) λe30=>?_;refine At.b 0 (λ_ e=>bK hT (N:=3) (k:=1) j64 e30 e) λe31=>?_;refine At.o 2 (aY hT (x:=(.sl 1 1 [(k8 (U8 e31))]))) ?_;refine At.b 0 (λ_ e=>bN hT k8 (id:=0) (k:=1) e) λz32=>?_;exact λh=>At.k 4 ⟨_,_,h,jr⟩
         ·apply rt;exact At.x 0
       ·exact λh=>At.k 3 ⟨_,_,h,jr⟩
      ·apply rt;exact At.x 0
    ·apply rt;exact At.r 3
def aC4 : Nat->Bool:=imL [1]
def fM(N:Nat)(a0:aI)(s4:Int):Nat->(List Int)->Int->Option ((List Int))
 | 0,_,_=>none
 | k+1,s7,s8=>
  cond (decide (s8 < 3)) (
   ae (idx a0.gL s4) λe9=>
   ae (idx e9.toList s8) λe10=>
   ae (iB 1 s7 (([U8 e10]:List Int))) λz11=>
   fM N a0 s4 k z11 (I64 (s8+1))) (
   some s7)
def iX(N:Nat)(a0:aI):Nat->(List Int)->Int->Option ((List Int))
 | 0,_,_=>none
 | k+1,s3,s4=>
  aN ((a0.gL.length:Int)) λx5=>
  cond (decide (s4 < x5)) (
   ae (fM N a0 s4 N s3 0) λp6=>
   iX N a0 k p6 (I64 (s4+1))) (
   some s3)
def oG(N:Nat)(a0:aI):Option ((List Int)×Int):=
 ae (lD N a0) λr1=>
 cond (r1 != 0) (
  some (([],r1))) (
  ae (iX N a0 N (([U8 a0.gQ]:List Int)) 0) λp2=>
  some ((p2,0)))
theorem aCA{N a0 r}(h:oG N a0=some r):FnM Tryz.prog 143 [] [(aI.enc a0)] (.tup [(eL 1 k8 r.1),(j64 r.2)]) []:=by
 unfold oG at h;refine At.f aC4 hT hmo Tryz.func143 rfl h ?_;refine At.b 4 (λ_ e=>aH [] (zC e)) λr1=>?_;refine At.c 3 ?_ ?_
 ·apply rt;exact At.r 3
 ·refine At.o 3 (pM hT k8 (k:=1) ([U8 a0.gQ]:List Int) (by kernel_rfl) (by kernel_rfl)) ?_;refine At.L 2 [] 1 (λp2=>([(5,(eO 0 1 k8 p2))],[(0,.tail (p2.length*1))],[])) (λp2 J k=>∃s3 s4,iX N a0 k s3 s4=some p2/\J [1] 1 [(5,(eO 0 1 k8 s3)),(6,(j64 s4))] [(0,.tail (s3.length*1))] []) N (λ_ h=>⟨_,_,h,jr⟩) (λp2 k s hI=>?_) λp2=>?_
  ·obtain⟨s3,s4,h,hj⟩:=hI;cases k with
   | zero=>cases h
   | succ k=>
    refine At.jr hj ?_ h;refine lx ?_;intro x5;refine At.c 5 ?_ ?_
    ·refine At.L 1 [1,6] 1 (λp6=>([(5,(eO 0 1 k8 p6))],[(0,.tail (p6.length*1))],[])) (λp6 J k=>∃s7 s8,fM N a0 s4 k s7 s8=some p6/\J [1,6] 1 [(5,(eO 0 1 k8 s7)),(7,(j64 s8))] [(0,.tail (s7.length*1))] []) N (λ_ h=>⟨_,_,h,jr⟩) (λp6 k s hI=>?_) λp6=>?_
     ·obtain⟨s7,s8,h,hj⟩:=hI;cases k with
      | zero=>cases h
      | succ k=>
       refine At.jr hj ?_ h;refine At.c 2 ?_ ?_
       ·refine At.b 5 (λ_ e=>bA hT (eA 3 1 j64) e) λe9=>?_;refine At.b 0 (λ_ e=>bK hT (N:=3) (k:=1) j64 e9 e) λe10=>?_;refine At.o 2 (aY hT (x:=(.sl 1 1 [(k8 (U8 e10))]))) ?_;refine At.b 0 (λ_ e=>bN hT k8 (id:=0) (k:=1) e) λz11=>?_;exact λh=>At.k 4 ⟨_,_,h,jr⟩
       ·apply rt;exact At.x 0
     ·exact λh=>At.k 3 ⟨_,_,h,jr⟩
    ·apply rt;exact At.x 0
  ·apply rt;exact At.r 3
def aDO : Nat->Bool:=imL [1]
def kF(N:Nat)(e4 e6 e8:Int)(a0:aF):Nat->(List Int)->Int->Option ((List Int))
 | 0,_,_=>none
 | k+1,s10,s11=>
  cond (decide (s11 < 4)) (
   ae (idx ([e4,e6,e8,a0.gJ.gA5]) s11) λe12=>
   ae (idx ([e4,e6,e8,a0.gJ.gA5]) s11) λe13=>
   aN (U8 (I64 (cv e13 256))) λx14=>
   ae (iB 1 s10 (([U8 (br e12 256),x14]:List Int))) λz15=>
   kF N e4 e6 e8 a0 k z15 (I64 (s11+1))) (
   some s10)
def kH(N:Nat)(a0:aF):Nat->(List Int)->Int->Option ((List Int))
 | 0,_,_=>none
 | k+1,s17,s18=>
  cond (decide (s18 < 3)) (
   ae (aP s18 3) λ_=>
   ae (a0.gE.gF.toList[s18.toNat]?) λe20=>
   ae (bP N s17 4 ([U64 e20])) λr21=>
   kH N a0 k r21.1 (I64 (s18+1))) (
   some s17)
def kW(N:Nat)(a0:aF):Option ((List Int)):=
 cond (a0.gD==1) (
  ae (oI N a0.gW) λr1=>
  some r1.1) (
  cond (a0.gD==2) (
   ae (oG N a0.gA1) λr2=>
   some r2.1) (
   cond (a0.gD==3) (
    ae (aP 0 3) λ_=>
    ae (a0.gJ.gF.toList[(af 0)]?) λe4=>
    ae (aP 1 3) λ_=>
    ae (a0.gJ.gF.toList[(af 1)]?) λe6=>
    ae (aP 2 3) λ_=>
    ae (a0.gJ.gF.toList[(af 2)]?) λe8=>
    ae (kF N e4 e6 e8 a0 N (([U8 a0.gJ.gD]:List Int)) 0) λp9=>
    some p9) (
    ae (kH N a0 N ([U8 a0.gE.gD]) 0) λp16=>
    ae (iS N p16 a0.gE.gAt) λr22=>
    ae (iS N r22 a0.gE.gU) λr23=>
    ae (iS N r23 a0.gE.gV) λr24=>
    some r24)))
theorem zE{N a0 r}(h:kW N a0=some r):FnM Tryz.prog 92 [] [(aF.enc a0)] (eL 1 k8 r) []:=by
 unfold kW at h;refine At.f aDO hT hmo Tryz.func92 rfl h ?_;refine At.c 5 ?_ ?_
 ·refine At.b 2 (λ_ e=>aH [] (aCG e)) λr1=>?_;apply rt;exact At.r 7
 ·refine At.c 3 ?_ ?_
  ·refine At.b 2 (λ_ e=>aH [] (aCA e)) λr2=>?_;apply rt;exact At.r 7
  ·refine At.c 3 ?_ ?_
   ·refine At.o 7 (pM hT k8 (k:=1) ([U8 a0.gJ.gD]:List Int) (by kernel_rfl) (by kernel_rfl)) ?_;refine At.b 2 (λ_ e=>aD hT (k:=1) 0 [1] 1 e) λu3=>?_;refine At.b 0 (λ_ e=>aV hT j64 1 e) λe4=>?_;refine At.b 1 (λ_ e=>aD hT (k:=1) 0 [1] 1 e) λu5=>?_;refine At.b 0 (λ_ e=>aV hT j64 1 e) λe6=>?_;refine At.b 1 (λ_ e=>aD hT (k:=1) 0 [1] 1 e) λu7=>?_;refine At.b 0 (λ_ e=>aV hT j64 1 e) λe8=>?_;refine At.o 2 (aY hT (x:=(.sl 1 4 [(j64 e4),(j64 e6),(j64 e8),(j64 a0.gJ.gA5)]))) ?_;refine At.L 2 [] 2 (λp9=>([(8,(eO 1 1 k8 p9))],[(1,.tail (p9.length*1))],[])) (λp9 J k=>∃s10 s11,kF N e4 e6 e8 a0 k s10 s11=some p9/\J [9] 2 [(8,(eO 1 1 k8 s10)),(10,(j64 s11))] [(1,.tail (s10.length*1))] []) N (λ_ h=>⟨_,_,h,jr⟩) (λp9 k s hI=>?_) λp9=>?_
    ·obtain⟨s10,s11,h,hj⟩:=hI;cases k with
     | zero=>cases h
     | succ k=>
      refine At.jr hj ?_ h;refine At.c 2 ?_ ?_
      ·refine bi λe12 he12=>?_;refine bi λe13 he13=>?_;refine lx ?_;intro x14;refine bi λz15 hz15=>?_;refine At.d 0 (dE1 3 (λ_=>bA hT j64 he12) (dE1 9 (λ_=>bA hT j64 he13) (dE1 13 (λ_=>aY hT (x:=(.sl 1 2 [(k8 (U8 (br e12 256))),(k8 x14)]))) dE0))) (dF 14 (eO 1 1 k8 z15) [(1,.tail (z15.length*1))] [] (bG (bN hT k8 (id:=1) (k:=1) hz15)) dF0) ?_;exact λh=>At.k 3 ⟨_,_,h,jr⟩
      ·apply rt;exact At.x 0
    ·apply rt;exact At.r 2
   ·refine At.o 7 (aY hT (x:=(.sl 1 1 [(k8 (U8 a0.gE.gD))]))) ?_;refine At.L 2 [11] 1 (λp16=>([(12,(eL 1 k8 p16))],[],[])) (λp16 J k=>∃s17 s18,kH N a0 k s17 s18=some p16/\J [11] 1 [(12,(eL 1 k8 s17)),(13,(j64 s18))] [] []) N (λ_ h=>⟨_,_,h,jr⟩) (λp16 k s hI=>?_) λp16=>?_
    ·obtain⟨s17,s18,h,hj⟩:=hI;cases k with
     | zero=>cases h
     | succ k=>
      refine At.jr hj ?_ h;refine At.c 2 ?_ ?_
      ·refine At.b 3 (λ_ e=>aD hT (k:=1) 0 [1] 1 e) λu19=>?_;refine At.b 0 (λ_ e=>aV hT j64 1 e) λe20=>?_;refine At.o 1 (aY hT (x:=(.sl 1 1 [(k64 (U64 e20))]))) ?_;refine At.b 0 (λ_ e=>aH [] (mA e)) λr21=>?_;exact λh=>At.k 7 ⟨_,_,h,jr⟩
      ·apply rt;exact At.x 0
    ·refine bi λr22 hr22=>?_;refine bi λr23 hr23=>?_;refine bi λr24 hr24=>?_;refine At.d 0 dE0 (dF 3 (eO 1 1 k8 r22) [] [.tail (r22.length*1)] (bG (aH [] (rQ hr22))) (dF 6 (eO 2 1 k8 r23) [] [.tail (r23.length*1)] (bG (aH [] (rQ hr23))) (dF 9 (eO 3 1 k8 r24) [] [.tail (r24.length*1)] (bG (aH [] (rQ hr24))) dF0))) ?_;apply rt;exact At.r 0
def fX(N:Nat)(a0:Int):Option (Int):=
 cond (a0==1) (
  some 2048) (
  cond (a0==2) (
   some 1024) (
   ae (cond (a0==3) (some (a0==3)) (some (a0==4))) λp1=>
   cond p1 (some 64) (some 0)))
theorem wT{N a0 r}(h:fX N a0=some r):FnM Tryz.prog 141 [] [(j64 a0)] (j64 r) []:=by
 unfold fX at h;refine At.f dI hT hmo Tryz.func141 rfl h ?_;refine At.c 4 ?_ ?_
 ·apply rt;exact At.r 1
 ·refine At.c 2 ?_ ?_
  ·apply rt;exact At.r 1
  ·refine At.J 0 1 [] 0 (λp1=>([(8,(eB p1))],[],[])) (λp1=>?_) λp1=>?_
   ·refine At.c 2 ?_ ?_
    ·apply rt;exact At.jn 0
    ·apply rt;exact At.jn 2
   ·refine At.c 0 ?_ ?_
    ·apply rt;exact At.r 1
    ·apply rt;exact At.r 1
def aDk : Nat->Bool:=imL [1]
def nC(N:Nat)(a0:aF):Option (Int):=
 ae (cond (a0.gD==1) (
  ae (nD N a0.gW) λr2=>
  ae (lI N a0.gA1) λr3=>
  cond r3 (
   some ((r2,true))) (
   aN (!(aG.eq a0.gJ (aG.mk 0 (#v[0,0,0]) 0))) λx4=>
   cond x4 (
    some ((r2,true))) (
    aN (!(aK.eq a0.gE (aK.mk 0 (#v[0,0,0]) (aB.mk 0 0 0) (aB.mk 0 0 0) (aB.mk 0 0 0)))) λx5=>
    some ((r2,x5))))) (
  cond (a0.gD==2) (
   ae (lD N a0.gA1) λr6=>
   ae (oA N a0.gW) λr7=>
   cond r7 (
    some ((r6,true))) (
    aN (!(aG.eq a0.gJ (aG.mk 0 (#v[0,0,0]) 0))) λx8=>
    cond x8 (
     some ((r6,true))) (
     aN (!(aK.eq a0.gE (aK.mk 0 (#v[0,0,0]) (aB.mk 0 0 0) (aB.mk 0 0 0) (aB.mk 0 0 0)))) λx9=>
     some ((r6,x9))))) (
   cond (a0.gD==3) (
    ae (nB N a0.gJ) λr10=>
    ae (oA N a0.gW) λr11=>
    cond r11 (
     some ((r10,true))) (
     ae (lI N a0.gA1) λr12=>
     cond r12 (
      some ((r10,true))) (
      aN (!(aK.eq a0.gE (aK.mk 0 (#v[0,0,0]) (aB.mk 0 0 0) (aB.mk 0 0 0) (aB.mk 0 0 0)))) λx13=>
      some ((r10,x13))))) (
    cond (a0.gD==4) (
     ae (pV N a0.gE) λr14=>
     ae (oA N a0.gW) λr15=>
     cond r15 (
      some ((r14,true))) (
      ae (lI N a0.gA1) λr16=>
      cond r16 (
       some ((r14,true))) (
       aN (!(aG.eq a0.gJ (aG.mk 0 (#v[0,0,0]) 0))) λx17=>
       some ((r14,x17))))) (
     some ((12,false))))))) λp1=>
 cond (p1.1 != 0) (
  some p1.1) (
  cond p1.2 (
   some 5) (
   ae (kW N a0) λr18=>
   ae (fX N a0.gD) λr19=>
   aN (decide (((r18.length:Int)) > r19)) λx20=>
   cond x20 (some 9) (some 0)))
theorem aC5{N a0 r}(h:nC N a0=some r):FnM Tryz.prog 91 [] [(aF.enc a0)] (j64 r) []:=by
 unfold nC at h;refine At.f aDk hT hmo Tryz.func91 rfl h ?_;refine At.J 4 1 [1] 0 (λp1=>([(3,(j64 p1.1)),(4,(eB p1.2))],[],[])) (λp1=>?_) λp1=>?_
 ·refine At.c 4 ?_ ?_
  ·refine At.b 2 (λ_ e=>aH [] (zF e)) λr2=>?_;refine At.b 3 (λ_ e=>aH [] (tI e)) λr3=>?_;refine At.s 15 1 ?_ ?_
   ·refine At.g [15,21] 12 ?_;apply rt;exact At.jn 0
   ·refine At.g [15] 3 ?_;refine At.o 0 (nK aJf (a0.gJ:aG) (aG.mk 0 (#v[0,0,0]) 0:aG) (by kernel_rfl) (by kernel_rfl) (λ_=>rfl) (λ_=>rfl) (by kernel_rfl) (by kernel_rfl)) ?_;refine lx ?_;intro x4;refine At.g [15] 2 ?_;refine At.s 21 0 ?_ ?_
    ·refine At.g [21] 6 ?_;apply rt;exact At.jn 0
    ·refine At.g [21] 3 ?_;refine At.o 0 (nK aJo (a0.gE:aK) (aK.mk 0 (#v[0,0,0]) (aB.mk 0 0 0) (aB.mk 0 0 0) (aB.mk 0 0 0):aK) (by kernel_rfl) (by kernel_rfl) (λ_=>rfl) (λ_=>rfl) (by kernel_rfl) (by kernel_rfl)) ?_;refine lx ?_;intro x5;refine At.g [21] 2 ?_;apply rt;exact At.jn 0
  ·refine At.c 2 ?_ ?_
   ·refine At.b 2 (λ_ e=>aH [] (zC e)) λr6=>?_;refine At.b 3 (λ_ e=>aH [] (vV e)) λr7=>?_;refine At.s 35 1 ?_ ?_
    ·refine At.g [35,41] 12 ?_;apply rt;exact At.jn 0
    ·refine At.g [35] 3 ?_;refine At.o 0 (nK aJf (a0.gJ:aG) (aG.mk 0 (#v[0,0,0]) 0:aG) (by kernel_rfl) (by kernel_rfl) (λ_=>rfl) (λ_=>rfl) (by kernel_rfl) (by kernel_rfl)) ?_;refine lx ?_;intro x8;refine At.g [35] 2 ?_;refine At.s 41 0 ?_ ?_
     ·refine At.g [41] 6 ?_;apply rt;exact At.jn 0
     ·refine At.g [41] 3 ?_;refine At.o 0 (nK aJo (a0.gE:aK) (aK.mk 0 (#v[0,0,0]) (aB.mk 0 0 0) (aB.mk 0 0 0) (aB.mk 0 0 0):aK) (by kernel_rfl) (by kernel_rfl) (λ_=>rfl) (λ_=>rfl) (by kernel_rfl) (by kernel_rfl)) ?_;refine lx ?_;intro x9;refine At.g [41] 2 ?_;apply rt;exact At.jn 0
   ·refine At.c 2 ?_ ?_
    ·refine At.b 2 (λ_ e=>aH [] (aBd e)) λr10=>?_;refine At.b 3 (λ_ e=>aH [] (vV e)) λr11=>?_;refine At.s 55 1 ?_ ?_
     ·refine At.g [55,60] 11 ?_;apply rt;exact At.jn 0
     ·refine At.g [55] 2 ?_;refine At.b 0 (λ_ e=>aH [] (tI e)) λr12=>?_;refine At.g [55] 2 ?_;refine At.s 60 0 ?_ ?_
      ·refine At.g [60] 6 ?_;apply rt;exact At.jn 0
      ·refine At.g [60] 3 ?_;refine At.o 0 (nK aJo (a0.gE:aK) (aK.mk 0 (#v[0,0,0]) (aB.mk 0 0 0) (aB.mk 0 0 0) (aB.mk 0 0 0):aK) (by kernel_rfl) (by kernel_rfl) (λ_=>rfl) (λ_=>rfl) (by kernel_rfl) (by kernel_rfl)) ?_;refine lx ?_;intro x13;refine At.g [60] 2 ?_;apply rt;exact At.jn 0
    ·refine At.c 2 ?_ ?_
     ·refine At.b 2 (λ_ e=>aH [] (aC0 e)) λr14=>?_;refine At.b 3 (λ_ e=>aH [] (vV e)) λr15=>?_;refine At.s 74 1 ?_ ?_
      ·refine At.g [74,79] 11 ?_;apply rt;exact At.jn 0
      ·refine At.g [74] 2 ?_;refine At.b 0 (λ_ e=>aH [] (tI e)) λr16=>?_;refine At.g [74] 2 ?_;refine At.s 79 0 ?_ ?_
       ·refine At.g [79] 6 ?_;apply rt;exact At.jn 0
       ·refine At.g [79] 3 ?_;refine At.o 0 (nK aJf (a0.gJ:aG) (aG.mk 0 (#v[0,0,0]) 0:aG) (by kernel_rfl) (by kernel_rfl) (λ_=>rfl) (λ_=>rfl) (by kernel_rfl) (by kernel_rfl)) ?_;refine lx ?_;intro x17;refine At.g [79] 2 ?_;apply rt;exact At.jn 0
     ·apply rt;exact At.jn 0
 ·refine At.c 2 ?_ ?_
  ·apply rt;exact At.r 2
  ·refine At.c 1 ?_ ?_
   ·apply rt;exact At.r 1
   ·refine bi λr18 hr18=>?_;refine bi λr19 hr19=>?_;refine lx ?_;intro x20;refine At.d 0 (dE2 1 (eL 1 k8 r18) (λ_=>bM (zE hr18)) (dE2 5 (j64 r19) (λ_=>bM (wT hr19)) dE0)) dF0 ?_;refine At.c 0 ?_ ?_
    ·apply rt;exact At.r 1
    ·apply rt;exact At.r 1
def aC7 : Nat->Bool:=imL [1]
def oF(N:Nat)(a0:aF):Option ((List Int)×Int):=
 ae (nC N a0) λr1=>
 cond (r1 != 0) (
  some (([],r1))) (
  ae (kW N a0) λr2=>
  some ((r2,0)))
theorem aCR{N a0 r}(h:oF N a0=some r):FnM Tryz.prog 59 [] [(aF.enc a0)] (.tup [(eL 1 k8 r.1),(j64 r.2)]) []:=by
 unfold oF at h;refine At.f aC7 hT hmo Tryz.func59 rfl h ?_;refine At.b 4 (λ_ e=>aH [] (aC5 e)) λr1=>?_;refine At.c 3 ?_ ?_
 ·apply rt;exact At.r 3
 ·refine At.b 1 (λ_ e=>aH [] (zE e)) λr2=>?_;apply rt;exact At.r 2
def jF(N:Nat)(a0:Int):Nat->Int->Option (Int)
 | 0,_=>none
 | k+1,s2=>
  aN (decide (a0 > (I64 (256*s2)))) λx3=>
  aN (cond x3 (decide (s2 < 1000)) false) λx4=>
  cond x4 (jF N a0 k (I64 (s2+1))) (some s2)
def mI(N:Nat)(a0:Int):Option (Int):=
 ae (jF N a0 N 0) λp1=>
 ae (aN (decide (a0 > (I64 (256*p1)))) λx6=>
 cond x6 (
  aN (mY (br a0 256) 1) λx7=>
  aN (I64 ((I64 (cv a0 256))+x7)) λx8=>
  some x8) (
  some p1)) λp5=>
 some p5
theorem yE{N a0 r}(h:mI N a0=some r):FnM Tryz.prog 60 [] [(j64 a0)] (j64 r) []:=by
 unfold mI at h;refine At.f dI hT hmo Tryz.func60 rfl h ?_;refine At.L 2 [0] 0 (λp1=>([(3,(j64 p1))],[],[])) (λp1 J k=>∃s2,jF N a0 k s2=some p1/\J [0] 0 [(3,(j64 s2))] [] []) N (λ_ h=>⟨_,h,jr⟩) (λp1 k s hI=>?_) λp1=>?_
 ·obtain⟨s2,h,hj⟩:=hI;cases k with
  | zero=>cases h
  | succ k=>
   refine At.jr hj ?_ h;refine lx ?_;intro x3;refine lx ?_;intro x4;refine At.c 8 ?_ ?_
   ·exact λh=>At.k 3 ⟨_,h,jr⟩
   ·apply rt;exact At.x 0
 ·refine At.J 0 1 [] 0 (λp5=>([(3,(j64 p5))],[],[])) (λp5=>?_) λp5=>?_
  ·refine lx ?_;intro x6;refine At.c 4 ?_ ?_
   ·refine lx ?_;intro x7;refine lx ?_;intro x8;apply rt;exact At.jn 7
   ·apply rt;exact At.jn 0
  ·apply rt;exact At.r 2
def aDW : Nat->Bool:=imL [1]
def iC(N:Nat)(a0:aE):Nat->Int->Option (Sum (Unit) (Int))
 | 0,_=>none
 | k+1,s3=>
  cond (decide (s3 < 8)) (
   ae (idx a0.gA3.toList s3) λe4=>
   cond (decide (e4>=16)) (
    some (Sum.inr 5)) (
    iC N a0 k (I64 (s3+1)))) (
   some (Sum.inl (())))
def pT(N:Nat)(a0:aE):Option (Int):=
 ae (fX N a0.gD) λr1=>
 cond (r1==0) (
  some 12) (
  ae (iC N a0 N 0) λo=>qS o (λp2=>
   aN (decide (a0.gA4 > a0.gTo)) λx5=>
   aN (cond x5 true (decide (a0.gA0 < 1))) λx6=>
   cond x6 (
    some 5) (
    ae (fX N a0.gD) λr7=>
    cond (decide (a0.gA0 > r7)) (
     some 9) (
     ae (mI N a0.gA0) λr8=>
     cond (a0.gA7 != r8) (some 5) (some 0)))) (λr=>some r))
theorem aCt{N a0 r}(h:pT N a0=some r):FnM Tryz.prog 93 [] [(aE.enc a0)] (j64 r) []:=by
 unfold pT at h;refine At.f aDW hT hmo Tryz.func93 rfl h ?_;refine At.b 4 (λ_ e=>aH [] (wT e)) λr1=>?_;refine At.c 1 ?_ ?_
 ·apply rt;exact At.r 1
 ·refine At.LS 1 [1] 0 (λp2=>([],[],[])) (λop2 J k=>∃s3,iC N a0 k s3=some op2/\J [1] 0 [(3,(j64 s3))] [] []) N (λ_ h=>⟨_,h,jr⟩) (λop2 g2 k s hI=>?_) λp2=>?_
  ·obtain⟨s3,h,hj⟩:=hI;cases k with
   | zero=>cases h
   | succ k=>
    refine At.jr hj ?_ h;refine At.c 2 ?_ ?_
    ·refine At.b 2 (λ_ e=>bK hT (N:=8) (k:=1) k8 a0.gA3 e) λe4=>?_;refine At.c 2 ?_ ?_
     ·intro e;apply aAT g2 e;exact At.r 1
     ·exact λh=>At.k 3 ⟨_,h,jr⟩
    ·apply rt;exact At.xs 0
  ·refine lx ?_;intro x5;refine lx ?_;intro x6;refine At.c 10 ?_ ?_
   ·apply rt;exact At.r 1
   ·refine bi λr7 hr7=>?_;refine At.d 0 (dE2 4 (j64 r7) (λ_=>bM (wT hr7)) dE0) dF0 ?_;refine At.c 0 ?_ ?_
    ·apply rt;exact At.r 1
    ·refine bi λr8 hr8=>?_;refine At.d 0 (dE2 4 (j64 r8) (λ_=>bM (yE hr8)) dE0) dF0 ?_;refine At.c 0 ?_ ?_
     ·apply rt;exact At.r 1
     ·apply rt;exact At.r 1
def aC1 : Nat->Bool:=imL [1]
def fP(N:Nat)(a0:aE):Nat->(List Int)->Int->Option ((List Int))
 | 0,_,_=>none
 | k+1,s6,s7=>
  cond (decide (s7 < 8)) (
   ae (idx a0.gA3.toList s7) λe8=>
   ae (iB 1 s6 (([e8]:List Int))) λz9=>
   fP N a0 k z9 (I64 (s7+1))) (
   some s6)
def mO(N:Nat)(a0:aE):Option ((List Int)×Int):=
 ae (pT N a0) λr1=>
 cond (r1 != 0) (
  some (([],r1))) (
  ae (bP N [] 8 ([a0.gId])) λr2=>
  ae (bP N r2.1 1 ([U64 a0.gD])) λr3=>
  ae (bP N r3.1 4 ([U64 a0.gA6])) λr4=>
  ae (fP N a0 N r4.1 0) λp5=>
  ae (bP N p5 4 ([U64 a0.gA4,U64 a0.gTo,U64 a0.gA0])) λr10=>
  ae (bP N r10.1 2 ([U64 a0.gA7])) λr11=>
  some ((r11.1,0)))
theorem aCS{N a0 r}(h:mO N a0=some r):FnM Tryz.prog 61 [] [(aE.enc a0)] (.tup [(eL 1 k8 r.1),(j64 r.2)]) []:=by
 unfold mO at h;refine At.f aC1 hT hmo Tryz.func61 rfl h ?_;refine At.b 4 (λ_ e=>aH [] (aCt e)) λr1=>?_;refine At.c 3 ?_ ?_
 ·apply rt;exact At.r 3
 ·refine At.o 2 (aY hT (x:=(.sl 1 1 [(k64 a0.gId)]))) ?_;refine At.b 0 (λ_ e=>aH [] (mA e)) λr2=>?_;refine At.o 9 (aY hT (x:=(.sl 1 1 [(k64 (U64 a0.gD))]))) ?_;refine At.b 0 (λ_ e=>aH [] (mA e)) λr3=>?_;refine At.o 8 (aY hT (x:=(.sl 1 1 [(k64 (U64 a0.gA6))]))) ?_;refine At.b 0 (λ_ e=>aH [] (mA e)) λr4=>?_;refine At.L 5 [1] 3 (λp5=>([(5,(eO 2 1 k8 p5))],[(2,.tail (p5.length*1))],[])) (λp5 J k=>∃s6 s7,fP N a0 k s6 s7=some p5/\J [1] 3 [(5,(eO 2 1 k8 s6)),(7,(j64 s7))] [(2,.tail (s6.length*1))] []) N (λ_ h=>⟨_,_,h,jr⟩) (λp5 k s hI=>?_) λp5=>?_
  ·obtain⟨s6,s7,h,hj⟩:=hI;cases k with
   | zero=>cases h
   | succ k=>
    refine At.jr hj ?_ h;refine At.c 2 ?_ ?_
    ·refine At.b 3 (λ_ e=>bK hT (N:=8) (k:=1) k8 a0.gA3 e) λe8=>?_;refine At.o 1 (aY hT (x:=(.sl 1 1 [(k8 e8)]))) ?_;refine At.b 0 (λ_ e=>bN hT k8 (id:=2) (k:=1) e) λz9=>?_;exact λh=>At.k 4 ⟨_,_,h,jr⟩
    ·apply rt;exact At.x 0
  ·refine At.o 10 (aY hT (x:=(.sl 1 3 [(k64 (U64 a0.gA4)),(k64 (U64 a0.gTo)),(k64 (U64 a0.gA0))]))) ?_;refine At.b 0 (λ_ e=>aH [] (mA e)) λr10=>?_;refine At.o 8 (aY hT (x:=(.sl 1 1 [(k64 (U64 a0.gA7))]))) ?_;refine At.b 0 (λ_ e=>aH [] (mA e)) λr11=>?_;apply rt;exact At.r 7
def aDl : Nat->Bool:=imL [2]
def kE(N:Nat)(a0:(Vector Int 8)):Nat->(Vector Int 12)->Int->Option ((Vector Int 12))
 | 0,_,_=>none
 | k+1,s2,s3=>
  cond (decide (s3 < 8)) (
   ae (idx a0.toList s3) λe4=>
   ae (aP s3 12) λ_=>
   ae (s2.toList[s3.toNat]?) λe6=>
   kE N a0 k (s2.setIfInBounds s3.toNat e4) (I64 (s3+1))) (
   some s2)
def kI(N:Nat)(a1:Int):Nat->(Vector Int 12)->Int->Option ((Vector Int 12))
 | 0,_,_=>none
 | k+1,s8,s9=>
  cond (decide (s9 < 4)) (
   ae (yW .u32 (U32 a1) (I64 (8*s9))) λx10=>
   ae (aP (I64 (8+s9)) 12) λ_=>
   ae (s8.toList[(I64 (8+s9)).toNat]?) λe12=>
   kI N a1 k (s8.setIfInBounds ((I64 (8+s9)).toNat) (U8 x10)) (I64 (s9+1))) (
   some s8)
def lB(N:Nat)(a0:(Vector Int 8))(a1:Int):Option ((Vector Int 12)):=
 ae (kE N a0 N (ag 12 0) 0) λp1=>
 ae (kI N a1 N p1 0) λp7=>
 some p7
theorem yZ{N a0 a1 r}(h:lB N a0 a1=some r):FnM Tryz.prog 77 [] [(eA 8 1 k8 a0),(j64 a1)] (eA 12 1 k8 r) []:=by
 unfold lB at h;refine At.f aDl hT hmo Tryz.func77 rfl h ?_;refine At.L 4 [1,4,5] 2 (λp1=>([],[(1,.var (eA 12 1 k8 p1))],[])) (λp1 J k=>∃s2 s3,kE N a0 k s2 s3=some p1/\J [1,2,4,5] 2 [(6,(j64 s3))] [(1,.var (eA 12 1 k8 s2))] []) N (λ_ h=>⟨_,_,h,jr⟩) (λp1 k s hI=>?_) λp1=>?_
 ·obtain⟨s2,s3,h,hj⟩:=hI;cases k with
  | zero=>cases h
  | succ k=>
   refine At.jr hj ?_ h;refine At.c 2 ?_ ?_
   ·refine At.b 2 (λ_ e=>bK hT (N:=8) (k:=1) k8 a0 e) λe4=>?_;refine At.b 1 (λ_ e=>aD hT (k:=1) 1 [] 0 e) λu5=>?_;refine At.b 0 (λ_ e=>bB hT k8 0 s2 e e4 (by kernel_rfl) (by kernel_rfl) (H':=[.var (eA 12 1 k8 (ag 12 0)),.var (eA 12 1 k8 (s2.setIfInBounds s3.toNat e4))])) λe6=>?_;exact λh=>At.k 3 ⟨_,_,h,jr⟩
   ·apply rt;exact At.x 0
 ·refine At.L 4 [4,5] 2 (λp7=>([],[(1,.var (eA 12 1 k8 p7))],[])) (λp7 J k=>∃s8 s9,kI N a1 k s8 s9=some p7/\J [4,5,7] 2 [(8,(j64 s9))] [(1,.var (eA 12 1 k8 s8))] []) N (λ_ h=>⟨_,_,h,jr⟩) (λp7 k s hI=>?_) λp7=>?_
  ·obtain⟨s8,s9,h,hj⟩:=hI;cases k with
   | zero=>cases h
   | succ k=>
    refine At.jr hj ?_ h;refine At.c 2 ?_ ?_
    ·refine At.b 5 (λ_ e=>nN hT (k' := .i64) e (by kernel_rfl) (by kernel_rfl)) λx10=>?_;refine At.b 1 (λ_ e=>aD hT (k:=1) 1 [] 0 e) λu11=>?_;refine At.b 0 (λ_ e=>bB hT k8 0 s8 e (U8 x10) (by kernel_rfl) (by kernel_rfl) (H':=[.var (eA 12 1 k8 (ag 12 0)),.var (eA 12 1 k8 (s8.setIfInBounds ((I64 (8+s9)).toNat) (U8 x10)))])) λe12=>?_;exact λh=>At.k 3 ⟨_,_,h,jr⟩
    ·apply rt;exact At.x 0
  ·apply rt;exact At.r 2
def eE(N:Nat)(a0:(List Int)):Nat->Int->Int->Option (Int)
 | 0,_,_=>none
 | k+1,s2,s3=>
  cond (decide (s3>=0)) (
   ae (idx a0 s3) λe4=>
   aN (U32 ((U32 (s2*256))+(U32 e4))) λx5=>
   eE N a0 k x5 (I64 (s3 - 1))) (
   some s2)
def hQ(N:Nat)(a0:(List Int)):Option (Int):=
 ae (eE N a0 N 0 3) λp1=>
 some p1
theorem uH{N a0 r}(h:hQ N a0=some r):FnM Tryz.prog 231 [] [(eL 1 k8 a0)] (k32 r) []:=by
 unfold hQ at h;refine At.f dI hT hmo Tryz.func231 rfl h ?_;refine At.L 3 [] 0 (λp1=>([(3,(k32 p1))],[],[])) (λp1 J k=>∃s2 s3,eE N a0 k s2 s3=some p1/\J [0] 0 [(3,(k32 s2)),(4,(j64 s3))] [] []) N (λ_ h=>⟨_,_,h,jr⟩) (λp1 k s hI=>?_) λp1=>?_
 ·obtain⟨s2,s3,h,hj⟩:=hI;cases k with
  | zero=>cases h
  | succ k=>
   refine At.jr hj ?_ h;refine At.c 2 ?_ ?_
   ·refine At.b 4 (λ_ e=>bA hT k8 e) λe4=>?_;refine lx ?_;intro x5;exact λh=>At.k 7 ⟨_,_,h,jr⟩
   ·apply rt;exact At.x 0
 ·apply rt;exact At.r 2
def aDq : Nat->Bool:=imL [3,5]
def qI(N:Nat)  : Nat->(Vector Int 16)->Int->Option ((Vector Int 16))
 | 0,_,_=>none
 | k+1,s2,s3=>
  cond (decide (s3 < 4)) (
   ae (idx aNG.data.toList (I64 (4*s3))) λc4=>
   aN (I64 ((I64 (4*s3))+1)) λx5=>
   ae (idx aNG.data.toList x5) λc6=>
   aN (I64 ((I64 (4*s3))+2)) λx7=>
   ae (idx aNG.data.toList x7) λc8=>
   aN (I64 ((I64 (4*s3))+3)) λx9=>
   ae (idx aNG.data.toList x9) λc10=>
   ae (hQ N ([(UInt8.toNat c4:Int),(UInt8.toNat c6:Int),(UInt8.toNat c8:Int),(UInt8.toNat c10:Int)])) λr11=>
   ae (aP s3 16) λ_=>
   ae (s2.toList[s3.toNat]?) λe13=>
   qI N k (s2.setIfInBounds s3.toNat r11) (I64 (s3+1))) (
   some s2)
def eT(N:Nat)(a0:(Vector Int 32)):Nat->(Vector Int 16)->Int->Option ((Vector Int 16))
 | 0,_,_=>none
 | k+1,s15,s16=>
  cond (decide (s16 < 8)) (
   aN (I64 ((I64 (4*s16))+4)) λx17=>
   ae (dU a0.toList (I64 (4*s16)) x17) λs18=>
   ae (hQ N s18) λr19=>
   ae (aP (I64 (4+s16)) 16) λ_=>
   ae (s15.toList[(I64 (4+s16)).toNat]?) λe21=>
   eT N a0 k (s15.setIfInBounds ((I64 (4+s16)).toNat) r19) (I64 (s16+1))) (
   some s15)
def eQ(N:Nat)(a2:(Vector Int 12)):Nat->(Vector Int 16)->Int->Option ((Vector Int 16))
 | 0,_,_=>none
 | k+1,s25,s26=>
  cond (decide (s26 < 3)) (
   aN (I64 ((I64 (4*s26))+4)) λx27=>
   ae (dU a2.toList (I64 (4*s26)) x27) λs28=>
   ae (hQ N s28) λr29=>
   ae (aP (I64 (13+s26)) 16) λ_=>
   ae (s25.toList[(I64 (13+s26)).toNat]?) λe31=>
   eQ N a2 k (s25.setIfInBounds ((I64 (13+s26)).toNat) r29) (I64 (s26+1))) (
   some s25)
def nF(N:Nat)(a0:(Vector Int 32))(a1:Int)(a2:(Vector Int 12)):Option ((Vector Int 16)):=
 ae (qI N N (ag 16 0) 0) λp1=>
 ae (eT N a0 N p1 0) λp14=>
 ae (aP 12 16) λ_=>
 ae (p14.toList[(af 12)]?) λe23=>
 ae (eQ N a2 N (p14.setIfInBounds ((af 12)) a1) 0) λp24=>
 some p24
theorem zG{N a0 a1 a2 r}(h:nF N a0 a1 a2=some r):FnM Tryz.prog 222 [] [(eA 32 1 k8 a0),(k32 a1),(eA 12 1 k8 a2)] (eA 16 1 k32 r) []:=by
 unfold nF at h;refine At.f aDq hT hmo Tryz.func222 rfl h ?_;refine At.L 6 [1,3,5,6,7] 2 (λp1=>([],[(1,.var (eA 16 1 k32 p1))],[])) (λp1 J k=>∃s2 s3,qI N k s2 s3=some p1/\J [1,3,5,6,7,8] 2 [(9,(j64 s3))] [(1,.var (eA 16 1 k32 s2))] []) N (λ_ h=>⟨_,_,h,jr⟩) (λp1 k s hI=>?_) λp1=>?_
 ·obtain⟨s2,s3,h,hj⟩:=hI;cases k with
  | zero=>cases h
  | succ k=>
   refine At.jr hj ?_ h;refine At.c 2 ?_ ?_
   ·refine bi λc4 hc4=>?_;refine lx ?_;intro x5;refine bi λc6 hc6=>?_;refine lx ?_;intro x7;refine bi λc8 hc8=>?_;refine lx ?_;intro x9;refine bi λc10 hc10=>?_;refine bi λr11 hr11=>?_;refine bi λu12 hu12=>?_;refine bi λe13 he13=>?_;refine At.d 0 (dE1 4 (λ_=>aGu hT hc4 (by kernel_rfl) (by kernel_rfl)) (dE1 9 (λ_=>aGu hT hc6 (by kernel_rfl) (by kernel_rfl)) (dE1 14 (λ_=>aGu hT hc8 (by kernel_rfl) (by kernel_rfl)) (dE1 19 (λ_=>aGu hT hc10 (by kernel_rfl) (by kernel_rfl)) (dE1 20 (λ_=>aY hT (x:=(.sl 1 4 [(k8 ((UInt8.toNat c4:Int))),(k8 ((UInt8.toNat c6:Int))),(k8 ((UInt8.toNat c8:Int))),(k8 ((UInt8.toNat c10:Int)))]))) (dE2 21 (k32 r11) (λ_=>bM (uH hr11)) (dE1 22 (λ_=>aD hT (k:=1) 1 [] 0 hu12) dE0))))))) (dF 23 (.v (.bool false)) [(1,.var (eA 16 1 k32 (s2.setIfInBounds s3.toNat r11)))] [] (bG (bB hT k32 0 s2 he13 r11 (by kernel_rfl) (by kernel_rfl) (H':=[.var (eA 16 1 k32 (ag 16 0)),.var (eA 16 1 k32 (s2.setIfInBounds s3.toNat r11))]))) dF0) ?_;exact λh=>At.k 3 ⟨_,_,h,jr⟩
   ·apply rt;exact At.x 0
 ·refine At.L 1 [1,5,6,7] 2 (λp14=>([],[(1,.var (eA 16 1 k32 p14))],[])) (λp14 J k=>∃s15 s16,eT N a0 k s15 s16=some p14/\J [1,3,5,6,7] 2 [(10,(j64 s16))] [(1,.var (eA 16 1 k32 s15))] []) N (λ_ h=>⟨_,_,h,jr⟩) (λp14 k s hI=>?_) λp14=>?_
  ·obtain⟨s15,s16,h,hj⟩:=hI;cases k with
   | zero=>cases h
   | succ k=>
    refine At.jr hj ?_ h;refine At.c 2 ?_ ?_
    ·refine lx ?_;intro x17;refine At.b 7 (λ_ e=>jX hT (N:=32) (k:=1) k8 a0 e) λs18=>?_;refine At.b 0 (λ_ e=>aH [] (uH e)) λr19=>?_;refine At.b 0 (λ_ e=>aD hT (k:=1) 1 [] 0 e) λu20=>?_;refine At.b 0 (λ_ e=>bB hT k32 0 s15 e r19 (by kernel_rfl) (by kernel_rfl) (H':=[.var (eA 16 1 k32 (ag 16 0)),.var (eA 16 1 k32 (s15.setIfInBounds ((I64 (4+s16)).toNat) r19))])) λe21=>?_;exact λh=>At.k 3 ⟨_,_,h,jr⟩
    ·apply rt;exact At.x 0
  ·refine At.b 1 (λ_ e=>aD hT (k:=1) 1 [] 0 e) λu22=>?_;refine At.b 0 (λ_ e=>bB hT k32 0 p14 e a1 (by kernel_rfl) (by kernel_rfl) (H':=[.var (eA 16 1 k32 (ag 16 0)),.var (eA 16 1 k32 (p14.setIfInBounds ((af 12)) a1))])) λe23=>?_;refine At.L 1 [6,7] 2 (λp24=>([],[(1,.var (eA 16 1 k32 p24))],[])) (λp24 J k=>∃s25 s26,eQ N a2 k s25 s26=some p24/\J [5,6,7] 2 [(11,(j64 s26))] [(1,.var (eA 16 1 k32 s25))] []) N (λ_ h=>⟨_,_,h,jr⟩) (λp24 k s hI=>?_) λp24=>?_
   ·obtain⟨s25,s26,h,hj⟩:=hI;cases k with
    | zero=>cases h
    | succ k=>
     refine At.jr hj ?_ h;refine At.c 2 ?_ ?_
     ·refine lx ?_;intro x27;refine At.b 7 (λ_ e=>jX hT (N:=12) (k:=1) k8 a2 e) λs28=>?_;refine At.b 0 (λ_ e=>aH [] (uH e)) λr29=>?_;refine At.b 0 (λ_ e=>aD hT (k:=1) 1 [] 0 e) λu30=>?_;refine At.b 0 (λ_ e=>bB hT k32 0 s25 e r29 (by kernel_rfl) (by kernel_rfl) (H':=[.var (eA 16 1 k32 (ag 16 0)),.var (eA 16 1 k32 (s25.setIfInBounds ((I64 (13+s26)).toNat) r29))])) λe31=>?_;exact λh=>At.k 3 ⟨_,_,h,jr⟩
     ·apply rt;exact At.x 0
   ·apply rt;exact At.r 2
def dK(N:Nat)(a0 a1:Int):Option (Int):=
 ae (aFf .u32 a0 a1) λx1=>
 ae (yW .u32 a0 (I64 (32 - a1))) λx2=>
 some (bor .u32 x1 x2)
theorem sP{N a0 a1 r}(h:dK N a0 a1=some r):FnM Tryz.prog 234 [] [(k32 a0),(j64 a1)] (k32 r) []:=by
 unfold dK at h;refine At.f dI hT hmo Tryz.func234 rfl h ?_;refine bi λx1 hx1=>?_;refine bi λx2 hx2=>?_;refine At.d 1 (dE1 2 (λ_=>xU hT (k' := .i64) hx1 (by kernel_rfl) (by kernel_rfl)) (dE1 6 (λ_=>nN hT (k' := .i64) hx2 (by kernel_rfl) (by kernel_rfl)) dE0)) dF0 ?_;apply rt;exact At.r 0
def nU(N:Nat)(a0:(Vector Int 4)):Option ((Vector Int 4)):=
 ae (aP 0 4) λ_=>
 ae (a0.toList[(af 0)]?) λe2=>
 ae (aP 1 4) λ_=>
 ae (a0.toList[(af 1)]?) λe4=>
 ae (aP 0 4) λ_=>
 ae (a0.toList[(af 0)]?) λe6=>
 ae (aP 3 4) λ_=>
 ae ((a0.setIfInBounds ((af 0)) (U32 (e2+e4))).toList[(af 3)]?) λe8=>
 ae (aP 0 4) λ_=>
 ae ((a0.setIfInBounds ((af 0)) (U32 (e2+e4))).toList[(af 0)]?) λe10=>
 ae (dK N (eZ .u32 e8 e10) 16) λr11=>
 ae (aP 3 4) λ_=>
 ae ((a0.setIfInBounds ((af 0)) (U32 (e2+e4))).toList[(af 3)]?) λe13=>
 ae (aP 2 4) λ_=>
 ae (((a0.setIfInBounds ((af 0)) (U32 (e2+e4))).setIfInBounds ((af 3)) r11).toList[(af 2)]?) λe15=>
 ae (aP 3 4) λ_=>
 ae (((a0.setIfInBounds ((af 0)) (U32 (e2+e4))).setIfInBounds ((af 3)) r11).toList[(af 3)]?) λe17=>
 ae (aP 2 4) λ_=>
 ae (((a0.setIfInBounds ((af 0)) (U32 (e2+e4))).setIfInBounds ((af 3)) r11).toList[(af 2)]?) λe19=>
 ae (aP 1 4) λ_=>
 ae ((((a0.setIfInBounds ((af 0)) (U32 (e2+e4))).setIfInBounds ((af 3)) r11).setIfInBounds ((af 2)) (U32 (e15+e17))).toList[(af 1)]?) λe21=>
 ae (aP 2 4) λ_=>
 ae ((((a0.setIfInBounds ((af 0)) (U32 (e2+e4))).setIfInBounds ((af 3)) r11).setIfInBounds ((af 2)) (U32 (e15+e17))).toList[(af 2)]?) λe23=>
 ae (dK N (eZ .u32 e21 e23) 12) λr24=>
 ae (aP 1 4) λ_=>
 ae ((((a0.setIfInBounds ((af 0)) (U32 (e2+e4))).setIfInBounds ((af 3)) r11).setIfInBounds ((af 2)) (U32 (e15+e17))).toList[(af 1)]?) λe26=>
 ae (aP 0 4) λ_=>
 ae (((((a0.setIfInBounds ((af 0)) (U32 (e2+e4))).setIfInBounds ((af 3)) r11).setIfInBounds ((af 2)) (U32 (e15+e17))).setIfInBounds ((af 1)) r24).toList[(af 0)]?) λe28=>
 ae (aP 1 4) λ_=>
 ae (((((a0.setIfInBounds ((af 0)) (U32 (e2+e4))).setIfInBounds ((af 3)) r11).setIfInBounds ((af 2)) (U32 (e15+e17))).setIfInBounds ((af 1)) r24).toList[(af 1)]?) λe30=>
 ae (aP 0 4) λ_=>
 ae (((((a0.setIfInBounds ((af 0)) (U32 (e2+e4))).setIfInBounds ((af 3)) r11).setIfInBounds ((af 2)) (U32 (e15+e17))).setIfInBounds ((af 1)) r24).toList[(af 0)]?) λe32=>
 ae (aP 3 4) λ_=>
 ae ((((((a0.setIfInBounds ((af 0)) (U32 (e2+e4))).setIfInBounds ((af 3)) r11).setIfInBounds ((af 2)) (U32 (e15+e17))).setIfInBounds ((af 1)) r24).setIfInBounds ((af 0)) (U32 (e28+e30))).toList[(af 3)]?) λe34=>
 ae (aP 0 4) λ_=>
 ae ((((((a0.setIfInBounds ((af 0)) (U32 (e2+e4))).setIfInBounds ((af 3)) r11).setIfInBounds ((af 2)) (U32 (e15+e17))).setIfInBounds ((af 1)) r24).setIfInBounds ((af 0)) (U32 (e28+e30))).toList[(af 0)]?) λe36=>
 ae (dK N (eZ .u32 e34 e36) 8) λr37=>
 ae (aP 3 4) λ_=>
 ae ((((((a0.setIfInBounds ((af 0)) (U32 (e2+e4))).setIfInBounds ((af 3)) r11).setIfInBounds ((af 2)) (U32 (e15+e17))).setIfInBounds ((af 1)) r24).setIfInBounds ((af 0)) (U32 (e28+e30))).toList[(af 3)]?) λe39=>
 ae (aP 2 4) λ_=>
 ae (((((((a0.setIfInBounds ((af 0)) (U32 (e2+e4))).setIfInBounds ((af 3)) r11).setIfInBounds ((af 2)) (U32 (e15+e17))).setIfInBounds ((af 1)) r24).setIfInBounds ((af 0)) (U32 (e28+e30))).setIfInBounds ((af 3)) r37).toList[(af 2)]?) λe41=>
 ae (aP 3 4) λ_=>
 ae (((((((a0.setIfInBounds ((af 0)) (U32 (e2+e4))).setIfInBounds ((af 3)) r11).setIfInBounds ((af 2)) (U32 (e15+e17))).setIfInBounds ((af 1)) r24).setIfInBounds ((af 0)) (U32 (e28+e30))).setIfInBounds ((af 3)) r37).toList[(af 3)]?) λe43=>
 ae (aP 2 4) λ_=>
 ae (((((((a0.setIfInBounds ((af 0)) (U32 (e2+e4))).setIfInBounds ((af 3)) r11).setIfInBounds ((af 2)) (U32 (e15+e17))).setIfInBounds ((af 1)) r24).setIfInBounds ((af 0)) (U32 (e28+e30))).setIfInBounds ((af 3)) r37).toList[(af 2)]?) λe45=>
 ae (aP 1 4) λ_=>
 ae ((((((((a0.setIfInBounds ((af 0)) (U32 (e2+e4))).setIfInBounds ((af 3)) r11).setIfInBounds ((af 2)) (U32 (e15+e17))).setIfInBounds ((af 1)) r24).setIfInBounds ((af 0)) (U32 (e28+e30))).setIfInBounds ((af 3)) r37).setIfInBounds ((af 2)) (U32 (e41+e43))).toList[(af 1)]?) λe47=>
 ae (aP 2 4) λ_=>
 ae ((((((((a0.setIfInBounds ((af 0)) (U32 (e2+e4))).setIfInBounds ((af 3)) r11).setIfInBounds ((af 2)) (U32 (e15+e17))).setIfInBounds ((af 1)) r24).setIfInBounds ((af 0)) (U32 (e28+e30))).setIfInBounds ((af 3)) r37).setIfInBounds ((af 2)) (U32 (e41+e43))).toList[(af 2)]?) λe49=>
 ae (dK N (eZ .u32 e47 e49) 7) λr50=>
 ae (aP 1 4) λ_=>
 ae ((((((((a0.setIfInBounds ((af 0)) (U32 (e2+e4))).setIfInBounds ((af 3)) r11).setIfInBounds ((af 2)) (U32 (e15+e17))).setIfInBounds ((af 1)) r24).setIfInBounds ((af 0)) (U32 (e28+e30))).setIfInBounds ((af 3)) r37).setIfInBounds ((af 2)) (U32 (e41+e43))).toList[(af 1)]?) λe52=>
 some ((((((((a0.setIfInBounds ((af 0)) (U32 (e2+e4))).setIfInBounds ((af 3)) r11).setIfInBounds ((af 2)) (U32 (e15+e17))).setIfInBounds ((af 1)) r24).setIfInBounds ((af 0)) (U32 (e28+e30))).setIfInBounds ((af 3)) r37).setIfInBounds ((af 2)) (U32 (e41+e43))).setIfInBounds ((af 1)) r50)
theorem aBy{N a0 r}(h:nU N a0=some r):FnM Tryz.prog 232 [] [(eA 4 1 k32 a0)] (eA 4 1 k32 r) []:=by
 unfold nU at h;refine At.f dI hT hmo Tryz.func232 rfl h ?_;refine At.b 2 (λ_ e=>aD hT (k:=1) 0 [] 0 e) λu1=>?_;refine At.b 0 (λ_ e=>aV hT k32 0 e) λe2=>?_;refine At.b 0 (λ_ e=>aD hT (k:=1) 0 [] 0 e) λu3=>?_;refine At.b 0 (λ_ e=>aV hT k32 0 e) λe4=>?_;refine At.b 1 (λ_ e=>aD hT (k:=1) 0 [] 0 e) λu5=>?_;refine At.b 0 (λ_ e=>bB hT k32 0 a0 e (U32 (e2+e4)) (by kernel_rfl) (by kernel_rfl) (H':=[.var (eA 4 1 k32 (a0.setIfInBounds ((af 0)) (U32 (e2+e4)))),.var (.arr 4 1 [(k32 0),(k32 0),(k32 0),(k32 0)])])) λe6=>?_;refine At.b 0 (λ_ e=>aD hT (k:=1) 0 [] 0 e) λu7=>?_;refine At.b 0 (λ_ e=>aV hT k32 0 e) λe8=>?_;refine At.b 0 (λ_ e=>aD hT (k:=1) 0 [] 0 e) λu9=>?_;refine At.b 0 (λ_ e=>aV hT k32 0 e) λe10=>?_;refine At.b 1 (λ_ e=>aH [] (sP e)) λr11=>?_;refine At.b 0 (λ_ e=>aD hT (k:=1) 0 [] 0 e) λu12=>?_;refine At.b 0 (λ_ e=>bB hT k32 0 (a0.setIfInBounds ((af 0)) (U32 (e2+e4))) e r11 (by kernel_rfl) (by kernel_rfl) (H':=[.var (eA 4 1 k32 ((a0.setIfInBounds ((af 0)) (U32 (e2+e4))).setIfInBounds ((af 3)) r11)),.var (.arr 4 1 [(k32 0),(k32 0),(k32 0),(k32 0)])])) λe13=>?_;refine At.b 0 (λ_ e=>aD hT (k:=1) 0 [] 0 e) λu14=>?_;refine At.b 0 (λ_ e=>aV hT k32 0 e) λe15=>?_;refine At.b 0 (λ_ e=>aD hT (k:=1) 0 [] 0 e) λu16=>?_;refine At.b 0 (λ_ e=>aV hT k32 0 e) λe17=>?_;refine At.b 1 (λ_ e=>aD hT (k:=1) 0 [] 0 e) λu18=>?_;refine At.b 0 (λ_ e=>bB hT k32 0 ((a0.setIfInBounds ((af 0)) (U32 (e2+e4))).setIfInBounds ((af 3)) r11) e (U32 (e15+e17)) (by kernel_rfl) (by kernel_rfl) (H':=[.var (eA 4 1 k32 (((a0.setIfInBounds ((af 0)) (U32 (e2+e4))).setIfInBounds ((af 3)) r11).setIfInBounds ((af 2)) (U32 (e15+e17)))),.var (.arr 4 1 [(k32 0),(k32 0),(k32 0),(k32 0)])])) λe19=>?_;refine At.b 0 (λ_ e=>aD hT (k:=1) 0 [] 0 e) λu20=>?_;refine At.b 0 (λ_ e=>aV hT k32 0 e) λe21=>?_;refine At.b 0 (λ_ e=>aD hT (k:=1) 0 [] 0 e) λu22=>?_;refine At.b 0 (λ_ e=>aV hT k32 0 e) λe23=>?_;refine At.b 1 (λ_ e=>aH [] (sP e)) λr24=>?_;refine At.b 0 (λ_ e=>aD hT (k:=1) 0 [] 0 e) λu25=>?_;refine At.b 0 (λ_ e=>bB hT k32 0 (((a0.setIfInBounds ((af 0)) (U32 (e2+e4))).setIfInBounds ((af 3)) r11).setIfInBounds ((af 2)) (U32 (e15+e17))) e r24 (by kernel_rfl) (by kernel_rfl) (H':=[.var (eA 4 1 k32 ((((a0.setIfInBounds ((af 0)) (U32 (e2+e4))).setIfInBounds ((af 3)) r11).setIfInBounds ((af 2)) (U32 (e15+e17))).setIfInBounds ((af 1)) r24)),.var (.arr 4 1 [(k32 0),(k32 0),(k32 0),(k32 0)])])) λe26=>?_;refine At.b 0 (λ_ e=>aD hT (k:=1) 0 [] 0 e) λu27=>?_;refine At.b 0 (λ_ e=>aV hT k32 0 e) λe28=>?_;refine At.b 0 (λ_ e=>aD hT (k:=1) 0 [] 0 e) λu29=>?_;refine At.b 0 (λ_ e=>aV hT k32 0 e) λe30=>?_;refine At.b 1 (λ_ e=>aD hT (k:=1) 0 [] 0 e) λu31=>?_;refine At.b 0 (λ_ e=>bB hT k32 0 ((((a0.setIfInBounds ((af 0)) (U32 (e2+e4))).setIfInBounds ((af 3)) r11).setIfInBounds ((af 2)) (U32 (e15+e17))).setIfInBounds ((af 1)) r24) e (U32 (e28+e30)) (by kernel_rfl) (by kernel_rfl) (H':=[.var (eA 4 1 k32 (((((a0.setIfInBounds ((af 0)) (U32 (e2+e4))).setIfInBounds ((af 3)) r11).setIfInBounds ((af 2)) (U32 (e15+e17))).setIfInBounds ((af 1)) r24).setIfInBounds ((af 0)) (U32 (e28+e30)))),.var (.arr 4 1 [(k32 0),(k32 0),(k32 0),(k32 0)])])) λe32=>?_;refine At.b 0 (λ_ e=>aD hT (k:=1) 0 [] 0 e) λu33=>?_;refine At.b 0 (λ_ e=>aV hT k32 0 e) λe34=>?_;refine At.b 0 (λ_ e=>aD hT (k:=1) 0 [] 0 e) λu35=>?_;refine At.b 0 (λ_ e=>aV hT k32 0 e) λe36=>?_;refine At.b 1 (λ_ e=>aH [] (sP e)) λr37=>?_;refine At.b 0 (λ_ e=>aD hT (k:=1) 0 [] 0 e) λu38=>?_;refine At.b 0 (λ_ e=>bB hT k32 0 (((((a0.setIfInBounds ((af 0)) (U32 (e2+e4))).setIfInBounds ((af 3)) r11).setIfInBounds ((af 2)) (U32 (e15+e17))).setIfInBounds ((af 1)) r24).setIfInBounds ((af 0)) (U32 (e28+e30))) e r37 (by kernel_rfl) (by kernel_rfl) (H':=[.var (eA 4 1 k32 ((((((a0.setIfInBounds ((af 0)) (U32 (e2+e4))).setIfInBounds ((af 3)) r11).setIfInBounds ((af 2)) (U32 (e15+e17))).setIfInBounds ((af 1)) r24).setIfInBounds ((af 0)) (U32 (e28+e30))).setIfInBounds ((af 3)) r37)),.var (.arr 4 1 [(k32 0),(k32 0),(k32 0),(k32 0)])])) λe39=>?_;refine At.b 0 (λ_ e=>aD hT (k:=1) 0 [] 0 e) λu40=>?_;refine At.b 0 (λ_ e=>aV hT k32 0 e) λe41=>?_;refine At.b 0 (λ_ e=>aD hT (k:=1) 0 [] 0 e) λu42=>?_;refine At.b 0 (λ_ e=>aV hT k32 0 e) λe43=>?_;refine At.b 1 (λ_ e=>aD hT (k:=1) 0 [] 0 e) λu44=>?_;refine At.b 0 (λ_ e=>bB hT k32 0 ((((((a0.setIfInBounds ((af 0)) (U32 (e2+e4))).setIfInBounds ((af 3)) r11).setIfInBounds ((af 2)) (U32 (e15+e17))).setIfInBounds ((af 1)) r24).setIfInBounds ((af 0)) (U32 (e28+e30))).setIfInBounds ((af 3)) r37) e (U32 (e41+e43)) (by kernel_rfl) (by kernel_rfl) (H':=[.var (eA 4 1 k32 (((((((a0.setIfInBounds ((af 0)) (U32 (e2+e4))).setIfInBounds ((af 3)) r11).setIfInBounds ((af 2)) (U32 (e15+e17))).setIfInBounds ((af 1)) r24).setIfInBounds ((af 0)) (U32 (e28+e30))).setIfInBounds ((af 3)) r37).setIfInBounds ((af 2)) (U32 (e41+e43)))),.var (.arr 4 1 [(k32 0),(k32 0),(k32 0),(k32 0)])])) λe45=>?_;refine At.b 0 (λ_ e=>aD hT (k:=1) 0 [] 0 e) λu46=>?_;refine At.b 0 (λ_ e=>aV hT k32 0 e) λe47=>?_;refine At.b 0 (λ_ e=>aD hT (k:=1) 0 [] 0 e) λu48=>?_;refine At.b 0 (λ_ e=>aV hT k32 0 e) λe49=>?_;refine At.b 1 (λ_ e=>aH [] (sP e)) λr50=>?_;refine At.b 0 (λ_ e=>aD hT (k:=1) 0 [] 0 e) λu51=>?_;refine At.b 0 (λ_ e=>bB hT k32 0 (((((((a0.setIfInBounds ((af 0)) (U32 (e2+e4))).setIfInBounds ((af 3)) r11).setIfInBounds ((af 2)) (U32 (e15+e17))).setIfInBounds ((af 1)) r24).setIfInBounds ((af 0)) (U32 (e28+e30))).setIfInBounds ((af 3)) r37).setIfInBounds ((af 2)) (U32 (e41+e43))) e r50 (by kernel_rfl) (by kernel_rfl) (H':=[.var (eA 4 1 k32 ((((((((a0.setIfInBounds ((af 0)) (U32 (e2+e4))).setIfInBounds ((af 3)) r11).setIfInBounds ((af 2)) (U32 (e15+e17))).setIfInBounds ((af 1)) r24).setIfInBounds ((af 0)) (U32 (e28+e30))).setIfInBounds ((af 3)) r37).setIfInBounds ((af 2)) (U32 (e41+e43))).setIfInBounds ((af 1)) r50)),.var (.arr 4 1 [(k32 0),(k32 0),(k32 0),(k32 0)])])) λe52=>?_;apply rt;exact At.r 2
def bC(N:Nat)(a0:(Vector Int 16))(a1 a2 a3 a4:Int):Option ((Vector Int 16)):=
 ae (aP a1 16) λ_=>
 ae (a0.toList[a1.toNat]?) λe2=>
 ae (aP a2 16) λ_=>
 ae (a0.toList[a2.toNat]?) λe4=>
 ae (aP a3 16) λ_=>
 ae (a0.toList[a3.toNat]?) λe6=>
 ae (aP a4 16) λ_=>
 ae (a0.toList[a4.toNat]?) λe8=>
 ae (nU N (#v[e2,e4,e6,e8])) λr9=>
 ae (aP 0 4) λ_=>
 ae (r9.toList[(af 0)]?) λe11=>
 ae (aP 1 4) λ_=>
 ae (r9.toList[(af 1)]?) λe13=>
 ae (aP 2 4) λ_=>
 ae (r9.toList[(af 2)]?) λe15=>
 ae (aP 3 4) λ_=>
 ae (r9.toList[(af 3)]?) λe17=>
 ae (aP a1 16) λ_=>
 ae (a0.toList[a1.toNat]?) λe19=>
 ae (aP a2 16) λ_=>
 ae ((a0.setIfInBounds a1.toNat e11).toList[a2.toNat]?) λe21=>
 ae (aP a3 16) λ_=>
 ae (((a0.setIfInBounds a1.toNat e11).setIfInBounds a2.toNat e13).toList[a3.toNat]?) λe23=>
 ae (aP a4 16) λ_=>
 ae ((((a0.setIfInBounds a1.toNat e11).setIfInBounds a2.toNat e13).setIfInBounds a3.toNat e15).toList[a4.toNat]?) λe25=>
 some ((((a0.setIfInBounds a1.toNat e11).setIfInBounds a2.toNat e13).setIfInBounds a3.toNat e15).setIfInBounds a4.toNat e17)
theorem xB{N a0 a1 a2 a3 a4 r}(h:bC N a0 a1 a2 a3 a4=some r):FnM Tryz.prog 223 [] [(eA 16 1 k32 a0),(j64 a1),(j64 a2),(j64 a3),(j64 a4)] (eA 16 1 k32 r) []:=by
 unfold bC at h;refine At.f dI hT hmo Tryz.func223 rfl h ?_;refine bi λu1 hu1=>?_;refine bi λe2 he2=>?_;refine bi λu3 hu3=>?_;refine bi λe4 he4=>?_;refine bi λu5 hu5=>?_;refine bi λe6 he6=>?_;refine bi λu7 hu7=>?_;refine bi λe8 he8=>?_;refine bi λr9 hr9=>?_;refine At.d 2 (dE1 1 (λ_=>aD hT (k:=1) 0 [] 0 hu1) (dEL hT 2 (k32 e2) k32 0 he2 (dE1 4 (λ_=>aD hT (k:=1) 0 [] 0 hu3) (dEL hT 5 (k32 e4) k32 0 he4 (dE1 7 (λ_=>aD hT (k:=1) 0 [] 0 hu5) (dEL hT 8 (k32 e6) k32 0 he6 (dE1 10 (λ_=>aD hT (k:=1) 0 [] 0 hu7) (dEL hT 11 (k32 e8) k32 0 he8 (dE2 13 (eA 4 1 k32 r9) (λ_=>bM (aBy hr9)) dE0))))))))) dF0 ?_;refine bi λu10 hu10=>?_;refine bi λe11 he11=>?_;refine bi λu12 hu12=>?_;refine bi λe13 he13=>?_;refine bi λu14 hu14=>?_;refine bi λe15 he15=>?_;refine bi λu16 hu16=>?_;refine bi λe17 he17=>?_;refine bi λu18 hu18=>?_;refine bi λe19 he19=>?_;refine bi λu20 hu20=>?_;refine bi λe21 he21=>?_;refine bi λu22 hu22=>?_;refine bi λe23 he23=>?_;refine bi λu24 hu24=>?_;refine bi λe25 he25=>?_;refine At.d 0 (dE1 4 (λ_=>aD hT (k:=1) 2 [] 0 hu10) (dEL hT 5 (k32 e11) k32 0 he11 (dE1 6 (λ_=>aD hT (k:=1) 2 [] 0 hu12) (dEL hT 7 (k32 e13) k32 0 he13 (dE1 8 (λ_=>aD hT (k:=1) 2 [] 0 hu14) (dEL hT 9 (k32 e15) k32 0 he15 (dE1 10 (λ_=>aD hT (k:=1) 2 [] 0 hu16) (dEL hT 11 (k32 e17) k32 0 he17 (dE1 12 (λ_=>aD hT (k:=1) 0 [] 0 hu18) (dE1 14 (λ_=>aD hT (k:=1) 0 [] 0 hu20) (dE1 16 (λ_=>aD hT (k:=1) 0 [] 0 hu22) (dE1 18 (λ_=>aD hT (k:=1) 0 [] 0 hu24) dE0)))))))))))) (dF 13 (.v (.bool false)) [(0,.var (eA 16 1 k32 (a0.setIfInBounds a1.toNat e11)))] [] (bG (bB hT k32 0 a0 he19 e11 (by kernel_rfl) (by kernel_rfl) (H':=[.var (eA 16 1 k32 (a0.setIfInBounds a1.toNat e11)),.var (eA 16 1 k32 (ag 16 0)),.var (eA 4 1 k32 r9)]))) (dF 15 (.v (.bool false)) [(0,.var (eA 16 1 k32 ((a0.setIfInBounds a1.toNat e11).setIfInBounds a2.toNat e13)))] [] (bG (bB hT k32 0 (a0.setIfInBounds a1.toNat e11) he21 e13 (by kernel_rfl) (by kernel_rfl) (H':=[.var (eA 16 1 k32 ((a0.setIfInBounds a1.toNat e11).setIfInBounds a2.toNat e13)),.var (eA 16 1 k32 (ag 16 0)),.var (eA 4 1 k32 r9)]))) (dF 17 (.v (.bool false)) [(0,.var (eA 16 1 k32 (((a0.setIfInBounds a1.toNat e11).setIfInBounds a2.toNat e13).setIfInBounds a3.toNat e15)))] [] (bG (bB hT k32 0 ((a0.setIfInBounds a1.toNat e11).setIfInBounds a2.toNat e13) he23 e15 (by kernel_rfl) (by kernel_rfl) (H':=[.var (eA 16 1 k32 (((a0.setIfInBounds a1.toNat e11).setIfInBounds a2.toNat e13).setIfInBounds a3.toNat e15)),.var (eA 16 1 k32 (ag 16 0)),.var (eA 4 1 k32 r9)]))) (dF 19 (.v (.bool false)) [(0,.var (eA 16 1 k32 ((((a0.setIfInBounds a1.toNat e11).setIfInBounds a2.toNat e13).setIfInBounds a3.toNat e15).setIfInBounds a4.toNat e17)))] [] (bG (bB hT k32 0 (((a0.setIfInBounds a1.toNat e11).setIfInBounds a2.toNat e13).setIfInBounds a3.toNat e15) he25 e17 (by kernel_rfl) (by kernel_rfl) (H':=[.var (eA 16 1 k32 ((((a0.setIfInBounds a1.toNat e11).setIfInBounds a2.toNat e13).setIfInBounds a3.toNat e15).setIfInBounds a4.toNat e17)),.var (eA 16 1 k32 (ag 16 0)),.var (eA 4 1 k32 r9)]))) dF0)))) ?_;apply rt;exact At.r 2
def aDX : Nat->Bool:=imL [3,5]
def bH(N:Nat)  : Nat->(Vector Int 16)->Int->Option ((Vector Int 16))
 | 0,_,_=>none
 | k+1,s6,s7=>
  cond (decide (s7 < 4)) (
   ae (bC N s6 s7 (I64 (4+s7)) (I64 (8+s7)) (I64 (12+s7))) λr8=>
   bH N k r8 (I64 (s7+1))) (
   some s6)
def bF(N:Nat)  : Nat->(Vector Int 16)->Int->Option ((Vector Int 16))
 | 0,_,_=>none
 | k+1,s10,s11=>
  cond (decide (s11 < 4)) (
   aN (br (I64 (s11+1)) 4) λx12=>
   aN (br (I64 (s11+2)) 4) λx13=>
   aN (br (I64 (s11+3)) 4) λx14=>
   ae (bC N s10 s11 (I64 (4+x12)) (I64 (8+x13)) (I64 (12+x14))) λr15=>
   bF N k r15 (I64 (s11+1))) (
   some s10)
def mZ(N:Nat)  : Nat->(Vector Int 16)->Int->Option ((Vector Int 16))
 | 0,_,_=>none
 | k+1,s3,s4=>
  cond (decide (s4 < 10)) (
   ae (bH N N s3 0) λp5=>
   ae (bF N N p5 0) λp9=>
   mZ N k p9 (I64 (s4+1))) (
   some s3)
def iD(N:Nat)(p2 r16:(Vector Int 16)):Nat->(Vector Int 64)->Int->Option ((Vector Int 64))
 | 0,_,_=>none
 | k+1,s18,s19=>
  cond (decide (s19 < 64)) (
   ae (aP (I64 (cv s19 4)) 16) λ_=>
   ae (p2.toList[(I64 (cv s19 4)).toNat]?) λe21=>
   ae (aP (I64 (cv s19 4)) 16) λ_=>
   ae (r16.toList[(I64 (cv s19 4)).toNat]?) λe23=>
   aN (I64 (8*(br s19 4))) λx24=>
   ae (yW .u32 (U32 (e21+e23)) x24) λx25=>
   ae (aP s19 64) λ_=>
   ae (s18.toList[s19.toNat]?) λe27=>
   iD N p2 r16 k (s18.setIfInBounds s19.toNat (U8 x25)) (I64 (s19+1))) (
   some s18)
def nH(N:Nat)(a0:(Vector Int 32))(a1:Int)(a2:(Vector Int 12)):Option ((Vector Int 64)):=
 ae (nF N a0 a1 a2) λr1=>
 ae (mZ N N r1 0) λp2=>
 ae (nF N a0 a1 a2) λr16=>
 ae (iD N p2 r16 N (ag 64 0) 0) λp17=>
 some p17
theorem zD{N a0 a1 a2 r}(h:nH N a0 a1 a2=some r):FnM Tryz.prog 199 [] [(eA 32 1 k8 a0),(k32 a1),(eA 12 1 k8 a2)] (eA 64 1 k8 r) []:=by
 unfold nH at h;refine At.f aDX hT hmo Tryz.func199 rfl h ?_;refine At.b 6 (λ_ e=>aH [] (zG e)) λr1=>?_;refine At.L 3 [1,3,5,6,7] 2 (λp2=>([],[(1,.var (eA 16 1 k32 p2))],[])) (λp2 J k=>∃s3 s4,mZ N k s3 s4=some p2/\J [1,3,5,6,7] 2 [(8,(j64 s4))] [(1,.var (eA 16 1 k32 s3))] []) N (λ_ h=>⟨_,_,h,jr⟩) (λp2 k s hI=>?_) λp2=>?_
 ·obtain⟨s3,s4,h,hj⟩:=hI;cases k with
  | zero=>cases h
  | succ k=>
   refine At.jr hj ?_ h;refine At.c 2 ?_ ?_
   ·refine At.L 1 [1,3,5,6,7,8] 2 (λp5=>([],[(1,.var (eA 16 1 k32 p5))],[])) (λp5 J k=>∃s6 s7,bH N k s6 s7=some p5/\J [1,3,5,6,7,8] 2 [(9,(j64 s7))] [(1,.var (eA 16 1 k32 s6))] []) N (λ_ h=>⟨_,_,h,jr⟩) (λp5 k s hI=>?_) λp5=>?_
    ·obtain⟨s6,s7,h,hj⟩:=hI;cases k with
     | zero=>cases h
     | succ k=>
      refine At.jr hj ?_ h;refine At.c 2 ?_ ?_
      ·refine At.b 8 (λ_ e=>aH [] (xB e)) λr8=>?_;exact λh=>At.k 4 ⟨_,_,h,jr⟩
      ·apply rt;exact At.x 0
    ·refine At.L 1 [1,3,5,6,7,8] 2 (λp9=>([],[(1,.var (eA 16 1 k32 p9))],[])) (λp9 J k=>∃s10 s11,bF N k s10 s11=some p9/\J [1,3,5,6,7,8] 2 [(10,(j64 s11))] [(1,.var (eA 16 1 k32 s10))] []) N (λ_ h=>⟨_,_,h,jr⟩) (λp9 k s hI=>?_) λp9=>?_
     ·obtain⟨s10,s11,h,hj⟩:=hI;cases k with
      | zero=>cases h
      | succ k=>
       refine At.jr hj ?_ h;refine At.c 2 ?_ ?_
       ·refine lx ?_;intro x12;refine lx ?_;intro x13;refine lx ?_;intro x14;refine At.b 14 (λ_ e=>aH [] (xB e)) λr15=>?_;exact λh=>At.k 4 ⟨_,_,h,jr⟩
       ·apply rt;exact At.x 0
     ·exact λh=>At.k 3 ⟨_,_,h,jr⟩
   ·apply rt;exact At.x 0
 ·refine At.b 3 (λ_ e=>aH [] (zG e)) λr16=>?_;refine At.L 4 [6,12] 4 (λp17=>([],[(3,.var (eA 64 1 k8 p17))],[])) (λp17 J k=>∃s18 s19,iD N p2 r16 k s18 s19=some p17/\J [6,7,11,12] 4 [(13,(j64 s19))] [(3,.var (eA 64 1 k8 s18))] []) N (λ_ h=>⟨_,_,h,jr⟩) (λp17 k s hI=>?_) λp17=>?_
  ·obtain⟨s18,s19,h,hj⟩:=hI;cases k with
   | zero=>cases h
   | succ k=>
    refine At.jr hj ?_ h;refine At.c 2 ?_ ?_
    ·refine bi λu20 hu20=>?_;refine bi λe21 he21=>?_;refine bi λu22 hu22=>?_;refine bi λe23 he23=>?_;refine lx ?_;intro x24;refine bi λx25 hx25=>?_;refine bi λu26 hu26=>?_;refine bi λe27 he27=>?_;refine At.d 0 (dE1 3 (λ_=>aD hT (k:=1) 1 [] 0 hu20) (dEL hT 4 (k32 e21) k32 0 he21 (dE1 7 (λ_=>aD hT (k:=1) 2 [] 0 hu22) (dEL hT 8 (k32 e23) k32 0 he23 (dE1 13 (λ_=>nN hT (k' := .i64) hx25 (by kernel_rfl) (by kernel_rfl)) (dE1 15 (λ_=>aD hT (k:=1) 3 [] 0 hu26) dE0)))))) (dF 16 (.v (.bool false)) [(3,.var (eA 64 1 k8 (s18.setIfInBounds s19.toNat (U8 x25))))] [] (bG (bB hT k8 0 s18 he27 (U8 x25) (by kernel_rfl) (by kernel_rfl) (H':=[.var (eA 64 1 k8 (ag 64 0)),.var (eA 16 1 k32 p2),.var (eA 16 1 k32 r16),.var (eA 64 1 k8 (s18.setIfInBounds s19.toNat (U8 x25)))]))) dF0) ?_;exact λh=>At.k 3 ⟨_,_,h,jr⟩
    ·apply rt;exact At.x 0
  ·apply rt;exact At.r 2
def aCp : Nat->Bool:=imL [4,6]
def eC(N:Nat)(s5 p1:Int)(r6:(Vector Int 64)):Nat->(List Int)->Int->Option ((List Int))
 | 0,_,_=>none
 | k+1,s8,s9=>
  aN (decide ((I64 (s5+s9)) < p1)) λx10=>
  aN (cond (decide (s9 < 64)) x10 false) λx11=>
  cond x11 (
   ae (aP s9 64) λ_=>
   ae (r6.toList[s9.toNat]?) λe13=>
   ae (iB 1 s8 (([e13]:List Int))) λz14=>
   eC N s5 p1 r6 k z14 (I64 (s9+1))) (
   some s8)
def lS(N:Nat)(p1:Int)(a0:(Vector Int 32))(a2:(Vector Int 12)):Nat->(List Int)->Int->Int->Option ((List Int))
 | 0,_,_,_=>none
 | k+1,s3,s4,s5=>
  cond (decide (s5 < p1)) (
   ae (nH N a0 s4 a2) λr6=>
   ae (eC N s5 p1 r6 N s3 0) λp7=>
   lS N p1 a0 a2 k p7 (U32 (s4+1)) (I64 (s5+64))) (
   some s3)
def oO(N:Nat)(a0:(Vector Int 32))(a1:Int)(a2:(Vector Int 12))(a3:Int):Option ((List Int)):=
 ae (cond (decide (a3 > 65536)) (some 65536) (some a3)) λp1=>
 ae (lS N p1 a0 a2 N [] a1 0) λp2=>
 some p2
theorem aCY{N a0 a1 a2 a3 r}(h:oO N a0 a1 a2 a3=some r):FnM Tryz.prog 162 [] [(eA 32 1 k8 a0),(k32 a1),(eA 12 1 k8 a2),(j64 a3)] (eL 1 k8 r) []:=by
 unfold oO at h;refine At.f aCp hT hmo Tryz.func162 rfl h ?_;refine At.J 3 1 [1,4,6] 0 (λp1=>([(3,(j64 p1))],[],[])) (λp1=>?_) λp1=>?_
 ·refine At.c 2 ?_ ?_
  ·apply rt;exact At.jn 1
  ·apply rt;exact At.jn 0
 ·refine At.ownn 2 9 1 ?_;refine At.L 0 [] 1 (λp2=>([(9,(eO 0 1 k8 p2))],[(0,.tail (p2.length*1))],[])) (λp2 J k=>∃s3 s4 s5,lS N p1 a0 a2 k s3 s4 s5=some p2/\J [3,4,6] 1 [(1,(k32 s4)),(9,(eO 0 1 k8 s3)),(10,(j64 s5))] [(0,.tail (s3.length*1))] []) N (λ_ h=>⟨_,_,_,h,jr⟩) (λp2 k s hI=>?_) λp2=>?_
  ·obtain⟨s3,s4,s5,h,hj⟩:=hI;cases k with
   | zero=>cases h
   | succ k=>
    refine At.jr hj ?_ h;refine At.c 3 ?_ ?_
    ·refine At.b 3 (λ_ e=>aH [] (zD e)) λr6=>?_;refine At.L 3 [1,3,4,6,10] 2 (λp7=>([(9,(eO 0 1 k8 p7))],[(0,.tail (p7.length*1))],[])) (λp7 J k=>∃s8 s9,eC N s5 p1 r6 k s8 s9=some p7/\J [1,3,4,6,10,11] 2 [(9,(eO 0 1 k8 s8)),(12,(j64 s9))] [(0,.tail (s8.length*1))] []) N (λ_ h=>⟨_,_,h,jr⟩) (λp7 k s hI=>?_) λp7=>?_
     ·obtain⟨s8,s9,h,hj⟩:=hI;cases k with
      | zero=>cases h
      | succ k=>
       refine At.jr hj ?_ h;refine lx ?_;intro x10;refine lx ?_;intro x11;refine At.c 9 ?_ ?_
       ·refine At.b 2 (λ_ e=>aD hT (k:=1) 1 [] 0 e) λu12=>?_;refine At.b 0 (λ_ e=>aV hT k8 0 e) λe13=>?_;refine At.o 0 (aY hT (x:=(.sl 1 1 [(k8 e13)]))) ?_;refine At.b 0 (λ_ e=>bN hT k8 (id:=0) (k:=1) e) λz14=>?_;exact λh=>At.k 4 ⟨_,_,h,jr⟩
       ·apply rt;exact At.x 0
     ·exact λh=>At.k 6 ⟨_,_,_,h,jr⟩
    ·apply rt;exact At.x 0
  ·apply rt;exact At.r 2
def aFZ : Nat->Bool:=imL [4,6]
def hU(N:Nat)(p1 r4:(List Int)):Nat->(List Int)->Int->Option ((List Int))
 | 0,_,_=>none
 | k+1,s6,s7=>
  aN (decide (s7 < ((p1.length:Int)))) λx8=>
  cond x8 (
   ae (idx p1 s7) λe9=>
   ae (idx r4 s7) λe10=>
   ae (iB 1 s6 (([eZ .u8 e9 e10]:List Int))) λz11=>
   hU N p1 r4 k z11 (I64 (s7+1))) (
   some s6)
def sA(N:Nat)(a0:(Vector Int 32))(a1:Int)(a2:(Vector Int 12))(a3:(List Int)):Option ((List Int)):=
 ae (aN (decide (((a3.length:Int)) > 65536)) λx2=>
 cond x2 (
  ae (dU a3 0 65536) λs3=>
  some s3) (
  some a3)) λp1=>
 ae (oO N a0 a1 a2 ((p1.length:Int))) λr4=>
 ae (hU N p1 r4 N [] 0) λp5=>
 some p5
theorem aEA{N a0 a1 a2 a3 r}(h:sA N a0 a1 a2 a3=some r):FnM Tryz.prog 115 [] [(eA 32 1 k8 a0),(k32 a1),(eA 12 1 k8 a2),(eL 1 k8 a3)] (eO 0 1 k8 r) [.tail (r.length*1)]:=by
 unfold sA at h;refine At.f aFZ hT hmo Tryz.func115 rfl h ?_;refine At.J 3 1 [1,4,6] 0 (λp1=>([(3,(eL 1 k8 p1))],[],[])) (λp1=>?_) λp1=>?_
 ·refine lx ?_;intro x2;refine At.c 3 ?_ ?_
  ·refine At.b 1 (λ_ e=>iE hT (k:=1) k8 e) λs3=>?_;apply rt;exact At.jn 1
  ·apply rt;exact At.jn 0
 ·refine At.b 5 (λ_ e=>aH [] (aCY e)) λr4=>?_;refine At.ownn 3 10 1 ?_;refine At.L 0 [] 1 (λp5=>([(10,(eO 0 1 k8 p5))],[(0,.tail (p5.length*1))],[])) (λp5 J k=>∃s6 s7,hU N p1 r4 k s6 s7=some p5/\J [3,9] 1 [(10,(eO 0 1 k8 s6)),(11,(j64 s7))] [(0,.tail (s6.length*1))] []) N (λ_ h=>⟨_,_,h,jr⟩) (λp5 k s hI=>?_) λp5=>?_
  ·obtain⟨s6,s7,h,hj⟩:=hI;cases k with
   | zero=>cases h
   | succ k=>
    refine At.jr hj ?_ h;refine lx ?_;intro x8;refine At.c 4 ?_ ?_
    ·refine bi λe9 he9=>?_;refine bi λe10 he10=>?_;refine bi λz11 hz11=>?_;refine At.d 0 (dE1 3 (λ_=>bA hT k8 he9) (dE1 7 (λ_=>bA hT k8 he10) (dE1 10 (λ_=>aY hT (x:=(.sl 1 1 [(k8 (eZ .u8 e9 e10))]))) dE0))) (dF 11 (eO 0 1 k8 z11) [(0,.tail (z11.length*1))] [] (bG (bN hT k8 (id:=0) (k:=1) hz11)) dF0) ?_;exact λh=>At.k 3 ⟨_,_,h,jr⟩
    ·apply rt;exact At.x 0
  ·apply rt;exact At.r 2
def lU(N:Nat)  : Nat->(List Int)->Option ((List Int))
 | 0,_=>none
 | k+1,s3=>
  aN (br ((s3.length:Int)) 16) λx4=>
  cond (decide (x4 > 0)) (
   ae (iB 1 s3 (([0]:List Int))) λz5=>
   lU N k z5) (
   some s3)
def mF(N:Nat)(a0:(List Int)):Option ((List Int)):=
 ae (iB 1 (([]:List Int)) a0) λz1=>
 ae (lU N N z1) λp2=>
 some p2
theorem yP{N a0 r}(h:mF N a0=some r):FnM Tryz.prog 158 [] [(eL 1 k8 a0)] (eO 0 1 k8 r) [.tail (r.length*1)]:=by
 unfold mF at h;refine At.f dI hT hmo Tryz.func158 rfl h ?_;refine At.o 1 (pM hT k8 (k:=1) ([]:List Int) (by kernel_rfl) (by kernel_rfl)) ?_;refine At.b 1 (λ_ e=>bN hT k8 (id:=0) (k:=1) e) λz1=>?_;refine At.L 1 [] 1 (λp2=>([(3,(eO 0 1 k8 p2))],[(0,.tail (p2.length*1))],[])) (λp2 J k=>∃s3,lU N k s3=some p2/\J [] 1 [(3,(eO 0 1 k8 s3))] [(0,.tail (s3.length*1))] []) N (λ_ h=>⟨_,h,jr⟩) (λp2 k s hI=>?_) λp2=>?_
 ·obtain⟨s3,h,hj⟩:=hI;cases k with
  | zero=>cases h
  | succ k=>
   refine At.jr hj ?_ h;refine lx ?_;intro x4;refine At.c 4 ?_ ?_
   ·refine At.o 1 (aY hT (x:=(.sl 1 1 [(k8 0)]))) ?_;refine At.b 0 (λ_ e=>bN hT k8 (id:=0) (k:=1) e) λz5=>?_;exact λh=>At.k 1 ⟨_,h,jr⟩
   ·apply rt;exact At.x 0
 ·apply rt;exact At.r 2
def dG(N:Nat)  : Nat->(List Int)->Int->Int->Option ((List Int))
 | 0,_,_,_=>none
 | k+1,s2,s3,s4=>
  cond (decide (s4 < 8)) (
   ae (iB 1 s2 (([U8 (br s3 256)]:List Int))) λz5=>
   dG N k z5 (I64 (cv s3 256)) (I64 (s4+1))) (
   some s2)
def jR(N:Nat)(a0:Int):Option ((List Int)):=
 ae (dG N N [] a0 0) λp1=>
 some p1
theorem yL{N a0 r}(h:jR N a0=some r):FnM Tryz.prog 159 [] [(j64 a0)] (eL 1 k8 r) []:=by
 unfold jR at h;refine At.f dI hT hmo Tryz.func159 rfl h ?_;refine At.ownn 3 3 1 ?_;refine At.L 0 [] 1 (λp1=>([(3,(eO 0 1 k8 p1))],[(0,.tail (p1.length*1))],[])) (λp1 J k=>∃s2 s3 s4,dG N k s2 s3 s4=some p1/\J [] 1 [(0,(j64 s3)),(3,(eO 0 1 k8 s2)),(4,(j64 s4))] [(0,.tail (s2.length*1))] []) N (λ_ h=>⟨_,_,_,h,jr⟩) (λp1 k s hI=>?_) λp1=>?_
 ·obtain⟨s2,s3,s4,h,hj⟩:=hI;cases k with
  | zero=>cases h
  | succ k=>
   refine At.jr hj ?_ h;refine At.c 2 ?_ ?_
   ·refine At.o 4 (aY hT (x:=(.sl 1 1 [(k8 (U8 (br s3 256)))]))) ?_;refine At.b 0 (λ_ e=>bN hT k8 (id:=0) (k:=1) e) λz5=>?_;exact λh=>At.k 7 ⟨_,_,_,h,jr⟩
   ·apply rt;exact At.x 0
 ·apply rt;exact At.r 2
def aFc : Nat->Bool:=imL [2,3]
def jU(N:Nat)(r1:(Vector Int 64)):Nat->(Vector Int 32)->Int->Option ((Vector Int 32))
 | 0,_,_=>none
 | k+1,s3,s4=>
  cond (decide (s4 < 32)) (
   ae (aP s4 64) λ_=>
   ae (r1.toList[s4.toNat]?) λe6=>
   ae (aP s4 32) λ_=>
   ae (s3.toList[s4.toNat]?) λe8=>
   jU N r1 k (s3.setIfInBounds s4.toNat e6) (I64 (s4+1))) (
   some s3)
def rR(N:Nat)(a0:(Vector Int 32))(a1:(Vector Int 12)):Option ((Vector Int 32)):=
 ae (nH N a0 0 a1) λr1=>
 ae (jU N r1 N (ag 32 0) 0) λp2=>
 some p2
theorem aEn{N a0 a1 r}(h:rR N a0 a1=some r):FnM Tryz.prog 161 [] [(eA 32 1 k8 a0),(eA 12 1 k8 a1)] (eA 32 1 k8 r) []:=by
 unfold rR at h;refine At.f aFc hT hmo Tryz.func161 rfl h ?_;refine At.b 5 (λ_ e=>aH [] (zD e)) λr1=>?_;refine At.L 4 [4,6] 3 (λp2=>([],[(2,.var (eA 32 1 k8 p2))],[])) (λp2 J k=>∃s3 s4,jU N r1 k s3 s4=some p2/\J [4,5,6] 3 [(7,(j64 s4))] [(2,.var (eA 32 1 k8 s3))] []) N (λ_ h=>⟨_,_,h,jr⟩) (λp2 k s hI=>?_) λp2=>?_
 ·obtain⟨s3,s4,h,hj⟩:=hI;cases k with
  | zero=>cases h
  | succ k=>
   refine At.jr hj ?_ h;refine At.c 2 ?_ ?_
   ·refine At.b 2 (λ_ e=>aD hT (k:=1) 1 [] 0 e) λu5=>?_;refine At.b 0 (λ_ e=>aV hT k8 0 e) λe6=>?_;refine At.b 0 (λ_ e=>aD hT (k:=1) 2 [] 0 e) λu7=>?_;refine At.b 0 (λ_ e=>bB hT k8 0 s3 e e6 (by kernel_rfl) (by kernel_rfl) (H':=[.var (eA 32 1 k8 (ag 32 0)),.var (eA 64 1 k8 r1),.var (eA 32 1 k8 (s3.setIfInBounds s4.toNat e6))])) λe8=>?_;exact λh=>At.k 3 ⟨_,_,h,jr⟩
   ·apply rt;exact At.x 0
 ·apply rt;exact At.r 2
def kJ(N:Nat)  : Nat->(Vector Int 16)->Int->Option ((Vector Int 16))
 | 0,_,_=>none
 | k+1,s2,s3=>
  cond (decide (s3 < 16)) (
   ae (ae (cond ((br s3 4)==3) (
    ae (aP s3 16) λ_=>
    ae (s2.toList[s3.toNat]?) λe7=>
    ae (aP s3 16) λ_=>
    ae (s2.toList[s3.toNat]?) λe9=>
    some (s2.setIfInBounds s3.toNat (br e7 16))) (
    some s2)) λp5=>
   aN (cond ((br s3 4)==0) (decide (s3 > 0)) false) λx10=>
   cond x10 (
    ae (aP s3 16) λ_=>
    ae (p5.toList[s3.toNat]?) λe12=>
    aN (U8 ((U8 (cv e12 4))*4)) λx13=>
    ae (aP s3 16) λ_=>
    ae (p5.toList[s3.toNat]?) λe15=>
    some (p5.setIfInBounds s3.toNat x13)) (
    some p5)) λp4=>
   kJ N k p4 (I64 (s3+1))) (
   some s2)
def iO(N:Nat)(a0:(Vector Int 16)):Option ((Vector Int 16)):=
 ae (kJ N N a0 0) λp1=>
 some p1
theorem aCr{N a0 r}(h:iO N a0=some r):FnM Tryz.prog 193 [] [(eA 16 1 k8 a0)] (eA 16 1 k8 r) []:=by
 unfold iO at h;refine At.f dI hT hmo Tryz.func193 rfl h ?_;refine At.L 3 [1,2] 2 (λp1=>([],[(0,.var (eA 16 1 k8 p1))],[])) (λp1 J k=>∃s2 s3,kJ N k s2 s3=some p1/\J [1,2] 2 [(3,(j64 s3))] [(0,.var (eA 16 1 k8 s2))] []) N (λ_ h=>⟨_,_,h,jr⟩) (λp1 k s hI=>?_) λp1=>?_
 ·obtain⟨s2,s3,h,hj⟩:=hI;cases k with
  | zero=>cases h
  | succ k=>
   refine At.jr hj ?_ h;refine At.c 2 ?_ ?_
   ·refine At.J 0 3 [1,2,3] 2 (λp4=>([],[(0,.var (eA 16 1 k8 p4))],[])) (λp4=>?_) λp4=>?_
    ·refine At.J 0 1 [1,2,3] 2 (λp5=>([],[(0,.var (eA 16 1 k8 p5))],[])) (λp5=>?_) λp5=>?_
     ·refine At.c 3 ?_ ?_
      ·refine At.b 2 (λ_ e=>aD hT (k:=1) 0 [] 0 e) λu6=>?_;refine At.b 0 (λ_ e=>aV hT k8 0 e) λe7=>?_;refine At.b 1 (λ_ e=>aD hT (k:=1) 0 [] 0 e) λu8=>?_;refine At.b 0 (λ_ e=>bB hT k8 0 s2 e (br e7 16) (by kernel_rfl) (by kernel_rfl) (H':=[.var (eA 16 1 k8 (s2.setIfInBounds s3.toNat (br e7 16))),.var (eA 16 1 k8 (ag 16 0))])) λe9=>?_;apply rt;exact At.jn 0
      ·apply rt;exact At.jn 0
     ·refine lx ?_;intro x10;refine At.c 7 ?_ ?_
      ·refine At.b 2 (λ_ e=>aD hT (k:=1) 0 [] 0 e) λu11=>?_;refine At.b 0 (λ_ e=>aV hT k8 0 e) λe12=>?_;refine lx ?_;intro x13;refine At.b 2 (λ_ e=>aD hT (k:=1) 0 [] 0 e) λu14=>?_;refine At.b 0 (λ_ e=>bB hT k8 0 p5 e x13 (by kernel_rfl) (by kernel_rfl) (H':=[.var (eA 16 1 k8 (p5.setIfInBounds s3.toNat x13)),.var (eA 16 1 k8 (ag 16 0))])) λe15=>?_;apply rt;exact At.jn 0
      ·apply rt;exact At.jn 0
    ·exact λh=>At.k 3 ⟨_,_,h,jr⟩
   ·apply rt;exact At.x 0
 ·apply rt;exact At.r 2
def aCq : Nat->Bool:=imL [1]
def iW(N:Nat)(a0:(Vector Int 17)):Nat->(Vector Int 5)->Int->Option ((Vector Int 5))
 | 0,_,_=>none
 | k+1,s2,s3=>
  cond (decide (s3 < 136)) (
   ae (ae (idx a0.toList (I64 (cv s3 8))) λe5=>
   ae (yW .u8 e5 (br s3 8)) λx6=>
   aN (cond ((cF .u8 x6 1)==1) (decide (s3 < 130)) false) λx7=>
   cond x7 (
    ae (aP (I64 (cv s3 26)) 5) λ_=>
    ae (s2.toList[(I64 (cv s3 26)).toNat]?) λe9=>
    ae (aFf .i64 1 (br s3 26)) λx10=>
    ae (aP (I64 (cv s3 26)) 5) λ_=>
    ae (s2.toList[(I64 (cv s3 26)).toNat]?) λe12=>
    some (s2.setIfInBounds ((I64 (cv s3 26)).toNat) (I64 (e9+x10)))) (
    some s2)) λp4=>
   iW N a0 k p4 (I64 (s3+1))) (
   some s2)
def jS(N:Nat)(a0:(Vector Int 17)):Option ((Vector Int 5)):=
 ae (iW N a0 N (ag 5 0) 0) λp1=>
 some p1
theorem xZ{N a0 r}(h:jS N a0=some r):FnM Tryz.prog 194 [] [(eA 17 1 k8 a0)] (eA 5 1 j64 r) []:=by
 unfold jS at h;refine At.f aCq hT hmo Tryz.func194 rfl h ?_;refine At.L 4 [2,3] 2 (λp1=>([],[(1,.var (eA 5 1 j64 p1))],[])) (λp1 J k=>∃s2 s3,iW N a0 k s2 s3=some p1/\J [1,2,3] 2 [(4,(j64 s3))] [(1,.var (eA 5 1 j64 s2))] []) N (λ_ h=>⟨_,_,h,jr⟩) (λp1 k s hI=>?_) λp1=>?_
 ·obtain⟨s2,s3,h,hj⟩:=hI;cases k with
  | zero=>cases h
  | succ k=>
   refine At.jr hj ?_ h;refine At.c 2 ?_ ?_
   ·refine At.J 0 2 [1,2,3,4] 2 (λp4=>([],[(1,.var (eA 5 1 j64 p4))],[])) (λp4=>?_) λp4=>?_
    ·refine At.b 2 (λ_ e=>bK hT (N:=17) (k:=1) k8 a0 e) λe5=>?_;refine At.b 3 (λ_ e=>nN hT (k' := .i64) e (by kernel_rfl) (by kernel_rfl)) λx6=>?_;refine lx ?_;intro x7;refine At.c 6 ?_ ?_
     ·refine bi λu8 hu8=>?_;refine bi λe9 he9=>?_;refine bi λx10 hx10=>?_;refine bi λu11 hu11=>?_;refine bi λe12 he12=>?_;refine At.d 0 (dE1 4 (λ_=>aD hT (k:=1) 1 [] 0 hu8) (dEL hT 5 (j64 e9) j64 0 he9 (dE1 8 (λ_=>xU hT (k' := .i64) hx10 (by kernel_rfl) (by kernel_rfl)) (dE1 10 (λ_=>aD hT (k:=1) 1 [] 0 hu11) dE0)))) (dF 11 (.v (.bool false)) [(1,.var (eA 5 1 j64 (s2.setIfInBounds ((I64 (cv s3 26)).toNat) (I64 (e9+x10)))))] [] (bG (bB hT j64 0 s2 he12 (I64 (e9+x10)) (by kernel_rfl) (by kernel_rfl) (H':=[.var (eA 5 1 j64 (ag 5 0)),.var (eA 5 1 j64 (s2.setIfInBounds ((I64 (cv s3 26)).toNat) (I64 (e9+x10))))]))) dF0) ?_;apply rt;exact At.jn 0
     ·apply rt;exact At.jn 0
    ·exact λh=>At.k 3 ⟨_,_,h,jr⟩
   ·apply rt;exact At.x 0
 ·apply rt;exact At.r 2
def uT(N:Nat)(a0:(List Int)):Option ((List Int)):=
 aN (decide (((a0.length:Int)) > 65536)) λx1=>
 cond x1 (
  ae (dU a0 0 65536) λs2=>
  some s2) (
  some a0)
theorem aEt{N a0 r}(h:uT N a0=some r):FnM Tryz.prog 221 [] [(eL 1 k8 a0)] (eL 1 k8 r) []:=by
 unfold uT at h;refine At.f dI hT hmo Tryz.func221 rfl h ?_;refine lx ?_;intro x1;refine At.c 4 ?_ ?_
 ·refine At.b 1 (λ_ e=>iE hT (k:=1) k8 e) λs2=>?_;apply rt;exact At.r 1
 ·apply rt;exact At.r 2
def fS(N:Nat)(s4:Int)(r1:(List Int)):Nat->(Vector Int 17)->Int->Option ((Vector Int 17)×Int)
 | 0,_,_=>none
 | k+1,s7,s8=>
  aN (decide ((I64 (s4+s8)) < ((r1.length:Int)))) λx9=>
  aN (cond (decide (s8 < 16)) x9 false) λx10=>
  cond x10 (
   ae (idx r1 (I64 (s4+s8))) λe11=>
   ae (aP s8 17) λ_=>
   ae (s7.toList[s8.toNat]?) λe13=>
   fS N s4 r1 k (s7.setIfInBounds s8.toNat e11) (I64 (s8+1))) (
   some ((s7,s8)))
def jE(N:Nat)(r1:(List Int)):Nat->(List (Vector Int 17))->Int->Option ((List (Vector Int 17)))
 | 0,_,_=>none
 | k+1,s3,s4=>
  aN (decide (s4 < ((r1.length:Int)))) λx5=>
  cond x5 (
   ae (fS N s4 r1 N (ag 17 0) 0) λp6=>
   ae (aP p6.2 17) λ_=>
   ae (p6.1.toList[p6.2.toNat]?) λe15=>
   ae (iB 17 s3 (([p6.1.setIfInBounds p6.2.toNat 1]:List (Vector Int 17)))) λz16=>
   jE N r1 k z16 (I64 (s4+16))) (
   some s3)
def oM(N:Nat)(a0:(List Int)):Option ((List (Vector Int 17))):=
 ae (uT N a0) λr1=>
 ae (jE N r1 N [] 0) λp2=>
 some p2
theorem aCJ{N a0 r}(h:oM N a0=some r):FnM Tryz.prog 195 [] [(eL 1 k8 a0)] (eL 17 (eA 17 1 k8) r) []:=by
 unfold oM at h;refine At.f dI hT hmo Tryz.func195 rfl h ?_;refine At.b 2 (λ_ e=>aH [] (aEt e)) λr1=>?_;refine At.ownn 3 3 17 ?_;refine At.L 0 [] 1 (λp2=>([(3,(eO 0 17 (eA 17 1 k8) p2))],[(0,.tail (p2.length*17))],[])) (λp2 J k=>∃s3 s4,jE N r1 k s3 s4=some p2/\J [0] 1 [(3,(eO 0 17 (eA 17 1 k8) s3)),(4,(j64 s4))] [(0,.tail (s3.length*17))] []) N (λ_ h=>⟨_,_,h,jr⟩) (λp2 k s hI=>?_) λp2=>?_
 ·obtain⟨s3,s4,h,hj⟩:=hI;cases k with
  | zero=>cases h
  | succ k=>
   refine At.jr hj ?_ h;refine lx ?_;intro x5;refine At.c 4 ?_ ?_
   ·refine At.L 2 [0,3,4,5] 2 (λp6=>([(6,(j64 p6.2))],[(1,.var (eA 17 1 k8 p6.1))],[])) (λp6 J k=>∃s7 s8,fS N s4 r1 k s7 s8=some p6/\J [0,3,4,5] 2 [(6,(j64 s8))] [(1,.var (eA 17 1 k8 s7))] []) N (λ_ h=>⟨_,_,h,jr⟩) (λp6 k s hI=>?_) λp6=>?_
    ·obtain⟨s7,s8,h,hj⟩:=hI;cases k with
     | zero=>cases h
     | succ k=>
      refine At.jr hj ?_ h;refine lx ?_;intro x9;refine lx ?_;intro x10;refine At.c 10 ?_ ?_
      ·refine At.b 5 (λ_ e=>bA hT k8 e) λe11=>?_;refine At.b 1 (λ_ e=>aD hT (k:=1) 1 [] 0 e) λu12=>?_;refine At.b 0 (λ_ e=>bB hT k8 0 s7 e e11 (by kernel_rfl) (by kernel_rfl) (H':=[.tail (s3.length*17),.var (eA 17 1 k8 (s7.setIfInBounds s8.toNat e11))])) λe13=>?_;exact λh=>At.k 3 ⟨_,_,h,jr⟩
      ·apply rt;exact At.x 0
    ·refine At.b 1 (λ_ e=>aD hT (k:=1) 1 [] 0 e) λu14=>?_;refine At.b 0 (λ_ e=>bB hT k8 0 p6.1 e 1 (by kernel_rfl) (by kernel_rfl) (H':=[.tail (s3.length*17),.var (eA 17 1 k8 (p6.1.setIfInBounds p6.2.toNat 1))])) λe15=>?_;refine At.o 2 (aY hT (x:=(.sl 17 1 [(eA 17 1 k8 (p6.1.setIfInBounds p6.2.toNat 1))]))) ?_;refine At.b 0 (λ_ e=>bN hT (eA 17 1 k8) (id:=0) (k:=17) e) λz16=>?_;exact λh=>At.k 4 ⟨_,_,h,jr⟩
   ·apply rt;exact At.x 0
 ·apply rt;exact At.r 2
def cC(N:Nat)  : Nat->(Vector Int 5)->Int->Option ((Vector Int 5))
 | 0,_,_=>none
 | k+1,s5,s6=>
  cond (decide (s6 < 5)) (
   ae (ae (aP s6 5) λ_=>
   ae (s5.toList[s6.toNat]?) λe9=>
   ae (aP s6 5) λ_=>
   ae (s5.toList[s6.toNat]?) λe11=>
   aN (shl .i64 (shr .i64 e9 26) 26) λx12=>
   ae (aP s6 5) λ_=>
   ae (s5.toList[s6.toNat]?) λe14=>
   cond (decide (s6 < 4)) (
    ae (aP (I64 (s6+1)) 5) λ_=>
    ae ((s5.setIfInBounds s6.toNat (I64 (e11 - x12))).toList[(I64 (s6+1)).toNat]?) λe16=>
    aN (I64 (e16+(shr .i64 e9 26))) λx17=>
    ae (aP (I64 (s6+1)) 5) λ_=>
    ae ((s5.setIfInBounds s6.toNat (I64 (e11 - x12))).toList[(I64 (s6+1)).toNat]?) λe19=>
    some ((s5.setIfInBounds s6.toNat (I64 (e11 - x12))).setIfInBounds ((I64 (s6+1)).toNat) x17)) (
    ae (aP 0 5) λ_=>
    ae ((s5.setIfInBounds s6.toNat (I64 (e11 - x12))).toList[(af 0)]?) λe21=>
    aN (I64 (5*(shr .i64 e9 26))) λx22=>
    ae (aP 0 5) λ_=>
    ae ((s5.setIfInBounds s6.toNat (I64 (e11 - x12))).toList[(af 0)]?) λe24=>
    some ((s5.setIfInBounds s6.toNat (I64 (e11 - x12))).setIfInBounds ((af 0)) (I64 (e21+x22))))) λp7=>
   cC N k p7 (I64 (s6+1))) (
   some s5)
def eV(N:Nat)  : Nat->(Vector Int 5)->Int->Option ((Vector Int 5))
 | 0,_,_=>none
 | k+1,s2,s3=>
  cond (decide (s3 < 3)) (
   ae (cC N N s2 0) λp4=>
   eV N k p4 (I64 (s3+1))) (
   some s2)
def lL(N:Nat)(a0:(Vector Int 5)):Option ((Vector Int 5)):=
 ae (eV N N a0 0) λp1=>
 some p1
theorem wZ{N a0 r}(h:lL N a0=some r):FnM Tryz.prog 197 [] [(eA 5 1 j64 a0)] (eA 5 1 j64 r) []:=by
 unfold lL at h;refine At.f dI hT hmo Tryz.func197 rfl h ?_;refine At.L 3 [1,2] 2 (λp1=>([],[(0,.var (eA 5 1 j64 p1))],[])) (λp1 J k=>∃s2 s3,eV N k s2 s3=some p1/\J [1,2] 2 [(3,(j64 s3))] [(0,.var (eA 5 1 j64 s2))] []) N (λ_ h=>⟨_,_,h,jr⟩) (λp1 k s hI=>?_) λp1=>?_
 ·obtain⟨s2,s3,h,hj⟩:=hI;cases k with
  | zero=>cases h
  | succ k=>
   refine At.jr hj ?_ h;refine At.c 2 ?_ ?_
   ·refine At.L 1 [1,2,3] 2 (λp4=>([],[(0,.var (eA 5 1 j64 p4))],[])) (λp4 J k=>∃s5 s6,cC N k s5 s6=some p4/\J [1,2,3] 2 [(4,(j64 s6))] [(0,.var (eA 5 1 j64 s5))] []) N (λ_ h=>⟨_,_,h,jr⟩) (λp4 k s hI=>?_) λp4=>?_
    ·obtain⟨s5,s6,h,hj⟩:=hI;cases k with
     | zero=>cases h
     | succ k=>
      refine At.jr hj ?_ h;refine At.c 2 ?_ ?_
      ·refine At.J 0 2 [1,2,3,4] 2 (λp7=>([],[(0,.var (eA 5 1 j64 p7))],[])) (λp7=>?_) λp7=>?_
       ·refine At.b 1 (λ_ e=>aD hT (k:=1) 0 [] 0 e) λu8=>?_;refine At.b 0 (λ_ e=>aV hT j64 0 e) λe9=>?_;refine At.b 4 (λ_ e=>aD hT (k:=1) 0 [] 0 e) λu10=>?_;refine At.b 0 (λ_ e=>aV hT j64 0 e) λe11=>?_;refine lx ?_;intro x12;refine At.b 3 (λ_ e=>aD hT (k:=1) 0 [] 0 e) λu13=>?_;refine At.b 0 (λ_ e=>bB hT j64 0 s5 e (I64 (e11 - x12)) (by kernel_rfl) (by kernel_rfl) (H':=[.var (eA 5 1 j64 (s5.setIfInBounds s6.toNat (I64 (e11 - x12)))),.var (eA 5 1 j64 (ag 5 0))])) λe14=>?_;refine At.c 2 ?_ ?_
        ·refine At.b 4 (λ_ e=>aD hT (k:=1) 0 [] 0 e) λu15=>?_;refine At.b 0 (λ_ e=>aV hT j64 0 e) λe16=>?_;refine lx ?_;intro x17;refine At.b 2 (λ_ e=>aD hT (k:=1) 0 [] 0 e) λu18=>?_;refine At.b 0 (λ_ e=>bB hT j64 0 (s5.setIfInBounds s6.toNat (I64 (e11 - x12))) e x17 (by kernel_rfl) (by kernel_rfl) (H':=[.var (eA 5 1 j64 ((s5.setIfInBounds s6.toNat (I64 (e11 - x12))).setIfInBounds ((I64 (s6+1)).toNat) x17)),.var (eA 5 1 j64 (ag 5 0))])) λe19=>?_;apply rt;exact At.jn 0
        ·refine At.b 0 (λ_ e=>aD hT (k:=1) 0 [] 0 e) λu20=>?_;refine At.b 0 (λ_ e=>aV hT j64 0 e) λe21=>?_;refine lx ?_;intro x22;refine At.b 3 (λ_ e=>aD hT (k:=1) 0 [] 0 e) λu23=>?_;refine At.b 0 (λ_ e=>bB hT j64 0 (s5.setIfInBounds s6.toNat (I64 (e11 - x12))) e (I64 (e21+x22)) (by kernel_rfl) (by kernel_rfl) (H':=[.var (eA 5 1 j64 ((s5.setIfInBounds s6.toNat (I64 (e11 - x12))).setIfInBounds ((af 0)) (I64 (e21+x22)))),.var (eA 5 1 j64 (ag 5 0))])) λe24=>?_;apply rt;exact At.jn 0
       ·exact λh=>At.k 3 ⟨_,_,h,jr⟩
      ·apply rt;exact At.x 0
    ·exact λh=>At.k 3 ⟨_,_,h,jr⟩
   ·apply rt;exact At.x 0
 ·apply rt;exact At.r 2
def aDP : Nat->Bool:=imL [2,3]
def aM(N:Nat)(a0:(Vector Int 5))(s3:Int)(a1:(Vector Int 5)):Nat->(Vector Int 5)->Int->Option ((Vector Int 5))
 | 0,_,_=>none
 | k+1,s5,s6=>
  cond (decide (s6 < 5)) (
   ae (idx a0.toList s3) λe7=>
   ae (idx a1.toList s6) λe8=>
   ae (aN (decide ((I64 (s3+s6))>=5)) λx10=>
   cond x10 (
    aN (I64 (5*(I64 (e7*e8)))) λx11=>
    some x11) (
    some (I64 (e7*e8)))) λp9=>
   aN (br (I64 (s3+s6)) 5) λx12=>
   aN (br (I64 (s3+s6)) 5) λx13=>
   ae (aP x13 5) λ_=>
   ae (s5.toList[x13.toNat]?) λe15=>
   ae (aP x12 5) λ_=>
   ae (s5.toList[x12.toNat]?) λe17=>
   aM N a0 s3 a1 k (s5.setIfInBounds x12.toNat (I64 (e15+p9))) (I64 (s6+1))) (
   some s5)
def cU(N:Nat)(a0 a1:(Vector Int 5)):Nat->(Vector Int 5)->Int->Option ((Vector Int 5))
 | 0,_,_=>none
 | k+1,s2,s3=>
  cond (decide (s3 < 5)) (
   ae (aM N a0 s3 a1 N s2 0) λp4=>
   cU N a0 a1 k p4 (I64 (s3+1))) (
   some s2)
def pS(N:Nat)(a0 a1:(Vector Int 5)):Option ((Vector Int 5)):=
 ae (cU N a0 a1 N (ag 5 0) 0) λp1=>
 ae (lL N p1) λr18=>
 some r18
theorem aC6{N a0 a1 r}(h:pS N a0 a1=some r):FnM Tryz.prog 196 [] [(eA 5 1 j64 a0),(eA 5 1 j64 a1)] (eA 5 1 j64 r) []:=by
 unfold pS at h;refine At.f aDP hT hmo Tryz.func196 rfl h ?_;refine At.L 5 [4,5] 2 (λp1=>([],[(1,.var (eA 5 1 j64 p1))],[])) (λp1 J k=>∃s2 s3,cU N a0 a1 k s2 s3=some p1/\J [2,3,4,5] 2 [(6,(j64 s3))] [(1,.var (eA 5 1 j64 s2))] []) N (λ_ h=>⟨_,_,h,jr⟩) (λp1 k s hI=>?_) λp1=>?_
 ·obtain⟨s2,s3,h,hj⟩:=hI;cases k with
  | zero=>cases h
  | succ k=>
   refine At.jr hj ?_ h;refine At.c 2 ?_ ?_
   ·refine At.L 1 [2,3,4,5,6] 2 (λp4=>([],[(1,.var (eA 5 1 j64 p4))],[])) (λp4 J k=>∃s5 s6,aM N a0 s3 a1 k s5 s6=some p4/\J [2,3,4,5,6] 2 [(7,(j64 s6))] [(1,.var (eA 5 1 j64 s5))] []) N (λ_ h=>⟨_,_,h,jr⟩) (λp4 k s hI=>?_) λp4=>?_
    ·obtain⟨s5,s6,h,hj⟩:=hI;cases k with
     | zero=>cases h
     | succ k=>
      refine At.jr hj ?_ h;refine At.c 2 ?_ ?_
      ·refine bi λe7 he7=>?_;refine bi λe8 he8=>?_;refine At.d 0 (dE1 1 (λ_=>bK hT (N:=5) (k:=1) j64 a0 he7) (dE1 4 (λ_=>bK hT (N:=5) (k:=1) j64 a1 he8) dE0)) dF0 ?_;refine At.J 0 1 [2,3,4,5,6,7] 2 (λp9=>([(8,(j64 p9))],[],[])) (λp9=>?_) λp9=>?_
       ·refine lx ?_;intro x10;refine At.c 4 ?_ ?_
        ·refine lx ?_;intro x11;apply rt;exact At.jn 3
        ·apply rt;exact At.jn 0
       ·refine lx ?_;intro x12;refine lx ?_;intro x13;refine At.b 8 (λ_ e=>aD hT (k:=1) 1 [] 0 e) λu14=>?_;refine At.b 0 (λ_ e=>aV hT j64 0 e) λe15=>?_;refine At.b 2 (λ_ e=>aD hT (k:=1) 1 [] 0 e) λu16=>?_;refine At.b 0 (λ_ e=>bB hT j64 0 s5 e (I64 (e15+p9)) (by kernel_rfl) (by kernel_rfl) (H':=[.var (eA 5 1 j64 (ag 5 0)),.var (eA 5 1 j64 (s5.setIfInBounds x12.toNat (I64 (e15+p9))))])) λe17=>?_;exact λh=>At.k 3 ⟨_,_,h,jr⟩
      ·apply rt;exact At.x 0
    ·exact λh=>At.k 3 ⟨_,_,h,jr⟩
   ·apply rt;exact At.x 0
 ·refine At.b 1 (λ_ e=>aH [] (wZ e)) λr18=>?_;apply rt;exact At.r 1
def dN(N:Nat)  : Nat->(Vector Int 5)->Int->Option ((Vector Int 5))
 | 0,_,_=>none
 | k+1,s10,s11=>
  cond (decide (s11 < 4)) (
   ae (aP s11 5) λ_=>
   ae (s10.toList[s11.toNat]?) λe13=>
   ae (aP s11 5) λ_=>
   ae (s10.toList[s11.toNat]?) λe15=>
   aN (shl .i64 (shr .i64 e13 26) 26) λx16=>
   ae (aP s11 5) λ_=>
   ae (s10.toList[s11.toNat]?) λe18=>
   ae (aP (I64 (s11+1)) 5) λ_=>
   ae ((s10.setIfInBounds s11.toNat (I64 (e15 - x16))).toList[(I64 (s11+1)).toNat]?) λe20=>
   aN (I64 (e20+(shr .i64 e13 26))) λx21=>
   ae (aP (I64 (s11+1)) 5) λ_=>
   ae ((s10.setIfInBounds s11.toNat (I64 (e15 - x16))).toList[(I64 (s11+1)).toNat]?) λe23=>
   dN N k ((s10.setIfInBounds s11.toNat (I64 (e15 - x16))).setIfInBounds ((I64 (s11+1)).toNat) x21) (I64 (s11+1))) (
   some s10)
def dO(N:Nat)  : Nat->(Vector Int 5)->Int->Option ((Vector Int 5))
 | 0,_,_=>none
 | k+1,s2,s3=>
  cond (decide (s3 < 2)) (
   ae (ae (aP 0 5) λ_=>
   ae (s2.toList[(af 0)]?) λe6=>
   ae (aP 0 5) λ_=>
   ae (s2.toList[(af 0)]?) λe8=>
   ae (dN N N (s2.setIfInBounds ((af 0)) (I64 (e6+5))) 0) λp9=>
   ae (aP 4 5) λ_=>
   ae (p9.toList[(af 4)]?) λe25=>
   aN (decide (e25>=67108864)) λx26=>
   cond x26 (
    ae (aP 4 5) λ_=>
    ae (p9.toList[(af 4)]?) λe28=>
    ae (aP 4 5) λ_=>
    ae (p9.toList[(af 4)]?) λe30=>
    some ((p9.setIfInBounds ((af 4)) (I64 (e28 - 67108864)),p9.setIfInBounds ((af 4)) (I64 (e28 - 67108864))))) (
    some ((s2,p9)))) λp4=>
   dO N k p4.1 (I64 (s3+1))) (
   some s2)
def qE(N:Nat)(a0:(Vector Int 5)):Option ((Vector Int 5)):=
 ae (dO N N a0 0) λp1=>
 some p1
theorem aC2{N a0 r}(h:qE N a0=some r):FnM Tryz.prog 198 [] [(eA 5 1 j64 a0)] (eA 5 1 j64 r) []:=by
 unfold qE at h;refine At.f dI hT hmo Tryz.func198 rfl h ?_;refine At.L 3 [1,2] 2 (λp1=>([],[(0,.var (eA 5 1 j64 p1))],[])) (λp1 J k=>∃s2 s3,dO N k s2 s3=some p1/\J [1,2] 2 [(3,(j64 s3))] [(0,.var (eA 5 1 j64 s2))] []) N (λ_ h=>⟨_,_,h,jr⟩) (λp1 k s hI=>?_) λp1=>?_
 ·obtain⟨s2,s3,h,hj⟩:=hI;cases k with
  | zero=>cases h
  | succ k=>
   refine At.jr hj ?_ h;refine At.c 2 ?_ ?_
   ·refine At.J 0 2 [1,2,3] 2 (λp4=>([],[(0,.var (eA 5 1 j64 p4.1))],[.var (eA 5 1 j64 p4.2)])) (λp4=>?_) λp4=>?_
    ·refine At.b 3 (λ_ e=>aD hT (k:=1) 2 [] 0 e) λu5=>?_;refine At.b 0 (λ_ e=>aV hT j64 0 e) λe6=>?_;refine At.b 1 (λ_ e=>aD hT (k:=1) 2 [] 0 e) λu7=>?_;refine At.b 0 (λ_ e=>bB hT j64 0 s2 e (I64 (e6+5)) (by kernel_rfl) (by kernel_rfl) (H':=[.var (eA 5 1 j64 s2),.var (eA 5 1 j64 (ag 5 0)),.var (eA 5 1 j64 (s2.setIfInBounds ((af 0)) (I64 (e6+5))))])) λe8=>?_;refine At.L 1 [1,2,3,4] 3 (λp9=>([],[(2,.var (eA 5 1 j64 p9))],[])) (λp9 J k=>∃s10 s11,dN N k s10 s11=some p9/\J [1,2,3,4] 3 [(5,(j64 s11))] [(2,.var (eA 5 1 j64 s10))] []) N (λ_ h=>⟨_,_,h,jr⟩) (λp9 k s hI=>?_) λp9=>?_
     ·obtain⟨s10,s11,h,hj⟩:=hI;cases k with
      | zero=>cases h
      | succ k=>
       refine At.jr hj ?_ h;refine At.c 2 ?_ ?_
       ·refine At.b 1 (λ_ e=>aD hT (k:=1) 2 [] 0 e) λu12=>?_;refine At.b 0 (λ_ e=>aV hT j64 0 e) λe13=>?_;refine At.b 4 (λ_ e=>aD hT (k:=1) 2 [] 0 e) λu14=>?_;refine At.b 0 (λ_ e=>aV hT j64 0 e) λe15=>?_;refine lx ?_;intro x16;refine At.b 3 (λ_ e=>aD hT (k:=1) 2 [] 0 e) λu17=>?_;refine At.b 0 (λ_ e=>bB hT j64 0 s10 e (I64 (e15 - x16)) (by kernel_rfl) (by kernel_rfl) (H':=[.var (eA 5 1 j64 s2),.var (eA 5 1 j64 (ag 5 0)),.var (eA 5 1 j64 (s10.setIfInBounds s11.toNat (I64 (e15 - x16))))])) λe18=>?_;refine At.b 4 (λ_ e=>aD hT (k:=1) 2 [] 0 e) λu19=>?_;refine At.b 0 (λ_ e=>aV hT j64 0 e) λe20=>?_;refine lx ?_;intro x21;refine At.b 2 (λ_ e=>aD hT (k:=1) 2 [] 0 e) λu22=>?_;refine At.b 0 (λ_ e=>bB hT j64 0 (s10.setIfInBounds s11.toNat (I64 (e15 - x16))) e x21 (by kernel_rfl) (by kernel_rfl) (H':=[.var (eA 5 1 j64 s2),.var (eA 5 1 j64 (ag 5 0)),.var (eA 5 1 j64 ((s10.setIfInBounds s11.toNat (I64 (e15 - x16))).setIfInBounds ((I64 (s11+1)).toNat) x21))])) λe23=>?_;exact λh=>At.k 3 ⟨_,_,h,jr⟩
       ·apply rt;exact At.x 0
     ·refine At.b 0 (λ_ e=>aD hT (k:=1) 2 [] 0 e) λu24=>?_;refine At.b 0 (λ_ e=>aV hT j64 0 e) λe25=>?_;refine lx ?_;intro x26;refine At.c 1 ?_ ?_
      ·refine At.b 0 (λ_ e=>aD hT (k:=1) 2 [] 0 e) λu27=>?_;refine At.b 0 (λ_ e=>aV hT j64 0 e) λe28=>?_;refine At.b 1 (λ_ e=>aD hT (k:=1) 2 [] 0 e) λu29=>?_;refine At.b 0 (λ_ e=>bB hT j64 0 p9 e (I64 (e28 - 67108864)) (by kernel_rfl) (by kernel_rfl) (H':=[.var (eA 5 1 j64 s2),.var (eA 5 1 j64 (ag 5 0)),.var (eA 5 1 j64 (p9.setIfInBounds ((af 4)) (I64 (e28 - 67108864))))])) λe30=>?_;apply rt;exact At.jn 2
      ·apply rt;exact At.jn 0
    ·exact λh=>At.k 3 ⟨_,_,h,jr⟩
   ·apply rt;exact At.x 0
 ·apply rt;exact At.r 2
def aFK : Nat->Bool:=imL [2]
def jV(N:Nat)(a0:(Vector Int 32)):Nat->(Vector Int 16)->Int->Option ((Vector Int 16))
 | 0,_,_=>none
 | k+1,s2,s3=>
  cond (decide (s3 < 16)) (
   ae (idx a0.toList s3) λe4=>
   ae (aP s3 16) λ_=>
   ae (s2.toList[s3.toNat]?) λe6=>
   jV N a0 k (s2.setIfInBounds s3.toNat e4) (I64 (s3+1))) (
   some s2)
def jM(N:Nat)(r7:(Vector Int 16)):Nat->(Vector Int 17)->Int->Option ((Vector Int 17))
 | 0,_,_=>none
 | k+1,s9,s10=>
  cond (decide (s10 < 16)) (
   ae (aP s10 16) λ_=>
   ae (r7.toList[s10.toNat]?) λe12=>
   ae (aP s10 17) λ_=>
   ae (s9.toList[s10.toNat]?) λe14=>
   jM N r7 k (s9.setIfInBounds s10.toNat e12) (I64 (s10+1))) (
   some s9)
def dQ(N:Nat)(s18:(Vector Int 5)):Nat->(Vector Int 5)->Int->Option ((Vector Int 5))
 | 0,_,_=>none
 | k+1,s24,s25=>
  cond (decide (s25 < 5)) (
   ae (aP s25 5) λ_=>
   ae (s24.toList[s25.toNat]?) λe27=>
   ae (aP s25 5) λ_=>
   ae (s18.toList[s25.toNat]?) λe29=>
   ae (aP s25 5) λ_=>
   ae (s24.toList[s25.toNat]?) λe31=>
   dQ N s18 k (s24.setIfInBounds s25.toNat (I64 (e27+e29))) (I64 (s25+1))) (
   some s24)
def mR(N:Nat)(r16:(List (Vector Int 17)))(r15:(Vector Int 5)):Nat->(Vector Int 5)->Int->Option ((Vector Int 5))
 | 0,_,_=>none
 | k+1,s18,s19=>
  aN (decide (s19 < ((r16.length:Int)))) λx20=>
  cond x20 (
   ae (idx r16 s19) λe21=>
   ae (jS N e21) λr22=>
   ae (dQ N s18 N r22 0) λp23=>
   ae (lL N p23) λr32=>
   ae (pS N r32 r15) λr33=>
   mR N r16 r15 k r33 (I64 (s19+1))) (
   some s18)
def hJ(N:Nat)(s38:Int)(r34:(Vector Int 5)):Nat->Int->Int->Option (Int)
 | 0,_,_=>none
 | k+1,s41,s42=>
  cond (decide (s42 < 8)) (
   aN (I64 ((I64 (8*s38))+s42)) λx43=>
   ae (aP (I64 (cv x43 26)) 5) λ_=>
   ae (r34.toList[(I64 (cv x43 26)).toNat]?) λe45=>
   ae (yW .i64 e45 (br x43 26)) λx46=>
   ae (aFf .i64 (cF .i64 x46 1) s42) λx47=>
   hJ N s38 r34 k (I64 (s41+x47)) (I64 (s42+1))) (
   some s41)
def jN(N:Nat)(a0:(Vector Int 32))(r34:(Vector Int 5)):Nat->(Vector Int 16)->Int->Int->Option ((Vector Int 16))
 | 0,_,_,_=>none
 | k+1,s36,s37,s38=>
  cond (decide (s38 < 16)) (
   ae (idx a0.toList (I64 (16+s38))) λe39=>
   ae (hJ N s38 r34 N (I64 ((I64 e39)+s37)) 0) λp40=>
   ae (aP s38 16) λ_=>
   ae (s36.toList[s38.toNat]?) λe49=>
   jN N a0 r34 k (s36.setIfInBounds s38.toNat (U8 p40)) (shr .i64 p40 8) (I64 (s38+1))) (
   some s36)
def rX(N:Nat)(a0:(Vector Int 32))(a1:(List Int)):Option ((Vector Int 16)):=
 ae (jV N a0 N (ag 16 0) 0) λp1=>
 ae (iO N p1) λr7=>
 ae (jM N r7 N (ag 17 0) 0) λp8=>
 ae (jS N p8) λr15=>
 ae (oM N a1) λr16=>
 ae (mR N r16 r15 N (ag 5 0) 0) λp17=>
 ae (qE N p17) λr34=>
 ae (jN N a0 r34 N (ag 16 0) 0 0) λp35=>
 some p35
theorem aEb{N a0 a1 r}(h:rX N a0 a1=some r):FnM Tryz.prog 160 [] [(eA 32 1 k8 a0),(eL 1 k8 a1)] (eA 16 1 k8 r) []:=by
 unfold rX at h;refine At.f aFK hT hmo Tryz.func160 rfl h ?_;refine At.L 4 [1,2,4,5] 2 (λp1=>([],[(1,.var (eA 16 1 k8 p1))],[])) (λp1 J k=>∃s2 s3,jV N a0 k s2 s3=some p1/\J [1,2,4,5] 2 [(6,(j64 s3))] [(1,.var (eA 16 1 k8 s2))] []) N (λ_ h=>⟨_,_,h,jr⟩) (λp1 k s hI=>?_) λp1=>?_
 ·obtain⟨s2,s3,h,hj⟩:=hI;cases k with
  | zero=>cases h
  | succ k=>
   refine At.jr hj ?_ h;refine At.c 2 ?_ ?_
   ·refine At.b 2 (λ_ e=>bK hT (N:=32) (k:=1) k8 a0 e) λe4=>?_;refine At.b 1 (λ_ e=>aD hT (k:=1) 1 [] 0 e) λu5=>?_;refine At.b 0 (λ_ e=>bB hT k8 0 s2 e e4 (by kernel_rfl) (by kernel_rfl) (H':=[.var (eA 16 1 k8 (ag 16 0)),.var (eA 16 1 k8 (s2.setIfInBounds s3.toNat e4))])) λe6=>?_;exact λh=>At.k 3 ⟨_,_,h,jr⟩
   ·apply rt;exact At.x 0
 ·refine At.b 1 (λ_ e=>aH [] (aCr e)) λr7=>?_;refine At.L 3 [1,2,4,7] 3 (λp8=>([],[(2,.var (eA 17 1 k8 p8))],[])) (λp8 J k=>∃s9 s10,jM N r7 k s9 s10=some p8/\J [1,2,4,5,7] 3 [(8,(j64 s10))] [(2,.var (eA 17 1 k8 s9))] []) N (λ_ h=>⟨_,_,h,jr⟩) (λp8 k s hI=>?_) λp8=>?_
  ·obtain⟨s9,s10,h,hj⟩:=hI;cases k with
   | zero=>cases h
   | succ k=>
    refine At.jr hj ?_ h;refine At.c 2 ?_ ?_
    ·refine At.b 2 (λ_ e=>aD hT (k:=1) 1 [] 0 e) λu11=>?_;refine At.b 0 (λ_ e=>aV hT k8 0 e) λe12=>?_;refine At.b 0 (λ_ e=>aD hT (k:=1) 2 [] 0 e) λu13=>?_;refine At.b 0 (λ_ e=>bB hT k8 0 s9 e e12 (by kernel_rfl) (by kernel_rfl) (H':=[.var (eA 16 1 k8 (ag 16 0)),.var (eA 16 1 k8 r7),.var (eA 17 1 k8 (s9.setIfInBounds s10.toNat e12))])) λe14=>?_;exact λh=>At.k 3 ⟨_,_,h,jr⟩
    ·apply rt;exact At.x 0
  ·refine At.b 1 (λ_ e=>aH [] (xZ e)) λr15=>?_;refine At.b 4 (λ_ e=>aH [] (aCJ e)) λr16=>?_;refine At.L 2 [2,4,10] 5 (λp17=>([],[(4,.var (eA 5 1 j64 p17))],[])) (λp17 J k=>∃s18 s19,mR N r16 r15 k s18 s19=some p17/\J [2,4,9,10,11] 5 [(12,(j64 s19))] [(4,.var (eA 5 1 j64 s18))] []) N (λ_ h=>⟨_,_,h,jr⟩) (λp17 k s hI=>?_) λp17=>?_
   ·obtain⟨s18,s19,h,hj⟩:=hI;cases k with
    | zero=>cases h
    | succ k=>
     refine At.jr hj ?_ h;refine lx ?_;intro x20;refine At.c 4 ?_ ?_
     ·refine At.b 2 (λ_ e=>bA hT (eA 17 1 k8) e) λe21=>?_;refine At.b 1 (λ_ e=>aH [] (xZ e)) λr22=>?_;refine At.L 3 [2,4,9,10,11,12,13] 6 (λp23=>([],[(5,.var (eA 5 1 j64 p23))],[])) (λp23 J k=>∃s24 s25,dQ N s18 k s24 s25=some p23/\J [2,4,9,10,11,12,13] 6 [(14,(j64 s25))] [(5,.var (eA 5 1 j64 s24))] []) N (λ_ h=>⟨_,_,h,jr⟩) (λp23 k s hI=>?_) λp23=>?_
      ·obtain⟨s24,s25,h,hj⟩:=hI;cases k with
       | zero=>cases h
       | succ k=>
        refine At.jr hj ?_ h;refine At.c 2 ?_ ?_
        ·refine bi λu26 hu26=>?_;refine bi λe27 he27=>?_;refine bi λu28 hu28=>?_;refine bi λe29 he29=>?_;refine bi λu30 hu30=>?_;refine bi λe31 he31=>?_;refine At.d 0 (dE1 2 (λ_=>aD hT (k:=1) 5 [] 0 hu26) (dEL hT 3 (j64 e27) j64 0 he27 (dE1 5 (λ_=>aD hT (k:=1) 4 [] 0 hu28) (dEL hT 6 (j64 e29) j64 0 he29 (dE1 8 (λ_=>aD hT (k:=1) 5 [] 0 hu30) dE0))))) (dF 9 (.v (.bool false)) [(5,.var (eA 5 1 j64 (s24.setIfInBounds s25.toNat (I64 (e27+e29)))))] [] (bG (bB hT j64 0 s24 he31 (I64 (e27+e29)) (by kernel_rfl) (by kernel_rfl) (H':=[.var (eA 16 1 k8 (ag 16 0)),.var (eA 16 1 k8 r7),.var (eA 17 1 k8 p8),.var (eA 5 1 j64 r15),.var (eA 5 1 j64 s18),.var (eA 5 1 j64 (s24.setIfInBounds s25.toNat (I64 (e27+e29))))]))) dF0) ?_;exact λh=>At.k 3 ⟨_,_,h,jr⟩
        ·apply rt;exact At.x 0
      ·refine bi λr32 hr32=>?_;refine bi λr33 hr33=>?_;refine At.d 0 (dE2 1 (eA 5 1 j64 r32) (λ_=>bM (wZ hr32)) (dE2 3 (eA 5 1 j64 r33) (λ_=>bM (aC6 hr33)) dE0)) dF0 ?_;exact λh=>At.k 3 ⟨_,_,h,jr⟩
     ·apply rt;exact At.x 0
   ·refine At.b 1 (λ_ e=>aH [] (aC2 e)) λr34=>?_;refine At.L 4 [4,15] 6 (λp35=>([],[(5,.var (eA 16 1 k8 p35))],[])) (λp35 J k=>∃s36 s37 s38,jN N a0 r34 k s36 s37 s38=some p35/\J [2,4,10,15] 6 [(16,(j64 s37)),(17,(j64 s38))] [(5,.var (eA 16 1 k8 s36))] []) N (λ_ h=>⟨_,_,_,h,jr⟩) (λp35 k s hI=>?_) λp35=>?_
    ·obtain⟨s36,s37,s38,h,hj⟩:=hI;cases k with
     | zero=>cases h
     | succ k=>
      refine At.jr hj ?_ h;refine At.c 2 ?_ ?_
      ·refine At.b 2 (λ_ e=>bK hT (N:=32) (k:=1) k8 a0 e) λe39=>?_;refine At.L 6 [2,4,10,15,17] 6 (λp40=>([(18,(j64 p40))],[],[])) (λp40 J k=>∃s41 s42,hJ N s38 r34 k s41 s42=some p40/\J [2,4,10,15,17] 6 [(18,(j64 s41)),(19,(j64 s42))] [] []) N (λ_ h=>⟨_,_,h,jr⟩) (λp40 k s hI=>?_) λp40=>?_
       ·obtain⟨s41,s42,h,hj⟩:=hI;cases k with
        | zero=>cases h
        | succ k=>
         refine At.jr hj ?_ h;refine At.c 2 ?_ ?_
         ·refine lx ?_;intro x43;refine At.b 8 (λ_ e=>aD hT (k:=1) 4 [] 0 e) λu44=>?_;refine At.b 0 (λ_ e=>aV hT j64 0 e) λe45=>?_;refine At.b 2 (λ_ e=>nN hT (k' := .i64) e (by kernel_rfl) (by kernel_rfl)) λx46=>?_;refine At.b 2 (λ_ e=>xU hT (k' := .i64) e (by kernel_rfl) (by kernel_rfl)) λx47=>?_;exact λh=>At.k 5 ⟨_,_,h,jr⟩
         ·apply rt;exact At.x 0
       ·refine At.b 3 (λ_ e=>aD hT (k:=1) 5 [] 0 e) λu48=>?_;refine At.b 0 (λ_ e=>bB hT k8 0 s36 e (U8 p40) (by kernel_rfl) (by kernel_rfl) (H':=[.var (eA 16 1 k8 (ag 16 0)),.var (eA 16 1 k8 r7),.var (eA 17 1 k8 p8),.var (eA 5 1 j64 r15),.var (eA 5 1 j64 r34),.var (eA 16 1 k8 (s36.setIfInBounds s38.toNat (U8 p40)))])) λe49=>?_;exact λh=>At.k 6 ⟨_,_,_,h,jr⟩
      ·apply rt;exact At.x 0
    ·apply rt;exact At.r 2
def aFV : Nat->Bool:=imL [4,5]
def pI(N:Nat)(a0:(Vector Int 32))(a1:(Vector Int 12))(a2 a3:(List Int)):Option ((Vector Int 16)):=
 ae (mF N a2) λr1=>
 ae (mF N a3) λr2=>
 ae (iB 1 r1 r2) λz3=>
 ae (jR N ((a2.length:Int))) λr4=>
 ae (iB 1 z3 r4) λz5=>
 ae (rR N a0 a1) λr6=>
 ae (jR N ((a3.length:Int))) λr7=>
 ae (iB 1 z5 r7) λz8=>
 ae (rX N r6 z8) λr9=>
 some r9
theorem aEG{N a0 a1 a2 a3 r}(h:pI N a0 a1 a2 a3=some r):FnM Tryz.prog 114 [] [(eA 32 1 k8 a0),(eA 12 1 k8 a1),(eL 1 k8 a2),(eL 1 k8 a3)] (eA 16 1 k8 r) []:=by
 unfold pI at h;refine At.f aFV hT hmo Tryz.func114 rfl h ?_;refine At.b 4 (λ_ e=>aH [] (yP e)) λr1=>?_;refine At.b 1 (λ_ e=>aH [] (yP e)) λr2=>?_;refine At.b 0 (λ_ e=>bN hT k8 (id:=1) (k:=1) e) λz3=>?_;refine At.b 4 (λ_ e=>aH [] (yL e)) λr4=>?_;refine At.b 0 (λ_ e=>bN hT k8 (id:=1) (k:=1) e) λz5=>?_;refine At.b 3 (λ_ e=>aH [] (aEn e)) λr6=>?_;refine At.b 3 (λ_ e=>aH [] (yL e)) λr7=>?_;refine At.b 0 (λ_ e=>bN hT k8 (id:=1) (k:=1) e) λz8=>?_;refine At.b 0 (λ_ e=>aH [] (aEb e)) λr9=>?_;apply rt;exact At.r 1
def aEu : Nat->Bool:=imL [4,5]
def iR(N:Nat)(r4:(Vector Int 16)):Nat->(List Int)->Int->Option ((List Int))
 | 0,_,_=>none
 | k+1,s6,s7=>
  cond (decide (s7 < 16)) (
   ae (aP s7 16) λ_=>
   ae (r4.toList[s7.toNat]?) λe9=>
   ae (iB 1 s6 (([e9]:List Int))) λz10=>
   iR N r4 k z10 (I64 (s7+1))) (
   some s6)
def nX(N:Nat)(a0:(Vector Int 32))(a1:(Vector Int 12))(a2 a3:(List Int)):Option ((List Int)×Int):=
 aN (decide (((a2.length:Int)) > 16384)) λx1=>
 aN (decide (((a3.length:Int)) > 16384)) λx2=>
 cond (cond x1 true x2) (
  some (([],3))) (
  ae (sA N a0 1 a1 a3) λr3=>
  ae (pI N a0 a1 a2 r3) λr4=>
  ae (iR N r4 N r3 0) λp5=>
  some ((p5,0)))
theorem aAM{N a0 a1 a2 a3 r}(h:nX N a0 a1 a2 a3=some r):FnM Tryz.prog 95 [] [(eA 32 1 k8 a0),(eA 12 1 k8 a1),(eL 1 k8 a2),(eL 1 k8 a3)] (.tup [(eL 1 k8 r.1),(j64 r.2)]) []:=by
 unfold nX at h;refine At.f aEu hT hmo Tryz.func95 rfl h ?_;refine lx ?_;intro x1;refine lx ?_;intro x2;refine At.c 12 ?_ ?_
 ·apply rt;exact At.r 2
 ·refine At.b 3 (λ_ e=>aH [] (aEA e)) λr3=>?_;refine At.b 5 (λ_ e=>aH [] (aEG e)) λr4=>?_;refine At.L 3 [] 2 (λp5=>([(10,(eO 0 1 k8 p5))],[(0,.tail (p5.length*1))],[])) (λp5 J k=>∃s6 s7,iR N r4 k s6 s7=some p5/\J [11] 2 [(10,(eO 0 1 k8 s6)),(12,(j64 s7))] [(0,.tail (s6.length*1))] []) N (λ_ h=>⟨_,_,h,jr⟩) (λp5 k s hI=>?_) λp5=>?_
  ·obtain⟨s6,s7,h,hj⟩:=hI;cases k with
   | zero=>cases h
   | succ k=>
    refine At.jr hj ?_ h;refine At.c 2 ?_ ?_
    ·refine At.b 2 (λ_ e=>aD hT (k:=1) 1 [] 0 e) λu8=>?_;refine At.b 0 (λ_ e=>aV hT k8 0 e) λe9=>?_;refine At.o 0 (aY hT (x:=(.sl 1 1 [(k8 e9)]))) ?_;refine At.b 0 (λ_ e=>bN hT k8 (id:=0) (k:=1) e) λz10=>?_;exact λh=>At.k 4 ⟨_,_,h,jr⟩
    ·apply rt;exact At.x 0
  ·apply rt;exact At.r 3
def rA(N:Nat)(a0 a1:Int):Option ((List Int)):=
 aN (U8 (I64 (cv a0 256))) λx1=>
 aN (U8 (I64 (cv a1 256))) λx2=>
 some ([U8 (br a0 256),x1,U8 (br a1 256),x2])
theorem aD1{N a0 a1 r}(h:rA N a0 a1=some r):FnM Tryz.prog 75 [] [(j64 a0),(j64 a1)] (eL 1 k8 r) []:=by
 unfold rA at h;refine At.f dI hT hmo Tryz.func75 rfl h ?_;refine lx ?_;intro x1;refine lx ?_;intro x2;refine At.o 13 (aY hT (x:=(.sl 1 4 [(k8 (U8 (br a0 256))),(k8 x1),(k8 (U8 (br a1 256))),(k8 x2)]))) ?_;apply rt;exact At.r 1
def aFM : Nat->Bool:=imL [4,5]
def jW(N:Nat)(a1:(Vector Int 8)):Nat->(List Int)->Int->Option ((List Int))
 | 0,_,_=>none
 | k+1,s2,s3=>
  cond (decide (s3 < 8)) (
   ae (idx a1.toList s3) λe4=>
   ae (iB 1 s2 (([e4]:List Int))) λz5=>
   jW N a1 k z5 (I64 (s3+1))) (
   some s2)
def mJ(N:Nat)(a3:(List Int))(a1:(Vector Int 8))(r8:(List Int)×Int)(a0:(Vector Int 32)):Nat->(List Int)->Int->Option ((List Int))
 | 0,_,_=>none
 | k+1,s11,s12=>
  aN (decide ((I64 (s12*256)) < ((a3.length:Int)))) λx13=>
  cond x13 (
   aN (I64 ((I64 (s12*256))+256)) λx14=>
   aN (mY x14 ((a3.length:Int))) λx15=>
   ae (dU a3 (I64 (s12*256)) x15) λs16=>
   ae (rA N s12 ((s16.length:Int))) λr17=>
   ae (lB N a1 (I64 (s12+1))) λr18=>
   ae (iB 1 (([]:List Int)) r17) λz19=>
   ae (iB 1 z19 r8.1) λz20=>
   ae (nX N a0 r18 z20 s16) λr21=>
   ae (iB 1 s11 r17) λz22=>
   ae (iB 1 z22 r21.1) λz23=>
   mJ N a3 a1 r8 a0 k z23 (I64 (s12+1))) (
   some s11)
def rU(N:Nat)(a0:(Vector Int 32))(a1:(Vector Int 8))(a2 a3:(List Int)):Option ((List Int)):=
 ae (jW N a1 N (([85,77,66,49]:List Int)) 0) λp1=>
 ae (iB 1 p1 a2) λz6=>
 ae (lB N a1 0) λr7=>
 ae (nX N a0 r7 z6 []) λr8=>
 ae (iB 1 z6 r8.1) λz9=>
 ae (mJ N a3 a1 r8 a0 N z9 0) λp10=>
 some p10
theorem aEd{N a0 a1 a2 a3 r}(h:rU N a0 a1 a2 a3=some r):FnM Tryz.prog 62 [] [(eA 32 1 k8 a0),(eA 8 1 k8 a1),(eL 1 k8 a2),(eL 1 k8 a3)] (eL 1 k8 r) []:=by
 unfold rU at h;refine At.f aFM hT hmo Tryz.func62 rfl h ?_;refine At.o 3 (pM hT k8 (k:=1) ([85,77,66,49]:List Int) (by kernel_rfl) (by kernel_rfl)) ?_;refine At.L 2 [2,3,4,5] 1 (λp1=>([(9,(eO 0 1 k8 p1))],[(0,.tail (p1.length*1))],[])) (λp1 J k=>∃s2 s3,jW N a1 k s2 s3=some p1/\J [2,3,4,5] 1 [(9,(eO 0 1 k8 s2)),(10,(j64 s3))] [(0,.tail (s2.length*1))] []) N (λ_ h=>⟨_,_,h,jr⟩) (λp1 k s hI=>?_) λp1=>?_
 ·obtain⟨s2,s3,h,hj⟩:=hI;cases k with
  | zero=>cases h
  | succ k=>
   refine At.jr hj ?_ h;refine At.c 2 ?_ ?_
   ·refine At.b 2 (λ_ e=>bK hT (N:=8) (k:=1) k8 a1 e) λe4=>?_;refine At.o 1 (aY hT (x:=(.sl 1 1 [(k8 e4)]))) ?_;refine At.b 0 (λ_ e=>bN hT k8 (id:=0) (k:=1) e) λz5=>?_;exact λh=>At.k 4 ⟨_,_,h,jr⟩
   ·apply rt;exact At.x 0
 ·refine At.b 2 (λ_ e=>bN hT k8 (id:=0) (k:=1) e) λz6=>?_;refine bi λr7 hr7=>?_;refine bi λr8 hr8=>?_;refine At.d 1 (dE2 2 (eA 12 1 k8 r7) (λ_=>bM (yZ hr7)) (dE2 4 (.tup [(eL 1 k8 r8.1),(j64 r8.2)]) (λ_=>bM (aAM hr8)) dE0)) dF0 ?_;refine At.b 2 (λ_ e=>bN hT k8 (id:=0) (k:=1) e) λz9=>?_;refine At.L 2 [] 1 (λp10=>([(9,(eO 0 1 k8 p10))],[(0,.tail (p10.length*1))],[])) (λp10 J k=>∃s11 s12,mJ N a3 a1 r8 a0 k s11 s12=some p10/\J [3,4,5,11] 1 [(9,(eO 0 1 k8 s11)),(13,(j64 s12))] [(0,.tail (s11.length*1))] []) N (λ_ h=>⟨_,_,h,jr⟩) (λp10 k s hI=>?_) λp10=>?_
  ·obtain⟨s11,s12,h,hj⟩:=hI;cases k with
   | zero=>cases h
   | succ k=>
    refine At.jr hj ?_ h;refine lx ?_;intro x13;refine At.c 5 ?_ ?_
    ·refine lx ?_;intro x14;refine lx ?_;intro x15;refine At.b 9 (λ_ e=>iE hT (k:=1) k8 e) λs16=>?_;refine At.b 4 (λ_ e=>aH [] (aD1 e)) λr17=>?_;refine bi λr18 hr18=>?_;refine bi λz19 hz19=>?_;refine bi λz20 hz20=>?_;refine bi λr21 hr21=>?_;refine At.d 1 (dE2 4 (eA 12 1 k8 r18) (λ_=>bM (yZ hr18)) (dE2 11 (.tup [(eL 1 k8 r21.1),(j64 r21.2)]) (λ_=>bM (aAM hr21)) dE0)) (dF 5 (eO 1 1 k8 (([]:List Int))) [] [.tail ((([]:List Int)).length*1)] (bG (pM hT k8 (k:=1) ([]:List Int) (by kernel_rfl) (by kernel_rfl))) (dF 7 (eO 1 1 k8 z19) [(1,.tail (z19.length*1))] [] (bG (bN hT k8 (id:=1) (k:=1) hz19)) (dF 9 (eO 1 1 k8 z20) [(1,.tail (z20.length*1))] [] (bG (bN hT k8 (id:=1) (k:=1) hz20)) dF0))) ?_;refine At.b 2 (λ_ e=>bN hT k8 (id:=0) (k:=1) e) λz22=>?_;refine At.b 1 (λ_ e=>bN hT k8 (id:=0) (k:=1) e) λz23=>?_;exact λh=>At.k 4 ⟨_,_,h,jr⟩
    ·apply rt;exact At.x 0
  ·apply rt;exact At.r 2
def aEa : Nat->Bool:=imL [4,5,7]
def qZ(N:Nat)(a0:(Vector Int 32))(a1:(Vector Int 8))(a2:aE)(a3:aF):Option ((List Int)×Int):=
 ae (oF N a3) λr1=>
 cond (r1.2 != 0) (
  some (([],r1.2))) (
  cond (a2.gD != a3.gD) (
   some (([],12))) (
   ae (mI N ((r1.1.length:Int))) λr2=>
   ae (mO N (aE.mk a2.gId a2.gD a2.gA6 a2.gA3 a2.gA4 a2.gTo ((r1.1.length:Int)) r2)) λr3=>
   cond (r3.2 != 0) (
    some (([],r3.2))) (
    ae (rU N a0 a1 r3.1 r1.1) λr4=>
    some ((r4,0)))))
theorem aDo{N a0 a1 a2 a3 r}(h:qZ N a0 a1 a2 a3=some r):FnM Tryz.prog 32 [] [(eA 32 1 k8 a0),(eA 8 1 k8 a1),(aE.enc a2),(aF.enc a3)] (.tup [(eL 1 k8 r.1),(j64 r.2)]) []:=by
 unfold qZ at h;refine At.f aEa hT hmo Tryz.func32 rfl h ?_;refine At.b 7 (λ_ e=>aH [] (aCR e)) λr1=>?_;refine At.c 7 ?_ ?_
 ·apply rt;exact At.r 3
 ·refine At.c 5 ?_ ?_
  ·apply rt;exact At.r 2
  ·refine At.b 6 (λ_ e=>aH [] (yE e)) λr2=>?_;refine At.b 3 (λ_ e=>aH [] (aCS e)) λr3=>?_;refine At.c 7 ?_ ?_
   ·apply rt;exact At.r 3
   ·refine At.b 4 (λ_ e=>aH [] (aEd e)) λr4=>?_;apply rt;exact At.r 2
def aEW : Nat->Bool:=imL [6,9,10,11]
def qU(N:Nat)(a0:(Vector Int 32))(a1 a2:Int)(a3:(Vector Int 8))(a4:aE)(a5:aF):Option ((List Int)×Int):=
 aN (cond (decide (a1 < 1)) true (decide (a1 > 65535))) λx1=>
 aN (cond x1 true (decide (a2 < 1))) λx2=>
 aN (cond x2 true (decide (a2 > 65535))) λx3=>
 cond x3 (
  some (([],2))) (
  ae (pF N a0 a1 a2) λr4=>
  ae (qZ N r4 a3 a4 a5) λr5=>
  cond (r5.2 != 0) (
   some (([],r5.2))) (
   aN (U8 (I64 (cv a1 256))) λx6=>
   aN (U8 (I64 (cv a2 256))) λx7=>
   ae (iB 1 (([85,77,75,49,U8 (br a1 256),x6,U8 (br a2 256),x7,0,0]:List Int)) r5.1) λz8=>
   some ((z8,0))))
theorem aD8{N a0 a1 a2 a3 a4 a5 r}(h:qU N a0 a1 a2 a3 a4 a5=some r):FnM Tryz.prog 9 [] [(eA 32 1 k8 a0),(j64 a1),(j64 a2),(eA 8 1 k8 a3),(aE.enc a4),(aF.enc a5)] (.tup [(eL 1 k8 r.1),(j64 r.2)]) []:=by
 unfold qU at h;refine At.f aEW hT hmo Tryz.func9 rfl h ?_;refine lx ?_;intro x1;refine lx ?_;intro x2;refine lx ?_;intro x3;refine At.c 20 ?_ ?_
 ·apply rt;exact At.r 2
 ·refine bi λr4 hr4=>?_;refine bi λr5 hr5=>?_;refine At.d 0 (dE2 3 (eA 32 1 k8 r4) (λ_=>bM (wQ hr4)) (dE2 7 (.tup [(eL 1 k8 r5.1),(j64 r5.2)]) (λ_=>bM (aDo hr5)) dE0)) dF0 ?_;refine At.c 2 ?_ ?_
  ·apply rt;exact At.r 3
  ·refine lx ?_;intro x6;refine lx ?_;intro x7;refine At.o 12 (pM hT k8 (k:=1) ([85,77,75,49,U8 (br a1 256),x6,U8 (br a2 256),x7,0,0]:List Int) (by kernel_rfl) (by kernel_rfl)) ?_;refine At.b 3 (λ_ e=>bN hT k8 (id:=0) (k:=1) e) λz8=>?_;apply rt;exact At.r 2
def rK(N:Nat)(a0 a1:(List Int)):Option (Bool):=
 aN (ByteArray.toList (aIr a0)==ByteArray.toList (aIr a1)) λx1=>
 some x1
theorem rT{N a0 a1 r}(h:rK N a0 a1=some r):FnM Tryz.prog 10 [] [(eL 1 k8 a0),(eL 1 k8 a1)] (eB r) []:=by
 unfold rK at h;refine At.f dI hT hmo Tryz.func10 rfl h ?_;refine At.o 2 (aJr hT a0 (v:=(eL 1 k8 a0)) (e:=5) (by kernel_rfl) (by kernel_rfl) (by kernel_rfl)) ?_;refine At.o 1 (aJr hT a1 (v:=(eL 1 k8 a1)) (e:=5) (by kernel_rfl) (by kernel_rfl) (by kernel_rfl)) ?_;refine lx ?_;intro x1;apply rt;exact At.r 2
theorem aHK : MpT Tryz.prog tbl 93 .i64 ⟨2,16,(aT.enc (aT.mk 0 0)),.st [(0,3),(1,3)]⟩:=⟨⟨3,113,rfl,rfl,rfl⟩⟩
def aMx : Nat->Bool:=imL [1]
def aDw(N:Nat)(a0:(Vector Int 32)):Option (Unit):=
 some (())
theorem aLI{N a0 r}(h:aDw N a0=some r):FnM Tryz.prog 14 [] [(eA 32 1 k8 a0)] (.ref 1 [] 0) [.mp (eM .i64 aT.enc []),.var (.st 33 [(eA 32 1 k8 a0),(.mp 0)])]:=by
 unfold aDw at h;refine At.f aMx hT hmo Tryz.func14 rfl h ?_;refine At.o 3 (aSI .i64 aT.enc (by kernel_rfl) (by kernel_rfl)) ?_;apply rt;exact At.r 3
def pZ(N:Nat)(b1:(List (Int×aT)))(a1:(Vector Int 32)):Option (Unit):=
 some (())
theorem vD{N b1 a1 r}(h:pZ N b1 a1=some r):FnM Tryz.prog 36 [.var (.st 33 [(eA 32 1 k8 a1),(.mp 1)]),.mp (eM .i64 aT.enc b1)] [(.ref 0 [] 0)] (eB false) [.var (.st 33 [(eA 32 1 k8 a1),(.mp 1)]),.mp (eM .i64 aT.enc b1)]:=by
 unfold pZ at h;refine At.f dI hT hmo Tryz.func36 rfl h ?_;refine At.o 2 (aCg hT (t:=68) (x:=(.ref 0 [] 0)) (b:=true) (by kernel_rfl) rfl rfl (by kernel_rfl)) ?_;refine At.g [5] 5 ?_;refine At.o 0 (aSH (t:=93) (kt:=3) (et:=113) (x:=(.mp 1)) (b:=true) (by kernel_rfl) rfl rfl (by kernel_rfl)) ?_;refine At.g [5] 2 ?_;apply rt;exact At.r 0
def vU(N:Nat)(b1:(List (Int×aT)))(a1:Int)(a2:(Vector Int 32)):Option ((List (Int×aT))×Int):=
 ae (pZ N b1 a2) λr1=>
 ae (rW N a1) λr2=>
 cond (!r2) (
  some ((b1,2))) (
  cond (aOe b1 a1) (some ((b1,10))) (some ((aCw b1 a1 (aT.mk 1 1),0))))
theorem aCy{N b1 a1 a2 r}(h:vU N b1 a1 a2=some r):FnM Tryz.prog 15 [.var (.st 33 [(eA 32 1 k8 a2),(.mp 1)]),.mp (eM .i64 aT.enc b1)] [(.ref 0 [] 0),(j64 a1)] (j64 r.2) [.var (.st 33 [(eA 32 1 k8 a2),(.mp 1)]),.mp (eM .i64 aT.enc r.1)]:=by
 unfold vU at h;refine At.f dI hT hmo Tryz.func15 rfl h ?_;refine At.b 2 (λ_ e=>aH [0,1] (vD e)) λr1=>?_;refine At.b 3 (λ_ e=>aH [] (yT e)) λr2=>?_;refine At.c 2 ?_ ?_
 ·apply rt;exact At.r 1
 ·refine At.o 5 (aOD hT (f:=aT.enc) (z:=aT.mk 0 0) (id:=1) (k:=a1) aHK (λ_ _ h=>by cases h) (b1:List (Int×aT)) (by kernel_rfl) (by kernel_rfl) (by kernel_rfl)) ?_;refine At.c 7 ?_ ?_
  ·apply rt;exact At.r 1
  ·refine At.o 6 (aJ3 (f:=aT.enc) (id:=1) (k:=a1) (v:=(aT.mk 1 1)) aHK (λ_=>rfl) (b1:List (Int×aT)) (by kernel_rfl) (by kernel_rfl) (by kernel_rfl)) ?_;apply rt;exact At.r 1
def xF(N:Nat):Option (aF):=
 some (aF.mk 3 (aL.mk [] [] []) (aI.mk 0 []) (aG.mk 0 (#v[0,0,0]) 0) (aK.mk 0 (#v[0,0,0]) (aB.mk 0 0 0) (aB.mk 0 0 0) (aB.mk 0 0 0)))
theorem aE4{N r}(h:xF N=some r):FnM Tryz.prog 35 [] [] (aF.enc r) []:=by
 unfold xF at h;refine At.f dI hT hmo Tryz.func35 rfl h ?_;apply rt;exact At.r 3
def sM(N:Nat)(a0:(List Int)):Option ((List Int)):=
 ae (fY N a0) λr1=>
 some r1
theorem uP{N a0 r}(h:sM N a0=some r):FnM Tryz.prog 39 [] [(eL 1 k8 a0)] (.ref 1 [] 0) [.tail (r.length*1),.var (.st 3 [(eO 0 1 k8 r),(j64 0),(eB true)])]:=by
 unfold sM at h;refine At.f dI hT hmo Tryz.func39 rfl h ?_;refine At.b 2 (λ_ e=>aH [] (uW e)) λr1=>?_;apply rt;exact At.r 3
def nA(N:Nat)(a0:aA):Option (Bool):=
 some (!a0.gC)
theorem sO{N a0 r}(h:nA N a0=some r):FnM Tryz.prog 102 [.var (aA.enc a0)] [(.ref 0 [] 0)] (eB r) [.var (aA.enc a0)]:=by
 unfold nA at h;refine At.f dI hT hmo Tryz.func102 rfl h ?_;refine At.o 2 (aCg hT (t:=117) (x:=(.ref 0 [] 0)) (b:=true) (by kernel_rfl) rfl rfl (by kernel_rfl)) ?_;refine At.g [5] 8 ?_;apply rt;exact At.r 0
def fN(N:Nat)(a0:Int)(a1:aA):Option ((List Int)×Int×(List Int)):=
 ae (nA N a1) λr1=>
 aN (cond r1 true (a1.ge != 0)) λx2=>
 cond x2 (
  some ((a1.gb,a1.ge,[]))) (
  cond (decide (a0 < 0)) (
   some ((a1.gb,2,[]))) (
   aN (decide (a0 > ((a1.gb.length:Int)))) λx3=>
   cond x3 (
    some ((a1.gb,4,[]))) (
    ae (aIK a1.gb 0 a0 a0) λs4=>
    ae (dU a1.gb a0 ((a1.gb.length:Int))) λs5=>
    some ((s5,a1.ge,s4)))))
theorem lK{N a0 a1 r}(h:fN N a0 a1=some r):FnM Tryz.prog 68 [.var (aA.enc a1)] [(.ref 0 [] 0),(j64 a0)] (eL 1 k8 r.2.2) [.var (.st 3 [(eL 1 k8 r.1),(j64 r.2.1),(eB a1.gC)])]:=by
 unfold fN at h;refine At.f dI hT hmo Tryz.func68 rfl h ?_;refine At.b 2 (λ_ e=>aH [0] (sO e)) λr1=>?_;refine lx ?_;intro x2;refine At.c 8 ?_ ?_
 ·apply rt;exact At.r 1
 ·refine At.c 3 ?_ ?_
  ·apply rt;exact At.r 5
  ·refine lx ?_;intro x3;refine At.c 8 ?_ ?_
   ·apply rt;exact At.r 5
   ·refine At.b 6 (λ_ e=>aLT hT (k:=1) k8 e (by kernel_rfl) (by kernel_rfl)) λs4=>?_;refine At.b 7 (λ_ e=>iE hT (k:=1) k8 e) λs5=>?_;apply rt;exact At.r 5
def rG(N:Nat)(r3:(List Int)×Int×(List Int)):Nat->Int->Int->Option (Int)
 | 0,_,_=>none
 | k+1,s5,s6=>
  aN (decide (s6 < ((r3.2.2.length:Int)))) λx7=>
  cond x7 (
   ae (idx r3.2.2 s6) λe8=>
   ae (aFf .u64 (U64 e8) (I64 (8*s6))) λx9=>
   rG N r3 k (bor .u64 s5 x9) (I64 (s6+1))) (
   some s5)
def bV(N:Nat)(a0:Int)(a1:aA):Option ((List Int)×Int×Int):=
 ae (aN (cond (decide (a0 < 1)) true (decide (a0 > 8))) λx2=>
 cond x2 (some (-1)) (some a0)) λp1=>
 ae (fN N p1 a1) λr3=>
 ae (rG N r3 N 0 0) λp4=>
 some ((r3.1,r3.2.1,p4))
theorem bT{N a0 a1 r}(h:bV N a0 a1=some r):FnM Tryz.prog 40 [.var (aA.enc a1)] [(.ref 0 [] 0),(j64 a0)] (k64 r.2.2) [.var (.st 3 [(eL 1 k8 r.1),(j64 r.2.1),(eB a1.gC)])]:=by
 unfold bV at h;refine At.f dI hT hmo Tryz.func40 rfl h ?_;refine At.J 1 1 [0] 1 (λp1=>([(1,(j64 p1))],[],[])) (λp1=>?_) λp1=>?_
 ·refine lx ?_;intro x2;refine At.c 6 ?_ ?_
  ·apply rt;exact At.jn 1
  ·apply rt;exact At.jn 0
 ·refine At.b 3 (λ_ e=>aH [0] (lK e)) λr3=>?_;refine At.L 2 [] 1 (λp4=>([(5,(k64 p4))],[],[])) (λp4 J k=>∃s5 s6,rG N r3 k s5 s6=some p4/\J [16,17] 1 [(5,(k64 s5)),(18,(j64 s6))] [] []) N (λ_ h=>⟨_,_,h,jr⟩) (λp4 k s hI=>?_) λp4=>?_
  ·obtain⟨s5,s6,h,hj⟩:=hI;cases k with
   | zero=>cases h
   | succ k=>
    refine At.jr hj ?_ h;refine lx ?_;intro x7;refine At.c 1 ?_ ?_
    ·refine At.b 1 (λ_ e=>bA hT k8 e) λe8=>?_;refine At.b 8 (λ_ e=>xU hT (k' := .i64) e (by kernel_rfl) (by kernel_rfl)) λx9=>?_;exact λh=>At.k 4 ⟨_,_,h,jr⟩
    ·apply rt;exact At.x 0
  ·apply rt;exact At.r 2
def oQ(N:Nat)(b1:(List (Int×aT)))(a1:Int)(a2:(Vector Int 32)):Option (aT×Int):=
 ae (pZ N b1 a2) λr1=>
 cond (!(aOe b1 a1)) (
  some ((aT.mk 0 0,11))) (
  some ((aKh b1 a1 (aT.mk 0 0),0)))
theorem tX{N b1 a1 a2 r}(h:oQ N b1 a1 a2=some r):FnM Tryz.prog 38 [.var (.st 33 [(eA 32 1 k8 a2),(.mp 1)]),.mp (eM .i64 aT.enc b1)] [(.ref 0 [] 0),(j64 a1)] (.tup [(aT.enc r.1),(j64 r.2)]) [.var (.st 33 [(eA 32 1 k8 a2),(.mp 1)]),.mp (eM .i64 aT.enc b1)]:=by
 unfold oQ at h;refine At.f dI hT hmo Tryz.func38 rfl h ?_;refine At.b 3 (λ_ e=>aH [0,1] (vD e)) λr1=>?_;refine At.o 6 (aOD hT (f:=aT.enc) (z:=aT.mk 0 0) (id:=1) (k:=a1) aHK (λ_ _ h=>by cases h) (b1:List (Int×aT)) (by kernel_rfl) (by kernel_rfl) (by kernel_rfl)) ?_;refine At.c 8 ?_ ?_
 ·apply rt;exact At.r 3
 ·apply rt;exact At.r 3
def wK(N:Nat)(a0 a1:(List Int)):Option (Bool):=
 ae (aN (decide (((a0.length:Int))>=((a1.length:Int)))) λx2=>
 cond x2 (
  ae (dU a0 0 ((a1.length:Int))) λs3=>
  ae (rK N s3 a1) λr4=>
  some r4) (
  some false)) λp1=>
 some p1
theorem aD3{N a0 a1 r}(h:wK N a0 a1=some r):FnM Tryz.prog 103 [] [(eL 1 k8 a0),(eL 1 k8 a1)] (eB r) []:=by
 unfold wK at h;refine At.f dI hT hmo Tryz.func103 rfl h ?_;refine At.J 1 0 [] 0 (λp1=>([(4,(eB p1))],[],[])) (λp1=>?_) λp1=>?_
 ·refine lx ?_;intro x2;refine At.s 10 6 ?_ ?_
  ·refine At.g [10] 3 ?_;refine At.b 0 (λ_ e=>iE hT (k:=1) k8 e) λs3=>?_;refine At.g [10] 1 ?_;refine At.b 0 (λ_ e=>aH [] (rT e)) λr4=>?_;refine At.g [10] 2 ?_;apply rt;exact At.jn 0
  ·refine At.g [10] 8 ?_;apply rt;exact At.jn 0
 ·apply rt;exact At.r 0
def aLP : Nat->Bool:=imL [2,3]
def aAF(N:Nat)(a0 a1:(Vector Int 16)):Nat->Int->Int->Option (Int)
 | 0,_,_=>none
 | k+1,s2,s3=>
  cond (decide (s3 < 16)) (
   ae (idx a0.toList s3) λe4=>
   ae (idx a1.toList s3) λe5=>
   aN (bor .u8 s2 (eZ .u8 e4 e5)) λx6=>
   aAF N a0 a1 k x6 (I64 (s3+1))) (
   some s2)
def aCF(N:Nat)(a0 a1:(Vector Int 16)):Option (Bool):=
 ae (aAF N a0 a1 N 0 0) λp1=>
 some (p1==0)
theorem aKF{N a0 a1 r}(h:aCF N a0 a1=some r):FnM Tryz.prog 151 [] [(eA 16 1 k8 a0),(eA 16 1 k8 a1)] (eB r) []:=by
 unfold aCF at h;refine At.f aLP hT hmo Tryz.func151 rfl h ?_;refine At.L 5 [] 0 (λp1=>([(5,(k8 p1))],[],[])) (λp1 J k=>∃s2 s3,aAF N a0 a1 k s2 s3=some p1/\J [2,3] 0 [(5,(k8 s2)),(7,(j64 s3))] [] []) N (λ_ h=>⟨_,_,h,jr⟩) (λp1 k s hI=>?_) λp1=>?_
 ·obtain⟨s2,s3,h,hj⟩:=hI;cases k with
  | zero=>cases h
  | succ k=>
   refine At.jr hj ?_ h;refine At.c 1 ?_ ?_
   ·refine bi λe4 he4=>?_;refine bi λe5 he5=>?_;refine lx ?_;intro x6;refine At.d 2 (dE1 2 (λ_=>bK hT (N:=16) (k:=1) k8 a0 he4) (dE1 5 (λ_=>bK hT (N:=16) (k:=1) k8 a1 he5) dE0)) dF0 ?_;exact λh=>At.k 2 ⟨_,_,h,jr⟩
   ·apply rt;exact At.x 0
 ·apply rt;exact At.r 3
def aLv : Nat->Bool:=imL [4,5]
def aAo(N:Nat)(a0:(Vector Int 32))(a1:(Vector Int 12))(a2 a3:(List Int)):Option ((List Int)×Int):=
 aN (I64 (((a3.length:Int)) - 16)) λx1=>
 cond (decide (x1 < 0)) (
  some (([],4))) (
  aN (decide (((a2.length:Int)) > 16384)) λx2=>
  aN (cond x2 true (decide (x1 > 16384))) λx3=>
  cond x3 (
   some (([],3))) (
   ae (dU a3 0 x1) λs4=>
   ae (rH N a0 a1 a2 s4) λr5=>
   ae (dU a3 x1 ((a3.length:Int))) λs6=>
   ae (aGi 16 s6) λv7=>
   ae (aCF N r5 v7) λr8=>
   cond (!r8) (
    some (([],6))) (
    ae (uR N a0 1 a1 ([s4])) λr9=>
    some ((r9,0)))))
theorem aEF{N a0 a1 a2 a3 r}(h:aAo N a0 a1 a2 a3=some r):FnM Tryz.prog 104 [] [(eA 32 1 k8 a0),(eA 12 1 k8 a1),(eL 1 k8 a2),(eL 1 k8 a3)] (.tup [(eL 1 k8 r.1),(j64 r.2)]) []:=by
 unfold aAo at h;refine At.f aLv hT hmo Tryz.func104 rfl h ?_;refine lx ?_;intro x1;refine At.c 11 ?_ ?_
 ·apply rt;exact At.r 2
 ·refine lx ?_;intro x2;refine lx ?_;intro x3;refine At.c 8 ?_ ?_
  ·apply rt;exact At.r 2
  ·refine At.b 2 (λ_ e=>iE hT (k:=1) k8 e) λs4=>?_;refine bi λr5 hr5=>?_;refine bi λs6 hs6=>?_;refine bi λv7 hv7=>?_;refine bi λr8 hr8=>?_;refine At.d 1 (dE2 4 (eA 16 1 k8 r5) (λ_=>bM (aF1 hr5)) (dE1 7 (λ_=>iE hT (k:=1) k8 hs6) (dE1 8 (λ_=>aEL hT k8 s6 v7 hv7 rfl (by kernel_rfl) (by kernel_rfl)) (dE2 10 (eB r8) (λ_=>bM (aKF hr8)) dE0)))) dF0 ?_;refine At.c 0 ?_ ?_
   ·apply rt;exact At.r 2
   ·refine At.o 3 (aY hT (x:=(.sl 1 1 [(eL 1 k8 s4)]))) ?_;refine At.b 0 (λ_ e=>aH [] (aDF e)) λr9=>?_;apply rt;exact At.r 2
def iG(N:Nat)(a0:Int)(a1:aA):Option ((List Int)×Int×Int):=
 ae (bV N a0 a1) λr1=>
 some ((r1.1,r1.2.1,I64 r1.2.2))
theorem kR{N a0 a1 r}(h:iG N a0 a1=some r):FnM Tryz.prog 152 [.var (aA.enc a1)] [(.st 1 [(.ref 0 [] 0)]),(j64 a0)] (j64 r.2.2) [.var (.st 3 [(eL 1 k8 r.1),(j64 r.2.1),(eB a1.gC)])]:=by
 unfold iG at h;refine At.f dI hT hmo Tryz.func152 rfl h ?_;refine At.b 5 (λ_ e=>aH [0] (bT e)) λr1=>?_;apply rt;exact At.r 2
def nO(N:Nat)(a0:aA):Option (Int):=
 ae (nA N a0) λr1=>
 cond r1 (some 1) (some a0.ge)
theorem tG{N a0 r}(h:nO N a0=some r):FnM Tryz.prog 106 [.var (aA.enc a0)] [(.ref 0 [] 0)] (j64 r) [.var (aA.enc a0)]:=by
 unfold nO at h;refine At.f dI hT hmo Tryz.func106 rfl h ?_;refine At.b 2 (λ_ e=>aH [0] (sO e)) λr1=>?_;refine At.c 0 ?_ ?_
 ·apply rt;exact At.r 1
 ·apply rt;exact At.r 5
def iP(N:Nat)(a0:aA):Option (Int):=
 ae (nO N a0) λr1=>
 cond (r1 != 0) (
  some r1) (
  aN (decide (((a0.gb.length:Int)) > 0)) λx2=>
  cond x2 (some 5) (some 0))
theorem mW{N a0 r}(h:iP N a0=some r):FnM Tryz.prog 111 [.var (aA.enc a0)] [(.ref 0 [] 0)] (j64 r) [.var (aA.enc a0)]:=by
 unfold iP at h;refine At.f dI hT hmo Tryz.func111 rfl h ?_;refine At.b 2 (λ_ e=>aH [0] (tG e)) λr1=>?_;refine At.c 3 ?_ ?_
 ·apply rt;exact At.r 2
 ·refine lx ?_;intro x2;refine At.c 6 ?_ ?_
  ·apply rt;exact At.r 1
  ·apply rt;exact At.r 1
def wV(N:Nat)(a0:(List Int)):Option (aE×Int):=
 ae (sM N a0) λr1=>
 ae (bV N 8 (aA.mk r1 0 true)) λr2=>
 ae (iG N 1 (aA.mk r2.1 r2.2.1 ((aA.mk r1 0 true).gC))) λr3=>
 ae (bV N 4 (aA.mk r3.1 r3.2.1 ((aA.mk r2.1 r2.2.1 ((aA.mk r1 0 true).gC)).gC))) λr4=>
 ae (aEJ 8 0 8) λ_=>
 ae (fN N 8 (aA.mk r4.1 r4.2.1 ((aA.mk r3.1 r3.2.1 ((aA.mk r2.1 r2.2.1 ((aA.mk r1 0 true).gC)).gC)).gC))) λr6=>
 ae (cpV (ag 8 0) r6.2.2 0 8) λv7=>
 ae (bV N 4 (aA.mk r6.1 r6.2.1 ((aA.mk r4.1 r4.2.1 ((aA.mk r3.1 r3.2.1 ((aA.mk r2.1 r2.2.1 ((aA.mk r1 0 true).gC)).gC)).gC)).gC))) λr8=>
 ae (bV N 4 (aA.mk r8.1 r8.2.1 ((aA.mk r6.1 r6.2.1 ((aA.mk r4.1 r4.2.1 ((aA.mk r3.1 r3.2.1 ((aA.mk r2.1 r2.2.1 ((aA.mk r1 0 true).gC)).gC)).gC)).gC)).gC))) λr9=>
 ae (iG N 4 (aA.mk r9.1 r9.2.1 ((aA.mk r8.1 r8.2.1 ((aA.mk r6.1 r6.2.1 ((aA.mk r4.1 r4.2.1 ((aA.mk r3.1 r3.2.1 ((aA.mk r2.1 r2.2.1 ((aA.mk r1 0 true).gC)).gC)).gC)).gC)).gC)).gC))) λr10=>
 ae (iG N 2 (aA.mk r10.1 r10.2.1 ((aA.mk r9.1 r9.2.1 ((aA.mk r8.1 r8.2.1 ((aA.mk r6.1 r6.2.1 ((aA.mk r4.1 r4.2.1 ((aA.mk r3.1 r3.2.1 ((aA.mk r2.1 r2.2.1 ((aA.mk r1 0 true).gC)).gC)).gC)).gC)).gC)).gC)).gC))) λr11=>
 ae (iP N (aA.mk r11.1 r11.2.1 ((aA.mk r10.1 r10.2.1 ((aA.mk r9.1 r9.2.1 ((aA.mk r8.1 r8.2.1 ((aA.mk r6.1 r6.2.1 ((aA.mk r4.1 r4.2.1 ((aA.mk r3.1 r3.2.1 ((aA.mk r2.1 r2.2.1 ((aA.mk r1 0 true).gC)).gC)).gC)).gC)).gC)).gC)).gC)).gC))) λr12=>
 cond (r12 != 0) (
  some ((aE.mk 0 0 0 (ag 8 0) 0 0 0 0,r12))) (
  ae (pH N (aE.mk r2.2.2 r3.2.2 (U32 r4.2.2) v7 (U32 r8.2.2) (U32 r9.2.2) r10.2.2 r11.2.2)) λr13=>
  cond (r13 != 0) (
   some ((aE.mk 0 0 0 (ag 8 0) 0 0 0 0,r13))) (
   some ((aE.mk r2.2.2 r3.2.2 (U32 r4.2.2) v7 (U32 r8.2.2) (U32 r9.2.2) r10.2.2 r11.2.2,0))))
theorem aDf{N a0 r}(h:wV N a0=some r):FnM Tryz.prog 105 [] [(eL 1 k8 a0)] (.tup [(aE.enc r.1),(j64 r.2)]) []:=by
 unfold wV at h;refine At.f dI hT hmo Tryz.func105 rfl h ?_;refine At.b 3 (λ_ e=>aH [] (uP e)) λr1=>?_;refine bi λr2 hr2=>?_;refine bi λr3 hr3=>?_;refine bi λr4 hr4=>?_;refine At.d2 3 [false] dC0 (dS1 2 ⟨(k64 r2.2.2),2,.var (.st 3 [(eL 1 k8 r2.1),(j64 r2.2.1),(eB ((aA.mk r1 0 true).gC))]),.var (.st 3 [(eO 1 1 k8 r1),(j64 0),(eB true)])⟩ [[.var aBV,.tail (r1.length*1),.var (.st 3 [(eO 1 1 k8 r1),(j64 0),(eB true)]),.var (.st 1 [(.ref 2 [] 0)]),.dead],[.var aBV,.tail (r1.length*1),.var (.st 3 [(eO 1 1 k8 r1),(j64 0),(eB true)]),.var (.st 1 [(.ref 2 [] 0)]),.var aBV]] ⟨bG (aH [2] (bT hr2)),bG (aH [2] (bT hr2)),trivial⟩ (dS1 4 ⟨(j64 r3.2.2),2,.var (.st 3 [(eL 1 k8 r3.1),(j64 r3.2.1),(eB ((aA.mk r2.1 r2.2.1 ((aA.mk r1 0 true).gC)).gC))]),.var (.st 3 [(eL 1 k8 r2.1),(j64 r2.2.1),(eB ((aA.mk r1 0 true).gC))])⟩ [[.var aBV,.tail (r1.length*1),.var (.st 3 [(eL 1 k8 r2.1),(j64 r2.2.1),(eB ((aA.mk r1 0 true).gC))]),.var (.st 1 [(.ref 2 [] 0)]),.dead],[.var aBV,.tail (r1.length*1),.var (.st 3 [(eL 1 k8 r2.1),(j64 r2.2.1),(eB ((aA.mk r1 0 true).gC))]),.var (.st 1 [(.ref 2 [] 0)]),.var aBV]] ⟨bG (aH [2] (kR hr3)),bG (aH [2] (kR hr3)),trivial⟩ (dS1 7 ⟨(k64 r4.2.2),2,.var (.st 3 [(eL 1 k8 r4.1),(j64 r4.2.1),(eB ((aA.mk r3.1 r3.2.1 ((aA.mk r2.1 r2.2.1 ((aA.mk r1 0 true).gC)).gC)).gC))]),.var (.st 3 [(eL 1 k8 r3.1),(j64 r3.2.1),(eB ((aA.mk r2.1 r2.2.1 ((aA.mk r1 0 true).gC)).gC))])⟩ [[.var aBV,.tail (r1.length*1),.var (.st 3 [(eL 1 k8 r3.1),(j64 r3.2.1),(eB ((aA.mk r2.1 r2.2.1 ((aA.mk r1 0 true).gC)).gC))]),.var (.st 1 [(.ref 2 [] 0)]),.dead],[.var aBV,.tail (r1.length*1),.var (.st 3 [(eL 1 k8 r3.1),(j64 r3.2.1),(eB ((aA.mk r2.1 r2.2.1 ((aA.mk r1 0 true).gC)).gC))]),.var (.st 1 [(.ref 2 [] 0)]),.var aBV]] ⟨bG (aH [2] (bT hr4)),bG (aH [2] (bT hr4)),trivial⟩ (dS1 10 ⟨(.ref 4 [] 0),4,.var aBV,.dead⟩ [[.var aBV,.tail (r1.length*1),.var (.st 3 [(eO 1 1 k8 r1),(j64 0),(eB true)]),.var (.st 1 [(.ref 2 [] 0)]),.dead],[.var aBV,.tail (r1.length*1),.var (.st 3 [(eL 1 k8 r4.1),(j64 r4.2.1),(eB ((aA.mk r3.1 r3.2.1 ((aA.mk r2.1 r2.2.1 ((aA.mk r1 0 true).gC)).gC)).gC))]),.var (.st 1 [(.ref 2 [] 0)]),.dead],[.var aBV,.tail (r1.length*1),.var (.st 3 [(eL 1 k8 r3.1),(j64 r3.2.1),(eB ((aA.mk r2.1 r2.2.1 ((aA.mk r1 0 true).gC)).gC))]),.var (.st 1 [(.ref 2 [] 0)]),.dead],[.var aBV,.tail (r1.length*1),.var (.st 3 [(eL 1 k8 r4.1),(j64 r4.2.1),(eB ((aA.mk r3.1 r3.2.1 ((aA.mk r2.1 r2.2.1 ((aA.mk r1 0 true).gC)).gC)).gC))]),.var (.st 1 [(.ref 2 [] 0)]),.dead],[.var aBV,.tail (r1.length*1),.var (.st 3 [(eL 1 k8 r2.1),(j64 r2.2.1),(eB ((aA.mk r1 0 true).gC))]),.var (.st 1 [(.ref 2 [] 0)]),.dead],[.var aBV,.tail (r1.length*1),.var (.st 3 [(eL 1 k8 r4.1),(j64 r4.2.1),(eB ((aA.mk r3.1 r3.2.1 ((aA.mk r2.1 r2.2.1 ((aA.mk r1 0 true).gC)).gC)).gC))]),.var (.st 1 [(.ref 2 [] 0)]),.dead],[.var aBV,.tail (r1.length*1),.var (.st 3 [(eL 1 k8 r3.1),(j64 r3.2.1),(eB ((aA.mk r2.1 r2.2.1 ((aA.mk r1 0 true).gC)).gC))]),.var (.st 1 [(.ref 2 [] 0)]),.dead],[.var aBV,.tail (r1.length*1),.var (.st 3 [(eL 1 k8 r4.1),(j64 r4.2.1),(eB ((aA.mk r3.1 r3.2.1 ((aA.mk r2.1 r2.2.1 ((aA.mk r1 0 true).gC)).gC)).gC))]),.var (.st 1 [(.ref 2 [] 0)]),.dead]] ⟨uG hT 4 (by kernel_rfl) (by kernel_rfl) (by kernel_rfl),uG hT 4 (by kernel_rfl) (by kernel_rfl) (by kernel_rfl),uG hT 4 (by kernel_rfl) (by kernel_rfl) (by kernel_rfl),uG hT 4 (by kernel_rfl) (by kernel_rfl) (by kernel_rfl),uG hT 4 (by kernel_rfl) (by kernel_rfl) (by kernel_rfl),uG hT 4 (by kernel_rfl) (by kernel_rfl) (by kernel_rfl),uG hT 4 (by kernel_rfl) (by kernel_rfl) (by kernel_rfl),uG hT 4 (by kernel_rfl) (by kernel_rfl) (by kernel_rfl),trivial⟩ dS0)))) ?_;refine bi λs5 hs5=>?_;refine bi λr6 hr6=>?_;refine bi λv7 hv7=>?_;refine At.d 0 (dE1 1 (λ_=>aE0 hT (k:=1) 4 [3] 3 hs5 (by kernel_rfl) (by kernel_rfl) (by decide)) dE0) (dF 4 (eL 1 k8 r6.2.2) [(2,.var (.st 3 [(eL 1 k8 r6.1),(j64 r6.2.1),(eB ((aA.mk r4.1 r4.2.1 ((aA.mk r3.1 r3.2.1 ((aA.mk r2.1 r2.2.1 ((aA.mk r1 0 true).gC)).gC)).gC)).gC))]))] [] (bG (aH [2] (lK hr6))) (dF 5 (j64 (((min r6.2.2.length 8:Nat):Int))) [(4,.var (.st 15 [(k64 r2.2.2),(j64 r3.2.2),(k32 (U32 r4.2.2)),(eA 8 1 k8 v7),(k32 0),(k32 0),(j64 0),(j64 0)]))] [] (bG (aCE hT k8 (id:=4) (path:=[3]) (off:=3) (H':=[.var aBV,.tail (r1.length*1),.var (.st 3 [(eL 1 k8 r6.1),(j64 r6.2.1),(eB ((aA.mk r4.1 r4.2.1 ((aA.mk r3.1 r3.2.1 ((aA.mk r2.1 r2.2.1 ((aA.mk r1 0 true).gC)).gC)).gC)).gC))]),.var (.st 1 [(.ref 2 [] 0)]),.var (.st 15 [(k64 r2.2.2),(j64 r3.2.2),(k32 (U32 r4.2.2)),(eA 8 1 k8 v7),(k32 0),(k32 0),(j64 0),(j64 0)])]) hv7 (by kernel_rfl) (by kernel_rfl) (by kernel_rfl))) dF0)) ?_;refine bi λr8 hr8=>?_;refine bi λr9 hr9=>?_;refine bi λr10 hr10=>?_;refine bi λr11 hr11=>?_;refine At.d 0 dE0 (dF 2 (k64 r8.2.2) [(2,.var (.st 3 [(eL 1 k8 r8.1),(j64 r8.2.1),(eB ((aA.mk r6.1 r6.2.1 ((aA.mk r4.1 r4.2.1 ((aA.mk r3.1 r3.2.1 ((aA.mk r2.1 r2.2.1 ((aA.mk r1 0 true).gC)).gC)).gC)).gC)).gC))]))] [] (bG (aH [2] (bT hr8))) (dF 6 (k64 r9.2.2) [(2,.var (.st 3 [(eL 1 k8 r9.1),(j64 r9.2.1),(eB ((aA.mk r8.1 r8.2.1 ((aA.mk r6.1 r6.2.1 ((aA.mk r4.1 r4.2.1 ((aA.mk r3.1 r3.2.1 ((aA.mk r2.1 r2.2.1 ((aA.mk r1 0 true).gC)).gC)).gC)).gC)).gC)).gC))]))] [] (bG (aH [2] (bT hr9))) (dF 9 (j64 r10.2.2) [(2,.var (.st 3 [(eL 1 k8 r10.1),(j64 r10.2.1),(eB ((aA.mk r9.1 r9.2.1 ((aA.mk r8.1 r8.2.1 ((aA.mk r6.1 r6.2.1 ((aA.mk r4.1 r4.2.1 ((aA.mk r3.1 r3.2.1 ((aA.mk r2.1 r2.2.1 ((aA.mk r1 0 true).gC)).gC)).gC)).gC)).gC)).gC)).gC))]))] [] (bG (aH [2] (kR hr10))) (dF 11 (j64 r11.2.2) [(2,.var (.st 3 [(eL 1 k8 r11.1),(j64 r11.2.1),(eB ((aA.mk r10.1 r10.2.1 ((aA.mk r9.1 r9.2.1 ((aA.mk r8.1 r8.2.1 ((aA.mk r6.1 r6.2.1 ((aA.mk r4.1 r4.2.1 ((aA.mk r3.1 r3.2.1 ((aA.mk r2.1 r2.2.1 ((aA.mk r1 0 true).gC)).gC)).gC)).gC)).gC)).gC)).gC)).gC))]))] [] (bG (aH [2] (kR hr11))) dF0)))) ?_;refine At.b 2 (λ_ e=>aH [2] (mW e)) λr12=>?_;refine At.c 3 ?_ ?_
 ·apply rt;exact At.r 4
 ·refine At.b 1 (λ_ e=>aH [] (aAY e)) λr13=>?_;refine At.c 3 ?_ ?_
  ·apply rt;exact At.r 4
  ·apply rt;exact At.r 3
def aIv : Nat->Bool:=imL [2]
def aAr(N:Nat)(a0:(Vector Int 32))(a1:(List Int)):Option (aE×Int):=
 aN (decide (((a1.length:Int)) < 63)) λx1=>
 cond x1 (
  some ((aE.mk 0 0 0 (ag 8 0) 0 0 0 0,4))) (
  ae (wK N a1 (([85,77,66,49]:List Int))) λr2=>
  cond (!r2) (
   some ((aE.mk 0 0 0 (ag 8 0) 0 0 0 0,5))) (
   ae (dU a1 4 12) λs3=>
   ae (aGi 8 s3) λv4=>
   ae (fV N v4 0) λr5=>
   ae (dU a1 0 47) λs6=>
   ae (dU a1 47 63) λs7=>
   ae (aAo N a0 r5 s6 s7) λr8=>
   cond (r8.2 != 0) (
    some ((aE.mk 0 0 0 (ag 8 0) 0 0 0 0,r8.2))) (
    ae (dU a1 12 47) λs9=>
    ae (wV N s9) λr10=>
    some ((r10.1,r10.2)))))
theorem aHD{N a0 a1 r}(h:aAr N a0 a1=some r):FnM Tryz.prog 70 [] [(eA 32 1 k8 a0),(eL 1 k8 a1)] (.tup [(aE.enc r.1),(j64 r.2)]) []:=by
 unfold aAr at h;refine At.f aIv hT hmo Tryz.func70 rfl h ?_;refine lx ?_;intro x1;refine At.c 7 ?_ ?_
 ·apply rt;exact At.r 3
 ·refine At.l2 hT 1 (d1:=16) (d2:=17) (t:=57) (e:=5) k8 (z:=1) ([85,77,66,49]:List Int) rfl rfl rfl ?_;refine At.b 0 (λ_ e=>aH [] (aD3 e)) λr2=>?_;refine At.c 2 ?_ ?_
  ·apply rt;exact At.r 3
  ·refine At.b 1 (λ_ e=>iE hT (k:=1) k8 e) λs3=>?_;refine At.b 0 (λv4 e=>aEL hT k8 s3 v4 e rfl (by kernel_rfl) (by kernel_rfl)) λv4=>?_;refine bi λr5 hr5=>?_;refine bi λs6 hs6=>?_;refine bi λs7 hs7=>?_;refine bi λr8 hr8=>?_;refine At.d 3 (dE2 2 (eA 12 1 k8 r5) (λ_=>bM (vP hr5)) (dE1 4 (λ_=>iE hT (k:=1) k8 hs6) (dE1 6 (λ_=>iE hT (k:=1) k8 hs7) (dE2 7 (.tup [(eL 1 k8 r8.1),(j64 r8.2)]) (λ_=>bM (aEF hr8)) dE0)))) dF0 ?_;refine At.c 2 ?_ ?_
   ·apply rt;exact At.r 4
   ·refine At.b 1 (λ_ e=>iE hT (k:=1) k8 e) λs9=>?_;refine At.b 0 (λ_ e=>aH [] (aDf e)) λr10=>?_;apply rt;exact At.r 4
def qM(N:Nat)(a0:Int):Option (aE×aF×Int):=
 some ((aE.mk 0 0 0 (ag 8 0) 0 0 0 0,aF.mk 0 (aL.mk [] [] []) (aI.mk 0 []) (aG.mk 0 (#v[0,0,0]) 0) (aK.mk 0 (#v[0,0,0]) (aB.mk 0 0 0) (aB.mk 0 0 0) (aB.mk 0 0 0)),a0))
theorem uN{N a0 r}(h:qM N a0=some r):FnM Tryz.prog 69 [] [(j64 a0)] (.tup [(aE.enc r.1),(aF.enc r.2.1),(j64 r.2.2)]) []:=by
 unfold qM at h;refine At.f dI hT hmo Tryz.func69 rfl h ?_;apply rt;exact At.r 9
def aB1 : Nat->Bool:=imL [6,7]
def tK(N:Nat)(a0:(Vector Int 32))(a1:(Vector Int 12))(a2:(List Int))(a3 a4:Int)(a5:aA):Option ((List Int)×Int×Bool×(List Int)×Int):=
 ae (fN N 4 a5) λr1=>
 aN (decide (((r1.2.2.length:Int)) < 4)) λx2=>
 cond x2 (
  some ((r1.1,r1.2.1,a5.gC,[],4))) (
  ae (bO N [] 2 ([U64 a3,U64 a4])) λr3=>
  ae (rK N r1.2.2 r3.1) λr4=>
  cond (!r4) (
   some ((r1.1,r1.2.1,a5.gC,[],7))) (
   ae (fN N (I64 (a4+16)) (aA.mk r1.1 r1.2.1 a5.gC)) λr5=>
   ae (nO N (aA.mk r5.1 r5.2.1 ((aA.mk r1.1 r1.2.1 a5.gC).gC))) λr6=>
   cond (r6 != 0) (
    ae (nO N (aA.mk r5.1 r5.2.1 ((aA.mk r1.1 r1.2.1 a5.gC).gC))) λr7=>
    some ((r5.1,r5.2.1,(aA.mk r1.1 r1.2.1 a5.gC).gC,[],r7))) (
    ae (dA N ([r1.2.2,a2])) λr8=>
    ae (aAo N a0 a1 r8 r5.2.2) λr9=>
    some ((r5.1,r5.2.1,(aA.mk r1.1 r1.2.1 a5.gC).gC,r9.1,r9.2)))))
theorem aBa{N a0 a1 a2 a3 a4 a5 r}(h:tK N a0 a1 a2 a3 a4 a5=some r):FnM Tryz.prog 71 [.var (aA.enc a5)] [(eA 32 1 k8 a0),(eA 12 1 k8 a1),(.ref 0 [] 0),(eL 1 k8 a2),(j64 a3),(j64 a4)] (.tup [(eL 1 k8 r.2.2.2.1),(j64 r.2.2.2.2)]) [.var (.st 3 [(eL 1 k8 r.1),(j64 r.2.1),(eB r.2.2.1)])]:=by
 unfold tK at h;refine At.f aB1 hT hmo Tryz.func71 rfl h ?_;refine At.b 5 (λ_ e=>aH [0] (lK e)) λr1=>?_;refine lx ?_;intro x2;refine At.c 4 ?_ ?_
 ·apply rt;exact At.r 2
 ·refine At.o 4 (aY hT (x:=(.sl 1 2 [(k64 (U64 a3)),(k64 (U64 a4))]))) ?_;refine At.b 0 (λ_ e=>aH [] (fO e)) λr3=>?_;refine At.b 7 (λ_ e=>aH [] (rT e)) λr4=>?_;refine At.c 1 ?_ ?_
  ·apply rt;exact At.r 2
  ·refine At.b 3 (λ_ e=>aH [0] (lK e)) λr5=>?_;refine At.b 2 (λ_ e=>aH [0] (tG e)) λr6=>?_;refine At.c 1 ?_ ?_
   ·refine At.b 1 (λ_ e=>aH [0] (tG e)) λr7=>?_;apply rt;exact At.r 2
   ·refine bi λr8 hr8=>?_;refine bi λr9 hr9=>?_;refine At.d 0 (dE1 4 (λ_=>aY hT (x:=(.sl 1 2 [(eL 1 k8 r1.2.2),(eL 1 k8 a2)]))) (dE2 7 (.tup [(eL 1 k8 r9.1),(j64 r9.2)]) (λ_=>bM (aEF hr9)) dE0)) (dF 5 (eO 2 1 k8 r8) [] [.tail (r8.length*1)] (bG (aH [] (lZ hr8))) dF0) ?_;apply rt;exact At.r 0
def tD(N:Nat)(a0:aA):Option (Int):=
 ae (nA N a0) λr1=>
 aN (cond r1 true (a0.ge != 0)) λx2=>
 cond x2 (some 0) (some ((a0.gb.length:Int)))
theorem aBj{N a0 r}(h:tD N a0=some r):FnM Tryz.prog 72 [.var (aA.enc a0)] [(.ref 0 [] 0)] (j64 r) [.var (aA.enc a0)]:=by
 unfold tD at h;refine At.f dI hT hmo Tryz.func72 rfl h ?_;refine At.b 2 (λ_ e=>aH [0] (sO e)) λr1=>?_;refine lx ?_;intro x2;refine At.c 7 ?_ ?_
 ·apply rt;exact At.r 1
 ·apply rt;exact At.r 6
def cO(N:Nat)(a0:Int)(a1:aA):Option ((List Int)×Int×Int):=
 ae (bV N a0 a1) λr1=>
 some ((r1.1,r1.2.1,I64 r1.2.2))
theorem dV{N a0 a1 r}(h:cO N a0 a1=some r):FnM Tryz.prog 153 [.var (aA.enc a1)] [(.st 1 [(.ref 0 [] 0)]),(j64 a0)] (j64 r.2.2) [.var (.st 3 [(eL 1 k8 r.1),(j64 r.2.1),(eB a1.gC)])]:=by
 unfold cO at h;refine At.f dI hT hmo Tryz.func153 rfl h ?_;refine At.b 5 (λ_ e=>aH [0] (bT e)) λr1=>?_;apply rt;exact At.r 2
def eR(N:Nat)(a0:Int)(a1:aA):Option ((List Int)×Int×Int):=
 ae (bV N a0 a1) λr1=>
 aN (cond (decide (a0 < 1)) true (decide (a0 > 8))) λx2=>
 cond x2 (
  some ((r1.1,r1.2.1,0))) (
  aN (I64 (64 - (I64 (8*a0)))) λx3=>
  ae (aFf .i64 (I64 r1.2.2) x3) λx4=>
  aN (I64 (64 - (I64 (8*a0)))) λx5=>
  ae (yW .i64 x4 x5) λx6=>
  some ((r1.1,r1.2.1,x6)))
theorem iZ{N a0 a1 r}(h:eR N a0 a1=some r):FnM Tryz.prog 157 [.var (aA.enc a1)] [(.ref 0 [] 0),(j64 a0)] (j64 r.2.2) [.var (.st 3 [(eL 1 k8 r.1),(j64 r.2.1),(eB a1.gC)])]:=by
 unfold eR at h;refine At.f dI hT hmo Tryz.func157 rfl h ?_;refine At.b 3 (λ_ e=>aH [0] (bT e)) λr1=>?_;refine lx ?_;intro x2;refine At.c 7 ?_ ?_
 ·apply rt;exact At.r 1
 ·refine lx ?_;intro x3;refine At.b 5 (λ_ e=>xU hT (k' := .i64) e (by kernel_rfl) (by kernel_rfl)) λx4=>?_;refine lx ?_;intro x5;refine At.b 3 (λ_ e=>nN hT (k' := .i64) e (by kernel_rfl) (by kernel_rfl)) λx6=>?_;apply rt;exact At.r 1
def rI(N:Nat)(a0:aA):Option ((List Int)×Int×Bool×aB):=
 ae (eR N 2 a0) λr1=>
 ae (eR N 2 (aA.mk r1.1 r1.2.1 a0.gC)) λr2=>
 ae (eR N 2 (aA.mk r2.1 r2.2.1 ((aA.mk r1.1 r1.2.1 a0.gC).gC))) λr3=>
 some ((r3.1,r3.2.1,(aA.mk r2.1 r2.2.1 ((aA.mk r1.1 r1.2.1 a0.gC).gC)).gC,aB.mk r1.2.2 r2.2.2 r3.2.2))
theorem aAS{N a0 r}(h:rI N a0=some r):FnM Tryz.prog 154 [.var (aA.enc a0)] [(.st 1 [(.ref 0 [] 0)])] (aB.enc r.2.2.2) [.var (.st 3 [(eL 1 k8 r.1),(j64 r.2.1),(eB r.2.2.1)])]:=by
 unfold rI at h;refine At.f dI hT hmo Tryz.func154 rfl h ?_;refine bi λr1 hr1=>?_;refine bi λr2 hr2=>?_;refine bi λr3 hr3=>?_;refine At.d 2 dE0 (dF 2 (j64 r1.2.2) [(0,.var (.st 3 [(eL 1 k8 r1.1),(j64 r1.2.1),(eB a0.gC)]))] [] (bG (aH [0] (iZ hr1))) (dF 5 (j64 r2.2.2) [(0,.var (.st 3 [(eL 1 k8 r2.1),(j64 r2.2.1),(eB ((aA.mk r1.1 r1.2.1 a0.gC).gC))]))] [] (bG (aH [0] (iZ hr2))) (dF 8 (j64 r3.2.2) [(0,.var (.st 3 [(eL 1 k8 r3.1),(j64 r3.2.1),(eB ((aA.mk r2.1 r2.2.1 ((aA.mk r1.1 r1.2.1 a0.gC).gC)).gC))]))] [] (bG (aH [0] (iZ hr3))) dF0))) ?_;apply rt;exact At.r 0
def xS(N:Nat)(r2:(List Int)×Int×Int):Nat->(List aB)->(List Int)->Int->Bool->Int->Option ((List aB)×(List Int)×Int×Bool)
 | 0,_,_,_,_,_=>none
 | k+1,s5,s6,s7,s8,s9=>
  cond (decide (s9 < r2.2.2)) (
   ae (rI N (aA.mk s6 s7 s8)) λr10=>
   ae (iB 24 s5 (([r10.2.2.2]:List aB))) λz11=>
   xS N r2 k z11 r10.1 r10.2.1 r10.2.2.1 (I64 (s9+1))) (
   some ((s5,s6,s7,s8)))
def xM(N:Nat)(r2:(List Int)×Int×Int):Nat->(List (Vector Int 2))->(List Int)->Int->Bool->Int->Option ((List (Vector Int 2))×(List Int)×Int×Bool)
 | 0,_,_,_,_,_=>none
 | k+1,s13,s14,s15,s16,s17=>
  cond (decide (s17 < r2.2.2)) (
   ae (cO N 2 (aA.mk s14 s15 s16)) λr18=>
   ae (cO N 2 (aA.mk r18.1 r18.2.1 ((aA.mk s14 s15 s16).gC))) λr19=>
   ae (iB 16 s13 (([#v[r18.2.2,r19.2.2]]:List (Vector Int 2)))) λz20=>
   xM N r2 k z20 r19.1 r19.2.1 ((aA.mk r18.1 r18.2.1 ((aA.mk s14 s15 s16).gC)).gC) (I64 (s17+1))) (
   some ((s13,s14,s15,s16)))
def xO(N:Nat)(r3:(List Int)×Int×Int):Nat->(List (Vector Int 3))->(List Int)->Int->Bool->Int->Option ((List (Vector Int 3))×(List Int)×Int×Bool)
 | 0,_,_,_,_,_=>none
 | k+1,s22,s23,s24,s25,s26=>
  cond (decide (s26 < r3.2.2)) (
   ae (cO N 1 (aA.mk s23 s24 s25)) λr27=>
   ae (cO N 1 (aA.mk r27.1 r27.2.1 ((aA.mk s23 s24 s25).gC))) λr28=>
   ae (cO N 1 (aA.mk r28.1 r28.2.1 ((aA.mk r27.1 r27.2.1 ((aA.mk s23 s24 s25).gC)).gC))) λr29=>
   ae (iB 24 s22 (([#v[r27.2.2,r28.2.2,r29.2.2]]:List (Vector Int 3)))) λz30=>
   xO N r3 k z30 r29.1 r29.2.1 ((aA.mk r28.1 r28.2.1 ((aA.mk r27.1 r27.2.1 ((aA.mk s23 s24 s25).gC)).gC)).gC) (I64 (s26+1))) (
   some ((s22,s23,s24,s25)))
def aAu(N:Nat)(a0:(List Int)):Option (aL×Int):=
 ae (sM N a0) λr1=>
 ae (cO N 1 (aA.mk r1 0 true)) λr2=>
 ae (cO N 1 (aA.mk r2.1 r2.2.1 ((aA.mk r1 0 true).gC))) λr3=>
 ae (xS N r2 N [] r3.1 r3.2.1 ((aA.mk r2.1 r2.2.1 ((aA.mk r1 0 true).gC)).gC) 0) λp4=>
 ae (xM N r2 N [] p4.2.1 p4.2.2.1 p4.2.2.2 0) λp12=>
 ae (xO N r3 N [] p12.2.1 p12.2.2.1 p12.2.2.2 0) λp21=>
 ae (iP N (aA.mk p21.2.1 p21.2.2.1 p21.2.2.2)) λr31=>
 cond (r31 != 0) (
  some ((aL.mk [] [] [],r31))) (
  ae (kP N (aL.mk p4.1 p12.1 p21.1)) λr32=>
  cond (r32 != 0) (
   some ((aL.mk [] [] [],r32))) (
   some ((aL.mk p4.1 p12.1 p21.1,0))))
theorem aHs{N a0 r}(h:aAu N a0=some r):FnM Tryz.prog 107 [] [(eL 1 k8 a0)] (.tup [(aL.enc r.1),(j64 r.2)]) []:=by
 unfold aAu at h;refine At.f dI hT hmo Tryz.func107 rfl h ?_;refine At.b 3 (λ_ e=>aH [] (uP e)) λr1=>?_;refine bi λr2 hr2=>?_;refine bi λr3 hr3=>?_;refine At.d 3 dE0 (dF 1 (j64 r2.2.2) [(2,.var (.st 3 [(eL 1 k8 r2.1),(j64 r2.2.1),(eB ((aA.mk r1 0 true).gC))]))] [] (bG (aH [2] (dV hr2))) (dF 3 (j64 r3.2.2) [(2,.var (.st 3 [(eL 1 k8 r3.1),(j64 r3.2.1),(eB ((aA.mk r2.1 r2.2.1 ((aA.mk r1 0 true).gC)).gC))]))] [] (bG (aH [2] (dV hr3))) dF0)) ?_;refine At.ownb 3 4 3 [0] ?_;refine At.L 0 [2,4,5,6,7] 6 (λp4=>([],[(2,.var (.st 3 [(eL 1 k8 p4.2.1),(j64 p4.2.2.1),(eB p4.2.2.2)])),(4,.var (.st 3 [(eO 5 3 aB.enc p4.1),(.v (.slice none 0 0)),(.v (.slice none 0 0))])),(5,.tail (p4.1.length*3))],[])) (λp4 J k=>∃s5 s6 s7 s8 s9,xS N r2 k s5 s6 s7 s8 s9=some p4/\J [2,4,5,6,7,17] 6 [(18,(j64 s9))] [(2,.var (.st 3 [(eL 1 k8 s6),(j64 s7),(eB s8)])),(4,.var (.st 3 [(eO 5 3 aB.enc s5),(.v (.slice none 0 0)),(.v (.slice none 0 0))])),(5,.tail (s5.length*3))] []) N (λ_ h=>⟨_,_,_,_,_,h,jr⟩) (λp4 k s hI=>?_) λp4=>?_
 ·obtain⟨s5,s6,s7,s8,s9,h,hj⟩:=hI;cases k with
  | zero=>cases h
  | succ k=>
   refine At.jr hj ?_ h;refine At.c 1 ?_ ?_
   ·refine bi λr10 hr10=>?_;refine bi λz11 hz11=>?_;refine At.d 0 (dE1 4 (λ_=>aY hT (x:=(.sl 3 1 [(aB.enc r10.2.2.2)]))) dE0) (dF 3 (aB.enc r10.2.2.2) [(2,.var (.st 3 [(eL 1 k8 r10.1),(j64 r10.2.1),(eB r10.2.2.1)]))] [] (bG (aH [2] (aAS hr10))) (dF 5 (eO 5 3 aB.enc z11) [(5,.tail (z11.length*3))] [] (bG (bN hT aB.enc (id:=5) (k:=3) hz11)) dF0)) ?_;exact λh=>At.k 2 ⟨_,_,_,_,_,h,jr⟩
   ·apply rt;exact At.x 0
 ·refine At.ownb 2 4 2 [1] ?_;refine At.L 0 [2,4,6,7] 7 (λp12=>([],[(2,.var (.st 3 [(eL 1 k8 p12.2.1),(j64 p12.2.2.1),(eB p12.2.2.2)])),(4,.var (.st 3 [(eO 5 3 aB.enc p4.1),(eO 6 2 (eA 2 1 j64) p12.1),(.v (.slice none 0 0))])),(6,.tail (p12.1.length*2))],[])) (λp12 J k=>∃s13 s14 s15 s16 s17,xM N r2 k s13 s14 s15 s16 s17=some p12/\J [2,4,6,7,28] 7 [(29,(j64 s17))] [(2,.var (.st 3 [(eL 1 k8 s14),(j64 s15),(eB s16)])),(4,.var (.st 3 [(eO 5 3 aB.enc p4.1),(eO 6 2 (eA 2 1 j64) s13),(.v (.slice none 0 0))])),(6,.tail (s13.length*2))] []) N (λ_ h=>⟨_,_,_,_,_,h,jr⟩) (λp12 k s hI=>?_) λp12=>?_
  ·obtain⟨s13,s14,s15,s16,s17,h,hj⟩:=hI;cases k with
   | zero=>cases h
   | succ k=>
    refine At.jr hj ?_ h;refine At.c 1 ?_ ?_
    ·refine bi λr18 hr18=>?_;refine bi λr19 hr19=>?_;refine bi λz20 hz20=>?_;refine At.d 0 (dE1 7 (λ_=>aY hT (x:=(.sl 2 1 [(.arr 2 1 [(j64 r18.2.2),(j64 r19.2.2)])]))) dE0) (dF 3 (j64 r18.2.2) [(2,.var (.st 3 [(eL 1 k8 r18.1),(j64 r18.2.1),(eB ((aA.mk s14 s15 s16).gC))]))] [] (bG (aH [2] (dV hr18))) (dF 5 (j64 r19.2.2) [(2,.var (.st 3 [(eL 1 k8 r19.1),(j64 r19.2.1),(eB ((aA.mk r18.1 r18.2.1 ((aA.mk s14 s15 s16).gC)).gC))]))] [] (bG (aH [2] (dV hr19))) (dF 8 (eO 6 2 (eA 2 1 j64) z20) [(6,.tail (z20.length*2))] [] (bG (bN hT (eA 2 1 j64) (id:=6) (k:=2) hz20)) dF0))) ?_;exact λh=>At.k 2 ⟨_,_,_,_,_,h,jr⟩
    ·apply rt;exact At.x 0
  ·refine At.ownb 2 4 3 [2] ?_;refine At.L 0 [2,4,7] 8 (λp21=>([],[(2,.var (.st 3 [(eL 1 k8 p21.2.1),(j64 p21.2.2.1),(eB p21.2.2.2)])),(4,.var (.st 3 [(eO 5 3 aB.enc p4.1),(eO 6 2 (eA 2 1 j64) p12.1),(eO 7 3 (eA 3 1 j64) p21.1)])),(7,.tail (p21.1.length*3))],[])) (λp21 J k=>∃s22 s23 s24 s25 s26,xO N r3 k s22 s23 s24 s25 s26=some p21/\J [2,4,7,42] 8 [(43,(j64 s26))] [(2,.var (.st 3 [(eL 1 k8 s23),(j64 s24),(eB s25)])),(4,.var (.st 3 [(eO 5 3 aB.enc p4.1),(eO 6 2 (eA 2 1 j64) p12.1),(eO 7 3 (eA 3 1 j64) s22)])),(7,.tail (s22.length*3))] []) N (λ_ h=>⟨_,_,_,_,_,h,jr⟩) (λp21 k s hI=>?_) λp21=>?_
   ·obtain⟨s22,s23,s24,s25,s26,h,hj⟩:=hI;cases k with
    | zero=>cases h
    | succ k=>
     refine At.jr hj ?_ h;refine At.c 1 ?_ ?_
     ·refine bi λr27 hr27=>?_;refine bi λr28 hr28=>?_;refine bi λr29 hr29=>?_;refine bi λz30 hz30=>?_;refine At.d 0 (dE1 9 (λ_=>aY hT (x:=(.sl 3 1 [(.arr 3 1 [(j64 r27.2.2),(j64 r28.2.2),(j64 r29.2.2)])]))) dE0) (dF 3 (j64 r27.2.2) [(2,.var (.st 3 [(eL 1 k8 r27.1),(j64 r27.2.1),(eB ((aA.mk s23 s24 s25).gC))]))] [] (bG (aH [2] (dV hr27))) (dF 5 (j64 r28.2.2) [(2,.var (.st 3 [(eL 1 k8 r28.1),(j64 r28.2.1),(eB ((aA.mk r27.1 r27.2.1 ((aA.mk s23 s24 s25).gC)).gC))]))] [] (bG (aH [2] (dV hr28))) (dF 7 (j64 r29.2.2) [(2,.var (.st 3 [(eL 1 k8 r29.1),(j64 r29.2.1),(eB ((aA.mk r28.1 r28.2.1 ((aA.mk r27.1 r27.2.1 ((aA.mk s23 s24 s25).gC)).gC)).gC))]))] [] (bG (aH [2] (dV hr29))) (dF 10 (eO 7 3 (eA 3 1 j64) z30) [(7,.tail (z30.length*3))] [] (bG (bN hT (eA 3 1 j64) (id:=7) (k:=3) hz30)) dF0)))) ?_;exact λh=>At.k 2 ⟨_,_,_,_,_,h,jr⟩
     ·apply rt;exact At.x 0
   ·refine At.b 2 (λ_ e=>aH [2] (mW e)) λr31=>?_;refine At.c 3 ?_ ?_
    ·apply rt;exact At.r 4
    ·refine At.b 1 (λ_ e=>aH [] (aAy e)) λr32=>?_;refine At.c 3 ?_ ?_
     ·apply rt;exact At.r 4
     ·apply rt;exact At.r 3
def vA(N:Nat)(x3:Int):Nat->(List (Vector Int 3))->(List Int)->Int->Bool->Int->Option ((List (Vector Int 3))×(List Int)×Int×Bool)
 | 0,_,_,_,_,_=>none
 | k+1,s5,s6,s7,s8,s9=>
  cond (decide (s9 < x3)) (
   ae (fN N 3 (aA.mk s6 s7 s8)) λr10=>
   aN (decide (((r10.2.2.length:Int)) < 3)) λx11=>
   cond x11 (
    some ((s5,r10.1,r10.2.1,(aA.mk s6 s7 s8).gC))) (
    ae (idx r10.2.2 0) λe12=>
    ae (idx r10.2.2 1) λe13=>
    ae (idx r10.2.2 2) λe14=>
    ae (iB 24 s5 (([#v[I64 e12,I64 e13,I64 e14]]:List (Vector Int 3)))) λz15=>
    vA N x3 k z15 r10.1 r10.2.1 ((aA.mk s6 s7 s8).gC) (I64 (s9+1)))) (
   some ((s5,s6,s7,s8)))
def xI(N:Nat)(a0:(List Int)):Option (aI×Int):=
 ae (sM N a0) λr1=>
 ae (bV N 1 (aA.mk r1 0 true)) λr2=>
 aN (I64 ((I64 r2.2.2)*(I64 r2.2.2))) λx3=>
 ae (vA N x3 N [] r2.1 r2.2.1 ((aA.mk r1 0 true).gC) 0) λp4=>
 ae (iP N (aA.mk p4.2.1 p4.2.2.1 p4.2.2.2)) λr16=>
 cond (r16 != 0) (
  some ((aI.mk 0 [],r16))) (
  ae (dW N (aI.mk (I64 r2.2.2) p4.1)) λr17=>
  cond (r17 != 0) (
   some ((aI.mk 0 [],r17))) (
   some ((aI.mk (I64 r2.2.2) p4.1,0))))
theorem aET{N a0 r}(h:xI N a0=some r):FnM Tryz.prog 108 [] [(eL 1 k8 a0)] (.tup [(aI.enc r.1),(j64 r.2)]) []:=by
 unfold xI at h;refine At.f dI hT hmo Tryz.func108 rfl h ?_;refine At.b 3 (λ_ e=>aH [] (uP e)) λr1=>?_;refine At.b 2 (λ_ e=>aH [2] (bT e)) λr2=>?_;refine lx ?_;intro x3;refine At.ownb 10 3 3 [1] ?_;refine At.L 0 [2,4,5] 5 (λp4=>([],[(2,.var (.st 3 [(eL 1 k8 p4.2.1),(j64 p4.2.2.1),(eB p4.2.2.2)])),(3,.var (.st 2 [(j64 (I64 r2.2.2)),(eO 4 3 (eA 3 1 j64) p4.1)])),(4,.tail (p4.1.length*3))],[])) (λp4 J k=>∃s5 s6 s7 s8 s9,vA N x3 k s5 s6 s7 s8 s9=some p4/\J [2,4,5,19] 5 [(20,(j64 s9))] [(2,.var (.st 3 [(eL 1 k8 s6),(j64 s7),(eB s8)])),(3,.var (.st 2 [(j64 (I64 r2.2.2)),(eO 4 3 (eA 3 1 j64) s5)])),(4,.tail (s5.length*3))] []) N (λ_ h=>⟨_,_,_,_,_,h,jr⟩) (λp4 k s hI=>?_) λp4=>?_
 ·obtain⟨s5,s6,s7,s8,s9,h,hj⟩:=hI;cases k with
  | zero=>cases h
  | succ k=>
   refine At.jr hj ?_ h;refine At.c 1 ?_ ?_
   ·refine At.b 1 (λ_ e=>aH [2] (lK e)) λr10=>?_;refine lx ?_;intro x11;refine At.c 4 ?_ ?_
    ·apply rt;exact At.x 0
    ·refine bi λe12 he12=>?_;refine bi λe13 he13=>?_;refine bi λe14 he14=>?_;refine bi λz15 hz15=>?_;refine At.d 0 (dE1 3 (λ_=>bA hT k8 he12) (dE1 7 (λ_=>bA hT k8 he13) (dE1 11 (λ_=>bA hT k8 he14) (dE1 15 (λ_=>aY hT (x:=(.sl 3 1 [(.arr 3 1 [(j64 (I64 e12)),(j64 (I64 e13)),(j64 (I64 e14))])]))) dE0)))) (dF 16 (eO 4 3 (eA 3 1 j64) z15) [(4,.tail (z15.length*3))] [] (bG (bN hT (eA 3 1 j64) (id:=4) (k:=3) hz15)) dF0) ?_;exact λh=>At.k 2 ⟨_,_,_,_,_,h,jr⟩
   ·apply rt;exact At.x 0
 ·refine At.b 1 (λ_ e=>aH [2] (mW e)) λr16=>?_;refine At.c 3 ?_ ?_
  ·apply rt;exact At.r 4
  ·refine At.b 1 (λ_ e=>aH [] (xC e)) λr17=>?_;refine At.c 3 ?_ ?_
   ·apply rt;exact At.r 4
   ·apply rt;exact At.r 3
def cX(N:Nat)(a0:Int)(a1:aA):Option ((List Int)×Int×Int):=
 ae (bV N a0 a1) λr1=>
 some ((r1.1,r1.2.1,I64 r1.2.2))
theorem eY{N a0 a1 r}(h:cX N a0 a1=some r):FnM Tryz.prog 109 [.var (aA.enc a1)] [(.st 1 [(.ref 0 [] 0)]),(j64 a0)] (j64 r.2.2) [.var (.st 3 [(eL 1 k8 r.1),(j64 r.2.1),(eB a1.gC)])]:=by
 unfold cX at h;refine At.f dI hT hmo Tryz.func109 rfl h ?_;refine At.b 5 (λ_ e=>aH [0] (bT e)) λr1=>?_;apply rt;exact At.r 2
def lO(N:Nat)(a0:Int)(a1:aA):Option ((List Int)×Int×Bool×(Vector Int 3)):=
 ae (cX N a0 a1) λr1=>
 ae (cX N a0 (aA.mk r1.1 r1.2.1 a1.gC)) λr2=>
 ae (cX N a0 (aA.mk r2.1 r2.2.1 ((aA.mk r1.1 r1.2.1 a1.gC).gC))) λr3=>
 some ((r3.1,r3.2.1,(aA.mk r2.1 r2.2.1 ((aA.mk r1.1 r1.2.1 a1.gC).gC)).gC,#v[r1.2.2,r2.2.2,r3.2.2]))
theorem tM{N a0 a1 r}(h:lO N a0 a1=some r):FnM Tryz.prog 110 [.var (aA.enc a1)] [(.st 1 [(.ref 0 [] 0)]),(j64 a0)] (eA 3 1 j64 r.2.2.2) [.var (.st 3 [(eL 1 k8 r.1),(j64 r.2.1),(eB r.2.2.1)])]:=by
 unfold lO at h;refine At.f dI hT hmo Tryz.func110 rfl h ?_;refine bi λr1 hr1=>?_;refine bi λr2 hr2=>?_;refine bi λr3 hr3=>?_;refine At.d 2 dE0 (dF 2 (j64 r1.2.2) [(0,.var (.st 3 [(eL 1 k8 r1.1),(j64 r1.2.1),(eB a1.gC)]))] [] (bG (aH [0] (eY hr1))) (dF 5 (j64 r2.2.2) [(0,.var (.st 3 [(eL 1 k8 r2.1),(j64 r2.2.1),(eB ((aA.mk r1.1 r1.2.1 a1.gC).gC))]))] [] (bG (aH [0] (eY hr2))) (dF 8 (j64 r3.2.2) [(0,.var (.st 3 [(eL 1 k8 r3.1),(j64 r3.2.1),(eB ((aA.mk r2.1 r2.2.1 ((aA.mk r1.1 r1.2.1 a1.gC).gC)).gC))]))] [] (bG (aH [0] (eY hr3))) dF0))) ?_;apply rt;exact At.r 0
def jL(N:Nat)(a0:aA):Option ((List Int)×Int×Bool×aB):=
 ae (eR N 2 a0) λr1=>
 ae (eR N 2 (aA.mk r1.1 r1.2.1 a0.gC)) λr2=>
 ae (eR N 2 (aA.mk r2.1 r2.2.1 ((aA.mk r1.1 r1.2.1 a0.gC).gC))) λr3=>
 some ((r3.1,r3.2.1,(aA.mk r2.1 r2.2.1 ((aA.mk r1.1 r1.2.1 a0.gC).gC)).gC,aB.mk r1.2.2 r2.2.2 r3.2.2))
theorem qF{N a0 r}(h:jL N a0=some r):FnM Tryz.prog 112 [.var (aA.enc a0)] [(.st 1 [(.ref 0 [] 0)])] (aB.enc r.2.2.2) [.var (.st 3 [(eL 1 k8 r.1),(j64 r.2.1),(eB r.2.2.1)])]:=by
 unfold jL at h;refine At.f dI hT hmo Tryz.func112 rfl h ?_;refine bi λr1 hr1=>?_;refine bi λr2 hr2=>?_;refine bi λr3 hr3=>?_;refine At.d 2 dE0 (dF 2 (j64 r1.2.2) [(0,.var (.st 3 [(eL 1 k8 r1.1),(j64 r1.2.1),(eB a0.gC)]))] [] (bG (aH [0] (iZ hr1))) (dF 5 (j64 r2.2.2) [(0,.var (.st 3 [(eL 1 k8 r2.1),(j64 r2.2.1),(eB ((aA.mk r1.1 r1.2.1 a0.gC).gC))]))] [] (bG (aH [0] (iZ hr2))) (dF 8 (j64 r3.2.2) [(0,.var (.st 3 [(eL 1 k8 r3.1),(j64 r3.2.1),(eB ((aA.mk r2.1 r2.2.1 ((aA.mk r1.1 r1.2.1 a0.gC).gC)).gC))]))] [] (bG (aH [0] (iZ hr3))) dF0))) ?_;apply rt;exact At.r 0
def aAB(N:Nat)(a0:Int)(a1:(List Int)):Option (aF×Int):=
 ae (ae (sM N a1) λr2=>
 cond (a0==1) (
  ae (aAu N a1) λr3=>
  some ((r2,r3.1.gG,r3.1.gO,r3.1.gK,0,[],0,#v[0,0,0],0,0,#v[0,0,0],0,0,0,0,0,0,0,0,0,r2,0,true,r3.2))) (
  cond (a0==2) (
   ae (xI N a1) λr4=>
   some ((r2,[],[],[],r4.1.gQ,r4.1.gL,0,#v[0,0,0],0,0,#v[0,0,0],0,0,0,0,0,0,0,0,0,r2,0,true,r4.2))) (
   cond (a0==3) (
    ae (cX N 1 (aA.mk r2 0 true)) λr5=>
    ae (lO N 2 (aA.mk r5.1 r5.2.1 ((aA.mk r2 0 true).gC))) λr6=>
    ae (cX N 2 (aA.mk r6.1 r6.2.1 r6.2.2.1)) λr7=>
    ae (iP N (aA.mk r7.1 r7.2.1 ((aA.mk r6.1 r6.2.1 r6.2.2.1).gC))) λr8=>
    some ((r2,[],[],[],0,[],r5.2.2,r6.2.2.2,r7.2.2,0,#v[0,0,0],0,0,0,0,0,0,0,0,0,r7.1,r7.2.1,(aA.mk r6.1 r6.2.1 r6.2.2.1).gC,r8))) (
    cond (a0==4) (
     ae (cX N 1 (aA.mk r2 0 true)) λr9=>
     ae (lO N 4 (aA.mk r9.1 r9.2.1 ((aA.mk r2 0 true).gC))) λr10=>
     ae (jL N (aA.mk r10.1 r10.2.1 r10.2.2.1)) λr11=>
     ae (jL N (aA.mk r11.1 r11.2.1 r11.2.2.1)) λr12=>
     ae (jL N (aA.mk r12.1 r12.2.1 r12.2.2.1)) λr13=>
     ae (iP N (aA.mk r13.1 r13.2.1 r13.2.2.1)) λr14=>
     some ((r2,[],[],[],0,[],0,#v[0,0,0],0,r9.2.2,r10.2.2.2,r11.2.2.2.gX,r11.2.2.2.gY,r11.2.2.2.gZ,r12.2.2.2.gX,r12.2.2.2.gY,r12.2.2.2.gZ,r13.2.2.2.gX,r13.2.2.2.gY,r13.2.2.2.gZ,r13.1,r13.2.1,r13.2.2.1,r14))) (
     some ((r2,[],[],[],0,[],0,#v[0,0,0],0,0,#v[0,0,0],0,0,0,0,0,0,0,0,0,r2,0,true,0))))))) λp1=>
 aN p1.2.2.2.2.2.2.2.2.2.2.2.2.2.2.2.2.2.2.2.2.2.2.2 λx15=>
 cond (x15 != 0) (
  aN p1.2.2.2.2.2.2.2.2.2.2.2.2.2.2.2.2.2.2.2.2.2.2.2 λx16=>
  some ((aF.mk 0 (aL.mk [] [] []) (aI.mk 0 []) (aG.mk 0 (#v[0,0,0]) 0) (aK.mk 0 (#v[0,0,0]) (aB.mk 0 0 0) (aB.mk 0 0 0) (aB.mk 0 0 0)),x16))) (
  ae (nL N (aF.mk a0 (aL.mk p1.2.1 p1.2.2.1 p1.2.2.2.1) (aI.mk p1.2.2.2.2.1 p1.2.2.2.2.2.1) (aG.mk p1.2.2.2.2.2.2.1 p1.2.2.2.2.2.2.2.1 p1.2.2.2.2.2.2.2.2.1) (aK.mk p1.2.2.2.2.2.2.2.2.2.1 p1.2.2.2.2.2.2.2.2.2.2.1 (aB.mk p1.2.2.2.2.2.2.2.2.2.2.2.1 p1.2.2.2.2.2.2.2.2.2.2.2.2.1 p1.2.2.2.2.2.2.2.2.2.2.2.2.2.1) (aB.mk p1.2.2.2.2.2.2.2.2.2.2.2.2.2.2.1 p1.2.2.2.2.2.2.2.2.2.2.2.2.2.2.2.1 p1.2.2.2.2.2.2.2.2.2.2.2.2.2.2.2.2.1) (aB.mk p1.2.2.2.2.2.2.2.2.2.2.2.2.2.2.2.2.2.1 p1.2.2.2.2.2.2.2.2.2.2.2.2.2.2.2.2.2.2.1 p1.2.2.2.2.2.2.2.2.2.2.2.2.2.2.2.2.2.2.2.1)))) λr17=>
  cond (r17 != 0) (
   some ((aF.mk 0 (aL.mk [] [] []) (aI.mk 0 []) (aG.mk 0 (#v[0,0,0]) 0) (aK.mk 0 (#v[0,0,0]) (aB.mk 0 0 0) (aB.mk 0 0 0) (aB.mk 0 0 0)),r17))) (
   some ((aF.mk a0 (aL.mk p1.2.1 p1.2.2.1 p1.2.2.2.1) (aI.mk p1.2.2.2.2.1 p1.2.2.2.2.2.1) (aG.mk p1.2.2.2.2.2.2.1 p1.2.2.2.2.2.2.2.1 p1.2.2.2.2.2.2.2.2.1) (aK.mk p1.2.2.2.2.2.2.2.2.2.1 p1.2.2.2.2.2.2.2.2.2.2.1 (aB.mk p1.2.2.2.2.2.2.2.2.2.2.2.1 p1.2.2.2.2.2.2.2.2.2.2.2.2.1 p1.2.2.2.2.2.2.2.2.2.2.2.2.2.1) (aB.mk p1.2.2.2.2.2.2.2.2.2.2.2.2.2.2.1 p1.2.2.2.2.2.2.2.2.2.2.2.2.2.2.2.1 p1.2.2.2.2.2.2.2.2.2.2.2.2.2.2.2.2.1) (aB.mk p1.2.2.2.2.2.2.2.2.2.2.2.2.2.2.2.2.2.1 p1.2.2.2.2.2.2.2.2.2.2.2.2.2.2.2.2.2.2.1 p1.2.2.2.2.2.2.2.2.2.2.2.2.2.2.2.2.2.2.2.1)),0))))
theorem aGf{N a0 a1 r}(h:aAB N a0 a1=some r):FnM Tryz.prog 73 [] [(j64 a0),(eL 1 k8 a1)] (.tup [(aF.enc r.1),(j64 r.2)]) []:=by
 unfold aAB at h;refine At.f dI hT hmo Tryz.func73 rfl h ?_;refine At.J 7 1 [4,6] 2 (λp1=>([(7,(j64 p1.2.2.2.2.2.2.2.2.2.2.2.2.2.2.2.2.2.2.2.2.2.2.2))],[(1,.var (.st 24 [(j64 a0),(.st 3 [(eL 3 aB.enc p1.2.1),(eL 2 (eA 2 1 j64) p1.2.2.1),(eL 3 (eA 3 1 j64) p1.2.2.2.1)]),(.st 2 [(j64 p1.2.2.2.2.1),(eL 3 (eA 3 1 j64) p1.2.2.2.2.2.1)]),(.st 5 [(j64 p1.2.2.2.2.2.2.1),(eA 3 1 j64 p1.2.2.2.2.2.2.2.1),(j64 p1.2.2.2.2.2.2.2.2.1)]),(.st 13 [(j64 p1.2.2.2.2.2.2.2.2.2.1),(eA 3 1 j64 p1.2.2.2.2.2.2.2.2.2.2.1),(.st 3 [(j64 p1.2.2.2.2.2.2.2.2.2.2.2.1),(j64 p1.2.2.2.2.2.2.2.2.2.2.2.2.1),(j64 p1.2.2.2.2.2.2.2.2.2.2.2.2.2.1)]),(.st 3 [(j64 p1.2.2.2.2.2.2.2.2.2.2.2.2.2.2.1),(j64 p1.2.2.2.2.2.2.2.2.2.2.2.2.2.2.2.1),(j64 p1.2.2.2.2.2.2.2.2.2.2.2.2.2.2.2.2.1)]),(.st 3 [(j64 p1.2.2.2.2.2.2.2.2.2.2.2.2.2.2.2.2.2.1),(j64 p1.2.2.2.2.2.2.2.2.2.2.2.2.2.2.2.2.2.2.1),(j64 p1.2.2.2.2.2.2.2.2.2.2.2.2.2.2.2.2.2.2.2.1)])])]))],[.tail (p1.1.length*1),.var (.st 3 [(eL 1 k8 p1.2.2.2.2.2.2.2.2.2.2.2.2.2.2.2.2.2.2.2.2.1),(j64 p1.2.2.2.2.2.2.2.2.2.2.2.2.2.2.2.2.2.2.2.2.2.1),(eB p1.2.2.2.2.2.2.2.2.2.2.2.2.2.2.2.2.2.2.2.2.2.2.1)]),.var (.st 1 [(.ref 3 [] 0)])])) (λp1=>?_) λp1=>?_
 ·refine At.b 1 (λ_ e=>aH [] (uP e)) λr2=>?_;refine At.c 6 ?_ ?_
  ·refine At.b 1 (λ_ e=>aH [] (aHs e)) λr3=>?_;apply rt;exact At.jn 6
  ·refine At.c 2 ?_ ?_
   ·refine At.b 1 (λ_ e=>aH [] (aET e)) λr4=>?_;apply rt;exact At.jn 6
   ·refine At.c 2 ?_ ?_
    ·refine bi λr5 hr5=>?_;refine bi λr6 hr6=>?_;refine bi λr7 hr7=>?_;refine At.d 0 dE0 (dF 1 (j64 r5.2.2) [(3,.var (.st 3 [(eL 1 k8 r5.1),(j64 r5.2.1),(eB ((aA.mk r2 0 true).gC))]))] [] (bG (aH [3] (eY hr5))) (dF 3 (eA 3 1 j64 r6.2.2.2) [(3,.var (.st 3 [(eL 1 k8 r6.1),(j64 r6.2.1),(eB r6.2.2.1)]))] [] (bG (aH [3] (tM hr6))) (dF 5 (j64 r7.2.2) [(3,.var (.st 3 [(eL 1 k8 r7.1),(j64 r7.2.1),(eB ((aA.mk r6.1 r6.2.1 r6.2.2.1).gC))]))] [] (bG (aH [3] (eY hr7))) dF0))) ?_;refine At.b 2 (λ_ e=>aH [3] (mW e)) λr8=>?_;apply rt;exact At.jn 1
    ·refine At.c 2 ?_ ?_
     ·refine bi λr9 hr9=>?_;refine bi λr10 hr10=>?_;refine bi λr11 hr11=>?_;refine bi λr12 hr12=>?_;refine bi λr13 hr13=>?_;refine At.d 0 dE0 (dF 1 (j64 r9.2.2) [(3,.var (.st 3 [(eL 1 k8 r9.1),(j64 r9.2.1),(eB ((aA.mk r2 0 true).gC))]))] [] (bG (aH [3] (eY hr9))) (dF 3 (eA 3 1 j64 r10.2.2.2) [(3,.var (.st 3 [(eL 1 k8 r10.1),(j64 r10.2.1),(eB r10.2.2.1)]))] [] (bG (aH [3] (tM hr10))) (dF 5 (aB.enc r11.2.2.2) [(3,.var (.st 3 [(eL 1 k8 r11.1),(j64 r11.2.1),(eB r11.2.2.1)]))] [] (bG (aH [3] (qF hr11))) (dF 7 (aB.enc r12.2.2.2) [(3,.var (.st 3 [(eL 1 k8 r12.1),(j64 r12.2.1),(eB r12.2.2.1)]))] [] (bG (aH [3] (qF hr12))) (dF 9 (aB.enc r13.2.2.2) [(3,.var (.st 3 [(eL 1 k8 r13.1),(j64 r13.2.1),(eB r13.2.2.1)]))] [] (bG (aH [3] (qF hr13))) dF0))))) ?_;refine At.b 2 (λ_ e=>aH [3] (mW e)) λr14=>?_;apply rt;exact At.jn 1
     ·apply rt;exact At.jn 0
 ·refine lx ?_;intro x15;refine At.c 2 ?_ ?_
  ·refine lx ?_;intro x16;apply rt;exact At.r 4
  ·refine At.b 1 (λ_ e=>aH [] (aCB e)) λr17=>?_;refine At.c 3 ?_ ?_
   ·apply rt;exact At.r 4
   ·apply rt;exact At.r 3
def aIh : Nat->Bool:=imL [2]
def xN(N:Nat)(r1:aE×Int)(v4:(Vector Int 8))(a0:(Vector Int 32))(s5:(List Int)):Nat->(List Int)->(List Int)->Int->Bool->Int->Option (Sum ((List Int)×(List Int)×Int×Bool) (aE×aF×Int))
 | 0,_,_,_,_,_=>none
 | k+1,s9,s10,s11,s12,s13=>
  aN (decide (s13 < r1.1.gA7)) λx14=>
  cond x14 (
   ae (fV N v4 (I64 (s13+1))) λr15=>
   aN (I64 (r1.1.gA0 - ((s9.length:Int)))) λx16=>
   ae (tK N a0 r15 s5 s13 (mY 256 x16) (aA.mk s10 s11 s12)) λr17=>
   cond (r17.2.2.2.2 != 0) (
    ae (qM N r17.2.2.2.2) λr18=>
    some (Sum.inr ((r18.1,r18.2.1,r18.2.2)))) (
    ae (iB 1 s9 r17.2.2.2.1) λz19=>
    xN N r1 v4 a0 s5 k z19 r17.1 r17.2.1 r17.2.2.1 (I64 (s13+1)))) (
   some (Sum.inl ((s9,s10,s11,s12))))
def aA0(N:Nat)(a0:(Vector Int 32))(a1:(List Int)):Option (aE×aF×Int):=
 ae (aAr N a0 a1) λr1=>
 cond (r1.2 != 0) (
  ae (qM N r1.2) λr2=>
  some ((r2.1,r2.2.1,r2.2.2))) (
  ae (dU a1 4 12) λs3=>
  ae (aGi 8 s3) λv4=>
  ae (dU a1 47 63) λs5=>
  ae (dU a1 63 ((a1.length:Int))) λs6=>
  ae (sM N s6) λr7=>
  ae (xN N r1 v4 a0 s5 N [] r7 0 true 0) λo=>qS o (λp8=>
   ae (tD N (aA.mk p8.2.1 p8.2.2.1 p8.2.2.2)) λr20=>
   cond (decide (r20 > 0)) (
    ae (qM N 7) λr21=>
    some ((r21.1,r21.2.1,r21.2.2))) (
    ae (aAB N r1.1.gD p8.1) λr22=>
    cond (r22.2 != 0) (
     ae (qM N r22.2) λr23=>
     some ((r23.1,r23.2.1,r23.2.2))) (
     some ((r1.1,r22.1,0))))) (λr=>some r))
theorem aHE{N a0 a1 r}(h:aA0 N a0 a1=some r):FnM Tryz.prog 41 [] [(eA 32 1 k8 a0),(eL 1 k8 a1)] (.tup [(aE.enc r.1),(aF.enc r.2.1),(j64 r.2.2)]) []:=by
 unfold aA0 at h;refine At.f aIh hT hmo Tryz.func41 rfl h ?_;refine At.b 7 (λ_ e=>aH [] (aHD e)) λr1=>?_;refine At.c 8 ?_ ?_
 ·refine At.b 2 (λ_ e=>aH [] (uN e)) λr2=>?_;apply rt;exact At.r 6
 ·refine At.b 1 (λ_ e=>iE hT (k:=1) k8 e) λs3=>?_;refine At.b 0 (λv4 e=>aEL hT k8 s3 v4 e rfl (by kernel_rfl) (by kernel_rfl)) λv4=>?_;refine At.b 4 (λ_ e=>iE hT (k:=1) k8 e) λs5=>?_;refine At.b 2 (λ_ e=>iE hT (k:=1) k8 e) λs6=>?_;refine At.b 0 (λ_ e=>aH [] (uP e)) λr7=>?_;refine At.ownn 5 13 1 ?_;refine At.LS 0 [4,5,7,8,12] 7 (λp8=>([(13,(eO 6 1 k8 p8.1))],[(5,.var (.st 3 [(eL 1 k8 p8.2.1),(j64 p8.2.2.1),(eB p8.2.2.2)])),(6,.tail (p8.1.length*1))],[])) (λop8 J k=>∃s9 s10 s11 s12 s13,xN N r1 v4 a0 s5 k s9 s10 s11 s12 s13=some op8/\J [2,4,5,7,8,10,11,12,42] 7 [(13,(eO 6 1 k8 s9)),(43,(j64 s13))] [(5,.var (.st 3 [(eL 1 k8 s10),(j64 s11),(eB s12)])),(6,.tail (s9.length*1))] []) N (λ_ h=>⟨_,_,_,_,_,h,jr⟩) (λop8 g8 k s hI=>?_) λp8=>?_
  ·obtain⟨s9,s10,s11,s12,s13,h,hj⟩:=hI;cases k with
   | zero=>cases h
   | succ k=>
    refine At.jr hj ?_ h;refine lx ?_;intro x14;refine At.c 1 ?_ ?_
    ·refine bi λr15 hr15=>?_;refine lx ?_;intro x16;refine bi λr17 hr17=>?_;refine At.d 2 (dE2 4 (eA 12 1 k8 r15) (λ_=>bM (vP hr15)) dE0) (dF 14 (.tup [(eL 1 k8 r17.2.2.2.1),(j64 r17.2.2.2.2)]) [(5,.var (.st 3 [(eL 1 k8 r17.1),(j64 r17.2.1),(eB r17.2.2.1)]))] [] (bG (aH [5] (aBa hr17))) dF0) ?_;refine At.c 2 ?_ ?_
     ·refine At.b 2 (λ_ e=>aH [] (uN e)) λr18=>?_;intro e;apply aAT g8 e;exact At.r 6
     ·refine At.b 2 (λ_ e=>bN hT k8 (id:=6) (k:=1) e) λz19=>?_;exact λh=>At.k 3 ⟨_,_,_,_,_,h,jr⟩
    ·apply rt;exact At.xs 0
  ·refine At.b 1 (λ_ e=>aH [5] (aBj e)) λr20=>?_;refine At.c 1 ?_ ?_
   ·refine At.b 1 (λ_ e=>aH [] (uN e)) λr21=>?_;apply rt;exact At.r 6
   ·refine At.b 3 (λ_ e=>aH [] (aGf e)) λr22=>?_;refine At.c 8 ?_ ?_
    ·refine At.b 2 (λ_ e=>aH [] (uN e)) λr23=>?_;apply rt;exact At.r 6
    ·refine At.d 0 dE0 dF0 ?_;apply rt;exact At.r 0
def rM(N:Nat)(b1:(List (Int×aT)))(a1:(List Int))(a2:(Vector Int 32)):Option (Int×aE×aF×Int):=
 ae (pZ N b1 a2) λr1=>
 aN (decide (((a1.length:Int)) < 10)) λx2=>
 cond x2 (
  some ((0,aE.mk 0 0 0 (ag 8 0) 0 0 0 0,aF.mk 0 (aL.mk [] [] []) (aI.mk 0 []) (aG.mk 0 (#v[0,0,0]) 0) (aK.mk 0 (#v[0,0,0]) (aB.mk 0 0 0) (aB.mk 0 0 0) (aB.mk 0 0 0)),4))) (
  ae (dU a1 0 4) λs3=>
  aN (!(ByteArray.toList (aIr s3)==ByteArray.toList (ByteArray.mk #[85,77,75,49]))) λx4=>
  cond x4 (
   some ((0,aE.mk 0 0 0 (ag 8 0) 0 0 0 0,aF.mk 0 (aL.mk [] [] []) (aI.mk 0 []) (aG.mk 0 (#v[0,0,0]) 0) (aK.mk 0 (#v[0,0,0]) (aB.mk 0 0 0) (aB.mk 0 0 0) (aB.mk 0 0 0)),5))) (
   ae (dU a1 4 10) λs5=>
   ae (sM N s5) λr6=>
   ae (bV N 2 (aA.mk r6 0 true)) λr7=>
   ae (bV N 4 (aA.mk r7.1 r7.2.1 ((aA.mk r6 0 true).gC))) λr8=>
   ae (oQ N b1 (I64 r7.2.2) a2) λr9=>
   cond (r9.2 != 0) (
    some ((0,aE.mk 0 0 0 (ag 8 0) 0 0 0 0,aF.mk 0 (aL.mk [] [] []) (aI.mk 0 []) (aG.mk 0 (#v[0,0,0]) 0) (aK.mk 0 (#v[0,0,0]) (aB.mk 0 0 0) (aB.mk 0 0 0) (aB.mk 0 0 0)),r9.2))) (
    aN (decide ((I64 r8.2.2) < r9.1.gB0)) λx10=>
    aN (decide ((I64 r8.2.2) > r9.1.gto)) λx11=>
    cond (cond x10 true x11) (
     some ((0,aE.mk 0 0 0 (ag 8 0) 0 0 0 0,aF.mk 0 (aL.mk [] [] []) (aI.mk 0 []) (aG.mk 0 (#v[0,0,0]) 0) (aK.mk 0 (#v[0,0,0]) (aB.mk 0 0 0) (aB.mk 0 0 0) (aB.mk 0 0 0)),18))) (
     ae (vW N a2 (I64 r7.2.2) (I64 r8.2.2)) λr12=>
     ae (dU a1 10 ((a1.length:Int))) λs13=>
     ae (aA0 N r12 s13) λr14=>
     cond (r14.2.2 != 0) (
      some ((0,r14.1,r14.2.1,r14.2.2))) (
      some ((I64 r7.2.2,r14.1,r14.2.1,0)))))))
theorem yO{N b1 a1 a2 r}(h:rM N b1 a1 a2=some r):FnM Tryz.prog 21 [.var (.st 33 [(eA 32 1 k8 a2),(.mp 1)]),.mp (eM .i64 aT.enc b1)] [(.ref 0 [] 0),(eL 1 k8 a1)] (.tup [(j64 r.1),(aE.enc r.2.1),(aF.enc r.2.2.1),(j64 r.2.2.2)]) [.var (.st 33 [(eA 32 1 k8 a2),(.mp 1)]),.mp (eM .i64 aT.enc b1)]:=by
 unfold rM at h;refine At.f dI hT hmo Tryz.func21 rfl h ?_;refine At.b 5 (λ_ e=>aH [0,1] (vD e)) λr1=>?_;refine lx ?_;intro x2;refine At.c 6 ?_ ?_
 ·refine At.d 0 dE0 dF0 ?_;apply rt;exact At.r 0
 ·refine At.b 1 (λ_ e=>iE hT (k:=1) k8 e) λs3=>?_;refine At.o 0 (aJr hT s3 (v:=(eL 1 k8 s3)) (e:=5) (by kernel_rfl) (by kernel_rfl) (by kernel_rfl)) ?_;refine lx ?_;intro x4;refine At.c 2 ?_ ?_
  ·refine At.d 0 dE0 dF0 ?_;apply rt;exact At.r 0
  ·refine At.b 1 (λ_ e=>iE hT (k:=1) k8 e) λs5=>?_;refine At.b 0 (λ_ e=>aH [] (uP e)) λr6=>?_;refine At.b 2 (λ_ e=>aH [5] (bT e)) λr7=>?_;refine At.b 2 (λ_ e=>aH [5] (bT e)) λr8=>?_;refine At.b 5 (λ_ e=>aH [0,1] (tX e)) λr9=>?_;refine At.c 8 ?_ ?_
   ·refine At.d 0 dE0 dF0 ?_;apply rt;exact At.r 0
   ·refine lx ?_;intro x10;refine lx ?_;intro x11;refine At.c 10 ?_ ?_
    ·refine At.d 0 dE0 dF0 ?_;apply rt;exact At.r 0
    ·refine bi λr12 hr12=>?_;refine bi λs13 hs13=>?_;refine bi λr14 hr14=>?_;refine At.d 0 (dE2 6 (eA 32 1 k8 r12) (λ_=>bM (aAm hr12)) (dE1 8 (λ_=>iE hT (k:=1) k8 hs13) (dE2 9 (.tup [(aE.enc r14.1),(aF.enc r14.2.1),(j64 r14.2.2)]) (λ_=>bM (aHE hr14)) dE0))) dF0 ?_;refine At.c 2 ?_ ?_
     ·refine At.d 0 dE0 dF0 ?_;apply rt;exact At.r 0
     ·refine At.d 0 dE0 dF0 ?_;apply rt;exact At.r 0
def tE(N:Nat)(b1:(List (Int×aT)))(a1:Int)(a2:(Vector Int 32)):Option ((List (Int×aT))×Int×Int):=
 ae (oQ N b1 a1 a2) λr1=>
 cond (r1.2 != 0) (
  some ((b1,0,r1.2))) (
  cond (r1.1.gto==65535) (
   some ((b1,0,3))) (
   some ((aCw b1 a1 (aT.mk r1.1.gB0 (I64 (r1.1.gto+1))),I64 (r1.1.gto+1),0))))
theorem aBg{N b1 a1 a2 r}(h:tE N b1 a1 a2=some r):FnM Tryz.prog 17 [.var (.st 33 [(eA 32 1 k8 a2),(.mp 1)]),.mp (eM .i64 aT.enc b1)] [(.ref 0 [] 0),(j64 a1)] (.tup [(j64 r.2.1),(j64 r.2.2)]) [.var (.st 33 [(eA 32 1 k8 a2),(.mp 1)]),.mp (eM .i64 aT.enc r.1)]:=by
 unfold tE at h;refine At.f dI hT hmo Tryz.func17 rfl h ?_;refine At.b 4 (λ_ e=>aH [0,1] (tX e)) λr1=>?_;refine At.c 8 ?_ ?_
 ·apply rt;exact At.r 3
 ·refine At.c 3 ?_ ?_
  ·apply rt;exact At.r 2
  ·refine At.d 5 dE0 (dF 6 (.v (.bool false)) [(1,.mp (eM .i64 aT.enc (aCw b1 a1 (aT.mk r1.1.gB0 (I64 (r1.1.gto+1))))))] [] (bG (aJ3 (f:=aT.enc) (id:=1) (k:=a1) (v:=(aT.mk r1.1.gB0 (I64 (r1.1.gto+1)))) aHK (λ_=>rfl) (b1:List (Int×aT)) (by kernel_rfl) (by kernel_rfl) (by kernel_rfl))) dF0) ?_;apply rt;exact At.r 4
def sU(N:Nat)(b1:(List (Int×aT)))(a1 a2:Int)(a3:(Vector Int 32)):Option ((List (Int×aT))×Int):=
 ae (oQ N b1 a1 a3) λr1=>
 cond (r1.2 != 0) (
  some ((b1,r1.2))) (
  aN (decide (a2 < r1.1.gB0)) λx2=>
  aN (cond x2 true (decide (a2>=r1.1.gto))) λx3=>
  cond x3 (
   some ((b1,2))) (
   some ((aCw b1 a1 (aT.mk (I64 (a2+1)) r1.1.gto),0))))
theorem aBN{N b1 a1 a2 a3 r}(h:sU N b1 a1 a2 a3=some r):FnM Tryz.prog 19 [.var (.st 33 [(eA 32 1 k8 a3),(.mp 1)]),.mp (eM .i64 aT.enc b1)] [(.ref 0 [] 0),(j64 a1),(j64 a2)] (j64 r.2) [.var (.st 33 [(eA 32 1 k8 a3),(.mp 1)]),.mp (eM .i64 aT.enc r.1)]:=by
 unfold sU at h;refine At.f dI hT hmo Tryz.func19 rfl h ?_;refine At.b 3 (λ_ e=>aH [0,1] (tX e)) λr1=>?_;refine At.c 8 ?_ ?_
 ·apply rt;exact At.r 2
 ·refine lx ?_;intro x2;refine lx ?_;intro x3;refine At.c 10 ?_ ?_
  ·apply rt;exact At.r 1
  ·refine At.d 4 dE0 (dF 6 (.v (.bool false)) [(1,.mp (eM .i64 aT.enc (aCw b1 a1 (aT.mk (I64 (a2+1)) r1.1.gto))))] [] (bG (aJ3 (f:=aT.enc) (id:=1) (k:=a1) (v:=(aT.mk (I64 (a2+1)) r1.1.gto)) aHK (λ_=>rfl) (b1:List (Int×aT)) (by kernel_rfl) (by kernel_rfl) (by kernel_rfl))) dF0) ?_;apply rt;exact At.r 1
def pQ(N:Nat):Option (Bool):=
 ae (aDw N ((ag 32 0).setIfInBounds 0 1)) λr1=>
 ae (vU N (([]:(List (Int×aT)))) 7 (((ag 32 0).setIfInBounds 0 1))) λr2=>
 cond (r2.2 != 0) (
  some false) (
  ae (xF N ) λr3=>
  ae (wG N ((ag 32 0).setIfInBounds 0 1) 7 1 (ag 8 0) (aE.mk 0 3 0 (ag 8 0) 0 0 0 0) r3) λr4=>
  ae (rM N r2.1 r4.1 (((ag 32 0).setIfInBounds 0 1))) λr5=>
  ae (tE N r2.1 7 (((ag 32 0).setIfInBounds 0 1))) λr6=>
  ae (sU N r6.1 7 1 (((ag 32 0).setIfInBounds 0 1))) λr7=>
  ae (rM N r7.1 r4.1 (((ag 32 0).setIfInBounds 0 1))) λr8=>
  aN (((r4.1.length:Int))==102) λx9=>
  aN (cond (r4.2==0) x9 false) λx10=>
  aN (cond x10 (r5.2.2.2==0) false) λx11=>
  aN (cond x11 (r5.1==7) false) λx12=>
  aN (cond x12 (r6.2.1==2) false) λx13=>
  aN (cond x13 (r6.2.2==0) false) λx14=>
  aN (cond x14 (r7.2==0) false) λx15=>
  aN (cond x15 (r8.2.2.2==18) false) λx16=>
  some x16)
theorem aCv{N r}(h:pQ N=some r):FnM Tryz.prog 13 [] [] (eB r) []:=by
 unfold pQ at h;refine At.f dI hT hmo Tryz.func13 rfl h ?_;refine At.b 2 (λ_ e=>aH [] (aLI e)) λr1=>?_;refine At.o 2 (aCg hT (t:=68) (x:=(.ref 1 [] 0)) (b:=true) (by kernel_rfl) rfl rfl (by kernel_rfl)) ?_;refine At.g [19] 2 ?_;refine At.b 0 (λ_ e=>aH [1,0] (aCy e)) λr2=>?_;refine At.g [19] 2 ?_;refine At.c 0 ?_ ?_
 ·apply rt;exact At.r 1
 ·refine At.b 3 (λ_ e=>aH [] (aE4 e)) λr3=>?_;refine At.b 0 (λ_ e=>aH [] (aEc e)) λr4=>?_;refine At.b 7 (λ_ e=>aH [1,0] (yO e)) λr5=>?_;refine At.b 12 (λ_ e=>aH [1,0] (aBg e)) λr6=>?_;refine At.b 6 (λ_ e=>aH [1,0] (aBN e)) λr7=>?_;refine At.b 3 (λ_ e=>aH [1,0] (yO e)) λr8=>?_;refine lx ?_;intro x9;refine lx ?_;intro x10;refine lx ?_;intro x11;refine lx ?_;intro x12;refine lx ?_;intro x13;refine lx ?_;intro x14;refine lx ?_;intro x15;refine lx ?_;intro x16;apply rt;exact At.r 43
def aBe : Nat->Bool:=imL [2]
def oS(N:Nat)(a0:bU)(a1:aF):Option (Bool):=
 ae (sG N (fW.mk 0 0 (aE.mk 0 0 0 (ag 8 0) 0 0 0 0) a1 (xJ.mk 0 0 0 0 (uU.mk (ag 9 0) (zT.mk 0 0 0))))) λr1=>
 ae (wG N a0.gA8 a0.gId a0.gA9 ((ag 8 0).setIfInBounds 0 3) a0.gM r1.gA) λr2=>
 ae (qU N a0.gA8 a0.gId a0.gA9 ((ag 8 0).setIfInBounds 0 3) a0.gM r1.gA) λr3=>
 ae (ae (rK N r2.1 r3.1) λr5=>
 cond r5 (
  cond (r2.2==r3.2) (
   ae (vW N a0.gA8 a0.gId a0.gA9) λr6=>
   ae (pF N a0.gA8 a0.gId a0.gA9) λr7=>
   aN ((eqV (λa b=>a==b)) r6 r7) λx8=>
   cond x8 (
    ae (pQ N ) λr9=>
    some r9) (
    some false)) (
   some false)) (
  some false)) λp4=>
 some p4
theorem aBG{N a0 a1 r}(h:oS N a0 a1=some r):FnM Tryz.prog 3 [] [(bU.enc a0),(aF.enc a1)] (eB r) []:=by
 unfold oS at h;refine At.f aBe hT hmo Tryz.func3 rfl h ?_;refine At.b 5 (λ_ e=>aH [] (aEq e)) λr1=>?_;refine At.b 12 (λ_ e=>aH [] (aEc e)) λr2=>?_;refine At.b 15 (λ_ e=>aH [] (aD8 e)) λr3=>?_;refine At.J 5 0 [] 1 (λp4=>([(4,(eB p4))],[],[])) (λp4=>?_) λp4=>?_
 ·refine bi λr5 hr5=>?_;refine boI (λhc3=>?_) (λhc3=>?_)
  ·refine boI (λhc8=>?_) (λhc8=>?_)
   ·refine bi λr6 hr6=>?_;refine bi λr7 hr7=>?_;refine lx ?_;intro x8;refine boI (λhc25=>?_) (λhc25=>?_)
    ·refine bi λr9 hr9=>?_;refine At.d 0 (dE2 2 (eB r5) (λ_=>bM (rT hr5)) (dE1 3 (λ_=>tR hc3 rfl (qX hT (im:=false) (by kernel_rfl))) (dE1 8 (λ_=>tR hc8 rfl (qX hT (im:=false) (by kernel_rfl))) (dE2 15 (eA 32 1 k8 r6) (λ_=>bM (aAm hr6)) (dE2 22 (eA 32 1 k8 r7) (λ_=>bM (wQ hr7)) (dE1 23 (λ_=>aKc aPe (r6:(Vector Int 32)) (r7:(Vector Int 32)) (by kernel_rfl) (by kernel_rfl) (λ_=>rfl) (λ_=>rfl) (by kernel_rfl) (by kernel_rfl)) (dE1 25 (λ_=>tR hc25 rfl (qX hT (im:=false) (by kernel_rfl))) (dE2 26 (eB r9) (λ_=>bM (aCv hr9)) dE0)))))))) dF0 ?_;apply rt;exact At.jn 0
    ·refine At.d 0 (dE2 2 (eB r5) (λ_=>bM (rT hr5)) (dE1 3 (λ_=>tR hc3 rfl (qX hT (im:=false) (by kernel_rfl))) (dE1 8 (λ_=>tR hc8 rfl (qX hT (im:=false) (by kernel_rfl))) (dE2 15 (eA 32 1 k8 r6) (λ_=>bM (aAm hr6)) (dE2 22 (eA 32 1 k8 r7) (λ_=>bM (wQ hr7)) (dE1 23 (λ_=>aKc aPe (r6:(Vector Int 32)) (r7:(Vector Int 32)) (by kernel_rfl) (by kernel_rfl) (λ_=>rfl) (λ_=>rfl) (by kernel_rfl) (by kernel_rfl)) (dE1 25 (λ_=>tR hc25 rfl (qX hT (im:=false) (by kernel_rfl))) dE0))))))) dF0 ?_;apply rt;exact At.jn 0
   ·refine At.d 0 (dE2 2 (eB r5) (λ_=>bM (rT hr5)) (dE1 3 (λ_=>tR hc3 rfl (qX hT (im:=false) (by kernel_rfl))) (dE1 8 (λ_=>tR hc8 rfl (qX hT (im:=false) (by kernel_rfl))) dE0))) dF0 ?_;apply rt;exact At.jn 0
  ·refine At.d 0 (dE2 2 (eB r5) (λ_=>bM (rT hr5)) (dE1 3 (λ_=>tR hc3 rfl (qX hT (im:=false) (by kernel_rfl))) dE0)) dF0 ?_;apply rt;exact At.jn 0
 ·apply rt;exact At.r 0
end Go.UK
