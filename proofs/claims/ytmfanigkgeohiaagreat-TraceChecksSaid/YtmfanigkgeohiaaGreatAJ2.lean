/- A part of the proof: what the functions of the program compute. -/
import Derived.Test.YtmfanigkgeohiaaGreatAJ1
namespace Go.UK
open Go Go.Proofs
set_option maxRecDepth 20000
set_option maxHeartbeats 40000000
set_option linter.all false

attribute [local irreducible] adv aIH aHF yL brPt aJr aEf nI yT dS mJ fH aIW aHa lPt owp awl aw FnM aEe opS Stab TOK Big
def aAw : Nat → Bool := imL [2]

def nM (N : Nat) (a0 : cB) : Nat → (Vector Int 12) → Int → Option ((Vector Int 12))
 | 0, _, _ => none
 | k + 1, s2, s3 =>
  cond (decide (s3 < 4)) (
   Option.bind (aD5 .u32 a0.gD2 (I64 (8 * s3))) fun x4 =>
   Option.bind (aD5 .u32 a0.gD3 (I64 (8 * s3))) fun x5 =>
   Option.bind (fK s3 12) fun _ =>
   Option.bind (s2.toList[s3.toNat]?) fun e7 =>
   Option.bind (fK (I64 (4 + s3)) 12) fun _ =>
   Option.bind ((s2.setIfInBounds s3.toNat (U8 x4)).toList[(I64 (4 + s3)).toNat]?) fun e9 =>
   nM N a0 k ((s2.setIfInBounds s3.toNat (U8 x4)).setIfInBounds ((I64 (4 + s3)).toNat) (U8 x5)) (I64 (s3 + 1))) (
   some s2)

def oV (N : Nat) (a0 : cB) (a1 : Int) : Option ((Vector Int 64)) :=
 Option.bind (nM N a0 N (Vector.replicate 12 0) 0) fun p1 =>
 Option.bind (aAC N a1) fun r10 =>
 Option.bind (vU N r10 a0.gD4 p1) fun r11 =>
 some r11

theorem aAP {N a0 a1 r} (h : oV N a0 a1 = some r) : FnM Tryz.prog 146 [] [(cB.enc a0), (k64 a1)] (eA 64 1 k8 r) [] := by
 unfold oV at h
 refine At.f aAw hT hmo Tryz.func146 rfl h ?_
 refine At.L 4 [1, 2, 4, 5] 2 (fun p1 => ([], [(1, .var (eA 12 1 k8 p1))], [])) (fun p1 J k => ∃ s2 s3, nM N a0 k s2 s3 = some p1 ∧ J [1, 2, 4, 5] 2 [(7, (j64 s3))] [(1, .var (eA 12 1 k8 s2))] []) N (fun _ h => ⟨_, _, h, jr⟩) (fun p1 k s hI => ?_) fun p1 => ?_
 ·obtain ⟨s2, s3, h, hj⟩ := hI
  cases k with
  | zero => cases h
  | succ k =>
   refine At.jr hj ?_ h
   refine At.c 1 ?_ ?_
   ·refine bi fun x4 hx4 => ?_
    refine bi fun x5 hx5 => ?_
    refine bi fun u6 hu6 => ?_
    refine bi fun e7 he7 => ?_
    refine bi fun u8 hu8 => ?_
    refine bi fun e9 he9 => ?_
    refine At.d 2 (dE1 7 (fun _ => uX hT (k' := .i64) hx4 (by kernel_rfl) (by kernel_rfl)) (dE1 13 (fun _ => uX hT (k' := .i64) hx5 (by kernel_rfl) (by kernel_rfl)) (dE1 15 (fun _ => bL hT (k := 1) 1 [] 0 hu6) (dE1 17 (fun _ => bL hT (k := 1) 1 [] 0 hu8) dE0)))) (dF 16 (.v (.bool false)) [(1, .var (eA 12 1 k8 (s2.setIfInBounds s3.toNat (U8 x4))))] [] (dA (mF hT k8 0 s2 he7 (U8 x4) (by kernel_rfl) (by kernel_rfl) (H' := [.var (eA 64 1 k8 (Vector.replicate 64 0)), .var (eA 12 1 k8 (s2.setIfInBounds s3.toNat (U8 x4)))]))) (dF 18 (.v (.bool false)) [(1, .var (eA 12 1 k8 ((s2.setIfInBounds s3.toNat (U8 x4)).setIfInBounds ((I64 (4 + s3)).toNat) (U8 x5))))] [] (dA (mF hT k8 0 (s2.setIfInBounds s3.toNat (U8 x4)) he9 (U8 x5) (by kernel_rfl) (by kernel_rfl) (H' := [.var (eA 64 1 k8 (Vector.replicate 64 0)), .var (eA 12 1 k8 ((s2.setIfInBounds s3.toNat (U8 x4)).setIfInBounds ((I64 (4 + s3)).toNat) (U8 x5)))]))) dF0)) ?_
    exact fun h => At.k 2 ⟨_, _, h, jr⟩
   ·apply rt; exact At.x 0
 ·refine bi fun r10 hr10 => ?_
  refine bi fun r11 hr11 => ?_
  refine At.d 0 (dE2 1 (eA 32 1 k8 r10) (fun _ => aF (aFe hr10)) (dE2 5 (eA 64 1 k8 r11) (fun _ => aF (aD3 hr11)) dE0)) dF0 ?_
  apply rt; exact At.r 0

def aDz : Nat → Bool := imL [2]

def uR (N : Nat) (a0 : (Vector Int 64)) (a1 : Int) : Option (Int) :=
 aM (I64 (4 * (iX .i64 a1 15))) fun x1 =>
 Option.bind (idx a0.toList x1) fun e2 =>
 Option.bind (idx a0.toList (I64 (x1 + 1))) fun e3 =>
 aM (bor .u32 (U32 e2) (shl .u32 (U32 e3) 8)) fun x4 =>
 Option.bind (idx a0.toList (I64 (x1 + 2))) fun e5 =>
 aM (bor .u32 x4 (shl .u32 (U32 e5) 16)) fun x6 =>
 Option.bind (idx a0.toList (I64 (x1 + 3))) fun e7 =>
 aM (bor .u32 x6 (shl .u32 (U32 e7) 24)) fun x8 =>
 some x8

theorem aDK {N a0 a1 r} (h : uR N a0 a1 = some r) : FnM Tryz.prog 147 [] [(eA 64 1 k8 a0), (j64 a1)] (k32 r) [] := by
 unfold uR at h
 refine At.f aDz hT hmo Tryz.func147 rfl h ?_
 refine lx ?_; intro x1
 refine bi fun e2 he2 => ?_
 refine bi fun e3 he3 => ?_
 refine lx ?_; intro x4
 refine bi fun e5 he5 => ?_
 refine lx ?_; intro x6
 refine bi fun e7 he7 => ?_
 refine lx ?_; intro x8
 refine At.d 6 (dE1 1 (fun _ => cK hT (N := 64) (k := 1) k8 a0 he2) (dE1 6 (fun _ => cK hT (N := 64) (k := 1) k8 a0 he3) (dE1 13 (fun _ => cK hT (N := 64) (k := 1) k8 a0 he5) (dE1 20 (fun _ => cK hT (N := 64) (k := 1) k8 a0 he7) dE0)))) dF0 ?_
 apply rt; exact At.r 0

def mY (N : Nat) (a0 : Int) (a1 : Int) (a2 : aC) : Option (bB × Int) :=
 cond (!a2.gA) (
  some ((a2.gD5, 0))) (
  Option.bind (Option.bind (wC N a2.gB a2.gD a0 a1) fun r2 =>
  Option.bind (cond (!a2.gD5.gis) (
   some true) (
   some (!(cB.eq r2 a2.gD5.gE0)))) fun p3 =>
  cond p3 (
   Option.bind (oV N r2 a2.gC) fun r4 =>
   some ((bB.mk r2 true r4, r2))) (
   some ((a2.gD5, r2)))) fun p1 =>
  Option.bind (uR N p1.1.gE3 a1) fun r5 =>
  some ((p1.1, r5)))

theorem wT {N a0 a1 a2 r} (h : mY N a0 a1 a2 = some r) : FnM Tryz.prog 76 [.var (aC.enc a2)] [(.ref 0 [] 0), (j64 a0), (j64 a1)] (k32 r.2) [.var (.st 72 [(bB.enc r.1), (eB a2.gA), (k64 a2.gC), (j64 a2.gB), (j64 a2.gD)])] := by
 unfold mY at h
 refine At.f dG hT hmo Tryz.func76 rfl h ?_
 refine At.o 2 (aHX hT (t := 96) (x := (.ref 0 [] 0)) (b := true) (by kernel_rfl) rfl rfl (by kernel_rfl)) ?_
 refine At.g [10] 7 ?_
 refine At.c 0 ?_ ?_
 ·apply rt; exact At.r 1
 ·refine At.J 0 1 [0, 2] 1 (fun p1 => ([], [(0, .var (.st 72 [(bB.enc p1.1), (eB a2.gA), (k64 a2.gC), (j64 a2.gB), (j64 a2.gD)]))], [.var (cB.enc p1.2)])) (fun p1 => ?_) fun p1 => ?_
  ·refine bi fun r2 hr2 => ?_
   refine At.d 0 (dE2 10 (cB.enc r2) (fun _ => aF (aD6 hr2)) dE0) dF0 ?_
   refine At.J 0 0 [0, 2, 7] 2 (fun p3 => ([(42, (eB p3))], [], [])) (fun p3 => ?_) fun p3 => ?_
   ·refine boI (fun hc6 => ?_) (fun hc6 => ?_)
    ·refine At.d 0 (dE1 6 (fun _ => aR hc6 rfl (aQ hT (im := false) (by kernel_rfl))) dE0) dF0 ?_
     apply rt; exact At.jn 0
    ·refine At.d 0 (dE1 6 (fun _ => aR hc6 rfl (aQ hT (im := false) (by kernel_rfl))) (dE1 13 (fun _ => pX aND (r2 : cB) (a2.gD5.gE0 : cB) (by kernel_rfl) (by kernel_rfl) (fun _ => rfl) (fun _ => rfl) (by kernel_rfl) (by kernel_rfl)) dE0)) dF0 ?_
     apply rt; exact At.jn 0
   ·refine At.c 0 ?_ ?_
    ·refine bi fun r4 hr4 => ?_
     refine At.d 0 (dE2 7 (eA 64 1 k8 r4) (fun _ => aF (aAP hr4)) dE0) dF0 ?_
     apply rt; exact At.jn 0
    ·apply rt; exact At.jn 0
  ·refine At.b 6 (fun _ e => aK [] (aDK e)) fun r5 => ?_
   apply rt; exact At.r 1

def eR (N : Nat) (b4 : (List (List aD))) (a1 : Int) (a2 : aS) (a3 : aB) (a4 : aB) (a5 : Int) (a6 : Bool) (a7 : aL) (a8 : aG) (a9 : aI) (a10 : aB) (a11 : aH) (a12 : aC) (a13 : aJ) : Option (bB × Int) :=
 Option.bind (mY N a5 a1 a12) fun r1 =>
 some ((r1.1, r1.2))

theorem cT {N b4 a1 a2 a3 a4 a5 a6 a7 a8 a9 a10 a11 a12 a13 r} (h : eR N b4 a1 a2 a3 a4 a5 a6 a7 a8 a9 a10 a11 a12 a13 = some r) : FnM Tryz.prog 32 [.var (.st 26 [(aS.enc a2), (.ref 1 [] 0), (.ref 2 [] 0), (aB.enc a3), (aB.enc a4), (j64 a5), (eB a6), (aL.enc a7)]), .var (.st 38 [(aG.enc a8), (aI.enc a9), (.ifc 91 (.ref 3 [] 0)), (eO 4 1 (eL 2 aD.enc) b4), (aB.enc a10), (aH.enc a11)]), .var (aC.enc a12), .var (aJ.enc a13), .tail (b4.length * 1)] [(.ref 0 [] 0), (j64 a1)] (k32 r.2) [.var (.st 26 [(aS.enc a2), (.ref 1 [] 0), (.ref 2 [] 0), (aB.enc a3), (aB.enc a4), (j64 a5), (eB a6), (aL.enc a7)]), .var (.st 38 [(aG.enc a8), (aI.enc a9), (.ifc 91 (.ref 3 [] 0)), (eO 4 1 (eL 2 aD.enc) b4), (aB.enc a10), (aH.enc a11)]), .var (.st 72 [(bB.enc r.1), (eB a12.gA), (k64 a12.gC), (j64 a12.gB), (j64 a12.gD)]), .var (aJ.enc a13), .tail (b4.length * 1)] := by
 unfold eR at h
 refine At.f dG hT hmo Tryz.func32 rfl h ?_
 refine bi fun r1 hr1 => ?_
 refine At.d 1 dE0 (dF 9 (k32 r1.2) [(2, .var (.st 72 [(bB.enc r1.1), (eB a12.gA), (k64 a12.gC), (j64 a12.gB), (j64 a12.gD)]))] [] (dA (aK [2] (wT hr1))) dF0) ?_
 apply rt; exact At.r 0

def qG (N : Nat) (a0 : Int) : Option (Int) :=
 some (I64 a0)

theorem vW {N a0 r} (h : qG N a0 = some r) : FnM Tryz.prog 148 [] [(k32 a0)] (j64 r) [] := by
 unfold qG at h
 refine At.f dG hT hmo Tryz.func148 rfl h ?_
 apply rt; exact At.r 4

def sU (N : Nat) (a0 : Int) (a1 : Int) : Option (Int) :=
 aM (cond (decide (a0 ≥ 0)) (decide (a1 < 0)) false) fun x1 =>
 aM (decide ((I64 (a0 - a1)) < 0)) fun x2 =>
 cond (cond x1 x2 false) (
  some 9223372036854775807) (
  aM (cond (decide (a0 < 0)) (decide (a1 > 0)) false) fun x3 =>
  aM (decide ((I64 (a0 - a1)) ≥ 0)) fun x4 =>
  cond (cond x3 x4 false) (some (-9223372036854775808)) (some (I64 (a0 - a1))))

theorem wQ {N a0 a1 r} (h : sU N a0 a1 = some r) : FnM Tryz.prog 149 [] [(j64 a0), (j64 a1)] (j64 r) [] := by
 unfold sU at h
 refine At.f dG hT hmo Tryz.func149 rfl h ?_
 refine lx ?_; intro x1
 refine lx ?_; intro x2
 refine At.c 16 ?_ ?_
 ·apply rt; exact At.r 1
 ·refine lx ?_; intro x3
  refine lx ?_; intro x4
  refine At.c 11 ?_ ?_
  ·apply rt; exact At.r 1
  ·apply rt; exact At.r 2

def aMQ : Nat → Bool := imL [1]

def qM (N : Nat) (a0 : aA) : Option (aB) :=
 Option.bind (jA N a0.gX) fun r1 =>
 Option.bind (jA N a0.gY) fun r2 =>
 Option.bind (jA N a0.gZ) fun r3 =>
 some (aB.mk r1 r2 r3)

theorem rQ {N a0 r} (h : qM N a0 = some r) : FnM Tryz.prog 83 [] [(aA.enc a0)] (aB.enc r) [] := by
 unfold qM at h
 refine At.f aMQ hT hmo Tryz.func83 rfl h ?_
 refine bi fun r1 hr1 => ?_
 refine bi fun r2 hr2 => ?_
 refine bi fun r3 hr3 => ?_
 refine At.d 2 (dE2 2 (j64 r1) (fun _ => aF (jZ hr1)) (dE2 5 (j64 r2) (fun _ => aF (jZ hr2)) (dE2 8 (j64 r3) (fun _ => aF (jZ hr3)) dE0))) dF0 ?_
 apply rt; exact At.r 0

def sZ (N : Nat) (a0 : Int) : Option (aO) :=
 some (aO.mk (shr .i64 a0 63) (U64 a0))

theorem vP {N a0 r} (h : sZ N a0 = some r) : FnM Tryz.prog 255 [] [(j64 a0)] (aO.enc r) [] := by
 unfold sZ at h
 refine At.f dG hT hmo Tryz.func255 rfl h ?_
 apply rt; exact At.r 7

def aJV : Nat → Bool := imL [2]

def aBk (N : Nat) (a0 : aO) (a1 : Int) : Option (aO) :=
 aM (decide ((iS a1 0) ≥ 64)) fun x1 =>
 cond x1 (
  aM (jI (I64 ((iS a1 0) - 64)) 63) fun x2 =>
  Option.bind (aD5 .i64 a0.gHi x2) fun x3 =>
  Option.bind (sZ N x3) fun r4 =>
  some r4) (
  cond ((iS a1 0) == 0) (
   some a0) (
   Option.bind (aD5 .i64 a0.gHi (iS a1 0)) fun x5 =>
   Option.bind (aD5 .u64 a0.gLo (iS a1 0)) fun x6 =>
   Option.bind (aHR .u64 (U64 a0.gHi) (I64 (64 - (iS a1 0)))) fun x7 =>
   some (aO.mk x5 (bor .u64 x6 x7))))

theorem aIU {N a0 a1 r} (h : aBk N a0 a1 = some r) : FnM Tryz.prog 234 [] [(aO.enc a0), (j64 a1)] (aO.enc r) [] := by
 unfold aBk at h
 refine At.f aJV hT hmo Tryz.func234 rfl h ?_
 refine lx ?_; intro x1
 refine At.c 7 ?_ ?_
 ·refine lx ?_; intro x2
  refine At.b 5 (fun _ e => uX hT (k' := .i64) e (by kernel_rfl) (by kernel_rfl)) fun x3 => ?_
  refine At.b 0 (fun _ e => aK [] (vP e)) fun r4 => ?_
  apply rt; exact At.r 1
 ·refine At.c 2 ?_ ?_
  ·apply rt; exact At.r 2
  ·refine bi fun x5 hx5 => ?_
   refine bi fun x6 hx6 => ?_
   refine bi fun x7 hx7 => ?_
   refine At.d 0 (dE1 3 (fun _ => uX hT (k' := .i64) hx5 (by kernel_rfl) (by kernel_rfl)) (dE1 7 (fun _ => uX hT (k' := .i64) hx6 (by kernel_rfl) (by kernel_rfl)) (dE1 13 (fun _ => aBA hT (k' := .i64) hx7 (by kernel_rfl) (by kernel_rfl)) dE0))) dF0 ?_
   apply rt; exact At.r 0

def yY (N : Nat) (a0 : (List Int)) : Nat → Int → Int → Option (Int)
 | 0, _, _ => none
 | k + 1, s2, s3 =>
  aM (decide (s3 < ((a0.length : Int)))) fun x4 =>
  cond x4 (
   Option.bind (Option.bind (idx a0 s3) fun e6 =>
   cond (s3 == 0) (
    some e6) (
    Option.bind (hO N s2 e6) fun r7 =>
    Option.bind (aBk N r7 32) fun r8 =>
    Option.bind (rB N r8) fun r9 =>
    some r9)) fun p5 =>
   yY N a0 k p5 (I64 (s3 + 1))) (
   some s2)

def aC5 (N : Nat) (a0 : (List Int)) : Option (Int) :=
 Option.bind (yY N a0 N 4294967296 0) fun p1 =>
 some p1

theorem aJB {N a0 r} (h : aC5 N a0 = some r) : FnM Tryz.prog 173 [] [(eL 1 j64 a0)] (j64 r) [] := by
 unfold aC5 at h
 refine At.f dG hT hmo Tryz.func173 rfl h ?_
 refine At.L 5 [] 0 (fun p1 => ([(3, (j64 p1))], [], [])) (fun p1 J k => ∃ s2 s3, yY N a0 k s2 s3 = some p1 ∧ J [6, 7] 0 [(3, (j64 s2)), (8, (j64 s3))] [] []) N (fun _ h => ⟨_, _, h, jr⟩) (fun p1 k s hI => ?_) fun p1 => ?_
 ·obtain ⟨s2, s3, h, hj⟩ := hI
  cases k with
  | zero => cases h
  | succ k =>
   refine At.jr hj ?_ h
   refine lx ?_; intro x4
   refine At.c 1 ?_ ?_
   ·refine At.J 0 2 [6, 7, 8] 0 (fun p5 => ([(3, (j64 p5))], [], [])) (fun p5 => ?_) fun p5 => ?_
    ·refine At.b 1 (fun _ e => cC hT j64 e) fun e6 => ?_
     refine At.c 5 ?_ ?_
     ·apply rt; exact At.jn 2
     ·refine At.b 2 (fun _ e => aK [] (jM e)) fun r7 => ?_
      refine At.b 0 (fun _ e => aK [] (aIU e)) fun r8 => ?_
      refine At.b 0 (fun _ e => aK [] (aAx e)) fun r9 => ?_
      apply rt; exact At.jn 1
    ·exact fun h => At.k 2 ⟨_, _, h, jr⟩
   ·apply rt; exact At.x 0
 ·apply rt; exact At.r 2

def qH (N : Nat) (a0 : Int) (a1 : Int) : Option (Int) :=
 Option.bind (aC5 N ([a0, a1])) fun r1 =>
 some r1

theorem wK {N a0 a1 r} (h : qH N a0 a1 = some r) : FnM Tryz.prog 172 [] [(j64 a0), (j64 a1)] (j64 r) [] := by
 unfold qH at h
 refine At.f dG hT hmo Tryz.func172 rfl h ?_
 refine At.o 3 (cX hT (x := (.sl 1 2 [(j64 a0), (j64 a1)]))) ?_
 refine At.b 0 (fun _ e => aK [] (aJB e)) fun r1 => ?_
 apply rt; exact At.r 1

def aB1 : Nat → Bool := imL [3, 4]

def rF (N : Nat) (a0 : aB) (a1 : aB) : Option (aB) :=
 Option.bind (qH N a0.gX a1.gX) fun r1 =>
 Option.bind (qH N a0.gY a1.gY) fun r2 =>
 Option.bind (qH N a0.gZ a1.gZ) fun r3 =>
 some (aB.mk r1 r2 r3)

theorem aBP {N a0 a1 r} (h : rF N a0 a1 = some r) : FnM Tryz.prog 137 [] [(aB.enc a0), (aB.enc a1), (.fn (.func 172) [] [])] (aB.enc r) [] := by
 unfold rF at h
 refine At.f aB1 hT hmo Tryz.func137 rfl h ?_
 refine bi fun r1 hr1 => ?_
 refine bi fun r2 hr2 => ?_
 refine bi fun r3 hr3 => ?_
 refine At.d 3 (dE2 5 (j64 r1) (fun _ => aF (wK hr1)) (dE2 11 (j64 r2) (fun _ => aF (wK hr2)) (dE2 17 (j64 r3) (fun _ => aF (wK hr3)) dE0))) dF0 ?_
 apply rt; exact At.r 0

def wA (N : Nat) (a0 : (List aB)) : Nat → aB → Int → Option (aB)
 | 0, _, _ => none
 | k + 1, s2, s3 =>
  aM (decide (s3 < ((a0.length : Int)))) fun x4 =>
  cond x4 (
   Option.bind (idx a0 s3) fun e5 =>
   Option.bind (rF N s2 e5) fun r6 =>
   wA N a0 k r6 (I64 (s3 + 1))) (
   some s2)

def pF (N : Nat) (a0 : (List aB)) : Option (aB) :=
 Option.bind (wA N a0 N (aB.mk 4294967296 4294967296 4294967296) 0) fun p1 =>
 some p1

theorem sP {N a0 r} (h : pF N a0 = some r) : FnM Tryz.prog 90 [] [(eL 3 aB.enc a0)] (aB.enc r) [] := by
 unfold pF at h
 refine At.f dG hT hmo Tryz.func90 rfl h ?_
 refine At.L 7 [2, 3] 2 (fun p1 => ([], [(1, .var (aB.enc p1))], [])) (fun p1 J k => ∃ s2 s3, wA N a0 k s2 s3 = some p1 ∧ J [2, 3, 7, 8] 2 [(9, (j64 s3))] [(1, .var (aB.enc s2))] []) N (fun _ h => ⟨_, _, h, jr⟩) (fun p1 k s hI => ?_) fun p1 => ?_
 ·obtain ⟨s2, s3, h, hj⟩ := hI
  cases k with
  | zero => cases h
  | succ k =>
   refine At.jr hj ?_ h
   refine lx ?_; intro x4
   refine At.c 1 ?_ ?_
   ·refine At.b 0 (fun _ e => cC hT aB.enc e) fun e5 => ?_
    refine At.b 5 (fun _ e => aK [] (aBP e)) fun r6 => ?_
    exact fun h => At.k 3 ⟨_, _, h, jr⟩
   ·apply rt; exact At.x 0
 ·apply rt; exact At.r 2

def aH9 : Nat → Bool := imL [2]

def iW (N : Nat) (a0 : aB) (a1 : Int) : Option (aB) :=
 Option.bind (pF N ([a0, aB.mk a1 a1 a1])) fun r1 =>
 some r1

theorem jL {N a0 a1 r} (h : iW N a0 a1 = some r) : FnM Tryz.prog 80 [] [(aB.enc a0), (j64 a1)] (aB.enc r) [] := by
 unfold iW at h
 refine At.f aH9 hT hmo Tryz.func80 rfl h ?_
 refine At.o 7 (cX hT (x := (.sl 3 2 [(aB.enc a0), (.st 3 [(j64 a1), (j64 a1), (j64 a1)])]))) ?_
 refine At.b 0 (fun _ e => aK [] (sP e)) fun r1 => ?_
 apply rt; exact At.r 1

def aFx : Nat → Bool := imL [6, 11]

def xV (N : Nat) (a0 : bR) (a1 : Int) (a2 : Int) (a3 : Int) (a4 : Int) (a5 : (Vector Int 2)) : Option (aB × Int) :=
 Option.bind (mI N a0 a1 a2) fun r1 =>
 cond (r1 != 0) (
  some ((aB.mk 0 0 0, r1))) (
  aM (cond (decide (a3 < 0)) true (decide (a3 ≥ a1))) fun x2 =>
  aM (cond x2 true (decide (a4 < 0))) fun x3 =>
  aM (cond x3 true (decide (a4 ≥ a2))) fun x4 =>
  cond x4 (
   some ((aB.mk 0 0 0, 2))) (
   aM (I64 ((I64 (2 * a3)) - a1)) fun x5 =>
   Option.bind (jA N x5) fun r6 =>
   Option.bind (idx a5.toList 0) fun e7 =>
   Option.bind (qG N e7) fun r8 =>
   Option.bind (nW N ([r6, I64 (2 * r8)])) fun r9 =>
   Option.bind (jA N a1) fun r10 =>
   Option.bind (nF N r9 r10) fun r11 =>
   aM (I64 (a2 - (I64 (2 * a4)))) fun x12 =>
   Option.bind (jA N x12) fun r13 =>
   Option.bind (idx a5.toList 1) fun e14 =>
   Option.bind (qG N e14) fun r15 =>
   Option.bind (sU N r13 (I64 (2 * r15))) fun r16 =>
   Option.bind (jA N a2) fun r17 =>
   Option.bind (nF N r16 r17) fun r18 =>
   Option.bind (qM N a0.gC0) fun r19 =>
   Option.bind (qM N a0.gA6) fun r20 =>
   Option.bind (iW N r20 r11) fun r21 =>
   Option.bind (qM N a0.gUp) fun r22 =>
   Option.bind (iW N r22 r18) fun r23 =>
   Option.bind (oL N ([r19, r21, r23])) fun r24 =>
   some ((r24, 0))))

theorem aEm {N a0 a1 a2 a3 a4 a5 r} (h : xV N a0 a1 a2 a3 a4 a5 = some r) : FnM Tryz.prog 77 [] [(bR.enc a0), (j64 a1), (j64 a2), (j64 a3), (j64 a4), (eA 2 1 k32 a5)] (.tup [(aB.enc r.1), (j64 r.2)]) [] := by
 unfold xV at h
 refine At.f aFx hT hmo Tryz.func77 rfl h ?_
 refine At.b 7 (fun _ e => aK [] (aBS e)) fun r1 => ?_
 refine At.c 3 ?_ ?_
 ·apply rt; exact At.r 4
 ·refine lx ?_; intro x2
  refine lx ?_; intro x3
  refine lx ?_; intro x4
  refine At.c 16 ?_ ?_
  ·apply rt; exact At.r 3
  ·refine lx ?_; intro x5
   refine bi fun r6 hr6 => ?_
   refine bi fun e7 he7 => ?_
   refine bi fun r8 hr8 => ?_
   refine bi fun r9 hr9 => ?_
   refine bi fun r10 hr10 => ?_
   refine bi fun r11 hr11 => ?_
   refine At.d 0 (dE2 4 (j64 r6) (fun _ => aF (jZ hr6)) (dE1 5 (fun _ => cK hT (N := 2) (k := 1) k32 a5 he7) (dE2 7 (j64 r8) (fun _ => aF (vW hr8)) (dE1 9 (fun _ => cX hT (x := (.sl 1 2 [(j64 r6), (j64 (I64 (2 * r8)))]))) (dE2 10 (j64 r9) (fun _ => aF (qY hr9)) (dE2 12 (j64 r10) (fun _ => aF (jZ hr10)) (dE2 13 (j64 r11) (fun _ => aF (rA hr11)) dE0))))))) dF0 ?_
   refine lx ?_; intro x12
   refine bi fun r13 hr13 => ?_
   refine bi fun e14 he14 => ?_
   refine bi fun r15 hr15 => ?_
   refine bi fun r16 hr16 => ?_
   refine bi fun r17 hr17 => ?_
   refine bi fun r18 hr18 => ?_
   refine At.d 0 (dE2 4 (j64 r13) (fun _ => aF (jZ hr13)) (dE1 5 (fun _ => cK hT (N := 2) (k := 1) k32 a5 he14) (dE2 7 (j64 r15) (fun _ => aF (vW hr15)) (dE2 9 (j64 r16) (fun _ => aF (wQ hr16)) (dE2 11 (j64 r17) (fun _ => aF (jZ hr17)) (dE2 12 (j64 r18) (fun _ => aF (rA hr18)) dE0)))))) dF0 ?_
   refine bi fun r19 hr19 => ?_
   refine bi fun r20 hr20 => ?_
   refine bi fun r21 hr21 => ?_
   refine bi fun r22 hr22 => ?_
   refine bi fun r23 hr23 => ?_
   refine bi fun r24 hr24 => ?_
   refine At.d 0 (dE2 2 (aB.enc r19) (fun _ => aF (rQ hr19)) (dE2 5 (aB.enc r20) (fun _ => aF (rQ hr20)) (dE2 7 (aB.enc r21) (fun _ => aF (jL hr21)) (dE2 10 (aB.enc r22) (fun _ => aF (rQ hr22)) (dE2 12 (aB.enc r23) (fun _ => aF (jL hr23)) (dE1 13 (fun _ => cX hT (x := (.sl 3 3 [(aB.enc r19), (aB.enc r21), (aB.enc r23)]))) (dE2 14 (aB.enc r24) (fun _ => aF (vR hr24)) dE0))))))) dF0 ?_
   apply rt; exact At.r 0

def sF (N : Nat) (a0 : Int) (a1 : Int) : Option (Int) :=
 aM (jI (iS a1 0) 2147483648) fun x1 =>
 aM (U64 ((U64 a0) * (U64 x1))) fun x2 =>
 some (I64 (shr .u64 x2 32))

theorem aAK {N a0 a1 r} (h : sF N a0 a1 = some r) : FnM Tryz.prog 151 [] [(k32 a0), (j64 a1)] (j64 r) [] := by
 unfold sF at h
 refine At.f dG hT hmo Tryz.func151 rfl h ?_
 refine lx ?_; intro x1
 refine lx ?_; intro x2
 apply rt; exact At.r 13

def oP (N : Nat) (a0 : Int) (a1 : bR) : Option (Int) :=
 aM (I64 ((I64 (2 * a1.gB0)) + 1)) fun x1 =>
 Option.bind (sF N a0 x1) fun r2 =>
 Option.bind (jA N (I64 (r2 - a1.gB0))) fun r3 =>
 Option.bind (jA N 16384) fun r4 =>
 Option.bind (nF N r3 r4) fun r5 =>
 some r5

theorem vS {N a0 a1 r} (h : oP N a0 a1 = some r) : FnM Tryz.prog 150 [] [(k32 a0), (.im (bR.enc a1))] (j64 r) [] := by
 unfold oP at h
 refine At.f dG hT hmo Tryz.func150 rfl h ?_
 refine lx ?_; intro x1
 refine bi fun r2 hr2 => ?_
 refine bi fun r3 hr3 => ?_
 refine bi fun r4 hr4 => ?_
 refine bi fun r5 hr5 => ?_
 refine At.d 1 (dE2 5 (j64 r2) (fun _ => aF (aAK hr2)) (dE2 9 (j64 r3) (fun _ => aF (jZ hr3)) (dE2 10 (j64 r4) (fun _ => aF (jZ hr4)) (dE2 11 (j64 r5) (fun _ => aF (rA hr5)) dE0)))) dF0 ?_
 apply rt; exact At.r 0

def uH (N : Nat) (a0 : Int) : Option (Int) :=
 aM (iX .i64 (shr .i64 a0 31) 1) fun x1 =>
 aM (I64 ((shr .i64 a0 32) + x1)) fun x2 =>
 some x2

theorem zA {N a0 r} (h : uH N a0 = some r) : FnM Tryz.prog 152 [] [(j64 a0)] (j64 r) [] := by
 unfold uH at h
 refine At.f dG hT hmo Tryz.func152 rfl h ?_
 refine lx ?_; intro x1
 refine lx ?_; intro x2
 apply rt; exact At.r 8

def aGt : Nat → Bool := imL [2, 3]

def zD (N : Nat) (a0 : bR) (a1 : (Vector Int 4)) : Option (aA) :=
 Option.bind (qM N a0.gA6) fun r1 =>
 Option.bind (idx a1.toList 2) fun e2 =>
 Option.bind (oP N e2 a0) fun r3 =>
 Option.bind (iW N r1 r3) fun r4 =>
 Option.bind (qM N a0.gUp) fun r5 =>
 Option.bind (idx a1.toList 3) fun e6 =>
 Option.bind (oP N e6 a0) fun r7 =>
 Option.bind (iW N r5 r7) fun r8 =>
 Option.bind (oL N ([r4, r8])) fun r9 =>
 Option.bind (uH N r9.gX) fun r10 =>
 Option.bind (uH N r9.gY) fun r11 =>
 Option.bind (uH N r9.gZ) fun r12 =>
 some (aA.mk r10 r11 r12)

theorem aFk {N a0 a1 r} (h : zD N a0 a1 = some r) : FnM Tryz.prog 78 [] [(bR.enc a0), (eA 4 1 k32 a1)] (aA.enc r) [] := by
 unfold zD at h
 refine At.f aGt hT hmo Tryz.func78 rfl h ?_
 refine At.o 3 (oC (x := (.fn (.func 150) [] [(.im (bR.enc a0))])) (by kernel_rfl) (by kernel_rfl)) ?_
 refine bi fun r1 hr1 => ?_
 refine bi fun e2 he2 => ?_
 refine bi fun r3 hr3 => ?_
 refine bi fun r4 hr4 => ?_
 refine bi fun r5 hr5 => ?_
 refine bi fun e6 he6 => ?_
 refine bi fun r7 hr7 => ?_
 refine bi fun r8 hr8 => ?_
 refine bi fun r9 hr9 => ?_
 refine At.d 1 (dE2 2 (aB.enc r1) (fun _ => aF (rQ hr1)) (dE1 4 (fun _ => cK hT (N := 4) (k := 1) k32 a1 he2) (dE2 6 (j64 r3) (fun _ => aF (vS hr3)) (dE2 7 (aB.enc r4) (fun _ => aF (jL hr4)) (dE2 10 (aB.enc r5) (fun _ => aF (rQ hr5)) (dE1 12 (fun _ => cK hT (N := 4) (k := 1) k32 a1 he6) (dE2 14 (j64 r7) (fun _ => aF (vS hr7)) (dE2 15 (aB.enc r8) (fun _ => aF (jL hr8)) (dE1 16 (fun _ => cX hT (x := (.sl 3 2 [(aB.enc r4), (aB.enc r8)]))) (dE2 17 (aB.enc r9) (fun _ => aF (vR hr9)) dE0)))))))))) dF0 ?_
 refine bi fun r10 hr10 => ?_
 refine bi fun r11 hr11 => ?_
 refine bi fun r12 hr12 => ?_
 refine At.d 0 (dE2 2 (j64 r10) (fun _ => aF (zA hr10)) (dE2 5 (j64 r11) (fun _ => aF (zA hr11)) (dE2 8 (j64 r12) (fun _ => aF (zA hr12)) dE0))) dF0 ?_
 apply rt; exact At.r 0

def aEy : Nat → Bool := imL [3, 4]

def vQ (N : Nat) (a0 : aB) (a1 : aB) : Option (aB) :=
 Option.bind (sU N a0.gX a1.gX) fun r1 =>
 Option.bind (sU N a0.gY a1.gY) fun r2 =>
 Option.bind (sU N a0.gZ a1.gZ) fun r3 =>
 some (aB.mk r1 r2 r3)

theorem aD8 {N a0 a1 r} (h : vQ N a0 a1 = some r) : FnM Tryz.prog 137 [] [(aB.enc a0), (aB.enc a1), (.fn (.func 149) [] [])] (aB.enc r) [] := by
 unfold vQ at h
 refine At.f aEy hT hmo Tryz.func137 rfl h ?_
 refine bi fun r1 hr1 => ?_
 refine bi fun r2 hr2 => ?_
 refine bi fun r3 hr3 => ?_
 refine At.d 3 (dE2 5 (j64 r1) (fun _ => aF (wQ hr1)) (dE2 11 (j64 r2) (fun _ => aF (wQ hr2)) (dE2 17 (j64 r3) (fun _ => aF (wQ hr3)) dE0))) dF0 ?_
 apply rt; exact At.r 0

def aKj : Nat → Bool := imL [2, 3]

def yI (N : Nat) (a0 : aB) (a1 : aB) : Option (aB) :=
 Option.bind (vQ N a0 a1) fun r1 =>
 some r1

theorem aBb {N a0 a1 r} (h : yI N a0 a1 = some r) : FnM Tryz.prog 79 [] [(aB.enc a0), (aB.enc a1)] (aB.enc r) [] := by
 unfold yI at h
 refine At.f aKj hT hmo Tryz.func79 rfl h ?_
 refine At.b 5 (fun _ e => aK [] (aD8 e)) fun r1 => ?_
 apply rt; exact At.r 1

def vJ (N : Nat) (a0 : Int) : Option (Int) :=
 Option.bind (sU N 0 a0) fun r1 =>
 some r1

theorem zC {N a0 r} (h : vJ N a0 = some r) : FnM Tryz.prog 231 [] [(j64 a0)] (j64 r) [] := by
 unfold vJ at h
 refine At.f dG hT hmo Tryz.func231 rfl h ?_
 refine At.b 2 (fun _ e => aK [] (wQ e)) fun r1 => ?_
 apply rt; exact At.r 1

def yH (N : Nat) (a0 : Int) : Option (Int) :=
 Option.bind (vJ N a0) fun r1 =>
 some (iS a0 r1)

theorem aBi {N a0 r} (h : yH N a0 = some r) : FnM Tryz.prog 219 [] [(j64 a0)] (j64 r) [] := by
 unfold yH at h
 refine At.f dG hT hmo Tryz.func219 rfl h ?_
 refine At.b 3 (fun _ e => aK [] (zC e)) fun r1 => ?_
 apply rt; exact At.r 2

def aIh : Nat → Bool := imL [1]

def zW (N : Nat) (a0 : aB) : Option (Int) :=
 Option.bind (yH N a0.gX) fun r1 =>
 Option.bind (yH N a0.gY) fun r2 =>
 Option.bind (yH N a0.gZ) fun r3 =>
 some (iS (iS r1 r2) r3)

theorem aDw {N a0 r} (h : zW N a0 = some r) : FnM Tryz.prog 156 [] [(aB.enc a0)] (j64 r) [] := by
 unfold zW at h
 refine At.f aIh hT hmo Tryz.func156 rfl h ?_
 refine bi fun r1 hr1 => ?_
 refine bi fun r2 hr2 => ?_
 refine bi fun r3 hr3 => ?_
 refine At.d 2 (dE2 2 (j64 r1) (fun _ => aF (aBi hr1)) (dE2 5 (j64 r2) (fun _ => aF (aBi hr2)) (dE2 8 (j64 r3) (fun _ => aF (aBi hr3)) (dE1 9 (fun _ => wN (k := .i64) (i := r1) (j := r2) (l := r3) (by kernel_rfl) (by kernel_rfl)) dE0)))) dF0 ?_
 apply rt; exact At.r 0

def mX (N : Nat) (a0 : Int) (a1 : Int) (a2 : Int) : Option (Int) :=
 cond (a2 == 0) (
  some 0) (
  Option.bind (hO N a0 a1) fun r1 =>
  Option.bind (pA N r1 a2) fun r2 =>
  Option.bind (oT N r2.1) fun r3 =>
  cond r3.2 (
   some r3.1) (
   cond (decide (r2.1.gHi < 0)) (some (-9223372036854775808)) (some 9223372036854775807)))

theorem pK {N a0 a1 a2 r} (h : mX N a0 a1 a2 = some r) : FnM Tryz.prog 158 [] [(j64 a0), (j64 a1), (j64 a2)] (j64 r) [] := by
 unfold mX at h
 refine At.f dG hT hmo Tryz.func158 rfl h ?_
 refine At.c 3 ?_ ?_
 ·apply rt; exact At.r 1
 ·refine At.b 2 (fun _ e => aK [] (jM e)) fun r1 => ?_
  refine At.b 4 (fun _ e => aK [] (xK e)) fun r2 => ?_
  refine At.b 9 (fun _ e => aK [] (uD e)) fun r3 => ?_
  refine At.c 6 ?_ ?_
  ·apply rt; exact At.r 2
  ·refine At.c 3 ?_ ?_
   ·apply rt; exact At.r 1
   ·apply rt; exact At.r 1

def mE (N : Nat) (a0 : Int) (a1 : Int) : Option (Int) :=
 Option.bind (mX N a0 16384 a1) fun r1 =>
 some (iS r1 (-16384))

theorem qW {N a0 a1 r} (h : mE N a0 a1 = some r) : FnM Tryz.prog 157 [] [(j64 a0), (.im (j64 a1))] (j64 r) [] := by
 unfold mE at h
 refine At.f dG hT hmo Tryz.func157 rfl h ?_
 refine At.b 3 (fun _ e => aK [] (pK e)) fun r1 => ?_
 apply rt; exact At.r 2

def aGv : Nat → Bool := imL [1]

def uZ (N : Nat) (a0 : aB) : Option (aA × Int) :=
 Option.bind (zW N a0) fun r1 =>
 cond (r1 == 0) (
  some ((aA.mk 0 0 0, 2))) (
  Option.bind (mE N a0.gX r1) fun r2 =>
  Option.bind (mE N a0.gY r1) fun r3 =>
  Option.bind (mE N a0.gZ r1) fun r4 =>
  some ((aA.mk r2 r3 r4, 0)))

theorem aBT {N a0 r} (h : uZ N a0 = some r) : FnM Tryz.prog 84 [] [(aB.enc a0)] (.tup [(aA.enc r.1), (j64 r.2)]) [] := by
 unfold uZ at h
 refine At.f aGv hT hmo Tryz.func84 rfl h ?_
 refine At.b 4 (fun _ e => aK [] (aDw e)) fun r1 => ?_
 refine At.c 4 ?_ ?_
 ·apply rt; exact At.r 3
 ·refine At.gz 0 1 ((j64 r1)) ?_
  refine At.o 0 (oC (x := (.fn (.func 157) [] [(.im (j64 r1))])) (by kernel_rfl) (by kernel_rfl)) ?_
  refine bi fun r2 hr2 => ?_
  refine bi fun r3 hr3 => ?_
  refine bi fun r4 hr4 => ?_
  refine At.d 1 (dE2 3 (j64 r2) (fun _ => aF (qW hr2)) (dE2 7 (j64 r3) (fun _ => aF (qW hr3)) (dE2 11 (j64 r4) (fun _ => aF (qW hr4)) dE0))) dF0 ?_
  apply rt; exact At.r 0

def aJR : Nat → Bool := imL [6, 11]

def aB4 (N : Nat) (a0 : bR) (a1 : Int) (a2 : Int) (a3 : Int) (a4 : Int) (a5 : (Vector Int 4)) : Option (aA × aA × Int) :=
 Option.bind (idx a5.toList 0) fun e1 =>
 Option.bind (idx a5.toList 1) fun e2 =>
 Option.bind (xV N a0 a1 a2 a3 a4 (#v[e1, e2])) fun r3 =>
 cond (r3.2 != 0) (
  some ((aA.mk 0 0 0, aA.mk 0 0 0, r3.2))) (
  Option.bind (cond (decide (a0.gB0 > 0)) (
   Option.bind (zD N a0 a5) fun r5 =>
   aM (I64 (a0.gJ.gX + r5.gX)) fun x6 =>
   aM (I64 (a0.gJ.gY + r5.gY)) fun x7 =>
   aM (I64 (a0.gJ.gZ + r5.gZ)) fun x8 =>
   Option.bind (jA N a0.gB3) fun r9 =>
   Option.bind (jA N 16384) fun r10 =>
   Option.bind (nF N r9 r10) fun r11 =>
   Option.bind (iW N r3.1 r11) fun r12 =>
   Option.bind (qM N r5) fun r13 =>
   Option.bind (yI N r12 r13) fun r14 =>
   some ((aA.mk ((I64 (a0.gJ.gX + r5.gX))) ((I64 (a0.gJ.gY + r5.gY))) ((I64 (a0.gJ.gZ + r5.gZ))), r14))) (
   some ((a0.gJ, r3.1)))) fun p4 =>
  Option.bind (uZ N p4.2) fun r15 =>
  cond (r15.2 != 0) (
   some ((aA.mk 0 0 0, aA.mk 0 0 0, r15.2))) (
   some ((p4.1, r15.1, 0))))

theorem aHu {N a0 a1 a2 a3 a4 a5 r} (h : aB4 N a0 a1 a2 a3 a4 a5 = some r) : FnM Tryz.prog 33 [] [(bR.enc a0), (j64 a1), (j64 a2), (j64 a3), (j64 a4), (eA 4 1 k32 a5)] (.tup [(aA.enc r.1), (aA.enc r.2.1), (j64 r.2.2)]) [] := by
 unfold aB4 at h
 refine At.f aJR hT hmo Tryz.func33 rfl h ?_
 refine At.b 10 (fun _ e => cK hT (N := 4) (k := 1) k32 a5 e) fun e1 => ?_
 refine At.b 1 (fun _ e => cK hT (N := 4) (k := 1) k32 a5 e) fun e2 => ?_
 refine At.b 2 (fun _ e => aK [] (aEm e)) fun r3 => ?_
 refine At.c 8 ?_ ?_
 ·refine At.d 0 dE0 dF0 ?_
  apply rt; exact At.r 0
 ·refine At.J 3 1 [12, 13, 15] 3 (fun p4 => ([], [(0, .var (aA.enc p4.1)), (2, .var (aB.enc p4.2))], [])) (fun p4 => ?_) fun p4 => ?_
  ·refine At.c 3 ?_ ?_
   ·refine At.b 2 (fun _ e => aK [] (aFk e)) fun r5 => ?_
    refine lx ?_; intro x6
    refine lx ?_; intro x7
    refine lx ?_; intro x8
    refine bi fun r9 hr9 => ?_
    refine bi fun r10 hr10 => ?_
    refine bi fun r11 hr11 => ?_
    refine bi fun r12 hr12 => ?_
    refine bi fun r13 hr13 => ?_
    refine bi fun r14 hr14 => ?_
    refine At.d 19 (dE2 3 (j64 r9) (fun _ => aF (jZ hr9)) (dE2 4 (j64 r10) (fun _ => aF (jZ hr10)) (dE2 5 (j64 r11) (fun _ => aF (rA hr11)) (dE2 6 (aB.enc r12) (fun _ => aF (jL hr12)) (dE2 8 (aB.enc r13) (fun _ => aF (rQ hr13)) (dE2 9 (aB.enc r14) (fun _ => aF (aBb hr14)) dE0)))))) dF0 ?_
    apply rt; exact At.jn 0
   ·apply rt; exact At.jn 0
  ·refine At.b 1 (fun _ e => aK [] (aBT e)) fun r15 => ?_
   refine At.c 7 ?_ ?_
   ·apply rt; exact At.r 6
   ·refine At.d 0 dE0 dF0 ?_
    apply rt; exact At.r 0

def oE (N : Nat) (a0 : aJ) : Option (Bool) :=
 some (!a0.gA)

theorem uU {N a0 r} (h : oE N a0 = some r) : FnM Tryz.prog 304 [.var (aJ.enc a0)] [(.ref 0 [] 0)] (eB r) [.var (aJ.enc a0)] := by
 unfold oE at h
 refine At.f dG hT hmo Tryz.func304 rfl h ?_
 refine At.o 2 (aHX hT (t := 91) (x := (.ref 0 [] 0)) (b := true) (by kernel_rfl) rfl rfl (by kernel_rfl)) ?_
 refine At.g [5] 8 ?_
 apply rt; exact At.r 0

def aJM : Nat → Bool := imL [2, 3]

def tP (N : Nat) (a0 : aO) (a1 : aO) : Option (Int) :=
 cond (aO.eq a0 a1) (
  some 0) (
  Option.bind (aM (decide (a0.gHi < a1.gHi)) fun x2 =>
  cond x2 (
   some x2) (
   aM (decide (a0.gLo < a1.gLo)) fun x3 =>
   aM (cond (a0.gHi == a1.gHi) x3 false) fun x4 =>
   some x4)) fun p1 =>
  cond p1 (some (-1)) (some 1))

theorem xC {N a0 a1 r} (h : tP N a0 a1 = some r) : FnM Tryz.prog 256 [] [(aO.enc a0), (aO.enc a1)] (j64 r) [] := by
 unfold tP at h
 refine At.f aJM hT hmo Tryz.func256 rfl h ?_
 refine At.o 5 (oQ aNE (a0 : aO) (a1 : aO) (by kernel_rfl) (by kernel_rfl) (fun _ => rfl) (fun _ => rfl) (by kernel_rfl) (by kernel_rfl)) ?_
 refine At.c 1 ?_ ?_
 ·apply rt; exact At.r 1
 ·refine At.J 0 1 [] 0 (fun p1 => ([(9, (eB p1))], [], [])) (fun p1 => ?_) fun p1 => ?_
  ·refine lx ?_; intro x2
   refine At.c 6 ?_ ?_
   ·apply rt; exact At.jn 0
   ·refine lx ?_; intro x3
    refine lx ?_; intro x4
    apply rt; exact At.jn 13
  ·refine At.c 0 ?_ ?_
   ·apply rt; exact At.r 1
   ·apply rt; exact At.r 1

def aCM : Nat → Bool := imL [2, 3]

def hS (N : Nat) (a0 : bF) (a1 : bF) : Option (Bool) :=
 Option.bind (hO N a0.gn a1.gd) fun r1 =>
 Option.bind (hO N a1.gn a0.gd) fun r2 =>
 Option.bind (tP N r1 r2) fun r3 =>
 some (decide (r3 < 0))

theorem jT {N a0 a1 r} (h : hS N a0 a1 = some r) : FnM Tryz.prog 307 [] [(bF.enc a0), (bF.enc a1)] (eB r) [] := by
 unfold hS at h
 refine At.f aCM hT hmo Tryz.func307 rfl h ?_
 refine bi fun r1 hr1 => ?_
 refine bi fun r2 hr2 => ?_
 refine bi fun r3 hr3 => ?_
 refine At.d 3 (dE2 4 (aO.enc r1) (fun _ => aF (jM hr1)) (dE2 9 (aO.enc r2) (fun _ => aF (jM hr2)) (dE2 10 (j64 r3) (fun _ => aF (xC hr3)) dE0))) dF0 ?_
 apply rt; exact At.r 0

def aHr : Nat → Bool := imL [4, 5, 6, 7]

def vX (N : Nat) (a0 : aA) (a1 : aA) (a2 : aA) (a3 : aA) : Nat → bF → bF → Bool → Int → Option (Sum (bF × bF × Bool) (bF × Bool))
 | 0, _, _, _, _ => none
 | k + 1, s2, s3, s4, s5 =>
  cond (decide (s5 < 3)) (
   Option.bind (Option.bind (idx (#v[#v[a0.gX, a1.gX, a2.gX, a3.gX], #v[a0.gY, a1.gY, a2.gY, a3.gY], #v[a0.gZ, a1.gZ, a2.gZ, a3.gZ]]).toList s5) fun e7 =>
   Option.bind (fK 0 4) fun _ =>
   Option.bind (e7.toList[(Int.toNat 0)]?) fun e9 =>
   Option.bind (fK 2 4) fun _ =>
   Option.bind (e7.toList[(Int.toNat 2)]?) fun e11 =>
   Option.bind (fK 1 4) fun _ =>
   Option.bind (e7.toList[(Int.toNat 1)]?) fun e13 =>
   Option.bind (fK 2 4) fun _ =>
   Option.bind (e7.toList[(Int.toNat 2)]?) fun e15 =>
   Option.bind (fK 3 4) fun _ =>
   Option.bind (e7.toList[(Int.toNat 3)]?) fun e17 =>
   aM (decide ((I64 (e9 - e11)) > (I64 (e13 - e15)))) fun x18 =>
   cond x18 (
    some (Sum.inr ((s2, false)))) (
    Option.bind (cond (e17 == 0) (
     aM (decide ((I64 (e9 - e11)) > 0)) fun x20 =>
     aM (decide ((I64 (e13 - e15)) < 0)) fun x21 =>
     some (cond x20 true x21)) (
     some false)) fun p19 =>
    cond p19 (
     some (Sum.inr ((s2, false)))) (
     cond (e17 == 0) (
      some (Sum.inl ((s2, s3, e7, s4)))) (
      cond (decide (e17 < 0)) (
       aM (I64 (0 - (I64 (e13 - e15)))) fun x22 =>
       aM (I64 (0 - (I64 (e9 - e11)))) fun x23 =>
       Option.bind (Option.bind (hS N s2 (bF.mk x22 (I64 (0 - e17)))) fun r25 =>
       cond r25 (some (bF.mk x22 (I64 (0 - e17)))) (some s2)) fun p24 =>
       Option.bind (cond (!s4) (
        some true) (
        Option.bind (hS N (bF.mk x23 (I64 (0 - e17))) s3) fun r27 =>
        some r27)) fun p26 =>
       cond p26 (
        some (Sum.inl ((p24, bF.mk x23 (I64 (0 - e17)), e7, true)))) (
        some (Sum.inl ((p24, s3, e7, s4))))) (
       Option.bind (Option.bind (hS N s2 (bF.mk (I64 (e9 - e11)) e17)) fun r29 =>
       cond r29 (some (bF.mk (I64 (e9 - e11)) e17)) (some s2)) fun p28 =>
       Option.bind (cond (!s4) (
        some true) (
        Option.bind (hS N (bF.mk (I64 (e13 - e15)) e17) s3) fun r31 =>
        some r31)) fun p30 =>
       cond p30 (
        some (Sum.inl ((p28, bF.mk (I64 (e13 - e15)) e17, e7, true)))) (
        some (Sum.inl ((p28, s3, e7, s4))))))))) fun o => fW o (fun p6 =>
    vX N a0 a1 a2 a3 k p6.1 p6.2.1 p6.2.2.2 (I64 (s5 + 1))) (fun r => some (Sum.inr r))) (
   some (Sum.inl ((s2, s3, s4))))

def xI (N : Nat) (a0 : aA) (a1 : aA) (a2 : aA) (a3 : aA) : Option (bF × Bool) :=
 Option.bind (vX N a0 a1 a2 a3 N (bF.mk 0 1) (bF.mk 0 0) false 0) fun o => fW o (fun p1 =>
  Option.bind (cond (!p1.2.2) (
   some true) (
   Option.bind (hS N p1.2.1 p1.1) fun r33 =>
   some (!r33))) fun p32 =>
  some ((p1.1, p32))) (fun r => some r)

theorem aCN {N a0 a1 a2 a3 r} (h : xI N a0 a1 a2 a3 = some r) : FnM Tryz.prog 305 [] [(aA.enc a0), (aA.enc a1), (aA.enc a2), (aA.enc a3)] (.tup [(bF.enc r.1), (eB r.2)]) [] := by
 unfold xI at h
 refine At.f aHr hT hmo Tryz.func305 rfl h ?_
 refine At.LS 41 [8, 10] 2 (fun p1 => ([(11, (eB p1.2.2))], [(0, .var (bF.enc p1.1)), (1, .var (bF.enc p1.2.1))], [])) (fun op1 J k => ∃ s2 s3 s4 s5, vX N a0 a1 a2 a3 k s2 s3 s4 s5 = some op1 ∧ J [8, 10, 48] 2 [(11, (eB s4)), (49, (j64 s5))] [(0, .var (bF.enc s2)), (1, .var (bF.enc s3))] []) N (fun _ h => ⟨_, _, _, _, h, jr⟩) (fun op1 g1 k s hI => ?_) fun p1 => ?_
 ·obtain ⟨s2, s3, s4, s5, h, hj⟩ := hI
  cases k with
  | zero => cases h
  | succ k =>
   refine At.jr hj ?_ h
   refine At.c 1 ?_ ?_
   ·refine At.JS 0 2 [8, 10, 48, 49] 2 (fun p6 => ([(11, (eB p6.2.2.2))], [(0, .var (bF.enc p6.1)), (1, .var (bF.enc p6.2.1))], [.var (eA 4 1 j64 p6.2.2.1)])) (fun op6 g6 => ?_) fun p6 => ?_
    ·refine At.b 0 (fun _ e => xP hT (eA 4 1 j64) (#v[#v[a0.gX, a1.gX, a2.gX, a3.gX], #v[a0.gY, a1.gY, a2.gY, a3.gY], #v[a0.gZ, a1.gZ, a2.gZ, a3.gZ]]) e (by kernel_rfl) (by kernel_rfl)) fun e7 => ?_
     refine bi fun u8 hu8 => ?_
     refine bi fun e9 he9 => ?_
     refine bi fun u10 hu10 => ?_
     refine bi fun e11 he11 => ?_
     refine bi fun u12 hu12 => ?_
     refine bi fun e13 he13 => ?_
     refine bi fun u14 hu14 => ?_
     refine bi fun e15 he15 => ?_
     refine bi fun u16 hu16 => ?_
     refine bi fun e17 he17 => ?_
     refine At.d 2 (dE1 0 (fun _ => bL hT (k := 1) 2 [] 0 hu8) (dEL hT 1 (j64 e9) j64 0 he9 (dE1 2 (fun _ => bL hT (k := 1) 2 [] 0 hu10) (dEL hT 3 (j64 e11) j64 0 he11 (dE1 5 (fun _ => bL hT (k := 1) 2 [] 0 hu12) (dEL hT 6 (j64 e13) j64 0 he13 (dE1 7 (fun _ => bL hT (k := 1) 2 [] 0 hu14) (dEL hT 8 (j64 e15) j64 0 he15 (dE1 10 (fun _ => bL hT (k := 1) 2 [] 0 hu16) (dEL hT 11 (j64 e17) j64 0 he17 dE0)))))))))) dF0 ?_
     refine lx ?_; intro x18
     refine At.c 4 ?_ ?_
     ·intro e; apply aLM g6 g1 e; exact At.r 3
     ·refine At.J 0 0 [8, 10, 11, 14, 15, 16, 48, 49] 3 (fun p19 => ([(69, (eB p19))], [], [])) (fun p19 => ?_) fun p19 => ?_
      ·refine At.s 72 3 ?_ ?_
       ·refine lx ?_; intro x20
        refine lx ?_; intro x21
        refine At.g [72] 8 ?_
        apply rt; exact At.jn 0
       ·refine At.g [72, 75] 8 ?_
        apply rt; exact At.jn 0
      ·refine At.c 0 ?_ ?_
       ·intro e; apply aLM g6 g1 e; exact At.r 3
       ·refine At.c 3 ?_ ?_
        ·apply rt; exact At.jsn 0
        ·refine At.c 3 ?_ ?_
         ·refine lx ?_; intro x22
          refine lx ?_; intro x23
          refine At.J 9 1 [8, 10, 11, 15, 16, 48, 49] 3 (fun p24 => ([], [(0, .var (bF.enc p24))], [.var (.st 2 [(j64 x22), (j64 (I64 (0 - e17)))])])) (fun p24 => ?_) fun p24 => ?_
          ·refine At.b 7 (fun _ e => aK [] (jT e)) fun r25 => ?_
           refine At.c 0 ?_ ?_
           ·apply rt; exact At.jn 2
           ·apply rt; exact At.jn 0
          ·refine At.J 5 0 [8, 10, 11, 18, 48, 49] 5 (fun p26 => ([(109, (eB p26))], [], [])) (fun p26 => ?_) fun p26 => ?_
           ·refine At.s 105 3 ?_ ?_
            ·refine At.g [105] 4 ?_
             apply rt; exact At.jn 0
            ·refine At.g [105] 2 ?_
             refine At.b 0 (fun _ e => aK [] (jT e)) fun r27 => ?_
             refine At.g [105] 1 ?_
             apply rt; exact At.jn 0
           ·refine At.c 0 ?_ ?_
            ·apply rt; exact At.jsn 3
            ·apply rt; exact At.jsn 0
         ·refine At.J 0 1 [8, 10, 11, 15, 16, 48, 49] 3 (fun p28 => ([], [(0, .var (bF.enc p28))], [.var (.st 2 [(j64 (I64 (e9 - e11))), (j64 e17)])])) (fun p28 => ?_) fun p28 => ?_
          ·refine At.b 7 (fun _ e => aK [] (jT e)) fun r29 => ?_
           refine At.c 0 ?_ ?_
           ·apply rt; exact At.jn 2
           ·apply rt; exact At.jn 0
          ·refine At.J 5 0 [8, 10, 11, 18, 48, 49] 5 (fun p30 => ([(109, (eB p30))], [], [])) (fun p30 => ?_) fun p30 => ?_
           ·refine At.s 105 3 ?_ ?_
            ·refine At.g [105] 4 ?_
             apply rt; exact At.jn 0
            ·refine At.g [105] 2 ?_
             refine At.b 0 (fun _ e => aK [] (jT e)) fun r31 => ?_
             refine At.g [105] 1 ?_
             apply rt; exact At.jn 0
           ·refine At.c 0 ?_ ?_
            ·apply rt; exact At.jsn 3
            ·apply rt; exact At.jsn 0
    ·exact fun h => At.k 2 ⟨_, _, _, _, h, jr⟩
   ·apply rt; exact At.xs 0
 ·refine At.J 0 0 [8] 2 (fun p32 => ([(9, (eB p32))], [], [])) (fun p32 => ?_) fun p32 => ?_
  ·refine boI (fun hc3 => ?_) (fun hc3 => ?_)
   ·refine At.d 0 (dE1 3 (fun _ => aR hc3 rfl (aQ hT (im := false) (by kernel_rfl))) dE0) dF0 ?_
    apply rt; exact At.jn 0
   ·refine bi fun r33 hr33 => ?_
    refine At.d 0 (dE1 3 (fun _ => aR hc3 rfl (aQ hT (im := false) (by kernel_rfl))) (dE2 6 (eB r33) (fun _ => aF (jT hr33)) dE0)) dF0 ?_
    apply rt; exact At.jn 0
  ·apply rt; exact At.r 0


def aIM : Nat → Bool := imL [1]

def aAj (N : Nat) (a0 : aA) : Option (Bool) :=
 Option.bind (oF N a0 65536) fun r1 =>
 some (!r1)

theorem aGW {N a0 r} (h : aAj N a0 = some r) : FnM Tryz.prog 297 [] [(aA.enc a0)] (eB r) [] := by
 unfold aAj at h
 refine At.f aIM hT hmo Tryz.func297 rfl h ?_
 refine At.b 3 (fun _ e => aK [] (yE e)) fun r1 => ?_
 apply rt; exact At.r 2

def dN (N : Nat) (a0 : (List aA)) : Nat → Int → Option (Sum (Unit) (Int))
 | 0, _ => none
 | k + 1, s2 =>
  aM (decide (s2 < ((a0.length : Int)))) fun x3 =>
  cond x3 (
   Option.bind (idx a0 s2) fun e4 =>
   Option.bind (aAj N e4) fun r5 =>
   cond r5 (
    some (Sum.inr s2)) (
    dN N a0 k (I64 (s2 + 1)))) (
   some (Sum.inl (())))

def eN (N : Nat) (a0 : (List aA)) : Option (Int) :=
 Option.bind (dN N a0 N 0) fun o => fW o (fun p1 =>
  some (-1)) (fun r => some r)

theorem nC {N a0 r} (h : eN N a0 = some r) : FnM Tryz.prog 300 [] [(eL 3 aA.enc a0), (.fn (.func 297) [] [])] (j64 r) [] := by
 unfold eN at h
 refine At.f dG hT hmo Tryz.func300 rfl h ?_
 refine At.LS 4 [] 0 (fun p1 => ([], [], [])) (fun op1 J k => ∃ s2, dN N a0 k s2 = some op1 ∧ J [0, 1, 7] 0 [(8, (j64 s2))] [] []) N (fun _ h => ⟨_, h, jr⟩) (fun op1 g1 k s hI => ?_) fun p1 => ?_
 ·obtain ⟨s2, h, hj⟩ := hI
  cases k with
  | zero => cases h
  | succ k =>
   refine At.jr hj ?_ h
   refine lx ?_; intro x3
   refine At.c 1 ?_ ?_
   ·refine At.b 5 (fun _ e => cC hT aA.enc e) fun e4 => ?_
    refine At.b 1 (fun _ e => aK [] (aGW e)) fun r5 => ?_
    refine At.c 0 ?_ ?_
    ·intro e; apply uY g1 e; exact At.r 2
    ·exact fun h => At.k 2 ⟨_, h, jr⟩
   ·apply rt; exact At.xs 0
 ·apply rt; exact At.r 1

def dP (N : Nat) (a0 : (List aA)) : Option (Bool) :=
 Option.bind (eN N a0) fun r1 =>
 some (decide (r1 ≥ 0))

theorem lW {N a0 r} (h : dP N a0 = some r) : FnM Tryz.prog 298 [] [(eL 3 aA.enc a0), (.fn (.func 297) [] [])] (eB r) [] := by
 unfold dP at h
 refine At.f dG hT hmo Tryz.func298 rfl h ?_
 refine At.b 3 (fun _ e => aK [] (nC e)) fun r1 => ?_
 apply rt; exact At.r 2

def aK1 : Nat → Bool := imL [2, 3]

def rP (N : Nat) (a0 : aA) (a1 : aA) : Option (aA) :=
 some (aA.mk (I64 (a0.gX - a1.gX)) (I64 (a0.gY - a1.gY)) (I64 (a0.gZ - a1.gZ)))

theorem tA {N a0 a1 r} (h : rP N a0 a1 = some r) : FnM Tryz.prog 161 [] [(aA.enc a0), (aA.enc a1)] (aA.enc r) [] := by
 unfold rP at h
 refine At.f aK1 hT hmo Tryz.func161 rfl h ?_
 apply rt; exact At.r 20

def aH2 : Nat → Bool := imL [2, 3]

def tX (N : Nat) (a0 : aA) (a1 : aA) : Option (aA) :=
 aM (I64 ((I64 (a0.gY * a1.gZ)) - (I64 (a0.gZ * a1.gY)))) fun x1 =>
 aM (I64 ((I64 (a0.gZ * a1.gX)) - (I64 (a0.gX * a1.gZ)))) fun x2 =>
 aM (I64 ((I64 (a0.gX * a1.gY)) - (I64 (a0.gY * a1.gX)))) fun x3 =>
 some (aA.mk ((I64 ((I64 (a0.gY * a1.gZ)) - (I64 (a0.gZ * a1.gY))))) ((I64 ((I64 (a0.gZ * a1.gX)) - (I64 (a0.gX * a1.gZ))))) ((I64 ((I64 (a0.gX * a1.gY)) - (I64 (a0.gY * a1.gX))))))

theorem aAA {N a0 a1 r} (h : tX N a0 a1 = some r) : FnM Tryz.prog 160 [] [(aA.enc a0), (aA.enc a1)] (aA.enc r) [] := by
 unfold tX at h
 refine At.f aH2 hT hmo Tryz.func160 rfl h ?_
 refine lx ?_; intro x1
 refine lx ?_; intro x2
 refine lx ?_; intro x3
 apply rt; exact At.r 38

def aKZ : Nat → Bool := imL [2, 3]

def tJ (N : Nat) (a0 : aA) (a1 : aA) : Option (Int) :=
 aM (I64 ((I64 (a0.gX * a1.gX)) + (I64 (a0.gY * a1.gY)))) fun x1 =>
 aM (I64 (x1 + (I64 (a0.gZ * a1.gZ)))) fun x2 =>
 some x2

theorem wO {N a0 a1 r} (h : tJ N a0 a1 = some r) : FnM Tryz.prog 299 [] [(aA.enc a0), (aA.enc a1)] (j64 r) [] := by
 unfold tJ at h
 refine At.f aKZ hT hmo Tryz.func299 rfl h ?_
 refine lx ?_; intro x1
 refine lx ?_; intro x2
 apply rt; exact At.r 21

def aKa : Nat → Bool := imL [3, 4, 5]

def aDP (N : Nat) (a0 : aA) (a1 : aA) (a2 : (Vector aA 3)) : Option (bD × Bool) :=
 Option.bind (Option.bind (nN N a0 a1) fun r2 =>
 cond (!r2) (
  some true) (
  Option.bind (uF a2.toList 0 3) fun s3 =>
  Option.bind (dP N s3) fun r4 =>
  some r4)) fun p1 =>
 cond p1 (
  some ((bD.mk 0 0 0 0, false))) (
  Option.bind (idx a2.toList 1) fun e5 =>
  Option.bind (idx a2.toList 0) fun e6 =>
  Option.bind (rP N e5 e6) fun r7 =>
  Option.bind (idx a2.toList 2) fun e8 =>
  Option.bind (idx a2.toList 0) fun e9 =>
  Option.bind (rP N e8 e9) fun r10 =>
  Option.bind (tX N a1 r10) fun r11 =>
  Option.bind (idx a2.toList 0) fun e12 =>
  Option.bind (rP N a0 e12) fun r13 =>
  Option.bind (tX N r13 r7) fun r14 =>
  Option.bind (tJ N r10 r14) fun r15 =>
  Option.bind (tJ N r7 r11) fun r16 =>
  Option.bind (tJ N r13 r11) fun r17 =>
  Option.bind (tJ N a1 r14) fun r18 =>
  Option.bind (cond (decide (r16 < 0)) (
   some (bD.mk (I64 (0 - r15)) (I64 (0 - r16)) (I64 (0 - r17)) (I64 (0 - r18)))) (
   some (bD.mk r15 r16 r17 r18))) fun p19 =>
  aM (cond (p19.gA7 == 0) true (decide (p19.gU < 0))) fun x20 =>
  aM (cond x20 true (decide (p19.gV < 0))) fun x21 =>
  aM (decide ((I64 (p19.gU + p19.gV)) > p19.gA7)) fun x22 =>
  aM (cond (cond x21 true x22) true (decide (p19.gB7 ≤ 0))) fun x23 =>
  cond x23 (some ((bD.mk 0 0 0 0, false))) (some ((p19, true))))

theorem aJW {N a0 a1 a2 r} (h : aDP N a0 a1 a2 = some r) : FnM Tryz.prog 296 [] [(aA.enc a0), (aA.enc a1), (eA 9 3 aA.enc a2)] (.tup [(bD.enc r.1), (eB r.2)]) [] := by
 unfold aDP at h
 refine At.f aKa hT hmo Tryz.func296 rfl h ?_
 refine At.J 6 0 [3, 4, 5, 6] 1 (fun p1 => ([(22, (eB p1))], [], [])) (fun p1 => ?_) fun p1 => ?_
 ·refine At.b 2 (fun _ e => aK [] (vZ e)) fun r2 => ?_
  refine At.s 18 2 ?_ ?_
  ·refine At.g [18] 4 ?_
   apply rt; exact At.jn 0
  ·refine At.b 0 (fun _ e => zF hT (N := 9) (k := 3) aA.enc a2 e) fun s3 => ?_
   refine At.g [18] 1 ?_
   refine At.b 0 (fun _ e => aK [] (lW e)) fun r4 => ?_
   refine At.g [18] 1 ?_
   apply rt; exact At.jn 0
 ·refine At.c 0 ?_ ?_
  ·apply rt; exact At.r 3
  ·refine bi fun e5 he5 => ?_
   refine bi fun e6 he6 => ?_
   refine bi fun r7 hr7 => ?_
   refine bi fun e8 he8 => ?_
   refine bi fun e9 he9 => ?_
   refine bi fun r10 hr10 => ?_
   refine At.d2 0 [false, false] (dC1 0 (fun _ => cK hT (N := 9) (k := 3) aA.enc a2 he5) (dC1 2 (fun _ => cK hT (N := 9) (k := 3) aA.enc a2 he6) (dC2 4 (aA.enc r7) (fun _ => aF (tA hr7)) (dC1 5 (fun _ => cK hT (N := 9) (k := 3) aA.enc a2 he8) (dC1 7 (fun _ => cK hT (N := 9) (k := 3) aA.enc a2 he9) (dC2 9 (aA.enc r10) (fun _ => aF (tA hr10)) dC0)))))) (dS1 10 ⟨(.ref 1 [] 0), 1, .var (.st 3 [(j64 0), (j64 0), (j64 0)]), .dead⟩ [[.var (.st 4 [(j64 0), (j64 0), (j64 0), (j64 0)]), .dead, .dead], [.var (.st 4 [(j64 0), (j64 0), (j64 0), (j64 0)]), .dead, .var (.st 3 [(j64 0), (j64 0), (j64 0)])]] ⟨aV hT 1 (by kernel_rfl) (by kernel_rfl) (by kernel_rfl), aV hT 1 (by kernel_rfl) (by kernel_rfl) (by kernel_rfl), trivial⟩ (dS1 11 ⟨(.ref 2 [] 0), 2, .var (.st 3 [(j64 0), (j64 0), (j64 0)]), .dead⟩ [[.var (.st 4 [(j64 0), (j64 0), (j64 0), (j64 0)]), .dead, .dead], [.var (.st 4 [(j64 0), (j64 0), (j64 0), (j64 0)]), .var (.st 3 [(j64 0), (j64 0), (j64 0)]), .dead]] ⟨aV hT 2 (by kernel_rfl) (by kernel_rfl) (by kernel_rfl), aV hT 2 (by kernel_rfl) (by kernel_rfl) (by kernel_rfl), trivial⟩ dS0)) ?_
   refine At.b 2 (fun _ e => aK [] (aAA e)) fun r11 => ?_
   refine At.b 3 (fun _ e => cK hT (N := 9) (k := 3) aA.enc a2 e) fun e12 => ?_
   refine At.b 1 (fun _ e => aK [] (tA e)) fun r13 => ?_
   refine At.b 4 (fun _ e => aK [] (aAA e)) fun r14 => ?_
   refine bi fun r15 hr15 => ?_
   refine bi fun r16 hr16 => ?_
   refine bi fun r17 hr17 => ?_
   refine bi fun r18 hr18 => ?_
   refine At.d 2 (dE2 2 (j64 r15) (fun _ => aF (wO hr15)) (dE2 5 (j64 r16) (fun _ => aF (wO hr16)) (dE2 8 (j64 r17) (fun _ => aF (wO hr17)) (dE2 11 (j64 r18) (fun _ => aF (wO hr18)) dE0)))) dF0 ?_
   refine At.J 0 1 [6] 6 (fun p19 => ([], [(0, .var (bD.enc p19))], [])) (fun p19 => ?_) fun p19 => ?_
   ·refine At.c 3 ?_ ?_
    ·apply rt; exact At.jn 14
    ·apply rt; exact At.jn 0
   ·refine lx ?_; intro x20
    refine lx ?_; intro x21
    refine lx ?_; intro x22
    refine lx ?_; intro x23
    refine At.c 28 ?_ ?_
    ·apply rt; exact At.r 3
    ·apply rt; exact At.r 3

def xX : Nat → Bool := imL [7, 8]

def kB (N : Nat) (a0 : aA) (a1 : aA) (a2 : Int) (a3 : Int) (a4 : Int) (a5 : aJ) : Option (bD × Bool) :=
 Option.bind (idx a5.gl a4) fun e1 =>
 aM ((iX .u8 e1.gC6 a2) == 0) fun x2 =>
 aM (cond x2 true (a4 == a3)) fun x3 =>
 cond x3 (
  some ((bD.mk 0 0 0 0, false))) (
  Option.bind (idx a5.gl a4) fun e4 =>
  Option.bind (aDP N a0 a1 e4.gP) fun r5 =>
  some ((r5.1, r5.2)))

theorem pZ {N a0 a1 a2 a3 a4 a5 r} (h : kB N a0 a1 a2 a3 a4 a5 = some r) : FnM Tryz.prog 306 [.var (aJ.enc a5)] [(.ref 0 [] 0), (aA.enc a0), (aA.enc a1), (k8 a2), (j64 a3), (j64 a4)] (.tup [(bD.enc r.1), (eB r.2)]) [.var (aJ.enc a5)] := by
 unfold kB at h
 refine At.f xX hT hmo Tryz.func306 rfl h ?_
 refine At.b 9 (fun _ e => cC hT aE.enc e) fun e1 => ?_
 refine lx ?_; intro x2
 refine lx ?_; intro x3
 refine At.c 10 ?_ ?_
 ·apply rt; exact At.r 3
 ·refine bi fun e4 he4 => ?_
  refine bi fun r5 hr5 => ?_
  refine At.d 0 (dE1 7 (fun _ => cC hT aE.enc he4) (dE2 10 (.tup [(bD.enc r5.1), (eB r5.2)]) (fun _ => aF (aJW hr5)) dE0)) dF0 ?_
  apply rt; exact At.r 0

def aIu : Nat → Bool := imL [2, 3]

def zI (N : Nat) (a0 : bD) (a1 : bD) : Option (Bool) :=
 aM (cond (decide (a0.gA7 < 1)) true (decide (a1.gA7 < 1))) fun x1 =>
 cond x1 (
  some false) (
  Option.bind (hO N a0.gB7 a1.gA7) fun r2 =>
  Option.bind (hO N a1.gB7 a0.gA7) fun r3 =>
  Option.bind (tP N r2 r3) fun r4 =>
  some (decide (r4 < 0)))

theorem aDr {N a0 a1 r} (h : zI N a0 a1 = some r) : FnM Tryz.prog 295 [] [(bD.enc a0), (bD.enc a1)] (eB r) [] := by
 unfold zI at h
 refine At.f aIu hT hmo Tryz.func295 rfl h ?_
 refine lx ?_; intro x1
 refine At.c 11 ?_ ?_
 ·apply rt; exact At.r 1
 ·refine bi fun r2 hr2 => ?_
  refine bi fun r3 hr3 => ?_
  refine bi fun r4 hr4 => ?_
  refine At.d 0 (dE2 4 (aO.enc r2) (fun _ => aF (jM hr2)) (dE2 9 (aO.enc r3) (fun _ => aF (jM hr3)) (dE2 10 (j64 r4) (fun _ => aF (xC hr4)) dE0))) dF0 ?_
  apply rt; exact At.r 0

def wS : Nat → Bool := imL [6, 7]

def kP (N : Nat) (s23 : (List Int)) (a0 : aA) (a1 : aA) (a2 : Int) (a3 : Int) (a4 : aJ) : Nat → Int → bD → Int → Int → Option (Int × bD × Int)
 | 0, _, _, _, _ => none
 | k + 1, s25, s26, s27, s28 =>
  aM (decide (s28 < ((s23.length : Int)))) fun x29 =>
  cond x29 (
   Option.bind (Option.bind (idx s23 s28) fun e31 =>
   Option.bind (kB N a0 a1 a2 a3 e31 (aJ.mk a4.gI a4.gA a4.gl (I64 (s25 + 1)))) fun r32 =>
   Option.bind (cond r32.2 (
    cond (decide (s27 < 0)) (
     some true) (
     Option.bind (zI N r32.1 s26) fun r34 =>
     cond r34 (
      some true) (
      cond (decide (e31 < s27)) (
       Option.bind (zI N s26 r32.1) fun r35 =>
       some (!r35)) (
       some false)))) (
    some false)) fun p33 =>
   cond p33 (some ((r32.1, r32.1, e31))) (some ((s26, r32.1, s27)))) fun p30 =>
   kP N s23 a0 a1 a2 a3 a4 k (I64 (s25 + 1)) p30.1 p30.2.2 (I64 (s28 + 1))) (
   some ((s25, s26, s27)))

def eZ (N : Nat) (a4 : aJ) (a0 : aA) (a1 : aA) (a2 : Int) (a3 : Int) : Nat → (List Int) → Int → bD → Int → Nat → Option ((List Int) × Int × bD × Int)
 | 0, _, _, _, _, _ => none
 | k + 1, s6, s7, s8, s9, s10 =>
  aM (decide (((s10 : Int)) > 0)) fun x11 =>
  cond x11 (
   aM (I64 (((s10 : Int)) - 1)) fun x12 =>
   Option.bind (uI s6.length 0 s10 x12) fun _ =>
   Option.bind (s6[x12.toNat]?) fun e14 =>
   Option.bind (idx a4.gI.gB9 e14) fun e15 =>
   aM (I64 (((s10 : Int)) - 1)) fun x16 =>
   Option.bind (aGU s6.length 0 s10 0 x16) fun _ =>
   Option.bind (xI N e15.gLo e15.gHi a0 a1) fun r18 =>
   Option.bind (cond (!r18.2) (
    some true) (
    cond (decide (s9 ≥ 0)) (
     Option.bind (hS N (bF.mk s8.gB7 s8.gA7) r18.1) fun r20 =>
     some r20) (
     some false))) fun p19 =>
   cond p19 (
    eZ N a4 a0 a1 a2 a3 k s6 (I64 (s7 + 1)) s8 s9 x16.toNat) (
    cond (decide (e15.gB4 ≥ 0)) (
     Option.bind (aID 8 s6 x16.toNat (([e15.gA6, e15.gB4] : List Int))) fun z21 =>
     eZ N a4 a0 a1 a2 a3 k z21 (I64 (s7 + 1)) s8 s9 (x16.toNat + 2)) (
     aM (I64 (e15.gC1 + e15.gC8)) fun x22 =>
     Option.bind (uF a4.gI.gD9 e15.gC1 x22) fun s23 =>
     Option.bind (kP N s23 a0 a1 a2 a3 a4 N (I64 (s7 + 1)) s8 s9 0) fun p24 =>
     eZ N a4 a0 a1 a2 a3 k s6 p24.1 p24.2.1 p24.2.2 x16.toNat))) (
   some ((s6, s7, s8, s9)))

def lV (N : Nat) (a0 : aA) (a1 : aA) (a2 : Int) (a3 : Int) (a4 : aJ) : Option (Int × Int × bD) :=
 Option.bind (Option.bind (oE N a4) fun r2 =>
 aM ((a4.gI.gB9.length : Int)) fun x3 =>
 cond (cond r2 true (x3 == 0)) (
  some true) (
  Option.bind (nN N a0 a1) fun r4 =>
  some (!r4))) fun p1 =>
 cond p1 (
  some ((a4.gC9, -1, bD.mk 0 0 0 0))) (
  Option.bind (eZ N a4 a0 a1 a2 a3 N (([0] : List Int)) a4.gC9 (bD.mk 0 0 0 0) (-1) ((([0] : List Int)).length)) fun p5 =>
  some ((p5.2.1, p5.2.2.2, p5.2.2.1)))

theorem pL {N a0 a1 a2 a3 a4 r} (h : lV N a0 a1 a2 a3 a4 = some r) : FnM Tryz.prog 302 [.var (aJ.enc a4)] [(.ref 0 [] 0), (aA.enc a0), (aA.enc a1), (k8 a2), (j64 a3)] (.tup [(j64 r.2.1), (bD.enc r.2.2)]) [.var (.st 5 [(bK.enc a4.gI), (eB a4.gA), (eL 19 aE.enc a4.gl), (j64 r.1)])] := by
 unfold lV at h
 refine At.f wS hT hmo Tryz.func302 rfl h ?_
 refine At.J 5 0 [0, 3, 4, 6, 7, 10, 11] 2 (fun p1 => ([(36, (eB p1))], [], [])) (fun p1 => ?_) fun p1 => ?_
 ·refine At.b 1 (fun _ e => aK [0] (uU e)) fun r2 => ?_
  refine lx ?_; intro x3
  refine At.s 31 10 ?_ ?_
  ·refine At.g [31] 5 ?_
   apply rt; exact At.jn 0
  ·refine At.g [31] 2 ?_
   refine At.b 0 (fun _ e => aK [] (vZ e)) fun r4 => ?_
   refine At.g [31] 2 ?_
   apply rt; exact At.jn 0
 ·refine At.c 0 ?_ ?_
  ·refine At.d 0 dE0 dF0 ?_
   apply rt; exact At.r 0
  ·refine At.o 0 (aCm hT j64 (k := 1) ([0] : List Int) (by kernel_rfl) (by kernel_rfl)) ?_
   refine At.gsub 1 12 ?_
   refine At.L 0 [11] 3 (fun p5 => ([(10, (j64 p5.2.2.2))], [(0, .var (.st 5 [(bK.enc a4.gI), (eB a4.gA), (eL 19 aE.enc a4.gl), (j64 p5.2.1)])), (1, .var (bD.enc p5.2.2.1)), (2, .gro 1 (List.map j64 p5.1))], [])) (fun p5 J k => ∃ s6 s7 s8 s9 s10, eZ N a4 a0 a1 a2 a3 k s6 s7 s8 s9 s10 = some p5 ∧ J [0, 3, 4, 6, 7, 11] 3 [(10, (j64 s9)), (12, (.gro 2 1 s6.length (.sub 0 s10)))] [(0, .var (.st 5 [(bK.enc a4.gI), (eB a4.gA), (eL 19 aE.enc a4.gl), (j64 s7)])), (1, .var (bD.enc s8)), (2, .gro 1 (List.map j64 s6))] []) N (fun _ h => ⟨_, _, _, _, _, h, jr⟩) (fun p5 k s hI => ?_) fun p5 => ?_
   ·obtain ⟨s6, s7, s8, s9, s10, h, hj⟩ := hI
    cases k with
    | zero => cases h
    | succ k =>
     refine At.jr hj ?_ h
     refine lx ?_; intro x11
     refine At.c 3 ?_ ?_
     ·refine lx ?_; intro x12
      refine bi fun u13 hu13 => ?_
      refine bi fun e14 he14 => ?_
      refine bi fun e15 he15 => ?_
      refine At.d 0 (dE1 9 (fun _ => jC hT (id := 2) (k := 1) hu13 (by kernel_rfl) (by kernel_rfl)) (dET 10 (j64 e14) [[.var (.st 5 [(bK.enc a4.gI), (eB a4.gA), (eL 19 aE.enc a4.gl), (j64 s7)]), .var (bD.enc s8), .gro 1 (List.map j64 s6)], [.var (.st 5 [(bK.enc a4.gI), (eB a4.gA), (eL 19 aE.enc a4.gl), (j64 s7)]), .var (bD.enc s8), .gro 1 (List.map j64 s6), .var cv_5]] ⟨dA (mP hT j64 [] he14 rfl (by kernel_rfl) (by kernel_rfl)), dA (mP hT j64 [] he14 rfl (by kernel_rfl) (by kernel_rfl)), trivial⟩ (dE1 11 (fun _ => cC hT bH.enc he15) dE0))) dF0 ?_
      refine lx ?_; intro x16
      refine At.b 4 (fun _ e => aEL hT (id := 2) (k := 1) (L := s6.length) (lo0 := 0) (m := s10) e (by kernel_rfl) (by kernel_rfl)) fun s17 => ?_
      refine At.b 15 (fun _ e => aK [] (aCN e)) fun r18 => ?_
      refine At.J 6 0 [0, 3, 4, 6, 7, 10, 11, 12, 13] 5 (fun p19 => ([(92, (eB p19))], [], [])) (fun p19 => ?_) fun p19 => ?_
      ·refine At.s 80 3 ?_ ?_
       ·refine At.g [80, 83] 12 ?_
        apply rt; exact At.jn 0
       ·refine At.g [80] 3 ?_
        refine At.s 83 0 ?_ ?_
        ·refine At.g [83] 6 ?_
         refine At.b 0 (fun _ e => aK [] (jT e)) fun r20 => ?_
         refine At.g [80, 83] 2 ?_
         apply rt; exact At.jn 0
        ·refine At.g [83, 80] 9 ?_
         apply rt; exact At.jn 0
      ·refine At.c 0 ?_ ?_
       ·exact fun h => At.k 0 ⟨_, _, _, _, _, h, jr⟩
       ·refine At.c 3 ?_ ?_
        ·refine At.o 5 (cX hT (x := (.sl 1 2 [(j64 e15.gA6), (j64 e15.gB4)]))) ?_
         refine At.b 0 (fun z21 e => aC7 hT j64 (id := 2) (k := 1) e (by kernel_rfl) (by kernel_rfl) (H' := [.var (.st 5 [(bK.enc a4.gI), (eB a4.gA), (eL 19 aE.enc a4.gl), (j64 (I64 (s7 + 1)))]), .var (bD.enc s8), .gro 1 (List.map j64 z21), .var (bH.enc e15), .var (bF.enc r18.1)]) (by kernel_rfl)) fun z21 => ?_
         exact fun h => At.k 1 ⟨_, _, _, _, _, h, jr⟩
        ·refine lx ?_; intro x22
         refine bi fun s23 hs23 => ?_
         refine At.d 0 (dE1 12 (fun _ => xL hT (k := 1) j64 hs23) dE0) dF0 ?_
         refine At.L 0 [0, 3, 4, 6, 7, 11, 12] 5 (fun p24 => ([(10, (j64 p24.2.2))], [(0, .var (.st 5 [(bK.enc a4.gI), (eB a4.gA), (eL 19 aE.enc a4.gl), (j64 p24.1)])), (1, .var (bD.enc p24.2.1))], [])) (fun p24 J k => ∃ s25 s26 s27 s28, kP N s23 a0 a1 a2 a3 a4 k s25 s26 s27 s28 = some p24 ∧ J [0, 3, 4, 6, 7, 11, 12, 115, 116] 5 [(10, (j64 s27)), (117, (j64 s28))] [(0, .var (.st 5 [(bK.enc a4.gI), (eB a4.gA), (eL 19 aE.enc a4.gl), (j64 s25)])), (1, .var (bD.enc s26))] []) N (fun _ h => ⟨_, _, _, _, h, jr⟩) (fun p24 k s hI => ?_) fun p24 => ?_
         ·obtain ⟨s25, s26, s27, s28, h, hj⟩ := hI
          cases k with
          | zero => cases h
          | succ k =>
           refine At.jr hj ?_ h
           refine lx ?_; intro x29
           refine At.c 1 ?_ ?_
           ·refine At.J 0 2 [0, 3, 4, 6, 7, 11, 12, 115, 116, 117] 5 (fun p30 => ([(10, (j64 p30.2.2))], [(0, .var (.st 5 [(bK.enc a4.gI), (eB a4.gA), (eL 19 aE.enc a4.gl), (j64 (I64 (s25 + 1)))])), (1, .var (bD.enc p30.1))], [.var (bD.enc p30.2.1)])) (fun p30 => ?_) fun p30 => ?_
            ·refine At.b 0 (fun _ e => cC hT j64 e) fun e31 => ?_
             refine At.b 16 (fun _ e => aK [0] (pZ e)) fun r32 => ?_
             refine At.J 6 0 [0, 3, 4, 6, 7, 10, 11, 12, 17, 18, 115, 116, 117] 6 (fun p33 => ([(158, (eB p33))], [], [])) (fun p33 => ?_) fun p33 => ?_
             ·refine At.s 139 2 ?_ ?_
              ·refine At.g [139] 3 ?_
               refine At.s 142 0 ?_ ?_
               ·refine At.g [142, 139, 147, 151] 16 ?_
                apply rt; exact At.jn 0
               ·refine At.g [142] 2 ?_
                refine At.b 0 (fun _ e => aK [] (aDr e)) fun r34 => ?_
                refine At.g [139, 142] 2 ?_
                refine At.s 147 0 ?_ ?_
                ·refine At.g [147, 151, 139] 11 ?_
                 apply rt; exact At.jn 0
                ·refine At.g [147] 4 ?_
                 refine At.s 151 0 ?_ ?_
                 ·refine At.g [151] 2 ?_
                  refine At.b 0 (fun _ e => aK [] (aDr e)) fun r35 => ?_
                  refine At.g [151, 147, 139] 4 ?_
                  apply rt; exact At.jn 0
                 ·refine At.g [151, 147, 139] 7 ?_
                  apply rt; exact At.jn 0
              ·refine At.g [139, 142, 147, 151] 19 ?_
               apply rt; exact At.jn 0
             ·refine At.c 0 ?_ ?_
              ·refine At.d 0 dE0 dF0 ?_
               apply rt; exact At.jn 0
              ·apply rt; exact At.jn 0
            ·exact fun h => At.k 2 ⟨_, _, _, _, h, jr⟩
           ·apply rt; exact At.x 0
         ·exact fun h => At.k 0 ⟨_, _, _, _, _, h, jr⟩
     ·apply rt; exact At.x 0
   ·refine At.d 0 dE0 dF0 ?_
    apply rt; exact At.r 0

def oS (N : Nat) (a0 : Int) : Option (Int) :=
 aM (jI (iS a0 (-1073741824)) 1073741824) fun x1 =>
 some x1

theorem uO {N a0 r} (h : oS N a0 = some r) : FnM Tryz.prog 220 [] [(j64 a0)] (j64 r) [] := by
 unfold oS at h
 refine At.f dG hT hmo Tryz.func220 rfl h ?_
 refine lx ?_; intro x1
 apply rt; exact At.r 5

def aIF : Nat → Bool := imL [1]

def wE (N : Nat) (a0 : aO) : Nat → Int → Int → Option (Int)
 | 0, _, _ => none
 | k + 1, s2, s3 =>
  cond (decide (s3 < 64)) (
   Option.bind (Option.bind (aHR .u64 1 (I64 (63 - s3))) fun x5 =>
   Option.bind (jB N (bor .u64 s2 x5) (bor .u64 s2 x5)) fun r6 =>
   Option.bind (aM (decide (r6.1 < (U64 a0.gHi))) fun x8 =>
   cond x8 (
    some ((bor .u64 s2 x5, true))) (
    aM (cond (r6.1 == (U64 a0.gHi)) (decide (r6.2 ≤ a0.gLo)) false) fun x9 =>
    some ((bor .u64 s2 x5, x9)))) fun p7 =>
   cond p7.2 (some p7.1) (some s2)) fun p4 =>
   wE N a0 k p4 (I64 (s3 + 1))) (
   some s2)

def xM (N : Nat) (a0 : aO) : Option (Int) :=
 cond (decide (a0.gHi < 0)) (
  some 0) (
  Option.bind (wE N a0 N 0 0) fun p1 =>
  some p1)

theorem aCQ {N a0 r} (h : xM N a0 = some r) : FnM Tryz.prog 221 [] [(aO.enc a0)] (k64 r) [] := by
 unfold xM at h
 refine At.f aIF hT hmo Tryz.func221 rfl h ?_
 refine At.c 5 ?_ ?_
 ·apply rt; exact At.r 1
 ·refine At.L 2 [] 0 (fun p1 => ([(3, (k64 p1))], [], [])) (fun p1 J k => ∃ s2 s3, wE N a0 k s2 s3 = some p1 ∧ J [1] 0 [(3, (k64 s2)), (11, (j64 s3))] [] []) N (fun _ h => ⟨_, _, h, jr⟩) (fun p1 k s hI => ?_) fun p1 => ?_
  ·obtain ⟨s2, s3, h, hj⟩ := hI
   cases k with
   | zero => cases h
   | succ k =>
    refine At.jr hj ?_ h
    refine At.c 1 ?_ ?_
    ·refine At.J 0 2 [1, 11] 0 (fun p4 => ([(3, (k64 p4))], [], [])) (fun p4 => ?_) fun p4 => ?_
     ·refine At.b 5 (fun _ e => aBA hT (k' := .i64) e (by kernel_rfl) (by kernel_rfl)) fun x5 => ?_
      refine At.b 4 (fun _ e => aK [] (vY e)) fun r6 => ?_
      refine At.J 5 0 [1, 3, 11] 0 (fun p7 => ([(5, (k64 p7.1)), (42, (eB p7.2))], [], [])) (fun p7 => ?_) fun p7 => ?_
      ·refine lx ?_; intro x8
       refine At.s 30 6 ?_ ?_
       ·refine At.g [30, 36] 12 ?_
        apply rt; exact At.jn 0
       ·refine lx ?_; intro x9
        refine At.g [30] 12 ?_
        apply rt; exact At.jn 0
      ·refine At.c 0 ?_ ?_
       ·apply rt; exact At.jn 2
       ·apply rt; exact At.jn 0
     ·exact fun h => At.k 2 ⟨_, _, h, jr⟩
    ·apply rt; exact At.x 0
  ·apply rt; exact At.r 2

def mN (N : Nat) (a0 : Int) (a1 : Int) : Option (Int) :=
 Option.bind (pA N (aO.mk a0 0) a1) fun r1 =>
 Option.bind (oT N r1.1) fun r2 =>
 some r2.1

theorem rD {N a0 a1 r} (h : mN N a0 a1 = some r) : FnM Tryz.prog 222 [] [(j64 a0), (.im (j64 a1))] (j64 r) [] := by
 unfold mN at h
 refine At.f dG hT hmo Tryz.func222 rfl h ?_
 refine At.b 4 (fun _ e => aK [] (xK e)) fun r1 => ?_
 refine At.b 9 (fun _ e => aK [] (uD e)) fun r2 => ?_
 apply rt; exact At.r 7

def aGg : Nat → Bool := imL [1]

def kC (N : Nat) (a0 : aA) : Option (aB) :=
 Option.bind (oS N a0.gX) fun r1 =>
 Option.bind (oS N a0.gY) fun r2 =>
 Option.bind (oS N a0.gZ) fun r3 =>
 aM (I64 ((I64 (r1 * r1)) + (I64 (r2 * r2)))) fun x4 =>
 aM (I64 (x4 + (I64 (r3 * r3)))) fun x5 =>
 Option.bind (xM N (aO.mk x5 0)) fun r6 =>
 cond ((I64 r6) == 0) (
  some (aB.mk 0 0 0)) (
  Option.bind (mN N r1 (I64 r6)) fun r7 =>
  Option.bind (mN N r2 (I64 r6)) fun r8 =>
  Option.bind (mN N r3 (I64 r6)) fun r9 =>
  some (aB.mk r7 r8 r9))

theorem lF {N a0 r} (h : kC N a0 = some r) : FnM Tryz.prog 159 [] [(aA.enc a0)] (aB.enc r) [] := by
 unfold kC at h
 refine At.f aGg hT hmo Tryz.func159 rfl h ?_
 refine bi fun r1 hr1 => ?_
 refine bi fun r2 hr2 => ?_
 refine bi fun r3 hr3 => ?_
 refine At.d 3 (dE2 3 (j64 r1) (fun _ => aF (uO hr1)) (dE2 7 (j64 r2) (fun _ => aF (uO hr2)) (dE2 11 (j64 r3) (fun _ => aF (uO hr3)) dE0))) dF0 ?_
 refine lx ?_; intro x4
 refine lx ?_; intro x5
 refine At.b 12 (fun _ e => aK [] (aCQ e)) fun r6 => ?_
 refine At.c 5 ?_ ?_
 ·apply rt; exact At.r 2
 ·refine At.gz 0 1 ((j64 (I64 r6))) ?_
  refine At.o 0 (oC (x := (.fn (.func 222) [] [(.im (j64 (I64 r6)))])) (by kernel_rfl) (by kernel_rfl)) ?_
  refine At.b 3 (fun _ e => aK [] (rD e)) fun r7 => ?_
  refine At.b 2 (fun _ e => aK [] (rD e)) fun r8 => ?_
  refine At.b 2 (fun _ e => aK [] (rD e)) fun r9 => ?_
  apply rt; exact At.r 2

def xT (N : Nat) (a0 : (List aO)) : Nat → aO → Int → Option (Sum (aO) (aO × Bool))
 | 0, _, _ => none
 | k + 1, s2, s3 =>
  aM (decide (s3 < ((a0.length : Int)))) fun x4 =>
  cond x4 (
   Option.bind (idx a0 s3) fun e5 =>
   Option.bind (yX s2.gLo e5.gLo 0) fun r6 =>
   Option.bind (yX (U64 s2.gHi) (U64 e5.gHi) r6.2) fun r7 =>
   aM ((decide (s2.gHi < 0)) == (decide (e5.gHi < 0))) fun x8 =>
   aM (decide ((I64 r7.1) < 0)) fun x9 =>
   aM (!(x9 == (decide (e5.gHi < 0)))) fun x10 =>
   cond (cond x8 x10 false) (
    some (Sum.inr ((aO.mk 0 0, false)))) (
    xT N a0 k (aO.mk (I64 r7.1) r6.1) (I64 (s3 + 1)))) (
   some (Sum.inl s2))

def wD (N : Nat) (a0 : (List aO)) : Option (aO × Bool) :=
 Option.bind (xT N a0 N (aO.mk 0 0) 0) fun o => fW o (fun p1 =>
  some ((p1, true))) (fun r => some r)

theorem aAp {N a0 r} (h : wD N a0 = some r) : FnM Tryz.prog 229 [] [(eL 2 aO.enc a0)] (.tup [(aO.enc r.1), (eB r.2)]) [] := by
 unfold wD at h
 refine At.f dG hT hmo Tryz.func229 rfl h ?_
 refine At.LS 5 [2] 1 (fun p1 => ([], [(0, .var (aO.enc p1))], [])) (fun op1 J k => ∃ s2 s3, xT N a0 k s2 s3 = some op1 ∧ J [2, 11, 12] 1 [(13, (j64 s3))] [(0, .var (aO.enc s2))] []) N (fun _ h => ⟨_, _, h, jr⟩) (fun op1 g1 k s hI => ?_) fun p1 => ?_
 ·obtain ⟨s2, s3, h, hj⟩ := hI
  cases k with
  | zero => cases h
  | succ k =>
   refine At.jr hj ?_ h
   refine lx ?_; intro x4
   refine At.c 1 ?_ ?_
   ·refine At.b 0 (fun _ e => cC hT aO.enc e) fun e5 => ?_
    refine At.b 7 (fun _ e => aCq (aHL e) (fun _ => aCW)) fun r6 => ?_
    refine At.b 12 (fun _ e => aCq (aHL e) (fun _ => aCW)) fun r7 => ?_
    refine lx ?_; intro x8
    refine lx ?_; intro x9
    refine lx ?_; intro x10
    refine At.c 23 ?_ ?_
    ·intro e; apply uY g1 e; exact At.r 3
    ·exact fun h => At.k 6 ⟨_, _, h, jr⟩
   ·apply rt; exact At.xs 0
 ·apply rt; exact At.r 3

def zG (N : Nat) (a0 : Int) (a1 : Int) : Option (Int) :=
 Option.bind (sZ N a0) fun r1 =>
 Option.bind (sZ N a1) fun r2 =>
 Option.bind (wD N ([r1, r2])) fun r3 =>
 Option.bind (sZ N (-65536)) fun r4 =>
 Option.bind (sZ N 65536) fun r5 =>
 Option.bind (tP N r3.1 r4) fun r6 =>
 cond (decide (r6 < 0)) (
  some (-65536)) (
  Option.bind (tP N r3.1 r5) fun r7 =>
  cond (decide (r7 > 0)) (
   some 65536) (
   Option.bind (oT N r3.1) fun r8 =>
   some r8.1))

theorem aDo {N a0 a1 r} (h : zG N a0 a1 = some r) : FnM Tryz.prog 224 [] [(j64 a0), (j64 a1)] (j64 r) [] := by
 unfold zG at h
 refine At.f dG hT hmo Tryz.func224 rfl h ?_
 refine At.b 2 (fun _ e => aK [] (vP e)) fun r1 => ?_
 refine At.b 1 (fun _ e => aK [] (vP e)) fun r2 => ?_
 refine At.o 0 (cX hT (x := (.sl 2 2 [(aO.enc r1), (aO.enc r2)]))) ?_
 refine At.b 0 (fun _ e => aK [] (aAp e)) fun r3 => ?_
 refine At.b 6 (fun _ e => aK [] (vP e)) fun r4 => ?_
 refine At.b 0 (fun _ e => aK [] (vP e)) fun r5 => ?_
 refine At.b 6 (fun _ e => aK [] (xC e)) fun r6 => ?_
 refine At.c 2 ?_ ?_
 ·apply rt; exact At.r 1
 ·refine At.b 2 (fun _ e => aK [] (xC e)) fun r7 => ?_
  refine At.c 2 ?_ ?_
  ·apply rt; exact At.r 1
  ·refine At.b 1 (fun _ e => aK [] (uD e)) fun r8 => ?_
   apply rt; exact At.r 7

def mC (N : Nat) (a0 : Int) (a1 : Int) (a2 : bD) : Option (Int) :=
 cond (decide (a2.gA7 < 1)) (
  Option.bind (zG N a0 0) fun r1 =>
  some r1) (
  Option.bind (mX N a1 a2.gB7 a2.gA7) fun r2 =>
  Option.bind (zG N a0 r2) fun r3 =>
  some r3)

theorem rG {N a0 a1 a2 r} (h : mC N a0 a1 a2 = some r) : FnM Tryz.prog 223 [] [(j64 a0), (j64 a1), (.im (bD.enc a2))] (j64 r) [] := by
 unfold mC at h
 refine At.f dG hT hmo Tryz.func223 rfl h ?_
 refine At.c 4 ?_ ?_
 ·refine At.b 1 (fun _ e => aK [] (aDo e)) fun r1 => ?_
  apply rt; exact At.r 1
 ·refine At.b 6 (fun _ e => aK [] (pK e)) fun r2 => ?_
  refine At.b 0 (fun _ e => aK [] (aDo e)) fun r3 => ?_
  apply rt; exact At.r 1

def aIN : Nat → Bool := imL [3, 4, 5]

def aA0 (N : Nat) (a0 : aA) (a1 : aA) (a2 : bD) : Option (aA) :=
 Option.bind (mC N a0.gX a1.gX a2) fun r1 =>
 Option.bind (mC N a0.gY a1.gY a2) fun r2 =>
 Option.bind (mC N a0.gZ a1.gZ a2) fun r3 =>
 some (aA.mk r1 r2 r3)

theorem aCL {N a0 a1 a2 r} (h : aA0 N a0 a1 a2 = some r) : FnM Tryz.prog 162 [] [(aA.enc a0), (aA.enc a1), (bD.enc a2)] (aA.enc r) [] := by
 unfold aA0 at h
 refine At.f aIN hT hmo Tryz.func162 rfl h ?_
 refine At.o 4 (oC (x := (.fn (.func 223) [] [(.im (bD.enc a2))])) (by kernel_rfl) (by kernel_rfl)) ?_
 refine bi fun r1 hr1 => ?_
 refine bi fun r2 hr2 => ?_
 refine bi fun r3 hr3 => ?_
 refine At.d 1 (dE2 5 (j64 r1) (fun _ => aF (rG hr1)) (dE2 11 (j64 r2) (fun _ => aF (rG hr2)) (dE2 17 (j64 r3) (fun _ => aF (rG hr3)) dE0))) dF0 ?_
 apply rt; exact At.r 0

def aKe : Nat → Bool := imL [2, 3]

def rL (N : Nat) (a0 : aB) (a1 : aB) : Option (Int) :=
 Option.bind (pF N ([a0, a1])) fun r1 =>
 Option.bind (nW N ([r1.gX, r1.gY, r1.gZ])) fun r2 =>
 some r2

theorem tK {N a0 a1 r} (h : rL N a0 a1 = some r) : FnM Tryz.prog 170 [] [(aB.enc a0), (aB.enc a1)] (j64 r) [] := by
 unfold rL at h
 refine At.f aKe hT hmo Tryz.func170 rfl h ?_
 refine At.o 5 (cX hT (x := (.sl 3 2 [(aB.enc a0), (aB.enc a1)]))) ?_
 refine At.b 0 (fun _ e => aK [] (sP e)) fun r1 => ?_
 refine At.o 8 (cX hT (x := (.sl 1 3 [(j64 r1.gX), (j64 r1.gY), (j64 r1.gZ)]))) ?_
 refine At.b 0 (fun _ e => aK [] (qY e)) fun r2 => ?_
 apply rt; exact At.r 1

def aDT : Nat → Bool := imL [2, 3]

def tL (N : Nat) (a0 : aB) (a1 : aA) : Option (aB) :=
 Option.bind (kC N a1) fun r1 =>
 Option.bind (rL N a0 r1) fun r2 =>
 cond (decide (r2 ≤ 0)) (
  some a0) (
  Option.bind (iW N a0 (-4294967296)) fun r3 =>
  some r3)

theorem xA {N a0 a1 r} (h : tL N a0 a1 = some r) : FnM Tryz.prog 163 [] [(aB.enc a0), (aA.enc a1)] (aB.enc r) [] := by
 unfold tL at h
 refine At.f aDT hT hmo Tryz.func163 rfl h ?_
 refine bi fun r1 hr1 => ?_
 refine bi fun r2 hr2 => ?_
 refine At.d 3 (dE2 2 (aB.enc r1) (fun _ => aF (lF hr1)) (dE2 3 (j64 r2) (fun _ => aF (tK hr2)) dE0)) dF0 ?_
 refine At.c 0 ?_ ?_
 ·apply rt; exact At.r 2
 ·refine At.b 1 (fun _ e => aK [] (jL e)) fun r3 => ?_
  apply rt; exact At.r 1

def zR (N : Nat) (a0 : (List aD)) (a1 : Int) : Option (aD × Bool) :=
 aM (((a0.length : Int)) == 0) fun x1 =>
 cond x1 (
  some ((aD.mk 0 [], false))) (
  aM (I64 (((a0.length : Int)) - 1)) fun x2 =>
  Option.bind (idx a0 (jI (iS a1 0) x2)) fun e3 =>
  some ((e3, true)))

theorem aFb {N a0 a1 r} (h : zR N a0 a1 = some r) : FnM Tryz.prog 225 [] [(eL 2 aD.enc a0), (j64 a1)] (.tup [(aD.enc r.1), (eB r.2)]) [] := by
 unfold zR at h
 refine At.f dG hT hmo Tryz.func225 rfl h ?_
 refine lx ?_; intro x1
 refine At.c 5 ?_ ?_
 ·apply rt; exact At.r 3
 ·refine lx ?_; intro x2
  refine At.b 7 (fun _ e => cC hT aD.enc e) fun e3 => ?_
  apply rt; exact At.r 3

def oB (N : Nat) (a0 : Int) (a1 : bD) (a2 : (Vector (Vector Int 2) 3)) : Option (Int) :=
 aM (I64 ((I64 (a1.gA7 - a1.gU)) - a1.gV)) fun x1 =>
 Option.bind (idx a2.toList 0) fun e2 =>
 Option.bind (idx e2.toList a0) fun e3 =>
 Option.bind (hO N x1 e3) fun r4 =>
 Option.bind (idx a2.toList 1) fun e5 =>
 Option.bind (idx e5.toList a0) fun e6 =>
 Option.bind (hO N a1.gU e6) fun r7 =>
 Option.bind (idx a2.toList 2) fun e8 =>
 Option.bind (idx e8.toList a0) fun e9 =>
 Option.bind (hO N a1.gV e9) fun r10 =>
 Option.bind (wD N ([r4, r7, r10])) fun r11 =>
 cond (!r11.2) (
  some 0) (
  Option.bind (pA N r11.1 a1.gA7) fun r12 =>
  Option.bind (oT N r12.1) fun r13 =>
  aM (cond (!r13.2) (decide (r12.1.gHi < 0)) false) fun x14 =>
  cond x14 (
   some (-2147483648)) (
   cond (!r13.2) (
    some 2147483647) (
    aM (iS r13.1 (-2147483648)) fun x15 =>
    some (jI x15 2147483647))))

theorem uT {N a0 a1 a2 r} (h : oB N a0 a1 a2 = some r) : FnM Tryz.prog 257 [] [(j64 a0), (.im (bD.enc a1)), (.im (eA 6 2 (eA 2 1 j64) a2))] (j64 r) [] := by
 unfold oB at h
 refine At.f dG hT hmo Tryz.func257 rfl h ?_
 refine lx ?_; intro x1
 refine bi fun e2 he2 => ?_
 refine bi fun e3 he3 => ?_
 refine bi fun r4 hr4 => ?_
 refine bi fun e5 he5 => ?_
 refine bi fun e6 he6 => ?_
 refine bi fun r7 hr7 => ?_
 refine bi fun e8 he8 => ?_
 refine bi fun e9 he9 => ?_
 refine bi fun r10 hr10 => ?_
 refine bi fun r11 hr11 => ?_
 refine At.d 10 (dE1 2 (fun _ => cK hT (N := 6) (k := 2) (eA 2 1 j64) a2 he2) (dE1 3 (fun _ => cK hT (N := 2) (k := 1) j64 e2 he3) (dE2 5 (aO.enc r4) (fun _ => aF (jM hr4)) (dE1 9 (fun _ => cK hT (N := 6) (k := 2) (eA 2 1 j64) a2 he5) (dE1 10 (fun _ => cK hT (N := 2) (k := 1) j64 e5 he6) (dE2 12 (aO.enc r7) (fun _ => aF (jM hr7)) (dE1 16 (fun _ => cK hT (N := 6) (k := 2) (eA 2 1 j64) a2 he8) (dE1 17 (fun _ => cK hT (N := 2) (k := 1) j64 e8 he9) (dE2 19 (aO.enc r10) (fun _ => aF (jM hr10)) (dE1 20 (fun _ => cX hT (x := (.sl 2 3 [(aO.enc r4), (aO.enc r7), (aO.enc r10)]))) (dE2 21 (.tup [(aO.enc r11.1), (eB r11.2)]) (fun _ => aF (aAp hr11)) dE0))))))))))) dF0 ?_
 refine At.c 2 ?_ ?_
 ·apply rt; exact At.r 1
 ·refine At.b 3 (fun _ e => aK [] (xK e)) fun r12 => ?_
  refine At.b 9 (fun _ e => aK [] (uD e)) fun r13 => ?_
  refine lx ?_; intro x14
  refine At.c 13 ?_ ?_
  ·apply rt; exact At.r 1
  ·refine At.c 3 ?_ ?_
   ·apply rt; exact At.r 1
   ·refine lx ?_; intro x15
    apply rt; exact At.r 4


def aG0 : Nat → Bool := imL [2, 3]

def zB (N : Nat) (a0 : bD) (a1 : (Vector (Vector Int 2) 3)) : Option (Int × Int) :=
 Option.bind (cond (decide (a0.gA7 < 1)) (
  some true) (
  aM (decide ((iS (iS (iS a0.gB7 a0.gA7) a0.gU) a0.gV) > 1152921504606846976)) fun x2 =>
  cond x2 (
   some true) (
   aM (decide ((jI (jI a0.gB7 a0.gU) a0.gV) < (-1152921504606846976))) fun x3 =>
   some x3))) fun p1 =>
 cond p1 (
  some ((0, 0))) (
  Option.bind (oB N 0 a0 a1) fun r4 =>
  Option.bind (oB N 1 a0 a1) fun r5 =>
  some ((r4, r5)))

theorem aFu {N a0 a1 r} (h : zB N a0 a1 = some r) : FnM Tryz.prog 226 [] [(bD.enc a0), (eA 6 2 (eA 2 1 j64) a1)] (.tup [(j64 r.1), (j64 r.2)]) [] := by
 unfold zB at h
 refine At.f aG0 hT hmo Tryz.func226 rfl h ?_
 refine At.J 4 0 [2, 3] 0 (fun p1 => ([(31, (eB p1))], [], [])) (fun p1 => ?_) fun p1 => ?_
 ·refine At.s 10 4 ?_ ?_
  ·refine At.g [10, 22] 21 ?_
   apply rt; exact At.jn 0
  ·refine At.g [10] 8 ?_
   refine At.o 0 (aLC (k := .i64) (i := a0.gB7) (j := a0.gA7) (l := a0.gU) (m := a0.gV) (by kernel_rfl) (by kernel_rfl)) ?_
   refine lx ?_; intro x2
   refine At.g [10] 3 ?_
   refine At.s 22 0 ?_ ?_
   ·refine At.g [22] 9 ?_
    apply rt; exact At.jn 0
   ·refine At.g [22] 6 ?_
    refine At.o 0 (vN (k := .i64) (i := a0.gB7) (j := a0.gU) (l := a0.gV) (by kernel_rfl) (by kernel_rfl)) ?_
    refine lx ?_; intro x3
    refine At.g [22] 2 ?_
    apply rt; exact At.jn 0
 ·refine At.c 0 ?_ ?_
  ·apply rt; exact At.r 2
  ·refine At.o 0 (oC (x := (.fn (.func 257) [] [(.im (bD.enc a0)), (.im (eA 6 2 (eA 2 1 j64) a1))])) (by kernel_rfl) (by kernel_rfl)) ?_
   refine At.b 2 (fun _ e => aK [] (uT e)) fun r4 => ?_
   refine At.b 1 (fun _ e => aK [] (uT e)) fun r5 => ?_
   apply rt; exact At.r 2

def aHZ : Nat → Bool := imL [3]

def zQ (N : Nat) (a0 : aD) (a1 : Int) (a2 : Int) : Option ((Vector Int 3) × Int) :=
 Option.bind (eM N a0) fun r1 =>
 cond (r1 != 0) (
  some ((#v[0, 0, 0], r1))) (
  Option.bind (kZ N a0 a1 a2) fun r2 =>
  some ((r2, 0)))

theorem aFw {N a0 a1 a2 r} (h : zQ N a0 a1 a2 = some r) : FnM Tryz.prog 259 [] [(aD.enc a0), (j64 a1), (j64 a2)] (.tup [(eA 3 1 j64 r.1), (j64 r.2)]) [] := by
 unfold zQ at h
 refine At.f aHZ hT hmo Tryz.func259 rfl h ?_
 refine At.b 4 (fun _ e => aK [] (pS e)) fun r1 => ?_
 refine At.c 3 ?_ ?_
 ·apply rt; exact At.r 4
 ·refine At.b 3 (fun _ e => aK [] (qK e)) fun r2 => ?_
  apply rt; exact At.r 2

def fY (N : Nat) (a0 : Int) (a1 : Int) (a2 : aD) (a3 : Int) (a4 : Int) : Option ((Vector Int 3)) :=
 aM (I64 ((shr .i64 a3 16) + a0)) fun x1 =>
 aM (I64 ((shr .i64 a4 16) + a1)) fun x2 =>
 Option.bind (zQ N a2 x1 x2) fun r3 =>
 some r3.1

theorem kN {N a0 a1 a2 a3 a4 r} (h : fY N a0 a1 a2 a3 a4 = some r) : FnM Tryz.prog 258 [] [(j64 a0), (j64 a1), (.im (aD.enc a2)), (.im (j64 a3)), (.im (j64 a4))] (eA 3 1 j64 r) [] := by
 unfold fY at h
 refine At.f dG hT hmo Tryz.func258 rfl h ?_
 refine lx ?_; intro x1
 refine lx ?_; intro x2
 refine At.b 10 (fun _ e => aK [] (aFw e)) fun r3 => ?_
 apply rt; exact At.r 8

def aFI : Nat → Bool := imL [3]

def sD (N : Nat) (e20 : (Vector Int 3)) (s19 : Int) (x4 : Int) (x5 : Int) : Nat → (Vector Int 3) → Int → Option ((Vector Int 3))
 | 0, _, _ => none
 | k + 1, s22, s23 =>
  cond (decide (s23 < 3)) (
   Option.bind (fK s23 3) fun _ =>
   Option.bind (s22.toList[s23.toNat]?) fun e25 =>
   Option.bind (fK s23 3) fun _ =>
   Option.bind (e20.toList[s23.toNat]?) fun e27 =>
   Option.bind (fK s19 4) fun _ =>
   Option.bind ((#v[I64 ((I64 (65536 - (iX .i64 x4 65535))) * (I64 (65536 - (iX .i64 x5 65535)))), (I64 ((iX .i64 x4 65535) * (I64 (65536 - (iX .i64 x5 65535))))), (I64 ((I64 (65536 - (iX .i64 x4 65535))) * (iX .i64 x5 65535))), (I64 ((iX .i64 x4 65535) * (iX .i64 x5 65535)))]).toList[s19.toNat]?) fun e29 =>
   aM (I64 (e25 + (I64 (e27 * e29)))) fun x30 =>
   Option.bind (fK s23 3) fun _ =>
   Option.bind (s22.toList[s23.toNat]?) fun e32 =>
   sD N e20 s19 x4 x5 k (s22.setIfInBounds s23.toNat x30) (I64 (s23 + 1))) (
   some s22)

def rV (N : Nat) (r13 : (Vector Int 3)) (r14 : (Vector Int 3)) (r15 : (Vector Int 3)) (r16 : (Vector Int 3)) (x4 : Int) (x5 : Int) : Nat → (Vector Int 3) → Int → Option ((Vector Int 3))
 | 0, _, _ => none
 | k + 1, s18, s19 =>
  cond (decide (s19 < 4)) (
   Option.bind (idx (#v[r13, r14, r15, r16]).toList s19) fun e20 =>
   Option.bind (sD N e20 s19 x4 x5 N s18 0) fun p21 =>
   rV N r13 r14 r15 r16 x4 x5 k p21 (I64 (s19 + 1))) (
   some s18)

def wI (N : Nat) (a0 : aD) (a1 : Int) (a2 : Int) : Option (aB × Int) :=
 Option.bind (eM N a0) fun r1 =>
 cond (r1 != 0) (
  some ((aB.mk 0 0 0, r1))) (
  aM (decide ((jI a1 a2) < 0)) fun x2 =>
  aM (decide ((iS a1 a2) > 65535)) fun x3 =>
  cond (cond x2 true x3) (
   some ((aB.mk 0 0 0, 2))) (
   aM (I64 ((I64 (a1 * a0.gE)) - 32768)) fun x4 =>
   aM (I64 ((I64 (a2 * a0.gE)) - 32768)) fun x5 =>
   aM (I64 (65536 - (iX .i64 x4 65535))) fun x6 =>
   aM (I64 (65536 - (iX .i64 x5 65535))) fun x7 =>
   aM (I64 (65536 - (iX .i64 x5 65535))) fun x8 =>
   aM (I64 ((iX .i64 x4 65535) * x8)) fun x9 =>
   aM (I64 (65536 - (iX .i64 x4 65535))) fun x10 =>
   aM (I64 (x10 * (iX .i64 x5 65535))) fun x11 =>
   aM (I64 ((iX .i64 x4 65535) * (iX .i64 x5 65535))) fun x12 =>
   Option.bind (fY N 0 0 a0 x4 x5) fun r13 =>
   Option.bind (fY N 1 0 a0 x4 x5) fun r14 =>
   Option.bind (fY N 0 1 a0 x4 x5) fun r15 =>
   Option.bind (fY N 1 1 a0 x4 x5) fun r16 =>
   Option.bind (rV N r13 r14 r15 r16 x4 x5 N (#v[0, 0, 0]) 0) fun p17 =>
   Option.bind (fK 0 3) fun _ =>
   Option.bind (p17.toList[(Int.toNat 0)]?) fun e34 =>
   Option.bind (fK 1 3) fun _ =>
   Option.bind (p17.toList[(Int.toNat 1)]?) fun e36 =>
   Option.bind (fK 2 3) fun _ =>
   Option.bind (p17.toList[(Int.toNat 2)]?) fun e38 =>
   some ((aB.mk (I64 (Int.tdiv e34 255)) (I64 (Int.tdiv e36 255)) (I64 (Int.tdiv e38 255)), 0))))

theorem aD1 {N a0 a1 a2 r} (h : wI N a0 a1 a2 = some r) : FnM Tryz.prog 227 [] [(aD.enc a0), (j64 a1), (j64 a2)] (.tup [(aB.enc r.1), (j64 r.2)]) [] := by
 unfold wI at h
 refine At.f aFI hT hmo Tryz.func227 rfl h ?_
 refine At.b 4 (fun _ e => aK [] (pS e)) fun r1 => ?_
 refine At.c 3 ?_ ?_
 ·apply rt; exact At.r 4
 ·refine lx ?_; intro x2
  refine lx ?_; intro x3
  refine At.c 10 ?_ ?_
  ·apply rt; exact At.r 3
  ·refine lx ?_; intro x4
   refine lx ?_; intro x5
   refine At.d2 0 [false, false] dC0 (dS1 10 ⟨(.ref 1 [] 0), 1, .var (j64 0), .dead⟩ [[.var (.st 3 [(j64 0), (j64 0), (j64 0)]), .dead, .dead], [.var (.st 3 [(j64 0), (j64 0), (j64 0)]), .dead, .var (j64 0)]] ⟨aV hT 1 (by kernel_rfl) (by kernel_rfl) (by kernel_rfl), aV hT 1 (by kernel_rfl) (by kernel_rfl) (by kernel_rfl), trivial⟩ (dS1 11 ⟨(.ref 2 [] 0), 2, .var (j64 0), .dead⟩ [[.var (.st 3 [(j64 0), (j64 0), (j64 0)]), .dead, .dead], [.var (.st 3 [(j64 0), (j64 0), (j64 0)]), .var (j64 0), .dead]] ⟨aV hT 2 (by kernel_rfl) (by kernel_rfl) (by kernel_rfl), aV hT 2 (by kernel_rfl) (by kernel_rfl) (by kernel_rfl), trivial⟩ dS0)) ?_
   refine At.d 0 dE0 dF0 ?_
   refine At.gz 0 1 ((j64 x4)) ?_
   refine At.gz 0 2 ((j64 x5)) ?_
   refine At.o 0 (oC (x := (.fn (.func 258) [] [(.im (aD.enc a0)), (.im (j64 x4)), (.im (j64 x5))])) (by kernel_rfl) (by kernel_rfl)) ?_
   refine lx ?_; intro x6
   refine lx ?_; intro x7
   refine lx ?_; intro x8
   refine lx ?_; intro x9
   refine lx ?_; intro x10
   refine lx ?_; intro x11
   refine lx ?_; intro x12
   refine At.b 21 (fun _ e => aK [] (kN e)) fun r13 => ?_
   refine At.b 1 (fun _ e => aK [] (kN e)) fun r14 => ?_
   refine At.b 1 (fun _ e => aK [] (kN e)) fun r15 => ?_
   refine At.b 1 (fun _ e => aK [] (kN e)) fun r16 => ?_
   refine At.L 6 [6, 16] 6 (fun p17 => ([], [(5, .var (eA 3 1 j64 p17))], [])) (fun p17 J k => ∃ s18 s19, rV N r13 r14 r15 r16 x4 x5 k s18 s19 = some p17 ∧ J [6, 14, 16, 78] 6 [(79, (j64 s19))] [(5, .var (eA 3 1 j64 s18))] []) N (fun _ h => ⟨_, _, h, jr⟩) (fun p17 k s hI => ?_) fun p17 => ?_
   ·obtain ⟨s18, s19, h, hj⟩ := hI
    cases k with
    | zero => cases h
    | succ k =>
     refine At.jr hj ?_ h
     refine At.c 1 ?_ ?_
     ·refine At.b 1 (fun _ e => xP hT (eA 3 1 j64) (#v[r13, r14, r15, r16]) e (by kernel_rfl) (by kernel_rfl)) fun e20 => ?_
      refine At.L 4 [6, 14, 16, 78, 79] 7 (fun p21 => ([], [(5, .var (eA 3 1 j64 p21))], [])) (fun p21 J k => ∃ s22 s23, sD N e20 s19 x4 x5 k s22 s23 = some p21 ∧ J [6, 14, 16, 17, 18, 78, 79] 7 [(83, (j64 s23))] [(5, .var (eA 3 1 j64 s22))] []) N (fun _ h => ⟨_, _, h, jr⟩) (fun p21 k s hI => ?_) fun p21 => ?_
      ·obtain ⟨s22, s23, h, hj⟩ := hI
       cases k with
       | zero => cases h
       | succ k =>
        refine At.jr hj ?_ h
        refine At.c 1 ?_ ?_
        ·refine bi fun u24 hu24 => ?_
         refine bi fun e25 he25 => ?_
         refine bi fun u26 hu26 => ?_
         refine bi fun e27 he27 => ?_
         refine bi fun u28 hu28 => ?_
         refine bi fun e29 he29 => ?_
         refine lx ?_; intro x30
         refine bi fun u31 hu31 => ?_
         refine bi fun e32 he32 => ?_
         refine At.d 2 (dE1 1 (fun _ => bL hT (k := 1) 5 [] 0 hu24) (dEL hT 2 (j64 e25) j64 0 he25 (dE1 4 (fun _ => bL hT (k := 1) 6 [] 0 hu26) (dEL hT 5 (j64 e27) j64 0 he27 (dE1 7 (fun _ => bL hT (k := 1) 3 [] 0 hu28) (dEL hT 8 (j64 e29) j64 0 he29 (dE1 11 (fun _ => bL hT (k := 1) 5 [] 0 hu31) dE0))))))) (dF 12 (.v (.bool false)) [(5, .var (eA 3 1 j64 (s22.setIfInBounds s23.toNat x30)))] [] (dA (mF hT j64 0 s22 he32 x30 (by kernel_rfl) (by kernel_rfl) (H' := [.var (.st 3 [(j64 0), (j64 0), (j64 0)]), .dead, .dead, .var (.arr 4 1 [(j64 (I64 ((I64 (65536 - (iX .i64 x4 65535))) * (I64 (65536 - (iX .i64 x5 65535)))))), (j64 ((I64 ((iX .i64 x4 65535) * (I64 (65536 - (iX .i64 x5 65535))))))), (j64 ((I64 ((I64 (65536 - (iX .i64 x4 65535))) * (iX .i64 x5 65535))))), (j64 ((I64 ((iX .i64 x4 65535) * (iX .i64 x5 65535)))))]), .var (.arr 12 3 [(eA 3 1 j64 r13), (eA 3 1 j64 r14), (eA 3 1 j64 r15), (eA 3 1 j64 r16)]), .var (eA 3 1 j64 (s22.setIfInBounds s23.toNat x30)), .var (eA 3 1 j64 e20)]))) dF0) ?_
         exact fun h => At.k 2 ⟨_, _, h, jr⟩
        ·apply rt; exact At.x 0
      ·exact fun h => At.k 2 ⟨_, _, h, jr⟩
     ·apply rt; exact At.x 0
   ·refine At.b 0 (fun _ e => bL hT (k := 1) 5 [] 0 e) fun u33 => ?_
    refine At.b 0 (fun _ e => nE hT j64 0 e) fun e34 => ?_
    refine At.b 1 (fun _ e => bL hT (k := 1) 5 [] 0 e) fun u35 => ?_
    refine At.b 0 (fun _ e => nE hT j64 0 e) fun e36 => ?_
    refine At.b 1 (fun _ e => bL hT (k := 1) 5 [] 0 e) fun u37 => ?_
    refine At.b 0 (fun _ e => nE hT j64 0 e) fun e38 => ?_
    apply rt; exact At.r 4

def aD4 : Nat → Bool := imL [5, 7, 8]

def uS (N : Nat) (a0 : (Vector Int 3)) (a1 : (List aD)) (a2 : (Vector (Vector Int 2) 3)) (a3 : bD) (a4 : Int) : Option (aB) :=
 Option.bind (oK N a0 65535) fun r1 =>
 Option.bind (zR N a1 a4) fun r2 =>
 cond (!r2.2) (
  some r1) (
  Option.bind (zB N a3 a2) fun r3 =>
  aM (jI (iS r3.1 0) 65535) fun x4 =>
  aM (jI (iS r3.2 0) 65535) fun x5 =>
  Option.bind (wI N r2.1 x4 x5) fun r6 =>
  cond (r6.2 != 0) (
   some r1) (
   Option.bind (pF N ([r1, r6.1])) fun r7 =>
   some r7))

theorem aDQ {N a0 a1 a2 a3 a4 r} (h : uS N a0 a1 a2 a3 a4 = some r) : FnM Tryz.prog 164 [] [(eA 3 1 j64 a0), (eL 2 aD.enc a1), (eA 6 2 (eA 2 1 j64) a2), (bD.enc a3), (j64 a4)] (aB.enc r) [] := by
 unfold uS at h
 refine At.f aD4 hT hmo Tryz.func164 rfl h ?_
 refine At.b 5 (fun _ e => aK [] (aAu e)) fun r1 => ?_
 refine At.b 4 (fun _ e => aK [] (aFb e)) fun r2 => ?_
 refine At.c 8 ?_ ?_
 ·apply rt; exact At.r 2
 ·refine At.b 2 (fun _ e => aK [] (aFu e)) fun r3 => ?_
  refine lx ?_; intro x4
  refine lx ?_; intro x5
  refine At.b 12 (fun _ e => aK [] (aD1 e)) fun r6 => ?_
  refine At.c 8 ?_ ?_
  ·apply rt; exact At.r 2
  ·refine At.o 2 (cX hT (x := (.sl 3 2 [(aB.enc r1), (aB.enc r6.1)]))) ?_
   refine At.b 0 (fun _ e => aK [] (sP e)) fun r7 => ?_
   apply rt; exact At.r 1

def pC (N : Nat) (a0 : Int) : Option (aO) :=
 Option.bind (hO N a0 a0) fun r1 =>
 some r1

theorem uL {N a0 r} (h : pC N a0 = some r) : FnM Tryz.prog 228 [] [(j64 a0)] (aO.enc r) [] := by
 unfold pC at h
 refine At.f dG hT hmo Tryz.func228 rfl h ?_
 refine At.b 3 (fun _ e => aK [] (jM e)) fun r1 => ?_
 apply rt; exact At.r 1

def aGy : Nat → Bool := imL [1]

def zE (N : Nat) (a0 : aB) : Option (Int) :=
 Option.bind (pC N a0.gX) fun r1 =>
 Option.bind (pC N a0.gY) fun r2 =>
 Option.bind (pC N a0.gZ) fun r3 =>
 Option.bind (wD N ([r1, r2, r3])) fun r4 =>
 cond (!r4.2) (
  some 9223372036854775807) (
  Option.bind (xM N r4.1) fun r5 =>
  aM (jI r5 9223372036854775807) fun x6 =>
  some (I64 x6))

theorem aFq {N a0 r} (h : zE N a0 = some r) : FnM Tryz.prog 165 [] [(aB.enc a0)] (j64 r) [] := by
 unfold zE at h
 refine At.f aGy hT hmo Tryz.func165 rfl h ?_
 refine bi fun r1 hr1 => ?_
 refine bi fun r2 hr2 => ?_
 refine bi fun r3 hr3 => ?_
 refine bi fun r4 hr4 => ?_
 refine At.d 3 (dE2 3 (aO.enc r1) (fun _ => aF (uL hr1)) (dE2 7 (aO.enc r2) (fun _ => aF (uL hr2)) (dE2 11 (aO.enc r3) (fun _ => aF (uL hr3)) (dE1 12 (fun _ => cX hT (x := (.sl 2 3 [(aO.enc r1), (aO.enc r2), (aO.enc r3)]))) (dE2 13 (.tup [(aO.enc r4.1), (eB r4.2)]) (fun _ => aF (aAp hr4)) dE0))))) dF0 ?_
 refine At.c 2 ?_ ?_
 ·apply rt; exact At.r 1
 ·refine At.b 1 (fun _ e => aK [] (aCQ e)) fun r5 => ?_
  refine lx ?_; intro x6
  apply rt; exact At.r 3

def qC (N : Nat) (b4 : (List (List aD))) (a1 : aS) (a2 : aB) (a3 : aB) (a4 : Int) (a5 : Bool) (a6 : aL) (a7 : aG) (a8 : aI) (a9 : aB) (a10 : aH) (a11 : aC) (a12 : aJ) : Option (aL × Int × Int × bV × Bool) :=
 Option.bind (cond (a4 == 0) (some 9) (some 4)) fun p1 =>
 Option.bind (lV N a1.go a1.gd p1 a1.gE2 a12) fun r2 =>
 Option.bind (cond a8.gB6 (some (I64 (a10.gC4 + 4))) (some a10.gC4)) fun p3 =>
 cond (decide (r2.2.1 < 0)) (
  some ((a6, p3, r2.1, bV.mk 0 (aA.mk 0 0 0) (aB.mk 0 0 0) (aB.mk 0 0 0) (aP.mk 0 (#v[0, 0, 0]) 0) false, false))) (
  Option.bind (idx a7.gM r2.2.1) fun e4 =>
  Option.bind (fK 1 3) fun _ =>
  Option.bind (e4.gP.toList[(Int.toNat 1)]?) fun e6 =>
  Option.bind (fK 0 3) fun _ =>
  Option.bind (e4.gP.toList[(Int.toNat 0)]?) fun e8 =>
  Option.bind (rP N e6 e8) fun r9 =>
  Option.bind (fK 2 3) fun _ =>
  Option.bind (e4.gP.toList[(Int.toNat 2)]?) fun e11 =>
  Option.bind (fK 0 3) fun _ =>
  Option.bind (e4.gP.toList[(Int.toNat 0)]?) fun e13 =>
  Option.bind (rP N e11 e13) fun r14 =>
  Option.bind (tX N r9 r14) fun r15 =>
  Option.bind (kC N r15) fun r16 =>
  Option.bind (Option.bind (aA0 N a1.go a1.gd r2.2.2) fun r18 =>
  Option.bind (tL N r16 a1.gd) fun r19 =>
  Option.bind (idx a7.gQ e4.gB2) fun e20 =>
  cond (a4 == 0) (
   aM ((iX .u8 e4.gC6 8) != 0) fun x21 =>
   some (bV.mk r2.2.1 r18 r19 (aB.mk 0 0 0) e20 x21)) (
   some (bV.mk r2.2.1 r18 r19 (aB.mk 0 0 0) e20 false))) fun p17 =>
  Option.bind (cond (decide (e4.gB5 ≥ 0)) (
   Option.bind (idx b4 e4.gB5) fun e23 =>
   cond (!a8.gB6) (some ((I64 (p3 + 4), e23))) (some ((p3, e23)))) (
   some ((p3, [])))) fun p22 =>
  Option.bind (uS N p17.gC5.gL p22.2 e4.gUv r2.2.2 a4) fun r24 =>
  Option.bind (aM (cond (a4 == 0) (!a5) false) fun x26 =>
  cond x26 (
   Option.bind (qM N p17.gat) fun r27 =>
   Option.bind (qM N a1.go) fun r28 =>
   Option.bind (yI N r27 r28) fun r29 =>
   Option.bind (zE N r29) fun r30 =>
   cond p17.gC2 (
    some (aL.mk (aB.mk 0 0 0) 0 r30 p17.gn e4.gB1)) (
    some (aL.mk (aB.mk 0 0 0) 1 r30 p17.gn e4.gB1))) (
   some a6)) fun p25 =>
  some ((p25, p22.1, r2.1, bV.mk p17.gi p17.gat p17.gn r24 p17.gC5 p17.gC2, true)))

theorem aAt {N b4 a1 a2 a3 a4 a5 a6 a7 a8 a9 a10 a11 a12 r} (h : qC N b4 a1 a2 a3 a4 a5 a6 a7 a8 a9 a10 a11 a12 = some r) : FnM Tryz.prog 85 [.var (.st 26 [(aS.enc a1), (.ref 1 [] 0), (.ref 2 [] 0), (aB.enc a2), (aB.enc a3), (j64 a4), (eB a5), (aL.enc a6)]), .var (.st 38 [(aG.enc a7), (aI.enc a8), (.ifc 91 (.ref 3 [] 0)), (eO 4 1 (eL 2 aD.enc) b4), (aB.enc a9), (aH.enc a10)]), .var (aC.enc a11), .var (aJ.enc a12), .tail (b4.length * 1)] [(.ref 0 [] 0)] (.tup [(bV.enc r.2.2.2.1), (eB r.2.2.2.2)]) [.var (.st 26 [(aS.enc a1), (.ref 1 [] 0), (.ref 2 [] 0), (aB.enc a2), (aB.enc a3), (j64 a4), (eB a5), (aL.enc r.1)]), .var (.st 38 [(aG.enc a7), (aI.enc a8), (.ifc 91 (.ref 3 [] 0)), (eO 4 1 (eL 2 aD.enc) b4), (aB.enc a9), (.st 3 [(j64 a10.gN), (j64 r.2.1), (j64 (I64 (a10.gO + 1)))])]), .var (aC.enc a11), .var (.st 5 [(bK.enc a12.gI), (eB a12.gA), (eL 19 aE.enc a12.gl), (j64 r.2.2.1)]), .tail (b4.length * 1)] := by
 unfold qC at h
 refine At.f dG hT hmo Tryz.func85 rfl h ?_
 refine At.J 3 1 [0, 2] 6 (fun p1 => ([(4, (k8 p1))], [], [])) (fun p1 => ?_) fun p1 => ?_
 ·refine At.c 5 ?_ ?_
  ·apply rt; exact At.jn 1
  ·apply rt; exact At.jn 0
 ·refine bi fun r2 hr2 => ?_
  refine At.d2 0 [false] dC0 (dS1 25 ⟨(.tup [(j64 r2.2.1), (bD.enc r2.2.2)]), 3, .var (.st 5 [(bK.enc a12.gI), (eB a12.gA), (eL 19 aE.enc a12.gl), (j64 r2.1)]), .var (aJ.enc a12)⟩ [[.var (.st 26 [(aS.enc a1), (.ref 1 [] 0), (.ref 2 [] 0), (aB.enc a2), (aB.enc a3), (j64 a4), (eB a5), (aL.enc a6)]), .var (.st 38 [(aG.enc a7), (aI.enc a8), (.ifc 91 (.ref 3 [] 0)), (eO 4 1 (eL 2 aD.enc) b4), (aB.enc a9), (aH.enc a10)]), .var (aC.enc a11), .var (aJ.enc a12), .tail (b4.length * 1), .var cv_2, .dead], [.var (.st 26 [(aS.enc a1), (.ref 1 [] 0), (.ref 2 [] 0), (aB.enc a2), (aB.enc a3), (j64 a4), (eB a5), (aL.enc a6)]), .var (.st 38 [(aG.enc a7), (aI.enc a8), (.ifc 91 (.ref 3 [] 0)), (eO 4 1 (eL 2 aD.enc) b4), (aB.enc a9), (aH.enc a10)]), .var (aC.enc a11), .var (aJ.enc a12), .tail (b4.length * 1), .var cv_2, .var (.st 4 [(j64 0), (j64 0), (j64 0), (j64 0)])]] ⟨dA (aK [3] (pL hr2)), dA (aK [3] (pL hr2)), trivial⟩ (dS1 29 ⟨(.ref 6 [] 0), 6, .var (.st 4 [(j64 0), (j64 0), (j64 0), (j64 0)]), .dead⟩ [[.var (.st 26 [(aS.enc a1), (.ref 1 [] 0), (.ref 2 [] 0), (aB.enc a2), (aB.enc a3), (j64 a4), (eB a5), (aL.enc a6)]), .var (.st 38 [(aG.enc a7), (aI.enc a8), (.ifc 91 (.ref 3 [] 0)), (eO 4 1 (eL 2 aD.enc) b4), (aB.enc a9), (aH.enc a10)]), .var (aC.enc a11), .var (aJ.enc a12), .tail (b4.length * 1), .var cv_2, .dead], [.var (.st 26 [(aS.enc a1), (.ref 1 [] 0), (.ref 2 [] 0), (aB.enc a2), (aB.enc a3), (j64 a4), (eB a5), (aL.enc a6)]), .var (.st 38 [(aG.enc a7), (aI.enc a8), (.ifc 91 (.ref 3 [] 0)), (eO 4 1 (eL 2 aD.enc) b4), (aB.enc a9), (aH.enc a10)]), .var (aC.enc a11), .var (.st 5 [(bK.enc a12.gI), (eB a12.gA), (eL 19 aE.enc a12.gl), (j64 r2.1)]), .tail (b4.length * 1), .var cv_2, .dead]] ⟨aV hT 6 (by kernel_rfl) (by kernel_rfl) (by kernel_rfl), aV hT 6 (by kernel_rfl) (by kernel_rfl) (by kernel_rfl), trivial⟩ dS0)) ?_
  refine At.J 13 1 [0, 2, 5, 6] 7 (fun p3 => ([], [(1, .var (.st 38 [(aG.enc a7), (aI.enc a8), (.ifc 91 (.ref 3 [] 0)), (eO 4 1 (eL 2 aD.enc) b4), (aB.enc a9), (.st 3 [(j64 a10.gN), (j64 p3), (j64 (I64 (a10.gO + 1)))])]))], [])) (fun p3 => ?_) fun p3 => ?_
  ·refine At.c 8 ?_ ?_
   ·apply rt; exact At.jn 13
   ·apply rt; exact At.jn 0
  ·refine At.c 2 ?_ ?_
   ·apply rt; exact At.r 3
   ·refine At.b 9 (fun _ e => cC hT aE.enc e) fun e4 => ?_
    refine bi fun u5 hu5 => ?_
    refine bi fun e6 he6 => ?_
    refine bi fun u7 hu7 => ?_
    refine bi fun e8 he8 => ?_
    refine bi fun r9 hr9 => ?_
    refine bi fun u10 hu10 => ?_
    refine bi fun e11 he11 => ?_
    refine bi fun u12 hu12 => ?_
    refine bi fun e13 he13 => ?_
    refine bi fun r14 hr14 => ?_
    refine bi fun r15 hr15 => ?_
    refine bi fun r16 hr16 => ?_
    refine At.d 3 (dE1 1 (fun _ => bL hT (k := 3) 7 [0] 0 hu5) (dEL hT 2 (aA.enc e6) aA.enc 1 he6 (dE1 4 (fun _ => bL hT (k := 3) 7 [0] 0 hu7) (dEL hT 5 (aA.enc e8) aA.enc 1 he8 (dE2 6 (aA.enc r9) (fun _ => aF (tA hr9)) (dE1 8 (fun _ => bL hT (k := 3) 7 [0] 0 hu10) (dEL hT 9 (aA.enc e11) aA.enc 1 he11 (dE1 11 (fun _ => bL hT (k := 3) 7 [0] 0 hu12) (dEL hT 12 (aA.enc e13) aA.enc 1 he13 (dE2 13 (aA.enc r14) (fun _ => aF (tA hr14)) (dE2 14 (aA.enc r15) (fun _ => aF (aAA hr15)) (dE2 15 (aB.enc r16) (fun _ => aF (lF hr16)) dE0)))))))))))) dF0 ?_
    refine At.J 0 0 [0, 2, 6, 7] 9 (fun p17 => ([], [(5, .var (bV.enc p17))], [])) (fun p17 => ?_) fun p17 => ?_
    ·refine bi fun r18 hr18 => ?_
     refine bi fun r19 hr19 => ?_
     refine bi fun e20 he20 => ?_
     refine boI (fun hc37 => ?_) (fun hc37 => ?_)
     ·refine lx ?_; intro x21
      refine At.d 0 (dE2 12 (aA.enc r18) (fun _ => aF (aCL hr18)) (dE2 19 (aB.enc r19) (fun _ => aF (xA hr19)) (dE1 30 (fun _ => cC hT aP.enc he20) (dE1 37 (fun _ => aR hc37 rfl (aQ hT (im := false) (by kernel_rfl))) dE0)))) dF0 ?_
      apply rt; exact At.jn 0
     ·refine At.d 0 (dE2 12 (aA.enc r18) (fun _ => aF (aCL hr18)) (dE2 19 (aB.enc r19) (fun _ => aF (xA hr19)) (dE1 30 (fun _ => cC hT aP.enc he20) (dE1 37 (fun _ => aR hc37 rfl (aQ hT (im := false) (by kernel_rfl))) dE0)))) dF0 ?_
      apply rt; exact At.jn 0
    ·refine At.J 1 1 [0, 2, 6, 7] 9 (fun p22 => ([(9, (eL 2 aD.enc p22.2))], [(1, .var (.st 38 [(aG.enc a7), (aI.enc a8), (.ifc 91 (.ref 3 [] 0)), (eO 4 1 (eL 2 aD.enc) b4), (aB.enc a9), (.st 3 [(j64 a10.gN), (j64 p22.1), (j64 (I64 (a10.gO + 1)))])]))], [])) (fun p22 => ?_) fun p22 => ?_
     ·refine At.c 3 ?_ ?_
      ·refine bi fun e23 he23 => ?_
       refine At.d 0 (dE1 9 (fun _ => cC hT (eL 2 aD.enc) he23) dE0) dF0 ?_
       refine At.c 9 ?_ ?_
       ·apply rt; exact At.jn 13
       ·apply rt; exact At.jn 0
      ·apply rt; exact At.jn 0
     ·refine bi fun r24 hr24 => ?_
      refine At.d 0 (dE2 11 (aB.enc r24) (fun _ => aF (aDQ hr24)) dE0) dF0 ?_
      refine At.J 0 1 [2] 9 (fun p25 => ([], [(0, .var (.st 26 [(aS.enc a1), (.ref 1 [] 0), (.ref 2 [] 0), (aB.enc a2), (aB.enc a3), (j64 a4), (eB a5), (aL.enc p25)]))], [])) (fun p25 => ?_) fun p25 => ?_
      ·refine lx ?_; intro x26
       refine At.c 12 ?_ ?_
       ·refine bi fun r27 hr27 => ?_
        refine bi fun r28 hr28 => ?_
        refine bi fun r29 hr29 => ?_
        refine bi fun r30 hr30 => ?_
        refine At.d 0 (dE2 3 (aB.enc r27) (fun _ => aF (rQ hr27)) (dE2 9 (aB.enc r28) (fun _ => aF (rQ hr28)) (dE2 10 (aB.enc r29) (fun _ => aF (aBb hr29)) (dE2 11 (j64 r30) (fun _ => aF (aFq hr30)) dE0)))) dF0 ?_
        refine At.c 2 ?_ ?_
        ·apply rt; exact At.jn 5
        ·apply rt; exact At.jn 0
       ·apply rt; exact At.jn 0
      ·apply rt; exact At.r 3

def kS (N : Nat) (b4 : (List (List aD))) (a1 : (List aB)) (a2 : aS) (a3 : aB) (a4 : aB) (a5 : Int) (a6 : Bool) (a7 : aL) (a8 : aG) (a9 : aI) (a10 : aB) (a11 : aH) (a12 : aC) (a13 : aJ) : Option (aB) :=
 cond (!a6) (
  Option.bind (yC 24 (([a3] : List aB)) a1) fun z1 =>
  Option.bind (pF N z1) fun r2 =>
  Option.bind (oL N ([a4, r2])) fun r3 =>
  some r3) (
  some a4)

theorem pJ {N b4 a1 a2 a3 a4 a5 a6 a7 a8 a9 a10 a11 a12 a13 r} (h : kS N b4 a1 a2 a3 a4 a5 a6 a7 a8 a9 a10 a11 a12 a13 = some r) : FnM Tryz.prog 86 [.var (.st 26 [(aS.enc a2), (.ref 1 [] 0), (.ref 2 [] 0), (aB.enc a3), (aB.enc a4), (j64 a5), (eB a6), (aL.enc a7)]), .var (.st 38 [(aG.enc a8), (aI.enc a9), (.ifc 91 (.ref 3 [] 0)), (eO 4 1 (eL 2 aD.enc) b4), (aB.enc a10), (aH.enc a11)]), .var (aC.enc a12), .var (aJ.enc a13), .tail (b4.length * 1)] [(.ref 0 [] 0), (eL 3 aB.enc a1)] (.tup []) [.var (.st 26 [(aS.enc a2), (.ref 1 [] 0), (.ref 2 [] 0), (aB.enc a3), (aB.enc r), (j64 a5), (eB a6), (aL.enc a7)]), .var (.st 38 [(aG.enc a8), (aI.enc a9), (.ifc 91 (.ref 3 [] 0)), (eO 4 1 (eL 2 aD.enc) b4), (aB.enc a10), (aH.enc a11)]), .var (aC.enc a12), .var (aJ.enc a13), .tail (b4.length * 1)] := by
 unfold kS at h
 refine At.f dG hT hmo Tryz.func86 rfl h ?_
 refine At.c 5 ?_ ?_
 ·refine bi fun z1 hz1 => ?_
  refine bi fun r2 hr2 => ?_
  refine bi fun r3 hr3 => ?_
  refine At.d 0 (dE2 12 (aB.enc r2) (fun _ => aF (sP hr2)) (dE1 13 (fun _ => cX hT (x := (.sl 3 2 [(aB.enc a4), (aB.enc r2)]))) (dE2 14 (aB.enc r3) (fun _ => aF (vR hr3)) dE0))) (dF 9 (eO 5 3 aB.enc (([a3] : List aB))) [] [.tail ((([a3] : List aB)).length * 3)] (dA (yR hT aB.enc (k := 3) ([a3] : List aB) (by kernel_rfl) (by kernel_rfl))) (dF 11 (eO 5 3 aB.enc z1) [(5, .tail (z1.length * 3))] [] (dA (qR hT aB.enc (id := 5) (k := 3) hz1)) dF0)) ?_
  apply rt; exact At.z 0
 ·apply rt; exact At.z 0

def fE (N : Nat) (b4 : (List (List aD))) (a1 : Bool) (a2 : aS) (a3 : aB) (a4 : aB) (a5 : Int) (a6 : Bool) (a7 : aL) (a8 : aG) (a9 : aI) (a10 : aB) (a11 : aH) (a12 : aC) (a13 : aJ) : Option (Unit) :=
 some (())

theorem iU {N b4 a1 a2 a3 a4 a5 a6 a7 a8 a9 a10 a11 a12 a13 r} (h : fE N b4 a1 a2 a3 a4 a5 a6 a7 a8 a9 a10 a11 a12 a13 = some r) : FnM Tryz.prog 87 [.var (.st 26 [(aS.enc a2), (.ref 1 [] 0), (.ref 2 [] 0), (aB.enc a3), (aB.enc a4), (j64 a5), (eB a6), (aL.enc a7)]), .var (.st 38 [(aG.enc a8), (aI.enc a9), (.ifc 91 (.ref 3 [] 0)), (eO 4 1 (eL 2 aD.enc) b4), (aB.enc a10), (aH.enc a11)]), .var (aC.enc a12), .var (aJ.enc a13), .tail (b4.length * 1)] [(.ref 0 [] 0), (eB a1)] (.tup []) [.var (.st 26 [(aS.enc a2), (.ref 1 [] 0), (.ref 2 [] 0), (aB.enc a3), (aB.enc a4), (j64 a5), (eB (cond a6 true a1)), (aL.enc a7)]), .var (.st 38 [(aG.enc a8), (aI.enc a9), (.ifc 91 (.ref 3 [] 0)), (eO 4 1 (eL 2 aD.enc) b4), (aB.enc a10), (aH.enc a11)]), .var (aC.enc a12), .var (aJ.enc a13), .tail (b4.length * 1)] := by
 unfold fE at h
 refine At.f dG hT hmo Tryz.func87 rfl h ?_
 apply rt; exact At.z 11

def kU (N : Nat) (a0 : Int) (a1 : Int) (a2 : Int) (a3 : (Vector Int 2)) : Option (Int) :=
 Option.bind (idx a3.toList 0) fun e1 =>
 Option.bind (mX N a1 (I64 e1) 4294967296) fun r2 =>
 Option.bind (idx a3.toList 1) fun e3 =>
 Option.bind (mX N a2 (I64 e3) 4294967296) fun r4 =>
 aM (I64 ((I64 (a0 + r2)) + r4)) fun x5 =>
 some x5

theorem pI {N a0 a1 a2 a3 r} (h : kU N a0 a1 a2 a3 = some r) : FnM Tryz.prog 260 [] [(j64 a0), (j64 a1), (j64 a2), (.im (eA 2 1 k32 a3))] (j64 r) [] := by
 unfold kU at h
 refine At.f dG hT hmo Tryz.func260 rfl h ?_
 refine bi fun e1 he1 => ?_
 refine bi fun r2 hr2 => ?_
 refine bi fun e3 he3 => ?_
 refine bi fun r4 hr4 => ?_
 refine lx ?_; intro x5
 refine At.d 1 (dE1 2 (fun _ => cK hT (N := 2) (k := 1) k32 a3 he1) (dE2 5 (j64 r2) (fun _ => aF (pK hr2)) (dE1 8 (fun _ => cK hT (N := 2) (k := 1) k32 a3 he3) (dE2 11 (j64 r4) (fun _ => aF (pK hr4)) dE0)))) dF0 ?_
 apply rt; exact At.r 0

def aHS : Nat → Bool := imL [2, 3]

def zK (N : Nat) (a0 : aN) (a1 : (Vector Int 2)) : Option (aA) :=
 cond (a0.gF != 1) (
  some a0.gAt) (
  Option.bind (kU N a0.gAt.gX a0.gU.gX a0.gV.gX a1) fun r1 =>
  Option.bind (kU N a0.gAt.gY a0.gU.gY a0.gV.gY a1) fun r2 =>
  Option.bind (kU N a0.gAt.gZ a0.gU.gZ a0.gV.gZ a1) fun r3 =>
  some (aA.mk r1 r2 r3))

theorem aFW {N a0 a1 r} (h : zK N a0 a1 = some r) : FnM Tryz.prog 230 [] [(aN.enc a0), (eA 2 1 k32 a1)] (aA.enc r) [] := by
 unfold zK at h
 refine At.f aHS hT hmo Tryz.func230 rfl h ?_
 refine At.c 6 ?_ ?_
 ·apply rt; exact At.r 3
 ·refine At.o 0 (oC (x := (.fn (.func 260) [] [(.im (eA 2 1 k32 a1))])) (by kernel_rfl) (by kernel_rfl)) ?_
  refine bi fun r1 hr1 => ?_
  refine bi fun r2 hr2 => ?_
  refine bi fun r3 hr3 => ?_
  refine At.d 1 (dE2 10 (j64 r1) (fun _ => aF (pI hr1)) (dE2 21 (j64 r2) (fun _ => aF (pI hr2)) (dE2 32 (j64 r3) (fun _ => aF (pI hr3)) dE0))) dF0 ?_
  apply rt; exact At.r 0

def tS (N : Nat) (a0 : Int) : Option (Int) :=
 aM (shr .u32 (U32 (a0 * 32769)) 16) fun x1 =>
 some x1

theorem aAh {N a0 r} (h : tS N a0 = some r) : FnM Tryz.prog 232 [] [(k32 a0)] (k32 r) [] := by
 unfold tS at h
 refine At.f dG hT hmo Tryz.func232 rfl h ?_
 refine lx ?_; intro x1
 apply rt; exact At.r 5

def qQ (N : Nat) (a0 : Int) : Option (Int) :=
 aM (I64 ((jI (I64 a0) 32768) - 16384)) fun x1 =>
 some x1

theorem yK {N a0 r} (h : qQ N a0 = some r) : FnM Tryz.prog 261 [] [(k32 a0)] (j64 r) [] := by
 unfold qQ at h
 refine At.f dG hT hmo Tryz.func261 rfl h ?_
 refine lx ?_; intro x1
 apply rt; exact At.r 6

def nG (N : Nat) (a0 : Int) : Option (Int) :=
 cond (decide (a0 < 0)) (some (I64 (0 - a0))) (some a0)

theorem qT {N a0 r} (h : nG N a0 = some r) : FnM Tryz.prog 262 [] [(j64 a0)] (j64 r) [] := by
 unfold nG at h
 refine At.f dG hT hmo Tryz.func262 rfl h ?_
 refine At.c 3 ?_ ?_
 ·apply rt; exact At.r 3
 ·apply rt; exact At.r 2

def tU (N : Nat) (a0 : Int) (a1 : Int) : Option (Int) :=
 cond (decide (a1 < 0)) (some (I64 (0 - a0))) (some a0)

theorem aAc {N a0 a1 r} (h : tU N a0 a1 = some r) : FnM Tryz.prog 270 [] [(j64 a0), (j64 a1)] (j64 r) [] := by
 unfold tU at h
 refine At.f dG hT hmo Tryz.func270 rfl h ?_
 refine At.c 3 ?_ ?_
 ·apply rt; exact At.r 3
 ·apply rt; exact At.r 2

def aAW (N : Nat) (a0 : Int) (a1 : Int) : Option (Int × Int) :=
 Option.bind (nG N a1) fun r1 =>
 Option.bind (tU N (I64 (16384 - r1)) a0) fun r2 =>
 Option.bind (nG N a0) fun r3 =>
 Option.bind (tU N (I64 (16384 - r3)) a1) fun r4 =>
 some ((r2, r4))

theorem aGo {N a0 a1 r} (h : aAW N a0 a1 = some r) : FnM Tryz.prog 263 [] [(j64 a0), (j64 a1)] (.tup [(j64 r.1), (j64 r.2)]) [] := by
 unfold aAW at h
 refine At.f dG hT hmo Tryz.func263 rfl h ?_
 refine At.b 5 (fun _ e => aK [] (qT e)) fun r1 => ?_
 refine At.b 2 (fun _ e => aK [] (aAc e)) fun r2 => ?_
 refine At.b 2 (fun _ e => aK [] (qT e)) fun r3 => ?_
 refine At.b 2 (fun _ e => aK [] (aAc e)) fun r4 => ?_
 apply rt; exact At.r 2

def xU (N : Nat) (a0 : Int) : Option (aA) :=
 Option.bind (qQ N (shr .u32 a0 16)) fun r1 =>
 Option.bind (qQ N (iX .u32 a0 65535)) fun r2 =>
 Option.bind (nG N r1) fun r3 =>
 Option.bind (nG N r2) fun r4 =>
 aM (I64 ((I64 (16384 - r3)) - r4)) fun x5 =>
 Option.bind (cond (decide (x5 < 0)) (
  Option.bind (aAW N r1 r2) fun r7 =>
  some ((r7.1, r7.2))) (
  some ((r1, r2)))) fun p6 =>
 some (aA.mk p6.1 p6.2 x5)

theorem aFD {N a0 r} (h : xU N a0 = some r) : FnM Tryz.prog 233 [] [(k32 a0)] (aA.enc r) [] := by
 unfold xU at h
 refine At.f dG hT hmo Tryz.func233 rfl h ?_
 refine At.b 5 (fun _ e => aK [] (yK e)) fun r1 => ?_
 refine At.b 3 (fun _ e => aK [] (yK e)) fun r2 => ?_
 refine At.b 3 (fun _ e => aK [] (qT e)) fun r3 => ?_
 refine At.b 2 (fun _ e => aK [] (qT e)) fun r4 => ?_
 refine lx ?_; intro x5
 refine At.J 2 1 [2, 6] 1 (fun p6 => ([(4, (j64 p6.1)), (5, (j64 p6.2))], [], [])) (fun p6 => ?_) fun p6 => ?_
 ·refine At.c 2 ?_ ?_
  ·refine At.b 2 (fun _ e => aK [] (aGo e)) fun r7 => ?_
   apply rt; exact At.jn 5
  ·apply rt; exact At.jn 0
 ·apply rt; exact At.r 5

def uG (N : Nat) (a0 : Int) : Option (aA) :=
 Option.bind (tS N (shr .u32 a0 16)) fun r1 =>
 Option.bind (tS N (iX .u32 a0 65535)) fun r2 =>
 aM (bor .u32 (shl .u32 r1 16) r2) fun x3 =>
 Option.bind (xU N x3) fun r4 =>
 some r4

theorem aAB {N a0 r} (h : uG N a0 = some r) : FnM Tryz.prog 169 [] [(k32 a0)] (aA.enc r) [] := by
 unfold uG at h
 refine At.f dG hT hmo Tryz.func169 rfl h ?_
 refine At.b 5 (fun _ e => aK [] (aAh e)) fun r1 => ?_
 refine At.b 4 (fun _ e => aK [] (aAh e)) fun r2 => ?_
 refine lx ?_; intro x3
 refine At.b 1 (fun _ e => aK [] (aFD e)) fun r4 => ?_
 apply rt; exact At.r 1

def aC1 : Nat → Bool := imL [3, 4, 5]

def tO (N : Nat) (a0 : wH) (a1 : aA) (a2 : aB) : Option (aA × Int) :=
 Option.bind (kC N a0.gD6) fun r1 =>
 Option.bind (rL N a2 r1) fun r2 =>
 cond (decide (r2 < 0)) (
  Option.bind (vJ N r2) fun r3 =>
  Option.bind (vJ N r2) fun r4 =>
  Option.bind (nW N ([r3, r4])) fun r5 =>
  some ((aA.mk (I64 (0 - a0.gD6.gX)) (I64 (0 - a0.gD6.gY)) (I64 (0 - a0.gD6.gZ)), r5))) (
  Option.bind (nW N ([r2, r2])) fun r6 =>
  some ((a0.gD6, r6)))

theorem aCi {N a0 a1 a2 r} (h : tO N a0 a1 a2 = some r) : FnM Tryz.prog 309 [] [(wH.enc a0), (aA.enc a1), (aB.enc a2)] (.tup [(aA.enc r.1), (j64 r.2)]) [] := by
 unfold tO at h
 refine At.f aC1 hT hmo Tryz.func309 rfl h ?_
 refine bi fun r1 hr1 => ?_
 refine bi fun r2 hr2 => ?_
 refine At.d 5 (dE2 3 (aB.enc r1) (fun _ => aF (lF hr1)) (dE2 4 (j64 r2) (fun _ => aF (tK hr2)) dE0)) dF0 ?_
 refine At.c 2 ?_ ?_
 ·refine bi fun r3 hr3 => ?_
  refine bi fun r4 hr4 => ?_
  refine bi fun r5 hr5 => ?_
  refine At.d 0 (dE2 14 (j64 r3) (fun _ => aF (zC hr3)) (dE2 16 (j64 r4) (fun _ => aF (zC hr4)) (dE1 17 (fun _ => cX hT (x := (.sl 1 2 [(j64 r3), (j64 r4)]))) (dE2 18 (j64 r5) (fun _ => aF (qY hr5)) dE0)))) dF0 ?_
  apply rt; exact At.r 0
 ·refine bi fun r6 hr6 => ?_
  refine At.d 0 (dE1 4 (fun _ => cX hT (x := (.sl 1 2 [(j64 r2), (j64 r2)]))) (dE2 5 (j64 r6) (fun _ => aF (qY hr6)) dE0)) dF0 ?_
  apply rt; exact At.r 0


def aCV : Nat → Bool := imL [3, 4, 5]

def sA (N : Nat) (a0 : tY) (a1 : aA) (a2 : aB) : Option (aA × Int) :=
 Option.bind (rP N a0.gE4 a1) fun r1 =>
 Option.bind (kC N r1) fun r2 =>
 Option.bind (rL N a2 r2) fun r3 =>
 aM (aA.eq r1 (aA.mk 0 0 0)) fun x4 =>
 aM (cond x4 true (decide (r3 ≤ 0))) fun x5 =>
 cond x5 (
  some ((aA.mk 0 0 0, 0))) (
  Option.bind (tJ N r1 r1) fun r6 =>
  Option.bind (mX N r3 1048576 r6) fun r7 =>
  some ((r1, r7)))

theorem aBc {N a0 a1 a2 r} (h : sA N a0 a1 a2 = some r) : FnM Tryz.prog 308 [] [(tY.enc a0), (aA.enc a1), (aB.enc a2)] (.tup [(aA.enc r.1), (j64 r.2)]) [] := by
 unfold sA at h
 refine At.f aCV hT hmo Tryz.func308 rfl h ?_
 refine At.b 8 (fun _ e => aK [] (tA e)) fun r1 => ?_
 refine bi fun r2 hr2 => ?_
 refine bi fun r3 hr3 => ?_
 refine At.d 1 (dE2 2 (aB.enc r2) (fun _ => aF (lF hr2)) (dE2 3 (j64 r3) (fun _ => aF (tK hr3)) dE0)) dF0 ?_
 refine At.o 2 (oQ rX (r1 : aA) (aA.mk 0 0 0 : aA) (by kernel_rfl) (by kernel_rfl) (fun _ => rfl) (fun _ => rfl) (by kernel_rfl) (by kernel_rfl)) ?_
 refine lx ?_; intro x4
 refine lx ?_; intro x5
 refine At.c 4 ?_ ?_
 ·apply rt; exact At.r 3
 ·refine bi fun r6 hr6 => ?_
  refine bi fun r7 hr7 => ?_
  refine At.d 0 (dE2 4 (j64 r6) (fun _ => aF (wO hr6)) (dE2 5 (j64 r7) (fun _ => aF (pK hr7)) dE0)) dF0 ?_
  apply rt; exact At.r 0

def aFn : Nat → Bool := imL [4, 5, 6, 7]

def yB (N : Nat) (a0 : aN) (a1 : aA) (a2 : aB) (a3 : (Vector Int 2)) : Option (lR) :=
 Option.bind (Option.bind (iE N a0) fun r2 =>
 cond (r2 != 0) (
  some true) (
  Option.bind (nN N a1 (aA.mk 1 0 0)) fun r3 =>
  some (!r3))) fun p1 =>
 cond p1 (
  some (lR.mk (aA.mk 0 0 0) false true (aB.mk 0 0 0))) (
  Option.bind (zK N a0 a3) fun r4 =>
  cond (a0.gF == 2) (
   Option.bind (idx a3.toList 0) fun e5 =>
   Option.bind (uG N e5) fun r6 =>
   Option.bind (tO N (wH.mk r6) a1 a2) fun r7 =>
   cond (r7.2 == 0) (
    some (lR.mk (aA.mk 0 0 0) false true (aB.mk 0 0 0))) (
    Option.bind (mZ N a0) fun r8 =>
    Option.bind (iW N r8 r7.2) fun r9 =>
    some (lR.mk r7.1 true false r9))) (
   Option.bind (sA N (tY.mk r4) a1 a2) fun r10 =>
   cond (aA.eq r10.1 (aA.mk 0 0 0)) (
    some (lR.mk (aA.mk 0 0 0) false true (aB.mk 0 0 0))) (
    Option.bind (mZ N a0) fun r11 =>
    Option.bind (iW N r11 r10.2) fun r12 =>
    some (lR.mk r10.1 false false r12))))

theorem aEt {N a0 a1 a2 a3 r} (h : yB N a0 a1 a2 a3 = some r) : FnM Tryz.prog 166 [] [(aN.enc a0), (aA.enc a1), (aB.enc a2), (eA 2 1 k32 a3)] (lR.enc r) [] := by
 unfold yB at h
 refine At.f aFn hT hmo Tryz.func166 rfl h ?_
 refine At.J 8 0 [4, 5, 6, 7, 8, 9] 2 (fun p1 => ([(24, (eB p1))], [], [])) (fun p1 => ?_) fun p1 => ?_
 ·refine At.b 1 (fun _ e => aK [] (aAn e)) fun r2 => ?_
  refine At.s 19 2 ?_ ?_
  ·refine At.g [19] 5 ?_
   apply rt; exact At.jn 0
  ·refine At.g [19] 2 ?_
   refine At.b 0 (fun _ e => aK [] (vZ e)) fun r3 => ?_
   refine At.g [19] 2 ?_
   apply rt; exact At.jn 0
 ·refine At.c 0 ?_ ?_
  ·apply rt; exact At.r 2
  ·refine At.b 2 (fun _ e => aK [] (aFW e)) fun r4 => ?_
   refine At.o 1 (aA5 hT (t := 309) (x := (.st 3 [(aA.enc r4)])) (by kernel_rfl) (by kernel_rfl)) ?_
   refine At.c 4 ?_ ?_
   ·refine At.b 0 (fun _ e => cK hT (N := 2) (k := 1) k32 a3 e) fun e5 => ?_
    refine At.b 1 (fun _ e => aK [] (aAB e)) fun r6 => ?_
    refine At.o 1 (aA5 hT (t := 313) (x := (.st 3 [(aA.enc r6)])) (by kernel_rfl) (by kernel_rfl)) ?_
    refine At.b 4 (fun _ e => aK [] (aCi e)) fun r7 => ?_
    refine At.o 7 (aJf hT (t := 313) (u := 313) (x := (.st 3 [(aA.enc r6)])) (y := (.tup [(.st 3 [(aA.enc r6)]), (eB true)])) (by kernel_rfl) (by kernel_rfl)) ?_
    refine At.c 10 ?_ ?_
    ·apply rt; exact At.r 2
    ·refine bi fun r8 hr8 => ?_
     refine bi fun r9 hr9 => ?_
     refine At.d 0 (dE2 2 (aB.enc r8) (fun _ => aF (wJ hr8)) (dE2 4 (aB.enc r9) (fun _ => aF (jL hr9)) dE0)) dF0 ?_
     apply rt; exact At.r 0
   ·refine At.b 3 (fun _ e => aK [] (aBc e)) fun r10 => ?_
    refine At.o 7 (aJf hT (t := 309) (u := 313) (x := (.st 3 [(aA.enc r4)])) (y := (.tup [(.st 3 [(.st 3 [(j64 0), (j64 0), (j64 0)])]), (eB false)])) (by kernel_rfl) (by kernel_rfl)) ?_
    refine At.o 10 (oQ rX (r10.1 : aA) (aA.mk 0 0 0 : aA) (by kernel_rfl) (by kernel_rfl) (fun _ => rfl) (fun _ => rfl) (by kernel_rfl) (by kernel_rfl)) ?_
    refine At.c 0 ?_ ?_
    ·apply rt; exact At.r 2
    ·refine bi fun r11 hr11 => ?_
     refine bi fun r12 hr12 => ?_
     refine At.d 0 (dE2 2 (aB.enc r11) (fun _ => aF (wJ hr11)) (dE2 4 (aB.enc r12) (fun _ => aF (jL hr12)) dE0)) dF0 ?_
     apply rt; exact At.r 0

def zH : Nat → Bool := imL [7, 8]

def lU (N : Nat) (s17 : (List Int)) (a0 : aA) (a1 : aA) (a2 : Int) (a3 : Int) (a5 : aJ) (a4 : Bool) : Nat → Int → Int → Option (Sum (Int) (Int × Bool))
 | 0, _, _ => none
 | k + 1, s19, s20 =>
  aM (decide (s20 < ((s17.length : Int)))) fun x21 =>
  cond x21 (
   Option.bind (idx s17 s20) fun e22 =>
   Option.bind (kB N a0 a1 a2 a3 e22 (aJ.mk a5.gI a5.gA a5.gl (I64 (s19 + 1)))) fun r23 =>
   Option.bind (cond r23.2 (
    aM (decide (r23.1.gB7 < r23.1.gA7)) fun x25 =>
    some (cond (!a4) true x25)) (
    some false)) fun p24 =>
   cond p24 (
    some (Sum.inr ((I64 (s19 + 1), true)))) (
    lU N s17 a0 a1 a2 a3 a5 a4 k (I64 (s19 + 1)) (I64 (s20 + 1)))) (
   some (Sum.inl s19))

def hK (N : Nat) (a5 : aJ) (a0 : aA) (a1 : aA) (a2 : Int) (a3 : Int) (a4 : Bool) : Nat → (List Int) → Int → Nat → Option (Sum ((List Int) × Int) (Int × Bool))
 | 0, _, _, _ => none
 | k + 1, s6, s7, s8 =>
  aM (decide (((s8 : Int)) > 0)) fun x9 =>
  cond x9 (
   Option.bind (uI s6.length 0 s8 (I64 (((s8 : Int)) - 1))) fun _ =>
   Option.bind (s6[((I64 (((s8 : Int)) - 1)).toNat)]?) fun e11 =>
   Option.bind (idx a5.gI.gB9 e11) fun e12 =>
   Option.bind (aGU s6.length 0 s8 0 (I64 (((s8 : Int)) - 1))) fun _ =>
   Option.bind (xI N e12.gLo e12.gHi a0 a1) fun r14 =>
   cond (!r14.2) (
    hK N a5 a0 a1 a2 a3 a4 k s6 (I64 (s7 + 1)) ((I64 (((s8 : Int)) - 1)).toNat)) (
    cond (decide (e12.gB4 ≥ 0)) (
     Option.bind (aID 8 s6 ((I64 (((s8 : Int)) - 1)).toNat) (([e12.gA6, e12.gB4] : List Int))) fun z15 =>
     hK N a5 a0 a1 a2 a3 a4 k z15 (I64 (s7 + 1)) ((I64 (((s8 : Int)) - 1)).toNat + 2)) (
     aM (I64 (e12.gC1 + e12.gC8)) fun x16 =>
     Option.bind (uF a5.gI.gD9 e12.gC1 x16) fun s17 =>
     Option.bind (lU N s17 a0 a1 a2 a3 a5 a4 N (I64 (s7 + 1)) 0) fun o => fW o (fun p18 =>
      hK N a5 a0 a1 a2 a3 a4 k s6 p18 ((I64 (((s8 : Int)) - 1)).toNat)) (fun r => some (Sum.inr r))))) (
   some (Sum.inl ((s6, s7))))

def lB (N : Nat) (a0 : aA) (a1 : aA) (a2 : Int) (a3 : Int) (a4 : Bool) (a5 : aJ) : Option (Int × Bool) :=
 Option.bind (Option.bind (oE N a5) fun r2 =>
 aM ((a5.gI.gB9.length : Int)) fun x3 =>
 cond (cond r2 true (x3 == 0)) (
  some true) (
  Option.bind (nN N a0 a1) fun r4 =>
  some (!r4))) fun p1 =>
 cond p1 (
  some ((a5.gC9, false))) (
  Option.bind (hK N a5 a0 a1 a2 a3 a4 N (([0] : List Int)) a5.gC9 ((([0] : List Int)).length)) fun o => fW o (fun p5 =>
   some ((p5.2, false))) (fun r => some r))

theorem kO {N a0 a1 a2 a3 a4 a5 r} (h : lB N a0 a1 a2 a3 a4 a5 = some r) : FnM Tryz.prog 301 [.var (aJ.enc a5)] [(.ref 0 [] 0), (aA.enc a0), (aA.enc a1), (k8 a2), (j64 a3), (eB a4)] (eB r.2) [.var (.st 5 [(bK.enc a5.gI), (eB a5.gA), (eL 19 aE.enc a5.gl), (j64 r.1)])] := by
 unfold lB at h
 refine At.f zH hT hmo Tryz.func301 rfl h ?_
 refine At.J 3 0 [0, 3, 4, 5, 7, 8] 1 (fun p1 => ([(37, (eB p1))], [], [])) (fun p1 => ?_) fun p1 => ?_
 ·refine At.b 1 (fun _ e => aK [0] (uU e)) fun r2 => ?_
  refine lx ?_; intro x3
  refine At.s 32 10 ?_ ?_
  ·refine At.g [32] 5 ?_
   apply rt; exact At.jn 0
  ·refine At.g [32] 2 ?_
   refine At.b 0 (fun _ e => aK [] (vZ e)) fun r4 => ?_
   refine At.g [32] 2 ?_
   apply rt; exact At.jn 0
 ·refine At.c 0 ?_ ?_
  ·apply rt; exact At.r 1
  ·refine At.o 0 (aCm hT j64 (k := 1) ([0] : List Int) (by kernel_rfl) (by kernel_rfl)) ?_
   refine At.gsub 1 13 ?_
   refine At.LS 0 [] 2 (fun p5 => ([], [(0, .var (.st 5 [(bK.enc a5.gI), (eB a5.gA), (eL 19 aE.enc a5.gl), (j64 p5.2)])), (1, .gro 1 (List.map j64 p5.1))], [])) (fun op5 J k => ∃ s6 s7 s8, hK N a5 a0 a1 a2 a3 a4 k s6 s7 s8 = some op5 ∧ J [0, 3, 4, 5, 7, 8] 2 [(13, (.gro 1 1 s6.length (.sub 0 s8)))] [(0, .var (.st 5 [(bK.enc a5.gI), (eB a5.gA), (eL 19 aE.enc a5.gl), (j64 s7)])), (1, .gro 1 (List.map j64 s6))] []) N (fun _ h => ⟨_, _, _, h, jr⟩) (fun op5 g5 k s hI => ?_) fun p5 => ?_
   ·obtain ⟨s6, s7, s8, h, hj⟩ := hI
    cases k with
    | zero => cases h
    | succ k =>
     refine At.jr hj ?_ h
     refine lx ?_; intro x9
     refine At.c 3 ?_ ?_
     ·refine bi fun u10 hu10 => ?_
      refine bi fun e11 he11 => ?_
      refine bi fun e12 he12 => ?_
      refine At.d 0 (dE1 9 (fun _ => jC hT (id := 1) (k := 1) hu10 (by kernel_rfl) (by kernel_rfl)) (dET 10 (j64 e11) [[.var (.st 5 [(bK.enc a5.gI), (eB a5.gA), (eL 19 aE.enc a5.gl), (j64 s7)]), .gro 1 (List.map j64 s6)], [.var (.st 5 [(bK.enc a5.gI), (eB a5.gA), (eL 19 aE.enc a5.gl), (j64 s7)]), .gro 1 (List.map j64 s6), .var cv_5]] ⟨dA (mP hT j64 [] he11 rfl (by kernel_rfl) (by kernel_rfl)), dA (mP hT j64 [] he11 rfl (by kernel_rfl) (by kernel_rfl)), trivial⟩ (dE1 11 (fun _ => cC hT bH.enc he12) dE0))) dF0 ?_
      refine At.b 4 (fun _ e => aEL hT (id := 1) (k := 1) (L := s6.length) (lo0 := 0) (m := s8) e (by kernel_rfl) (by kernel_rfl)) fun s13 => ?_
      refine At.b 15 (fun _ e => aK [] (aCN e)) fun r14 => ?_
      refine At.c 8 ?_ ?_
      ·exact fun h => At.k 0 ⟨_, _, _, h, jr⟩
      ·refine At.c 3 ?_ ?_
       ·refine At.o 5 (cX hT (x := (.sl 1 2 [(j64 e12.gA6), (j64 e12.gB4)]))) ?_
        refine At.b 0 (fun z15 e => aC7 hT j64 (id := 1) (k := 1) e (by kernel_rfl) (by kernel_rfl) (H' := [.var (.st 5 [(bK.enc a5.gI), (eB a5.gA), (eL 19 aE.enc a5.gl), (j64 (I64 (s7 + 1)))]), .gro 1 (List.map j64 z15), .var (bH.enc e12), .var (bF.enc r14.1)]) (by kernel_rfl)) fun z15 => ?_
        exact fun h => At.k 1 ⟨_, _, _, h, jr⟩
       ·refine lx ?_; intro x16
        refine bi fun s17 hs17 => ?_
        refine At.d 0 (dE1 12 (fun _ => xL hT (k := 1) j64 hs17) dE0) dF0 ?_
        refine At.LS 0 [0, 3, 4, 5, 7, 8, 13] 4 (fun p18 => ([], [(0, .var (.st 5 [(bK.enc a5.gI), (eB a5.gA), (eL 19 aE.enc a5.gl), (j64 p18)]))], [])) (fun op18 J k => ∃ s19 s20, lU N s17 a0 a1 a2 a3 a5 a4 k s19 s20 = some op18 ∧ J [0, 3, 4, 5, 7, 8, 13, 101, 102] 4 [(103, (j64 s20))] [(0, .var (.st 5 [(bK.enc a5.gI), (eB a5.gA), (eL 19 aE.enc a5.gl), (j64 s19)]))] []) N (fun _ h => ⟨_, _, h, jr⟩) (fun op18 g18 k s hI => ?_) fun p18 => ?_
        ·obtain ⟨s19, s20, h, hj⟩ := hI
         cases k with
         | zero => cases h
         | succ k =>
          refine At.jr hj ?_ h
          refine lx ?_; intro x21
          refine At.c 1 ?_ ?_
          ·refine At.b 0 (fun _ e => cC hT j64 e) fun e22 => ?_
           refine At.b 16 (fun _ e => aK [0] (pZ e)) fun r23 => ?_
           refine At.J 6 0 [0, 3, 4, 5, 7, 8, 13, 101, 102, 103] 5 (fun p24 => ([(135, (eB p24))], [], [])) (fun p24 => ?_) fun p24 => ?_
           ·refine At.s 125 2 ?_ ?_
            ·refine lx ?_; intro x25
             refine At.g [125] 10 ?_
             apply rt; exact At.jn 0
            ·refine At.g [125, 128] 10 ?_
             apply rt; exact At.jn 0
           ·refine At.c 0 ?_ ?_
            ·intro e; apply aLM g18 g5 e; exact At.r 1
            ·exact fun h => At.k 2 ⟨_, _, h, jr⟩
          ·apply rt; exact At.xs 0
        ·exact fun h => At.k 0 ⟨_, _, _, h, jr⟩
     ·apply rt; exact At.xs 0
   ·apply rt; exact At.r 1

def aAO : Nat → Bool := imL [3]

def mW (N : Nat) (x1 : Int) (a8 : aG) (b4 : (List (List aD))) (a2 : aS) (a3 : aB) (a5 : Int) (a6 : Bool) (a7 : aL) (a9 : aI) (a10 : aB) (a11 : aH) (a1 : bV) : Nat → aB → aC → aJ → Int → Option (aB × aC × aJ)
 | 0, _, _, _, _ => none
 | k + 1, s3, s4, s5, s6 =>
  cond (decide (s6 < x1)) (
   Option.bind (Option.bind (idx a8.gR s6) fun e8 =>
   aM (I64 (8 + (I64 (2 * s6)))) fun x9 =>
   Option.bind (eR N b4 x9 a2 a3 s3 a5 a6 a7 a8 a9 a10 a11 s4 s5) fun r10 =>
   aM (I64 (9 + (I64 (2 * s6)))) fun x11 =>
   Option.bind (eR N b4 x11 a2 a3 s3 a5 a6 a7 a8 a9 a10 a11 (aC.mk r10.1 s4.gA s4.gC s4.gB s4.gD) s5) fun r12 =>
   Option.bind (yB N e8 a1.gat a1.gn (#v[r10.2, r12.2])) fun r13 =>
   aM (cond r13.gE1 (!a9.gB6) false) fun x14 =>
   cond x14 (
    some ((s3, aC.mk r12.1 ((aC.mk r10.1 s4.gA s4.gC s4.gB s4.gD).gA) ((aC.mk r10.1 s4.gA s4.gC s4.gB s4.gD).gC) ((aC.mk r10.1 s4.gA s4.gC s4.gB s4.gD).gB) ((aC.mk r10.1 s4.gA s4.gC s4.gB s4.gD).gD), s5.gC9, e8, r13))) (
    Option.bind (Option.bind (lB N a1.gat r13.gE5 2 a1.gi (!r13.gE6) s5) fun r16 =>
    cond (!r16.2) (
     cond (!r13.gE1) (
      some ((r16.1, a1.gC5.gF == 0))) (
      some ((r16.1, false)))) (
     some ((r16.1, false)))) fun p15 =>
    cond p15.2 (
     Option.bind (kS N b4 ([a1.gc, r13.gD7]) a2 a3 s3 a5 a6 a7 a8 a9 a10 a11 (aC.mk r12.1 ((aC.mk r10.1 s4.gA s4.gC s4.gB s4.gD).gA) ((aC.mk r10.1 s4.gA s4.gC s4.gB s4.gD).gC) ((aC.mk r10.1 s4.gA s4.gC s4.gB s4.gD).gB) ((aC.mk r10.1 s4.gA s4.gC s4.gB s4.gD).gD)) (aJ.mk s5.gI s5.gA s5.gl p15.1)) fun r17 =>
     some ((r17, aC.mk r12.1 ((aC.mk r10.1 s4.gA s4.gC s4.gB s4.gD).gA) ((aC.mk r10.1 s4.gA s4.gC s4.gB s4.gD).gC) ((aC.mk r10.1 s4.gA s4.gC s4.gB s4.gD).gB) ((aC.mk r10.1 s4.gA s4.gC s4.gB s4.gD).gD), p15.1, e8, r13))) (
     some ((s3, aC.mk r12.1 ((aC.mk r10.1 s4.gA s4.gC s4.gB s4.gD).gA) ((aC.mk r10.1 s4.gA s4.gC s4.gB s4.gD).gC) ((aC.mk r10.1 s4.gA s4.gC s4.gB s4.gD).gB) ((aC.mk r10.1 s4.gA s4.gC s4.gB s4.gD).gD), p15.1, e8, r13))))) fun p7 =>
   mW N x1 a8 b4 a2 a3 a5 a6 a7 a9 a10 a11 a1 k p7.1 p7.2.1 (aJ.mk s5.gI s5.gA s5.gl p7.2.2.1) (I64 (s6 + 1))) (
   some ((s3, s4, s5)))

def mU (N : Nat) (r18 : Int × Int) (x19 : Int) (a1 : bV) : Nat → aJ → Int → Option (aJ)
 | 0, _, _ => none
 | k + 1, s21, s22 =>
  aM (decide (s22 < (I64 (r18.2 - x19)))) fun x23 =>
  cond x23 (
   Option.bind (lB N a1.gat (aA.mk 0 0 0) 2 a1.gi false s21) fun r24 =>
   mU N r18 x19 a1 k (aJ.mk s21.gI s21.gA s21.gl r24.1) (I64 (s22 + 1))) (
   some s21)

def oN (N : Nat) (b4 : (List (List aD))) (a1 : bV) (a2 : aS) (a3 : aB) (a4 : aB) (a5 : Int) (a6 : Bool) (a7 : aL) (a8 : aG) (a9 : aI) (a10 : aB) (a11 : aH) (a12 : aC) (a13 : aJ) : Option (aB × aC × aJ) :=
 aM ((a8.gR.length : Int)) fun x1 =>
 Option.bind (mW N x1 a8 b4 a2 a3 a5 a6 a7 a9 a10 a11 a1 N a4 a12 a13 0) fun p2 =>
 cond (!a9.gB6) (
  some ((p2.1, p2.2.1, p2.2.2))) (
  Option.bind (iI N a9.gS) fun r18 =>
  aM ((a8.gR.length : Int)) fun x19 =>
  Option.bind (mU N r18 x19 a1 N p2.2.2 0) fun p20 =>
  some ((p2.1, p2.2.1, p20)))

theorem aAD {N b4 a1 a2 a3 a4 a5 a6 a7 a8 a9 a10 a11 a12 a13 r} (h : oN N b4 a1 a2 a3 a4 a5 a6 a7 a8 a9 a10 a11 a12 a13 = some r) : FnM Tryz.prog 88 [.var (.st 26 [(aS.enc a2), (.ref 1 [] 0), (.ref 2 [] 0), (aB.enc a3), (aB.enc a4), (j64 a5), (eB a6), (aL.enc a7)]), .var (.st 38 [(aG.enc a8), (aI.enc a9), (.ifc 91 (.ref 3 [] 0)), (eO 4 1 (eL 2 aD.enc) b4), (aB.enc a10), (aH.enc a11)]), .var (aC.enc a12), .var (aJ.enc a13), .tail (b4.length * 1)] [(.ref 0 [] 0), (bV.enc a1)] (.tup []) [.var (.st 26 [(aS.enc a2), (.ref 1 [] 0), (.ref 2 [] 0), (aB.enc a3), (aB.enc r.1), (j64 a5), (eB a6), (aL.enc a7)]), .var (.st 38 [(aG.enc a8), (aI.enc a9), (.ifc 91 (.ref 3 [] 0)), (eO 4 1 (eL 2 aD.enc) b4), (aB.enc a10), (aH.enc a11)]), .var (aC.enc r.2.1), .var (aJ.enc r.2.2), .tail (b4.length * 1)] := by
 unfold oN at h
 refine At.f aAO hT hmo Tryz.func88 rfl h ?_
 refine lx ?_; intro x1
 refine At.L 11 [0, 3] 5 (fun p2 => ([], [(0, .var (.st 26 [(aS.enc a2), (.ref 1 [] 0), (.ref 2 [] 0), (aB.enc a3), (aB.enc p2.1), (j64 a5), (eB a6), (aL.enc a7)])), (2, .var (aC.enc p2.2.1)), (3, .var (aJ.enc p2.2.2))], [])) (fun p2 J k => ∃ s3 s4 s5 s6, mW N x1 a8 b4 a2 a3 a5 a6 a7 a9 a10 a11 a1 k s3 s4 s5 s6 = some p2 ∧ J [0, 3, 16, 17] 5 [(18, (j64 s6))] [(0, .var (.st 26 [(aS.enc a2), (.ref 1 [] 0), (.ref 2 [] 0), (aB.enc a3), (aB.enc s3), (j64 a5), (eB a6), (aL.enc a7)])), (2, .var (aC.enc s4)), (3, .var (aJ.enc s5))] []) N (fun _ h => ⟨_, _, _, _, h, jr⟩) (fun p2 k s hI => ?_) fun p2 => ?_
 ·obtain ⟨s3, s4, s5, s6, h, hj⟩ := hI
  cases k with
  | zero => cases h
  | succ k =>
   refine At.jr hj ?_ h
   refine At.c 1 ?_ ?_
   ·refine At.J 0 2 [0, 3, 16, 17, 18] 5 (fun p7 => ([], [(0, .var (.st 26 [(aS.enc a2), (.ref 1 [] 0), (.ref 2 [] 0), (aB.enc a3), (aB.enc p7.1), (j64 a5), (eB a6), (aL.enc a7)])), (2, .var (aC.enc p7.2.1)), (3, .var (.st 5 [(bK.enc s5.gI), (eB s5.gA), (eL 19 aE.enc s5.gl), (j64 p7.2.2.1)]))], [.var (aN.enc p7.2.2.2.1), .var (lR.enc p7.2.2.2.2)])) (fun p7 => ?_) fun p7 => ?_
    ·refine At.b 1 (fun _ e => cC hT aN.enc e) fun e8 => ?_
     refine lx ?_; intro x9
     refine bi fun r10 hr10 => ?_
     refine lx ?_; intro x11
     refine bi fun r12 hr12 => ?_
     refine bi fun r13 hr13 => ?_
     refine At.d2 4 [false] (dC2 16 (lR.enc r13) (fun _ => aF (aEt hr13)) dC0) (dS1 9 ⟨(k32 r10.2), 2, .var (.st 72 [(bB.enc r10.1), (eB s4.gA), (k64 s4.gC), (j64 s4.gB), (j64 s4.gD)]), .var (aC.enc s4)⟩ [[.var (.st 26 [(aS.enc a2), (.ref 1 [] 0), (.ref 2 [] 0), (aB.enc a3), (aB.enc s3), (j64 a5), (eB a6), (aL.enc a7)]), .var (.st 38 [(aG.enc a8), (aI.enc a9), (.ifc 91 (.ref 3 [] 0)), (eO 4 1 (eL 2 aD.enc) b4), (aB.enc a10), (aH.enc a11)]), .var (aC.enc s4), .var (aJ.enc s5), .tail (b4.length * 1), .var (aN.enc e8), .dead], [.var (.st 26 [(aS.enc a2), (.ref 1 [] 0), (.ref 2 [] 0), (aB.enc a3), (aB.enc s3), (j64 a5), (eB a6), (aL.enc a7)]), .var (.st 38 [(aG.enc a8), (aI.enc a9), (.ifc 91 (.ref 3 [] 0)), (eO 4 1 (eL 2 aD.enc) b4), (aB.enc a10), (aH.enc a11)]), .var (aC.enc s4), .var (aJ.enc s5), .tail (b4.length * 1), .var (aN.enc e8), .var cv_3]] ⟨dA (aK [0, 1, 2, 3, 4] (cT hr10)), dA (aK [0, 1, 2, 3, 4] (cT hr10)), trivial⟩ (dS1 14 ⟨(k32 r12.2), 2, .var (.st 72 [(bB.enc r12.1), (eB ((aC.mk r10.1 s4.gA s4.gC s4.gB s4.gD).gA)), (k64 ((aC.mk r10.1 s4.gA s4.gC s4.gB s4.gD).gC)), (j64 ((aC.mk r10.1 s4.gA s4.gC s4.gB s4.gD).gB)), (j64 ((aC.mk r10.1 s4.gA s4.gC s4.gB s4.gD).gD))]), .var (.st 72 [(bB.enc r10.1), (eB s4.gA), (k64 s4.gC), (j64 s4.gB), (j64 s4.gD)])⟩ [[.var (.st 26 [(aS.enc a2), (.ref 1 [] 0), (.ref 2 [] 0), (aB.enc a3), (aB.enc s3), (j64 a5), (eB a6), (aL.enc a7)]), .var (.st 38 [(aG.enc a8), (aI.enc a9), (.ifc 91 (.ref 3 [] 0)), (eO 4 1 (eL 2 aD.enc) b4), (aB.enc a10), (aH.enc a11)]), .var (.st 72 [(bB.enc r10.1), (eB s4.gA), (k64 s4.gC), (j64 s4.gB), (j64 s4.gD)]), .var (aJ.enc s5), .tail (b4.length * 1), .var (aN.enc e8), .dead], [.var (.st 26 [(aS.enc a2), (.ref 1 [] 0), (.ref 2 [] 0), (aB.enc a3), (aB.enc s3), (j64 a5), (eB a6), (aL.enc a7)]), .var (.st 38 [(aG.enc a8), (aI.enc a9), (.ifc 91 (.ref 3 [] 0)), (eO 4 1 (eL 2 aD.enc) b4), (aB.enc a10), (aH.enc a11)]), .var (.st 72 [(bB.enc r10.1), (eB s4.gA), (k64 s4.gC), (j64 s4.gB), (j64 s4.gD)]), .var (aJ.enc s5), .tail (b4.length * 1), .var (aN.enc e8), .var cv_3]] ⟨dA (aK [0, 1, 2, 3, 4] (cT hr12)), dA (aK [0, 1, 2, 3, 4] (cT hr12)), trivial⟩ (dS1 17 ⟨(.ref 6 [] 0), 6, .var cv_3, .dead⟩ [[.var (.st 26 [(aS.enc a2), (.ref 1 [] 0), (.ref 2 [] 0), (aB.enc a3), (aB.enc s3), (j64 a5), (eB a6), (aL.enc a7)]), .var (.st 38 [(aG.enc a8), (aI.enc a9), (.ifc 91 (.ref 3 [] 0)), (eO 4 1 (eL 2 aD.enc) b4), (aB.enc a10), (aH.enc a11)]), .var (aC.enc s4), .var (aJ.enc s5), .tail (b4.length * 1), .var (aN.enc e8), .dead], [.var (.st 26 [(aS.enc a2), (.ref 1 [] 0), (.ref 2 [] 0), (aB.enc a3), (aB.enc s3), (j64 a5), (eB a6), (aL.enc a7)]), .var (.st 38 [(aG.enc a8), (aI.enc a9), (.ifc 91 (.ref 3 [] 0)), (eO 4 1 (eL 2 aD.enc) b4), (aB.enc a10), (aH.enc a11)]), .var (.st 72 [(bB.enc r12.1), (eB ((aC.mk r10.1 s4.gA s4.gC s4.gB s4.gD).gA)), (k64 ((aC.mk r10.1 s4.gA s4.gC s4.gB s4.gD).gC)), (j64 ((aC.mk r10.1 s4.gA s4.gC s4.gB s4.gD).gB)), (j64 ((aC.mk r10.1 s4.gA s4.gC s4.gB s4.gD).gD))]), .var (aJ.enc s5), .tail (b4.length * 1), .var (aN.enc e8), .dead], [.var (.st 26 [(aS.enc a2), (.ref 1 [] 0), (.ref 2 [] 0), (aB.enc a3), (aB.enc s3), (j64 a5), (eB a6), (aL.enc a7)]), .var (.st 38 [(aG.enc a8), (aI.enc a9), (.ifc 91 (.ref 3 [] 0)), (eO 4 1 (eL 2 aD.enc) b4), (aB.enc a10), (aH.enc a11)]), .var (.st 72 [(bB.enc r10.1), (eB s4.gA), (k64 s4.gC), (j64 s4.gB), (j64 s4.gD)]), .var (aJ.enc s5), .tail (b4.length * 1), .var (aN.enc e8), .dead], [.var (.st 26 [(aS.enc a2), (.ref 1 [] 0), (.ref 2 [] 0), (aB.enc a3), (aB.enc s3), (j64 a5), (eB a6), (aL.enc a7)]), .var (.st 38 [(aG.enc a8), (aI.enc a9), (.ifc 91 (.ref 3 [] 0)), (eO 4 1 (eL 2 aD.enc) b4), (aB.enc a10), (aH.enc a11)]), .var (.st 72 [(bB.enc r12.1), (eB ((aC.mk r10.1 s4.gA s4.gC s4.gB s4.gD).gA)), (k64 ((aC.mk r10.1 s4.gA s4.gC s4.gB s4.gD).gC)), (j64 ((aC.mk r10.1 s4.gA s4.gC s4.gB s4.gD).gB)), (j64 ((aC.mk r10.1 s4.gA s4.gC s4.gB s4.gD).gD))]), .var (aJ.enc s5), .tail (b4.length * 1), .var (aN.enc e8), .dead]] ⟨aV hT 6 (by kernel_rfl) (by kernel_rfl) (by kernel_rfl), aV hT 6 (by kernel_rfl) (by kernel_rfl) (by kernel_rfl), aV hT 6 (by kernel_rfl) (by kernel_rfl) (by kernel_rfl), aV hT 6 (by kernel_rfl) (by kernel_rfl) (by kernel_rfl), trivial⟩ dS0))) ?_
     refine lx ?_; intro x14
     refine At.c 13 ?_ ?_
     ·apply rt; exact At.jn 0
     ·refine At.J 0 0 [0, 3, 6, 16, 17, 18] 7 (fun p15 => ([(81, (eB p15.2))], [(3, .var (.st 5 [(bK.enc s5.gI), (eB s5.gA), (eL 19 aE.enc s5.gl), (j64 p15.1)]))], [])) (fun p15 => ?_) fun p15 => ?_
      ·refine bi fun r16 hr16 => ?_
       refine boI (fun hc18 => ?_) (fun hc18 => ?_)
       ·refine boI (fun hc23 => ?_) (fun hc23 => ?_)
        ·refine At.d 0 (dE1 18 (fun _ => aR hc18 rfl (aQ hT (im := false) (by kernel_rfl))) (dE1 23 (fun _ => aR hc23 rfl (aQ hT (im := false) (by kernel_rfl))) dE0)) (dF 16 (eB r16.2) [(3, .var (.st 5 [(bK.enc s5.gI), (eB s5.gA), (eL 19 aE.enc s5.gl), (j64 r16.1)]))] [] (dA (aK [3] (kO hr16))) dF0) ?_
         apply rt; exact At.jn 0
        ·refine At.d 0 (dE1 18 (fun _ => aR hc18 rfl (aQ hT (im := false) (by kernel_rfl))) (dE1 23 (fun _ => aR hc23 rfl (aQ hT (im := false) (by kernel_rfl))) dE0)) (dF 16 (eB r16.2) [(3, .var (.st 5 [(bK.enc s5.gI), (eB s5.gA), (eL 19 aE.enc s5.gl), (j64 r16.1)]))] [] (dA (aK [3] (kO hr16))) dF0) ?_
         apply rt; exact At.jn 0
       ·refine At.d 0 (dE1 18 (fun _ => aR hc18 rfl (aQ hT (im := false) (by kernel_rfl))) dE0) (dF 16 (eB r16.2) [(3, .var (.st 5 [(bK.enc s5.gI), (eB s5.gA), (eL 19 aE.enc s5.gl), (j64 r16.1)]))] [] (dA (aK [3] (kO hr16))) dF0) ?_
        apply rt; exact At.jn 0
      ·refine At.c 0 ?_ ?_
       ·refine At.o 5 (cX hT (x := (.sl 3 2 [(aB.enc a1.gc), (aB.enc r13.gD7)]))) ?_
        refine At.b 0 (fun _ e => aK [0, 1, 2, 3, 4] (pJ e)) fun r17 => ?_
        apply rt; exact At.jn 0
       ·apply rt; exact At.jn 0
    ·exact fun h => At.k 2 ⟨_, _, _, _, h, jr⟩
   ·apply rt; exact At.x 0
 ·refine At.c 9 ?_ ?_
  ·apply rt; exact At.r 0
  ·refine At.b 8 (fun _ e => aK [] (pO e)) fun r18 => ?_
   refine lx ?_; intro x19
   refine At.L 17 [] 5 (fun p20 => ([], [(3, .var (aJ.enc p20))], [])) (fun p20 J k => ∃ s21 s22, mU N r18 x19 a1 k s21 s22 = some p20 ∧ J [0, 3, 121] 5 [(122, (j64 s22))] [(3, .var (aJ.enc s21))] []) N (fun _ h => ⟨_, _, h, jr⟩) (fun p20 k s hI => ?_) fun p20 => ?_
   ·obtain ⟨s21, s22, h, hj⟩ := hI
    cases k with
    | zero => cases h
    | succ k =>
     refine At.jr hj ?_ h
     refine lx ?_; intro x23
     refine At.c 1 ?_ ?_
     ·refine bi fun r24 hr24 => ?_
      refine At.d 0 dE0 (dF 12 (eB r24.2) [(3, .var (.st 5 [(bK.enc s21.gI), (eB s21.gA), (eL 19 aE.enc s21.gl), (j64 r24.1)]))] [] (dA (aK [3] (kO hr24))) dF0) ?_
      exact fun h => At.k 2 ⟨_, _, h, jr⟩
     ·apply rt; exact At.x 0
   ·apply rt; exact At.z 0

def aCU : Nat → Bool := imL [3, 4]

def sM (N : Nat) (a0 : aB) (a1 : aB) (a2 : Int) : Option (dK) :=
 Option.bind (uG N a2) fun r1 =>
 Option.bind (kC N r1) fun r2 =>
 Option.bind (rL N a1 r2) fun r3 =>
 Option.bind (cond (decide (r3 < 0)) (
  Option.bind (vJ N r3) fun r5 =>
  some ((aA.mk (I64 (0 - r1.gX)) (I64 (0 - r1.gY)) (I64 (0 - r1.gZ)), r5))) (
  some ((r1, r3)))) fun p4 =>
 cond (p4.2 == 0) (
  some (dK.mk (aA.mk 0 0 0) (aB.mk 0 0 0) true)) (
  Option.bind (nW N ([p4.2, p4.2])) fun r6 =>
  Option.bind (iW N a0 r6) fun r7 =>
  some (dK.mk p4.1 r7 false))

theorem aBm {N a0 a1 a2 r} (h : sM N a0 a1 a2 = some r) : FnM Tryz.prog 167 [] [(aB.enc a0), (aB.enc a1), (k32 a2)] (dK.enc r) [] := by
 unfold sM at h
 refine At.f aCU hT hmo Tryz.func167 rfl h ?_
 refine At.b 4 (fun _ e => aK [] (aAB e)) fun r1 => ?_
 refine bi fun r2 hr2 => ?_
 refine bi fun r3 hr3 => ?_
 refine At.d 2 (dE2 2 (aB.enc r2) (fun _ => aF (lF hr2)) (dE2 3 (j64 r3) (fun _ => aF (tK hr3)) dE0)) dF0 ?_
 refine At.J 0 1 [3, 6, 7] 2 (fun p4 => ([(8, (j64 p4.2))], [(1, .var (aA.enc p4.1))], [])) (fun p4 => ?_) fun p4 => ?_
 ·refine At.c 2 ?_ ?_
  ·refine bi fun r5 hr5 => ?_
   refine At.d 0 (dE2 11 (j64 r5) (fun _ => aF (zC hr5)) dE0) dF0 ?_
   apply rt; exact At.jn 0
  ·apply rt; exact At.jn 0
 ·refine At.c 2 ?_ ?_
  ·apply rt; exact At.r 2
  ·refine bi fun r6 hr6 => ?_
   refine bi fun r7 hr7 => ?_
   refine At.d 0 (dE1 4 (fun _ => cX hT (x := (.sl 1 2 [(j64 p4.2), (j64 p4.2)]))) (dE2 5 (j64 r6) (fun _ => aF (qY hr6)) (dE2 6 (aB.enc r7) (fun _ => aF (jL hr7)) dE0))) dF0 ?_
   apply rt; exact At.r 0

def aDL : Nat → Bool := imL [2, 3]

def nU (N : Nat) (a0 : aB) (a1 : aA) : Option (aB) :=
 Option.bind (kC N a1) fun r1 =>
 Option.bind (rL N a0 r1) fun r2 =>
 Option.bind (nW N ([r2, r2])) fun r3 =>
 Option.bind (iW N a0 r3) fun r4 =>
 Option.bind (yI N r1 r4) fun r5 =>
 some r5

theorem sI {N a0 a1 r} (h : nU N a0 a1 = some r) : FnM Tryz.prog 168 [] [(aB.enc a0), (aA.enc a1)] (aB.enc r) [] := by
 unfold nU at h
 refine At.f aDL hT hmo Tryz.func168 rfl h ?_
 refine At.b 4 (fun _ e => aK [] (lF e)) fun r1 => ?_
 refine At.b 4 (fun _ e => aK [] (tK e)) fun r2 => ?_
 refine bi fun r3 hr3 => ?_
 refine bi fun r4 hr4 => ?_
 refine bi fun r5 hr5 => ?_
 refine At.d 1 (dE1 4 (fun _ => cX hT (x := (.sl 1 2 [(j64 r2), (j64 r2)]))) (dE2 5 (j64 r3) (fun _ => aF (qY hr3)) (dE2 6 (aB.enc r4) (fun _ => aF (jL hr4)) (dE2 7 (aB.enc r5) (fun _ => aF (aBb hr5)) dE0)))) dF0 ?_
 apply rt; exact At.r 0

def aEB : Nat → Bool := imL [2, 3]

def lZ (N : Nat) (a0 : aB) (a1 : aB) : Option (dK) :=
 Option.bind (uZ N a0) fun r1 =>
 cond (r1.2 != 0) (
  some (dK.mk (aA.mk 0 0 0) (aB.mk 0 0 0) true)) (
  some (dK.mk r1.1 a1 false))

theorem pN {N a0 a1 r} (h : lZ N a0 a1 = some r) : FnM Tryz.prog 171 [] [(aB.enc a0), (aB.enc a1)] (dK.enc r) [] := by
 unfold lZ at h
 refine At.f aEB hT hmo Tryz.func171 rfl h ?_
 refine At.b 4 (fun _ e => aK [] (aBT e)) fun r1 => ?_
 refine At.c 8 ?_ ?_
 ·apply rt; exact At.r 2
 ·apply rt; exact At.r 4

def aB8 : Nat → Bool := imL [5, 6, 7, 8, 9]

def sJ (N : Nat) (a0 : aP) (a1 : aB) (a2 : aB) (a3 : aA) (a4 : (Vector Int 2)) : Option (dK) :=
 cond (a0.gF == 0) (
  Option.bind (idx a4.toList 0) fun e1 =>
  Option.bind (sM N a1 a2 e1) fun r2 =>
  some r2) (
  cond (a0.gF == 2) (
   Option.bind (jA N a0.gA4) fun r3 =>
   Option.bind (jA N 65535) fun r4 =>
   Option.bind (nF N r3 r4) fun r5 =>
   Option.bind (nU N a2 a3) fun r6 =>
   Option.bind (idx a4.toList 0) fun e7 =>
   Option.bind (uG N e7) fun r8 =>
   Option.bind (kC N r8) fun r9 =>
   Option.bind (iW N r9 r5) fun r10 =>
   Option.bind (oL N ([r6, r10])) fun r11 =>
   Option.bind (rL N a2 r11) fun r12 =>
   cond (decide (r12 ≤ 0)) (
    some (dK.mk (aA.mk 0 0 0) (aB.mk 0 0 0) true)) (
    Option.bind (lZ N r11 a1) fun r13 =>
    some r13)) (
   cond (a0.gF == 3) (
    Option.bind (idx a4.toList 1) fun e14 =>
    Option.bind (sF N e14 65536) fun r15 =>
    aM (decide (r15 ≥ a0.gA4)) fun x16 =>
    cond x16 (
     Option.bind (kC N a3) fun r17 =>
     Option.bind (lZ N r17 a1) fun r18 =>
     some r18) (
     Option.bind (nU N a2 a3) fun r19 =>
     Option.bind (lZ N r19 a1) fun r20 =>
     some r20)) (
    cond (a0.gF == 1) (
     Option.bind (nU N a2 a3) fun r21 =>
     Option.bind (lZ N r21 a1) fun r22 =>
     some r22) (
     some (dK.mk (aA.mk 0 0 0) (aB.mk 0 0 0) true)))))

theorem aBr {N a0 a1 a2 a3 a4 r} (h : sJ N a0 a1 a2 a3 a4 = some r) : FnM Tryz.prog 89 [] [(aP.enc a0), (aB.enc a1), (aB.enc a2), (aA.enc a3), (eA 2 1 k32 a4)] (dK.enc r) [] := by
 unfold sJ at h
 refine At.f aB8 hT hmo Tryz.func89 rfl h ?_
 refine At.c 10 ?_ ?_
 ·refine At.b 2 (fun _ e => cK hT (N := 2) (k := 1) k32 a4 e) fun e1 => ?_
  refine At.b 1 (fun _ e => aK [] (aBm e)) fun r2 => ?_
  apply rt; exact At.r 1
 ·refine At.c 2 ?_ ?_
  ·refine At.b 2 (fun _ e => aK [] (jZ e)) fun r3 => ?_
   refine At.b 0 (fun _ e => aK [] (jZ e)) fun r4 => ?_
   refine At.b 0 (fun _ e => aK [] (rA e)) fun r5 => ?_
   refine bi fun r6 hr6 => ?_
   refine bi fun e7 he7 => ?_
   refine bi fun r8 hr8 => ?_
   refine bi fun r9 hr9 => ?_
   refine bi fun r10 hr10 => ?_
   refine bi fun r11 hr11 => ?_
   refine At.d 1 (dE2 2 (aB.enc r6) (fun _ => aF (sI hr6)) (dE1 3 (fun _ => cK hT (N := 2) (k := 1) k32 a4 he7) (dE2 5 (aA.enc r8) (fun _ => aF (aAB hr8)) (dE2 6 (aB.enc r9) (fun _ => aF (lF hr9)) (dE2 8 (aB.enc r10) (fun _ => aF (jL hr10)) (dE1 9 (fun _ => cX hT (x := (.sl 3 2 [(aB.enc r6), (aB.enc r10)]))) (dE2 10 (aB.enc r11) (fun _ => aF (vR hr11)) dE0))))))) dF0 ?_
   refine At.b 2 (fun _ e => aK [] (tK e)) fun r12 => ?_
   refine At.c 1 ?_ ?_
   ·apply rt; exact At.r 2
   ·refine At.b 2 (fun _ e => aK [] (pN e)) fun r13 => ?_
    apply rt; exact At.r 1
  ·refine At.c 2 ?_ ?_
   ·refine bi fun e14 he14 => ?_
    refine bi fun r15 hr15 => ?_
    refine lx ?_; intro x16
    refine At.d 0 (dE1 0 (fun _ => cK hT (N := 2) (k := 1) k32 a4 he14) (dE2 2 (j64 r15) (fun _ => aF (aAK hr15)) dE0)) dF0 ?_
    refine At.c 0 ?_ ?_
    ·refine bi fun r17 hr17 => ?_
     refine bi fun r18 hr18 => ?_
     refine At.d 0 (dE2 1 (aB.enc r17) (fun _ => aF (lF hr17)) (dE2 3 (dK.enc r18) (fun _ => aF (pN hr18)) dE0)) dF0 ?_
     apply rt; exact At.r 0
    ·refine bi fun r19 hr19 => ?_
     refine bi fun r20 hr20 => ?_
     refine At.d 0 (dE2 2 (aB.enc r19) (fun _ => aF (sI hr19)) (dE2 4 (dK.enc r20) (fun _ => aF (pN hr20)) dE0)) dF0 ?_
     apply rt; exact At.r 0
   ·refine At.c 2 ?_ ?_
    ·refine bi fun r21 hr21 => ?_
     refine bi fun r22 hr22 => ?_
     refine At.d 0 (dE2 2 (aB.enc r21) (fun _ => aF (sI hr21)) (dE2 4 (dK.enc r22) (fun _ => aF (pN hr22)) dE0)) dF0 ?_
     apply rt; exact At.r 0
    ·apply rt; exact At.r 2


def aAy (N : Nat) (a0 : Int) (a1 : Int) (a2 : Int) : Option (Int) :=
 some (jI (iS a0 a1) a2)

theorem aGl {N a0 a1 a2 r} (h : aAy N a0 a1 a2 = some r) : FnM Tryz.prog 174 [] [(j64 a0), (j64 a1), (j64 a2)] (j64 r) [] := by
 unfold aAy at h
 refine At.f dG hT hmo Tryz.func174 rfl h ?_
 apply rt; exact At.r 7

def iV (N : Nat) (a0 : Int) (a1 : Int) : Option (Int) :=
 Option.bind (nF N a0 a1) fun r1 =>
 some r1

theorem mT {N a0 a1 r} (h : iV N a0 a1 = some r) : FnM Tryz.prog 175 [] [(j64 a0), (.im (j64 a1))] (j64 r) [] := by
 unfold iV at h
 refine At.f dG hT hmo Tryz.func175 rfl h ?_
 refine At.b 3 (fun _ e => aK [] (rA e)) fun r1 => ?_
 apply rt; exact At.r 1

def aBw : Nat → Bool := imL [2]

def rE (N : Nat) (a0 : aB) (a1 : Int) : Option (aB × Bool) :=
 Option.bind (zW N a0) fun r1 =>
 Option.bind (aAy N r1 268435456 4294967296) fun r2 =>
 Option.bind (qG N a1) fun r3 =>
 cond (decide (r3 ≥ r2)) (
  some ((aB.mk 0 0 0, false))) (
  Option.bind (iV N a0.gX r2) fun r4 =>
  Option.bind (iV N a0.gY r2) fun r5 =>
  Option.bind (iV N a0.gZ r2) fun r6 =>
  some ((aB.mk r4 r5 r6, true)))

theorem aBN {N a0 a1 r} (h : rE N a0 a1 = some r) : FnM Tryz.prog 91 [] [(aB.enc a0), (k32 a1)] (.tup [(aB.enc r.1), (eB r.2)]) [] := by
 unfold rE at h
 refine At.f aBw hT hmo Tryz.func91 rfl h ?_
 refine At.b 4 (fun _ e => aK [] (aDw e)) fun r1 => ?_
 refine At.b 0 (fun _ e => aK [] (aGl e)) fun r2 => ?_
 refine bi fun r3 hr3 => ?_
 refine At.d 2 (dE2 1 (j64 r3) (fun _ => aF (vW hr3)) dE0) dF0 ?_
 refine At.c 0 ?_ ?_
 ·apply rt; exact At.r 3
 ·refine At.gz 0 1 ((j64 r2)) ?_
  refine At.o 0 (oC (x := (.fn (.func 175) [] [(.im (j64 r2))])) (by kernel_rfl) (by kernel_rfl)) ?_
  refine bi fun r4 hr4 => ?_
  refine bi fun r5 hr5 => ?_
  refine bi fun r6 hr6 => ?_
  refine At.d 1 (dE2 3 (j64 r4) (fun _ => aF (mT hr4)) (dE2 7 (j64 r5) (fun _ => aF (mT hr5)) (dE2 11 (j64 r6) (fun _ => aF (mT hr6)) dE0))) dF0 ?_
  apply rt; exact At.r 0

def qE (N : Nat) (b4 : (List (List aD))) (a1 : aS) (a2 : aB) (a3 : aB) (a4 : Int) (a5 : Bool) (a6 : aL) (a7 : aG) (a8 : aI) (a9 : aB) (a10 : aH) (a11 : aC) (a12 : aJ) : Option (aS × aB × aB × Bool × aL × Int × aC × aJ) :=
 Option.bind (qC N b4 a1 a2 a3 a4 a5 a6 a7 a8 a9 a10 a11 a12) fun r1 =>
 Option.bind (cond (!r1.2.2.2.2) (
  Option.bind (kS N b4 ([a9]) a1 a2 a3 a4 a5 r1.1 a7 a8 a9 (aH.mk a10.gN r1.2.1 (I64 (a10.gO + 1))) a11 (aJ.mk a12.gI a12.gA a12.gl r1.2.2.1)) fun r3 =>
  Option.bind (fE N b4 true a1 a2 r3 a4 a5 r1.1 a7 a8 a9 (aH.mk a10.gN r1.2.1 (I64 (a10.gO + 1))) a11 (aJ.mk a12.gI a12.gA a12.gl r1.2.2.1)) fun r4 =>
  some ((r3, cond a5 true true))) (
  some ((a3, a5)))) fun p2 =>
 Option.bind (fE N b4 r1.2.2.2.1.gC2 a1 a2 p2.1 a4 p2.2 r1.1 a7 a8 a9 (aH.mk a10.gN r1.2.1 (I64 (a10.gO + 1))) a11 (aJ.mk a12.gI a12.gA a12.gl r1.2.2.1)) fun r5 =>
 Option.bind (aM (r1.2.2.2.1.gC5.gF == 4) fun x7 =>
 cond x7 (
  Option.bind (kS N b4 ([r1.2.2.2.1.gc]) a1 a2 p2.1 a4 (cond p2.2 true r1.2.2.2.1.gC2) r1.1 a7 a8 a9 (aH.mk a10.gN r1.2.1 (I64 (a10.gO + 1))) a11 (aJ.mk a12.gI a12.gA a12.gl r1.2.2.1)) fun r8 =>
  Option.bind (fE N b4 true a1 a2 r8 a4 ((cond p2.2 true r1.2.2.2.1.gC2)) r1.1 a7 a8 a9 (aH.mk a10.gN r1.2.1 (I64 (a10.gO + 1))) a11 (aJ.mk a12.gI a12.gA a12.gl r1.2.2.1)) fun r9 =>
  some ((r8, cond ((cond p2.2 true r1.2.2.2.1.gC2)) true true))) (
  some ((p2.1, cond p2.2 true r1.2.2.2.1.gC2)))) fun p6 =>
 Option.bind (Option.bind (cond a8.gB6 (
  some true) (
  aM (r1.2.2.2.1.gC5.gF == 0) fun x12 =>
  some (cond (!p6.2) x12 false))) fun p11 =>
 cond p11 (
  Option.bind (oN N b4 r1.2.2.2.1 a1 a2 p6.1 a4 p6.2 r1.1 a7 a8 a9 (aH.mk a10.gN r1.2.1 (I64 (a10.gO + 1))) a11 (aJ.mk a12.gI a12.gA a12.gl r1.2.2.1)) fun r13 =>
  some ((r13.1, r13.2.1, r13.2.2))) (
  some ((p6.1, a11, aJ.mk a12.gI a12.gA a12.gl r1.2.2.1)))) fun p10 =>
 Option.bind (cond p6.2 (
  some true) (
  some (a4 == a8.gA0))) fun p14 =>
 cond p14 (
  Option.bind (fE N b4 true a1 a2 p10.1 a4 p6.2 r1.1 a7 a8 a9 (aH.mk a10.gN r1.2.1 (I64 (a10.gO + 1))) p10.2.1 p10.2.2) fun r15 =>
  some ((a1, a2, p10.1, cond p6.2 true true, r1.1, r1.2.1, p10.2.1, p10.2.2))) (
  Option.bind (eR N b4 4 a1 a2 p10.1 a4 p6.2 r1.1 a7 a8 a9 (aH.mk a10.gN r1.2.1 (I64 (a10.gO + 1))) p10.2.1 p10.2.2) fun r16 =>
  Option.bind (eR N b4 5 a1 a2 p10.1 a4 p6.2 r1.1 a7 a8 a9 (aH.mk a10.gN r1.2.1 (I64 (a10.gO + 1))) (aC.mk r16.1 p10.2.1.gA p10.2.1.gC p10.2.1.gB p10.2.1.gD) p10.2.2) fun r17 =>
  Option.bind (sJ N r1.2.2.2.1.gC5 r1.2.2.2.1.gc r1.2.2.2.1.gn a1.gd (#v[r16.2, r17.2])) fun r18 =>
  Option.bind (pF N ([a2, r18.gD7])) fun r19 =>
  Option.bind (fE N b4 r18.gB8 a1 r19 p10.1 a4 p6.2 r1.1 a7 a8 a9 (aH.mk a10.gN r1.2.1 (I64 (a10.gO + 1))) (aC.mk r17.1 ((aC.mk r16.1 p10.2.1.gA p10.2.1.gC p10.2.1.gB p10.2.1.gD).gA) ((aC.mk r16.1 p10.2.1.gA p10.2.1.gC p10.2.1.gB p10.2.1.gD).gC) ((aC.mk r16.1 p10.2.1.gA p10.2.1.gC p10.2.1.gB p10.2.1.gD).gB) ((aC.mk r16.1 p10.2.1.gA p10.2.1.gC p10.2.1.gB p10.2.1.gD).gD)) p10.2.2) fun r20 =>
  Option.bind (cond (decide (a4 ≥ 2)) (
   Option.bind (eR N b4 7 a1 r19 p10.1 a4 (cond p6.2 true r18.gB8) r1.1 a7 a8 a9 (aH.mk a10.gN r1.2.1 (I64 (a10.gO + 1))) (aC.mk r17.1 ((aC.mk r16.1 p10.2.1.gA p10.2.1.gC p10.2.1.gB p10.2.1.gD).gA) ((aC.mk r16.1 p10.2.1.gA p10.2.1.gC p10.2.1.gB p10.2.1.gD).gC) ((aC.mk r16.1 p10.2.1.gA p10.2.1.gC p10.2.1.gB p10.2.1.gD).gB) ((aC.mk r16.1 p10.2.1.gA p10.2.1.gC p10.2.1.gB p10.2.1.gD).gD)) p10.2.2) fun r22 =>
   Option.bind (rE N r19 r22.2) fun r23 =>
   Option.bind (fE N b4 (!r23.2) a1 r23.1 p10.1 a4 (cond p6.2 true r18.gB8) r1.1 a7 a8 a9 (aH.mk a10.gN r1.2.1 (I64 (a10.gO + 1))) (aC.mk r22.1 ((aC.mk r17.1 ((aC.mk r16.1 p10.2.1.gA p10.2.1.gC p10.2.1.gB p10.2.1.gD).gA) ((aC.mk r16.1 p10.2.1.gA p10.2.1.gC p10.2.1.gB p10.2.1.gD).gC) ((aC.mk r16.1 p10.2.1.gA p10.2.1.gC p10.2.1.gB p10.2.1.gD).gB) ((aC.mk r16.1 p10.2.1.gA p10.2.1.gC p10.2.1.gB p10.2.1.gD).gD)).gA) ((aC.mk r17.1 ((aC.mk r16.1 p10.2.1.gA p10.2.1.gC p10.2.1.gB p10.2.1.gD).gA) ((aC.mk r16.1 p10.2.1.gA p10.2.1.gC p10.2.1.gB p10.2.1.gD).gC) ((aC.mk r16.1 p10.2.1.gA p10.2.1.gC p10.2.1.gB p10.2.1.gD).gB) ((aC.mk r16.1 p10.2.1.gA p10.2.1.gC p10.2.1.gB p10.2.1.gD).gD)).gC) ((aC.mk r17.1 ((aC.mk r16.1 p10.2.1.gA p10.2.1.gC p10.2.1.gB p10.2.1.gD).gA) ((aC.mk r16.1 p10.2.1.gA p10.2.1.gC p10.2.1.gB p10.2.1.gD).gC) ((aC.mk r16.1 p10.2.1.gA p10.2.1.gC p10.2.1.gB p10.2.1.gD).gB) ((aC.mk r16.1 p10.2.1.gA p10.2.1.gC p10.2.1.gB p10.2.1.gD).gD)).gB) ((aC.mk r17.1 ((aC.mk r16.1 p10.2.1.gA p10.2.1.gC p10.2.1.gB p10.2.1.gD).gA) ((aC.mk r16.1 p10.2.1.gA p10.2.1.gC p10.2.1.gB p10.2.1.gD).gC) ((aC.mk r16.1 p10.2.1.gA p10.2.1.gC p10.2.1.gB p10.2.1.gD).gB) ((aC.mk r16.1 p10.2.1.gA p10.2.1.gC p10.2.1.gB p10.2.1.gD).gD)).gD)) p10.2.2) fun r24 =>
   some ((r23.1, cond (cond p6.2 true r18.gB8) true (!r23.2), aC.mk r22.1 ((aC.mk r17.1 ((aC.mk r16.1 p10.2.1.gA p10.2.1.gC p10.2.1.gB p10.2.1.gD).gA) ((aC.mk r16.1 p10.2.1.gA p10.2.1.gC p10.2.1.gB p10.2.1.gD).gC) ((aC.mk r16.1 p10.2.1.gA p10.2.1.gC p10.2.1.gB p10.2.1.gD).gB) ((aC.mk r16.1 p10.2.1.gA p10.2.1.gC p10.2.1.gB p10.2.1.gD).gD)).gA) ((aC.mk r17.1 ((aC.mk r16.1 p10.2.1.gA p10.2.1.gC p10.2.1.gB p10.2.1.gD).gA) ((aC.mk r16.1 p10.2.1.gA p10.2.1.gC p10.2.1.gB p10.2.1.gD).gC) ((aC.mk r16.1 p10.2.1.gA p10.2.1.gC p10.2.1.gB p10.2.1.gD).gB) ((aC.mk r16.1 p10.2.1.gA p10.2.1.gC p10.2.1.gB p10.2.1.gD).gD)).gC) ((aC.mk r17.1 ((aC.mk r16.1 p10.2.1.gA p10.2.1.gC p10.2.1.gB p10.2.1.gD).gA) ((aC.mk r16.1 p10.2.1.gA p10.2.1.gC p10.2.1.gB p10.2.1.gD).gC) ((aC.mk r16.1 p10.2.1.gA p10.2.1.gC p10.2.1.gB p10.2.1.gD).gB) ((aC.mk r16.1 p10.2.1.gA p10.2.1.gC p10.2.1.gB p10.2.1.gD).gD)).gB) ((aC.mk r17.1 ((aC.mk r16.1 p10.2.1.gA p10.2.1.gC p10.2.1.gB p10.2.1.gD).gA) ((aC.mk r16.1 p10.2.1.gA p10.2.1.gC p10.2.1.gB p10.2.1.gD).gC) ((aC.mk r16.1 p10.2.1.gA p10.2.1.gC p10.2.1.gB p10.2.1.gD).gB) ((aC.mk r16.1 p10.2.1.gA p10.2.1.gC p10.2.1.gB p10.2.1.gD).gD)).gD)))) (
   some ((r19, cond p6.2 true r18.gB8, aC.mk r17.1 ((aC.mk r16.1 p10.2.1.gA p10.2.1.gC p10.2.1.gB p10.2.1.gD).gA) ((aC.mk r16.1 p10.2.1.gA p10.2.1.gC p10.2.1.gB p10.2.1.gD).gC) ((aC.mk r16.1 p10.2.1.gA p10.2.1.gC p10.2.1.gB p10.2.1.gD).gB) ((aC.mk r16.1 p10.2.1.gA p10.2.1.gC p10.2.1.gB p10.2.1.gD).gD))))) fun p21 =>
  some ((aS.mk r1.2.2.2.1.gat r18.gE7 r1.2.2.2.1.gi, p21.1, p10.1, p21.2.1, r1.1, r1.2.1, p21.2.2, p10.2.2)))

theorem aAz {N b4 a1 a2 a3 a4 a5 a6 a7 a8 a9 a10 a11 a12 r} (h : qE N b4 a1 a2 a3 a4 a5 a6 a7 a8 a9 a10 a11 a12 = some r) : FnM Tryz.prog 34 [.var (.st 26 [(aS.enc a1), (.ref 1 [] 0), (.ref 2 [] 0), (aB.enc a2), (aB.enc a3), (j64 a4), (eB a5), (aL.enc a6)]), .var (.st 38 [(aG.enc a7), (aI.enc a8), (.ifc 91 (.ref 3 [] 0)), (eO 4 1 (eL 2 aD.enc) b4), (aB.enc a9), (aH.enc a10)]), .var (aC.enc a11), .var (aJ.enc a12), .tail (b4.length * 1)] [(.ref 0 [] 0)] (.tup []) [.var (.st 26 [(aS.enc r.1), (.ref 1 [] 0), (.ref 2 [] 0), (aB.enc r.2.1), (aB.enc r.2.2.1), (j64 a4), (eB r.2.2.2.1), (aL.enc r.2.2.2.2.1)]), .var (.st 38 [(aG.enc a7), (aI.enc a8), (.ifc 91 (.ref 3 [] 0)), (eO 4 1 (eL 2 aD.enc) b4), (aB.enc a9), (.st 3 [(j64 a10.gN), (j64 r.2.2.2.2.2.1), (j64 (I64 (a10.gO + 1)))])]), .var (aC.enc r.2.2.2.2.2.2.1), .var (aJ.enc r.2.2.2.2.2.2.2), .tail (b4.length * 1)] := by
 unfold qE at h
 refine At.f dG hT hmo Tryz.func34 rfl h ?_
 refine At.b 1 (fun _ e => aK [0, 1, 2, 3, 4] (aAt e)) fun r1 => ?_
 refine At.J 6 1 [0, 2] 6 (fun p2 => ([], [(0, .var (.st 26 [(aS.enc a1), (.ref 1 [] 0), (.ref 2 [] 0), (aB.enc a2), (aB.enc p2.1), (j64 a4), (eB p2.2), (aL.enc r1.1)]))], [])) (fun p2 => ?_) fun p2 => ?_
 ·refine At.c 2 ?_ ?_
  ·refine At.o 8 (cX hT (x := (.sl 3 1 [(aB.enc a9)]))) ?_
   refine At.b 0 (fun _ e => aK [0, 1, 2, 3, 4] (pJ e)) fun r3 => ?_
   refine At.b 1 (fun _ e => aK [0, 1, 2, 3, 4] (iU e)) fun r4 => ?_
   apply rt; exact At.jn 0
  ·apply rt; exact At.jn 0
 ·refine At.b 3 (fun _ e => aK [0, 1, 2, 3, 4] (iU e)) fun r5 => ?_
  refine At.J 0 1 [0, 2] 6 (fun p6 => ([], [(0, .var (.st 26 [(aS.enc a1), (.ref 1 [] 0), (.ref 2 [] 0), (aB.enc a2), (aB.enc p6.1), (j64 a4), (eB p6.2), (aL.enc r1.1)]))], [])) (fun p6 => ?_) fun p6 => ?_
  ·refine lx ?_; intro x7
   refine At.c 4 ?_ ?_
   ·refine At.o 3 (cX hT (x := (.sl 3 1 [(aB.enc r1.2.2.2.1.gc)]))) ?_
    refine At.b 0 (fun _ e => aK [0, 1, 2, 3, 4] (pJ e)) fun r8 => ?_
    refine At.b 1 (fun _ e => aK [0, 1, 2, 3, 4] (iU e)) fun r9 => ?_
    apply rt; exact At.jn 0
   ·apply rt; exact At.jn 0
  ·refine At.J 0 1 [0, 2] 6 (fun p10 => ([], [(0, .var (.st 26 [(aS.enc a1), (.ref 1 [] 0), (.ref 2 [] 0), (aB.enc a2), (aB.enc p10.1), (j64 a4), (eB p6.2), (aL.enc r1.1)])), (2, .var (aC.enc p10.2.1)), (3, .var (aJ.enc p10.2.2))], [])) (fun p10 => ?_) fun p10 => ?_
   ·refine At.J 0 0 [0, 2] 6 (fun p11 => ([(61, (eB p11))], [], [])) (fun p11 => ?_) fun p11 => ?_
    ·refine At.s 49 9 ?_ ?_
     ·refine At.g [49, 55] 12 ?_
      apply rt; exact At.jn 0
     ·refine lx ?_; intro x12
      refine At.g [49] 12 ?_
      apply rt; exact At.jn 0
    ·refine At.c 0 ?_ ?_
     ·refine At.b 2 (fun _ e => aK [0, 1, 2, 3, 4] (aAD e)) fun r13 => ?_
      apply rt; exact At.jn 0
     ·apply rt; exact At.jn 0
   ·refine At.J 0 0 [0, 2] 6 (fun p14 => ([(83, (eB p14))], [], [])) (fun p14 => ?_) fun p14 => ?_
    ·refine boI (fun hc4 => ?_) (fun hc4 => ?_)
     ·refine At.d 0 (dE1 4 (fun _ => aR hc4 rfl (aQ hT (im := false) (by kernel_rfl))) dE0) dF0 ?_
      apply rt; exact At.jn 0
     ·refine At.d 0 (dE1 4 (fun _ => aR hc4 rfl (aQ hT (im := false) (by kernel_rfl))) dE0) dF0 ?_
      apply rt; exact At.jn 0
    ·refine At.c 0 ?_ ?_
     ·refine At.b 1 (fun _ e => aK [0, 1, 2, 3, 4] (iU e)) fun r15 => ?_
      apply rt; exact At.r 0
     ·refine bi fun r16 hr16 => ?_
      refine bi fun r17 hr17 => ?_
      refine bi fun r18 hr18 => ?_
      refine At.d2 0 [false] (dC2 16 (dK.enc r18) (fun _ => aF (aBr hr18)) dC0) (dS1 12 ⟨(k32 r16.2), 2, .var (.st 72 [(bB.enc r16.1), (eB p10.2.1.gA), (k64 p10.2.1.gC), (j64 p10.2.1.gB), (j64 p10.2.1.gD)]), .var (aC.enc p10.2.1)⟩ [[.var (.st 26 [(aS.enc a1), (.ref 1 [] 0), (.ref 2 [] 0), (aB.enc a2), (aB.enc p10.1), (j64 a4), (eB p6.2), (aL.enc r1.1)]), .var (.st 38 [(aG.enc a7), (aI.enc a8), (.ifc 91 (.ref 3 [] 0)), (eO 4 1 (eL 2 aD.enc) b4), (aB.enc a9), (.st 3 [(j64 a10.gN), (j64 r1.2.1), (j64 (I64 (a10.gO + 1)))])]), .var (aC.enc p10.2.1), .var (aJ.enc p10.2.2), .tail (b4.length * 1), .var (bV.enc r1.2.2.2.1), .dead], [.var (.st 26 [(aS.enc a1), (.ref 1 [] 0), (.ref 2 [] 0), (aB.enc a2), (aB.enc p10.1), (j64 a4), (eB p6.2), (aL.enc r1.1)]), .var (.st 38 [(aG.enc a7), (aI.enc a8), (.ifc 91 (.ref 3 [] 0)), (eO 4 1 (eL 2 aD.enc) b4), (aB.enc a9), (.st 3 [(j64 a10.gN), (j64 r1.2.1), (j64 (I64 (a10.gO + 1)))])]), .var (aC.enc p10.2.1), .var (aJ.enc p10.2.2), .tail (b4.length * 1), .var (bV.enc r1.2.2.2.1), .var cv_4]] ⟨dA (aK [0, 1, 2, 3, 4] (cT hr16)), dA (aK [0, 1, 2, 3, 4] (cT hr16)), trivial⟩ (dS1 14 ⟨(k32 r17.2), 2, .var (.st 72 [(bB.enc r17.1), (eB ((aC.mk r16.1 p10.2.1.gA p10.2.1.gC p10.2.1.gB p10.2.1.gD).gA)), (k64 ((aC.mk r16.1 p10.2.1.gA p10.2.1.gC p10.2.1.gB p10.2.1.gD).gC)), (j64 ((aC.mk r16.1 p10.2.1.gA p10.2.1.gC p10.2.1.gB p10.2.1.gD).gB)), (j64 ((aC.mk r16.1 p10.2.1.gA p10.2.1.gC p10.2.1.gB p10.2.1.gD).gD))]), .var (.st 72 [(bB.enc r16.1), (eB p10.2.1.gA), (k64 p10.2.1.gC), (j64 p10.2.1.gB), (j64 p10.2.1.gD)])⟩ [[.var (.st 26 [(aS.enc a1), (.ref 1 [] 0), (.ref 2 [] 0), (aB.enc a2), (aB.enc p10.1), (j64 a4), (eB p6.2), (aL.enc r1.1)]), .var (.st 38 [(aG.enc a7), (aI.enc a8), (.ifc 91 (.ref 3 [] 0)), (eO 4 1 (eL 2 aD.enc) b4), (aB.enc a9), (.st 3 [(j64 a10.gN), (j64 r1.2.1), (j64 (I64 (a10.gO + 1)))])]), .var (.st 72 [(bB.enc r16.1), (eB p10.2.1.gA), (k64 p10.2.1.gC), (j64 p10.2.1.gB), (j64 p10.2.1.gD)]), .var (aJ.enc p10.2.2), .tail (b4.length * 1), .var (bV.enc r1.2.2.2.1), .dead], [.var (.st 26 [(aS.enc a1), (.ref 1 [] 0), (.ref 2 [] 0), (aB.enc a2), (aB.enc p10.1), (j64 a4), (eB p6.2), (aL.enc r1.1)]), .var (.st 38 [(aG.enc a7), (aI.enc a8), (.ifc 91 (.ref 3 [] 0)), (eO 4 1 (eL 2 aD.enc) b4), (aB.enc a9), (.st 3 [(j64 a10.gN), (j64 r1.2.1), (j64 (I64 (a10.gO + 1)))])]), .var (.st 72 [(bB.enc r16.1), (eB p10.2.1.gA), (k64 p10.2.1.gC), (j64 p10.2.1.gB), (j64 p10.2.1.gD)]), .var (aJ.enc p10.2.2), .tail (b4.length * 1), .var (bV.enc r1.2.2.2.1), .var cv_4]] ⟨dA (aK [0, 1, 2, 3, 4] (cT hr17)), dA (aK [0, 1, 2, 3, 4] (cT hr17)), trivial⟩ (dS1 17 ⟨(.ref 6 [] 0), 6, .var cv_4, .dead⟩ [[.var (.st 26 [(aS.enc a1), (.ref 1 [] 0), (.ref 2 [] 0), (aB.enc a2), (aB.enc p10.1), (j64 a4), (eB p6.2), (aL.enc r1.1)]), .var (.st 38 [(aG.enc a7), (aI.enc a8), (.ifc 91 (.ref 3 [] 0)), (eO 4 1 (eL 2 aD.enc) b4), (aB.enc a9), (.st 3 [(j64 a10.gN), (j64 r1.2.1), (j64 (I64 (a10.gO + 1)))])]), .var (aC.enc p10.2.1), .var (aJ.enc p10.2.2), .tail (b4.length * 1), .var (bV.enc r1.2.2.2.1), .dead], [.var (.st 26 [(aS.enc a1), (.ref 1 [] 0), (.ref 2 [] 0), (aB.enc a2), (aB.enc p10.1), (j64 a4), (eB p6.2), (aL.enc r1.1)]), .var (.st 38 [(aG.enc a7), (aI.enc a8), (.ifc 91 (.ref 3 [] 0)), (eO 4 1 (eL 2 aD.enc) b4), (aB.enc a9), (.st 3 [(j64 a10.gN), (j64 r1.2.1), (j64 (I64 (a10.gO + 1)))])]), .var (.st 72 [(bB.enc r17.1), (eB ((aC.mk r16.1 p10.2.1.gA p10.2.1.gC p10.2.1.gB p10.2.1.gD).gA)), (k64 ((aC.mk r16.1 p10.2.1.gA p10.2.1.gC p10.2.1.gB p10.2.1.gD).gC)), (j64 ((aC.mk r16.1 p10.2.1.gA p10.2.1.gC p10.2.1.gB p10.2.1.gD).gB)), (j64 ((aC.mk r16.1 p10.2.1.gA p10.2.1.gC p10.2.1.gB p10.2.1.gD).gD))]), .var (aJ.enc p10.2.2), .tail (b4.length * 1), .var (bV.enc r1.2.2.2.1), .dead], [.var (.st 26 [(aS.enc a1), (.ref 1 [] 0), (.ref 2 [] 0), (aB.enc a2), (aB.enc p10.1), (j64 a4), (eB p6.2), (aL.enc r1.1)]), .var (.st 38 [(aG.enc a7), (aI.enc a8), (.ifc 91 (.ref 3 [] 0)), (eO 4 1 (eL 2 aD.enc) b4), (aB.enc a9), (.st 3 [(j64 a10.gN), (j64 r1.2.1), (j64 (I64 (a10.gO + 1)))])]), .var (.st 72 [(bB.enc r16.1), (eB p10.2.1.gA), (k64 p10.2.1.gC), (j64 p10.2.1.gB), (j64 p10.2.1.gD)]), .var (aJ.enc p10.2.2), .tail (b4.length * 1), .var (bV.enc r1.2.2.2.1), .dead], [.var (.st 26 [(aS.enc a1), (.ref 1 [] 0), (.ref 2 [] 0), (aB.enc a2), (aB.enc p10.1), (j64 a4), (eB p6.2), (aL.enc r1.1)]), .var (.st 38 [(aG.enc a7), (aI.enc a8), (.ifc 91 (.ref 3 [] 0)), (eO 4 1 (eL 2 aD.enc) b4), (aB.enc a9), (.st 3 [(j64 a10.gN), (j64 r1.2.1), (j64 (I64 (a10.gO + 1)))])]), .var (.st 72 [(bB.enc r17.1), (eB ((aC.mk r16.1 p10.2.1.gA p10.2.1.gC p10.2.1.gB p10.2.1.gD).gA)), (k64 ((aC.mk r16.1 p10.2.1.gA p10.2.1.gC p10.2.1.gB p10.2.1.gD).gC)), (j64 ((aC.mk r16.1 p10.2.1.gA p10.2.1.gC p10.2.1.gB p10.2.1.gD).gB)), (j64 ((aC.mk r16.1 p10.2.1.gA p10.2.1.gC p10.2.1.gB p10.2.1.gD).gD))]), .var (aJ.enc p10.2.2), .tail (b4.length * 1), .var (bV.enc r1.2.2.2.1), .dead]] ⟨aV hT 6 (by kernel_rfl) (by kernel_rfl) (by kernel_rfl), aV hT 6 (by kernel_rfl) (by kernel_rfl) (by kernel_rfl), aV hT 6 (by kernel_rfl) (by kernel_rfl) (by kernel_rfl), aV hT 6 (by kernel_rfl) (by kernel_rfl) (by kernel_rfl), trivial⟩ dS0))) ?_
      refine bi fun r19 hr19 => ?_
      refine At.d 0 (dE1 7 (fun _ => cX hT (x := (.sl 3 2 [(aB.enc a2), (aB.enc r18.gD7)]))) (dE2 8 (aB.enc r19) (fun _ => aF (sP hr19)) dE0)) dF0 ?_
      refine At.b 3 (fun _ e => aK [0, 1, 2, 3, 4] (iU e)) fun r20 => ?_
      refine At.J 0 1 [0, 2, 4] 7 (fun p21 => ([], [(0, .var (.st 26 [(aS.enc a1), (.ref 1 [] 0), (.ref 2 [] 0), (aB.enc p21.1), (aB.enc p10.1), (j64 a4), (eB p21.2.1), (aL.enc r1.1)])), (2, .var (aC.enc p21.2.2))], [])) (fun p21 => ?_) fun p21 => ?_
      ·refine At.c 5 ?_ ?_
       ·refine bi fun r22 hr22 => ?_
        refine bi fun r23 hr23 => ?_
        refine At.d2 0 [false] (dC2 6 (.tup [(aB.enc r23.1), (eB r23.2)]) (fun _ => aF (aBN hr23)) dC0) (dS1 5 ⟨(k32 r22.2), 2, .var (.st 72 [(bB.enc r22.1), (eB ((aC.mk r17.1 ((aC.mk r16.1 p10.2.1.gA p10.2.1.gC p10.2.1.gB p10.2.1.gD).gA) ((aC.mk r16.1 p10.2.1.gA p10.2.1.gC p10.2.1.gB p10.2.1.gD).gC) ((aC.mk r16.1 p10.2.1.gA p10.2.1.gC p10.2.1.gB p10.2.1.gD).gB) ((aC.mk r16.1 p10.2.1.gA p10.2.1.gC p10.2.1.gB p10.2.1.gD).gD)).gA)), (k64 ((aC.mk r17.1 ((aC.mk r16.1 p10.2.1.gA p10.2.1.gC p10.2.1.gB p10.2.1.gD).gA) ((aC.mk r16.1 p10.2.1.gA p10.2.1.gC p10.2.1.gB p10.2.1.gD).gC) ((aC.mk r16.1 p10.2.1.gA p10.2.1.gC p10.2.1.gB p10.2.1.gD).gB) ((aC.mk r16.1 p10.2.1.gA p10.2.1.gC p10.2.1.gB p10.2.1.gD).gD)).gC)), (j64 ((aC.mk r17.1 ((aC.mk r16.1 p10.2.1.gA p10.2.1.gC p10.2.1.gB p10.2.1.gD).gA) ((aC.mk r16.1 p10.2.1.gA p10.2.1.gC p10.2.1.gB p10.2.1.gD).gC) ((aC.mk r16.1 p10.2.1.gA p10.2.1.gC p10.2.1.gB p10.2.1.gD).gB) ((aC.mk r16.1 p10.2.1.gA p10.2.1.gC p10.2.1.gB p10.2.1.gD).gD)).gB)), (j64 ((aC.mk r17.1 ((aC.mk r16.1 p10.2.1.gA p10.2.1.gC p10.2.1.gB p10.2.1.gD).gA) ((aC.mk r16.1 p10.2.1.gA p10.2.1.gC p10.2.1.gB p10.2.1.gD).gC) ((aC.mk r16.1 p10.2.1.gA p10.2.1.gC p10.2.1.gB p10.2.1.gD).gB) ((aC.mk r16.1 p10.2.1.gA p10.2.1.gC p10.2.1.gB p10.2.1.gD).gD)).gD))]), .var (.st 72 [(bB.enc r17.1), (eB ((aC.mk r16.1 p10.2.1.gA p10.2.1.gC p10.2.1.gB p10.2.1.gD).gA)), (k64 ((aC.mk r16.1 p10.2.1.gA p10.2.1.gC p10.2.1.gB p10.2.1.gD).gC)), (j64 ((aC.mk r16.1 p10.2.1.gA p10.2.1.gC p10.2.1.gB p10.2.1.gD).gB)), (j64 ((aC.mk r16.1 p10.2.1.gA p10.2.1.gC p10.2.1.gB p10.2.1.gD).gD))])⟩ [[.var (.st 26 [(aS.enc a1), (.ref 1 [] 0), (.ref 2 [] 0), (aB.enc r19), (aB.enc p10.1), (j64 a4), (eB (cond p6.2 true r18.gB8)), (aL.enc r1.1)]), .var (.st 38 [(aG.enc a7), (aI.enc a8), (.ifc 91 (.ref 3 [] 0)), (eO 4 1 (eL 2 aD.enc) b4), (aB.enc a9), (.st 3 [(j64 a10.gN), (j64 r1.2.1), (j64 (I64 (a10.gO + 1)))])]), .var (.st 72 [(bB.enc r17.1), (eB ((aC.mk r16.1 p10.2.1.gA p10.2.1.gC p10.2.1.gB p10.2.1.gD).gA)), (k64 ((aC.mk r16.1 p10.2.1.gA p10.2.1.gC p10.2.1.gB p10.2.1.gD).gC)), (j64 ((aC.mk r16.1 p10.2.1.gA p10.2.1.gC p10.2.1.gB p10.2.1.gD).gB)), (j64 ((aC.mk r16.1 p10.2.1.gA p10.2.1.gC p10.2.1.gB p10.2.1.gD).gD))]), .var (aJ.enc p10.2.2), .tail (b4.length * 1), .var (bV.enc r1.2.2.2.1), .var (dK.enc r18), .dead], [.var (.st 26 [(aS.enc a1), (.ref 1 [] 0), (.ref 2 [] 0), (aB.enc r19), (aB.enc p10.1), (j64 a4), (eB (cond p6.2 true r18.gB8)), (aL.enc r1.1)]), .var (.st 38 [(aG.enc a7), (aI.enc a8), (.ifc 91 (.ref 3 [] 0)), (eO 4 1 (eL 2 aD.enc) b4), (aB.enc a9), (.st 3 [(j64 a10.gN), (j64 r1.2.1), (j64 (I64 (a10.gO + 1)))])]), .var (.st 72 [(bB.enc r17.1), (eB ((aC.mk r16.1 p10.2.1.gA p10.2.1.gC p10.2.1.gB p10.2.1.gD).gA)), (k64 ((aC.mk r16.1 p10.2.1.gA p10.2.1.gC p10.2.1.gB p10.2.1.gD).gC)), (j64 ((aC.mk r16.1 p10.2.1.gA p10.2.1.gC p10.2.1.gB p10.2.1.gD).gB)), (j64 ((aC.mk r16.1 p10.2.1.gA p10.2.1.gC p10.2.1.gB p10.2.1.gD).gD))]), .var (aJ.enc p10.2.2), .tail (b4.length * 1), .var (bV.enc r1.2.2.2.1), .var (dK.enc r18), .var (.st 3 [(j64 0), (j64 0), (j64 0)])]] ⟨dA (aK [0, 1, 2, 3, 4] (cT hr22)), dA (aK [0, 1, 2, 3, 4] (cT hr22)), trivial⟩ (dS1 10 ⟨(.ref 7 [] 0), 7, .var (.st 3 [(j64 0), (j64 0), (j64 0)]), .dead⟩ [[.var (.st 26 [(aS.enc a1), (.ref 1 [] 0), (.ref 2 [] 0), (aB.enc r19), (aB.enc p10.1), (j64 a4), (eB (cond p6.2 true r18.gB8)), (aL.enc r1.1)]), .var (.st 38 [(aG.enc a7), (aI.enc a8), (.ifc 91 (.ref 3 [] 0)), (eO 4 1 (eL 2 aD.enc) b4), (aB.enc a9), (.st 3 [(j64 a10.gN), (j64 r1.2.1), (j64 (I64 (a10.gO + 1)))])]), .var (.st 72 [(bB.enc r17.1), (eB ((aC.mk r16.1 p10.2.1.gA p10.2.1.gC p10.2.1.gB p10.2.1.gD).gA)), (k64 ((aC.mk r16.1 p10.2.1.gA p10.2.1.gC p10.2.1.gB p10.2.1.gD).gC)), (j64 ((aC.mk r16.1 p10.2.1.gA p10.2.1.gC p10.2.1.gB p10.2.1.gD).gB)), (j64 ((aC.mk r16.1 p10.2.1.gA p10.2.1.gC p10.2.1.gB p10.2.1.gD).gD))]), .var (aJ.enc p10.2.2), .tail (b4.length * 1), .var (bV.enc r1.2.2.2.1), .var (dK.enc r18), .dead], [.var (.st 26 [(aS.enc a1), (.ref 1 [] 0), (.ref 2 [] 0), (aB.enc r19), (aB.enc p10.1), (j64 a4), (eB (cond p6.2 true r18.gB8)), (aL.enc r1.1)]), .var (.st 38 [(aG.enc a7), (aI.enc a8), (.ifc 91 (.ref 3 [] 0)), (eO 4 1 (eL 2 aD.enc) b4), (aB.enc a9), (.st 3 [(j64 a10.gN), (j64 r1.2.1), (j64 (I64 (a10.gO + 1)))])]), .var (.st 72 [(bB.enc r22.1), (eB ((aC.mk r17.1 ((aC.mk r16.1 p10.2.1.gA p10.2.1.gC p10.2.1.gB p10.2.1.gD).gA) ((aC.mk r16.1 p10.2.1.gA p10.2.1.gC p10.2.1.gB p10.2.1.gD).gC) ((aC.mk r16.1 p10.2.1.gA p10.2.1.gC p10.2.1.gB p10.2.1.gD).gB) ((aC.mk r16.1 p10.2.1.gA p10.2.1.gC p10.2.1.gB p10.2.1.gD).gD)).gA)), (k64 ((aC.mk r17.1 ((aC.mk r16.1 p10.2.1.gA p10.2.1.gC p10.2.1.gB p10.2.1.gD).gA) ((aC.mk r16.1 p10.2.1.gA p10.2.1.gC p10.2.1.gB p10.2.1.gD).gC) ((aC.mk r16.1 p10.2.1.gA p10.2.1.gC p10.2.1.gB p10.2.1.gD).gB) ((aC.mk r16.1 p10.2.1.gA p10.2.1.gC p10.2.1.gB p10.2.1.gD).gD)).gC)), (j64 ((aC.mk r17.1 ((aC.mk r16.1 p10.2.1.gA p10.2.1.gC p10.2.1.gB p10.2.1.gD).gA) ((aC.mk r16.1 p10.2.1.gA p10.2.1.gC p10.2.1.gB p10.2.1.gD).gC) ((aC.mk r16.1 p10.2.1.gA p10.2.1.gC p10.2.1.gB p10.2.1.gD).gB) ((aC.mk r16.1 p10.2.1.gA p10.2.1.gC p10.2.1.gB p10.2.1.gD).gD)).gB)), (j64 ((aC.mk r17.1 ((aC.mk r16.1 p10.2.1.gA p10.2.1.gC p10.2.1.gB p10.2.1.gD).gA) ((aC.mk r16.1 p10.2.1.gA p10.2.1.gC p10.2.1.gB p10.2.1.gD).gC) ((aC.mk r16.1 p10.2.1.gA p10.2.1.gC p10.2.1.gB p10.2.1.gD).gB) ((aC.mk r16.1 p10.2.1.gA p10.2.1.gC p10.2.1.gB p10.2.1.gD).gD)).gD))]), .var (aJ.enc p10.2.2), .tail (b4.length * 1), .var (bV.enc r1.2.2.2.1), .var (dK.enc r18), .dead]] ⟨aV hT 7 (by kernel_rfl) (by kernel_rfl) (by kernel_rfl), aV hT 7 (by kernel_rfl) (by kernel_rfl) (by kernel_rfl), trivial⟩ dS0)) ?_
        refine At.b 8 (fun _ e => aK [0, 1, 2, 3, 4] (iU e)) fun r24 => ?_
        apply rt; exact At.jn 0
       ·apply rt; exact At.jn 0
      ·apply rt; exact At.z 11

def kY (N : Nat) (b2 : (List (List aD))) (a4 : aG) (a5 : aI) (a6 : aB) (a7 : aH) (a8 : aJ) : Nat → aC → (Vector Int 4) → Int → Option (aC × (Vector Int 4))
 | 0, _, _, _ => none
 | k + 1, s9, s10, s11 =>
  cond (decide (s11 < 4)) (
   Option.bind (eR N b2 s11 (aS.mk (aA.mk 0 0 0) (aA.mk 0 0 0) 0) (aB.mk 4294967296 4294967296 4294967296) (aB.mk 0 0 0) 0 false (aL.mk (aB.mk 0 0 0) 0 0 (aB.mk 0 0 0) (-1)) a4 a5 a6 a7 s9 a8) fun r12 =>
   Option.bind (fK s11 4) fun _ =>
   Option.bind (s10.toList[s11.toNat]?) fun e14 =>
   kY N b2 a4 a5 a6 a7 a8 k (aC.mk r12.1 s9.gA s9.gC s9.gB s9.gD) (s10.setIfInBounds s11.toNat r12.2) (I64 (s11 + 1))) (
   some ((s9, s10)))

def lD (N : Nat) (a5 : aI) (b2 : (List (List aD))) (a4 : aG) (a6 : aB) : Nat → aH → aJ → aC → aS → aB → aB → Int → Bool → aL → Option (aH × aJ × aC × aS × aB × aB × Int × Bool × aL)
 | 0, _, _, _, _, _, _, _, _, _ => none
 | k + 1, s17, s18, s19, s20, s21, s22, s23, s24, s25 =>
  Option.bind (aM (decide (s23 ≤ a5.gA0)) fun x27 =>
  cond x27 (
   cond (!s24) (
    some true) (
    some a5.gB6)) (
   some false)) fun p26 =>
  cond p26 (
   Option.bind (qE N b2 s20 s21 s22 s23 s24 s25 a4 a5 a6 s17 s19 s18) fun r28 =>
   lD N a5 b2 a4 a6 k (aH.mk s17.gN r28.2.2.2.2.2.1 (I64 (s17.gO + 1))) r28.2.2.2.2.2.2.2 r28.2.2.2.2.2.2.1 r28.1 r28.2.1 r28.2.2.1 (I64 (s23 + 1)) r28.2.2.2.1 r28.2.2.2.2.1) (
   some ((s17, s18, s19, s20, s21, s22, s23, s24, s25)))

def mS (N : Nat) (b2 : (List (List aD))) (a1 : Int) (a2 : Int) (a3 : Int) (a4 : aG) (a5 : aI) (a6 : aB) (a7 : aH) (a8 : aJ) : Option (aH × aJ × aL × Int) :=
 aM (cond (decide (a1 < 0)) true (decide (a1 ≥ a5.gW))) fun x1 =>
 aM (cond x1 true (decide (a2 < 0))) fun x2 =>
 aM (cond x2 true (decide (a2 ≥ a5.gH))) fun x3 =>
 aM (cond x3 true (decide (a3 < 0))) fun x4 =>
 aM (decide (a3 ≥ a5.gA5)) fun x5 =>
 cond (cond x4 true x5) (
  some ((a7, a8, aL.mk (aB.mk 0 0 0) 0 0 (aB.mk 0 0 0) 0, 2))) (
  aM (I64 ((I64 (a2 * a5.gW)) + a1)) fun x6 =>
  Option.bind (zT N a5.gD8 x6 a3) fun r7 =>
  Option.bind (kY N b2 a4 a5 a6 a7 a8 N (aC.mk (bB.mk (cB.mk 0 0 0) false (Vector.replicate 64 0)) true a5.gD8 x6 a3) (#v[0, 0, 0, 0]) 0) fun p8 =>
  Option.bind (aB4 N a5.gC7 a5.gW a5.gH a1 a2 p8.2) fun r15 =>
  Option.bind (lD N a5 b2 a4 a6 N a7 a8 p8.1 (aS.mk r15.1 r15.2.1 (-1)) (aB.mk 4294967296 4294967296 4294967296) (aB.mk 0 0 0) 0 false (aL.mk (aB.mk 0 0 0) 0 0 (aB.mk 0 0 0) (-1))) fun p16 =>
  some ((p16.1, p16.2.1, aL.mk p16.2.2.2.2.2.1 p16.2.2.2.2.2.2.2.2.gD0 p16.2.2.2.2.2.2.2.2.gA0 p16.2.2.2.2.2.2.2.2.gD1 p16.2.2.2.2.2.2.2.2.gB1, 0)))

theorem wR {N b2 a1 a2 a3 a4 a5 a6 a7 a8 r} (h : mS N b2 a1 a2 a3 a4 a5 a6 a7 a8 = some r) : FnM Tryz.prog 13 [.var (.st 38 [(aG.enc a4), (aI.enc a5), (.ifc 91 (.ref 1 [] 0)), (eO 2 1 (eL 2 aD.enc) b2), (aB.enc a6), (aH.enc a7)]), .var (aJ.enc a8), .tail (b2.length * 1)] [(.ref 0 [] 0), (j64 a1), (j64 a2), (j64 a3)] (.tup [(aL.enc r.2.2.1), (j64 r.2.2.2)]) [.var (.st 38 [(aG.enc a4), (aI.enc a5), (.ifc 91 (.ref 1 [] 0)), (eO 2 1 (eL 2 aD.enc) b2), (aB.enc a6), (aH.enc r.1)]), .var (aJ.enc r.2.1), .tail (b2.length * 1)] := by
 unfold mS at h
 refine At.f dG hT hmo Tryz.func13 rfl h ?_
 refine At.o 3 (aHX hT (t := 40) (x := (.ref 0 [] 0)) (b := true) (by kernel_rfl) rfl rfl (by kernel_rfl)) ?_
 refine At.g [16] 5 ?_
 refine At.o 0 (aNo (t := 75) (u := 91) (x := (.ref 1 [] 0)) (by kernel_rfl) rfl rfl .eql false (by decide) (by kernel_rfl)) ?_
 refine lx ?_; intro x1
 refine lx ?_; intro x2
 refine lx ?_; intro x3
 refine lx ?_; intro x4
 refine lx ?_; intro x5
 refine At.g [16] 41 ?_
 refine At.c 0 ?_ ?_
 ·apply rt; exact At.r 3
 ·refine lx ?_; intro x6
  refine bi fun r7 hr7 => ?_
  refine At.d 0 dE0 (dF 16 (.ref 4 [] 0) [] [.var (.st 72 [cv_6, (eB true), (k64 a5.gD8), (j64 x6), (j64 a3)])] (dA (aK [] (aFs hr7))) dF0) ?_
  refine At.L 2 [0, 1, 2, 8, 10, 11] 7 (fun p8 => ([], [(4, .var (aC.enc p8.1)), (6, .var (eA 4 1 k32 p8.2))], [])) (fun p8 J k => ∃ s9 s10 s11, kY N b2 a4 a5 a6 a7 a8 k s9 s10 s11 = some p8 ∧ J [0, 1, 2, 8, 10, 11] 7 [(84, (j64 s11))] [(4, .var (aC.enc s9)), (6, .var (eA 4 1 k32 s10))] []) N (fun _ h => ⟨_, _, _, h, jr⟩) (fun p8 k s hI => ?_) fun p8 => ?_
  ·obtain ⟨s9, s10, s11, h, hj⟩ := hI
   cases k with
   | zero => cases h
   | succ k =>
    refine At.jr hj ?_ h
    refine At.c 1 ?_ ?_
    ·refine At.b 5 (fun _ e => aK [5, 0, 4, 1, 2] (cT e)) fun r12 => ?_
     refine At.b 0 (fun _ e => bL hT (k := 1) 6 [] 0 e) fun u13 => ?_
     refine At.b 0 (fun _ e => mF hT k32 0 s10 e r12.2 (by kernel_rfl) (by kernel_rfl) (H' := [.var (.st 38 [(aG.enc a4), (aI.enc a5), (.ifc 91 (.ref 1 [] 0)), (eO 2 1 (eL 2 aD.enc) b2), (aB.enc a6), (aH.enc a7)]), .var (aJ.enc a8), .tail (b2.length * 1), .var (.st 9 [(.st 3 [(j64 0), (j64 0), (j64 0)]), (j64 0), (j64 0), (.st 3 [(j64 0), (j64 0), (j64 0)]), (j64 0)]), .var (.st 72 [(bB.enc r12.1), (eB s9.gA), (k64 s9.gC), (j64 s9.gB), (j64 s9.gD)]), .var (.st 26 [(.st 7 [(.st 3 [(j64 0), (j64 0), (j64 0)]), (.st 3 [(j64 0), (j64 0), (j64 0)]), (j64 0)]), (.ref 0 [] 0), (.ref 4 [] 0), (.st 3 [(j64 4294967296), (j64 4294967296), (j64 4294967296)]), (.st 3 [(j64 0), (j64 0), (j64 0)]), (j64 0), (eB false), (.st 9 [(.st 3 [(j64 0), (j64 0), (j64 0)]), (j64 0), (j64 0), (.st 3 [(j64 0), (j64 0), (j64 0)]), (j64 (-1))])]), .var (eA 4 1 k32 (s10.setIfInBounds s11.toNat r12.2))])) fun e14 => ?_
     exact fun h => At.k 2 ⟨_, _, _, h, jr⟩
    ·apply rt; exact At.x 0
  ·refine bi fun r15 hr15 => ?_
   refine At.d 5 (dE2 20 (.tup [(aA.enc r15.1), (aA.enc r15.2.1), (j64 r15.2.2)]) (fun _ => aF (aHu hr15)) dE0) dF0 ?_
   refine At.L 0 [8, 10] 7 (fun p16 => ([], [(0, .var (.st 38 [(aG.enc a4), (aI.enc a5), (.ifc 91 (.ref 1 [] 0)), (eO 2 1 (eL 2 aD.enc) b2), (aB.enc a6), (aH.enc p16.1)])), (1, .var (aJ.enc p16.2.1)), (4, .var (aC.enc p16.2.2.1)), (5, .var (.st 26 [(aS.enc p16.2.2.2.1), (.ref 0 [] 0), (.ref 4 [] 0), (aB.enc p16.2.2.2.2.1), (aB.enc p16.2.2.2.2.2.1), (j64 p16.2.2.2.2.2.2.1), (eB p16.2.2.2.2.2.2.2.1), (aL.enc p16.2.2.2.2.2.2.2.2)]))], [])) (fun p16 J k => ∃ s17 s18 s19 s20 s21 s22 s23 s24 s25, lD N a5 b2 a4 a6 k s17 s18 s19 s20 s21 s22 s23 s24 s25 = some p16 ∧ J [0, 8, 10] 7 [] [(0, .var (.st 38 [(aG.enc a4), (aI.enc a5), (.ifc 91 (.ref 1 [] 0)), (eO 2 1 (eL 2 aD.enc) b2), (aB.enc a6), (aH.enc s17)])), (1, .var (aJ.enc s18)), (4, .var (aC.enc s19)), (5, .var (.st 26 [(aS.enc s20), (.ref 0 [] 0), (.ref 4 [] 0), (aB.enc s21), (aB.enc s22), (j64 s23), (eB s24), (aL.enc s25)]))] []) N (fun _ h => ⟨_, _, _, _, _, _, _, _, _, h, jr⟩) (fun p16 k s hI => ?_) fun p16 => ?_
   ·obtain ⟨s17, s18, s19, s20, s21, s22, s23, s24, s25, h, hj⟩ := hI
    cases k with
    | zero => cases h
    | succ k =>
     refine At.jr hj ?_ h
     refine At.J 0 0 [0, 8, 10] 7 (fun p26 => ([(151, (eB p26))], [], [])) (fun p26 => ?_) fun p26 => ?_
     ·refine lx ?_; intro x27
      refine boI (fun hc10 => ?_) (fun hc10 => ?_)
      ·refine boI (fun hc16 => ?_) (fun hc16 => ?_)
       ·refine At.d 0 (dE1 10 (fun _ => aR hc10 rfl (aQ hT (im := false) (by kernel_rfl))) (dE1 16 (fun _ => aR hc16 rfl (aQ hT (im := false) (by kernel_rfl))) dE0)) dF0 ?_
        apply rt; exact At.jn 0
       ·refine At.d 0 (dE1 10 (fun _ => aR hc10 rfl (aQ hT (im := false) (by kernel_rfl))) (dE1 16 (fun _ => aR hc16 rfl (aQ hT (im := false) (by kernel_rfl))) dE0)) dF0 ?_
        apply rt; exact At.jn 0
      ·refine At.d 0 (dE1 10 (fun _ => aR hc10 rfl (aQ hT (im := false) (by kernel_rfl))) dE0) dF0 ?_
       apply rt; exact At.jn 0
     ·refine At.c 0 ?_ ?_
      ·refine At.b 1 (fun _ e => aK [5, 0, 4, 1, 2] (aAz e)) fun r28 => ?_
       exact fun h => At.k 8 ⟨_, _, _, _, _, _, _, _, _, h, jr⟩
      ·apply rt; exact At.x 0
   ·apply rt; exact At.r 15


def eU (N : Nat) : Option (Bool) :=
 Option.bind (Option.bind (qX N ) fun r2 =>
 Option.bind (kK N (aG.mk [] [] [] [] [] [] 0 0 0) r2) fun q =>
 fW q (fun r3 =>
  none) (fun q =>
 fW q (fun r4 =>
  none) (fun q =>
 fW q (fun r5 =>
  none) (fun q =>
 fW q (fun r6 =>
  none) (fun r7 =>
  some ((r7.1, r7.2.1, r7.2.2.1, r7.2.2.2.1, r2, r7.2.2.2.2.1, r7.2.2.2.2.2.1, r7.2.2.2.2.2.2.1, r7.2.2.2.2.2.2.2))))))) fun p1 =>
 Option.bind (mS N p1.2.2.2.1 0 0 0 (aG.mk p1.1 p1.2.1 ((aG.mk [] [] [] [] [] [] 0 0 0).gK) p1.2.2.1 ((aG.mk [] [] [] [] [] [] 0 0 0).gA1) ((aG.mk [] [] [] [] [] [] 0 0 0).gA2) ((aG.mk [] [] [] [] [] [] 0 0 0).gA8) ((aG.mk [] [] [] [] [] [] 0 0 0).gA9) ((aG.mk [] [] [] [] [] [] 0 0 0).gTo)) p1.2.2.2.2.1 p1.2.2.2.2.2.1 (aH.mk 0 0 0) p1.2.2.2.2.2.2.2.1) fun r8 =>
 Option.bind (aM (p1.2.2.2.2.2.2.2.2 == 0) fun x10 =>
 aM (cond x10 (r8.2.2.2 == 0) false) fun x11 =>
 cond x11 (
  aM (aL.eq r8.2.2.1 (aL.mk (aB.mk 0 0 0) 0 0 (aB.mk 0 0 0) (-1))) fun x12 =>
  some x12) (
  some false)) fun p9 =>
 some p9

theorem kT {N r} (h : eU N = some r) : FnM Tryz.prog 12 [] [] (eB r) [] := by
 unfold eU at h
 refine At.f dG hT hmo Tryz.func12 rfl h ?_
 refine At.J 1 0 [] 0 (fun p1 => ([(1, (.ref 0 [] 0)), (2, (j64 p1.2.2.2.2.2.2.2.2))], [], [.var (.st 38 [(.st 9 [(eO 1 19 aE.enc p1.1), (eO 2 5 aP.enc p1.2.1), (eL 2 aD.enc ((aG.mk [] [] [] [] [] [] 0 0 0).gK)), (eO 3 13 aN.enc p1.2.2.1), (eL 1 k64 ((aG.mk [] [] [] [] [] [] 0 0 0).gA1)), (eL 1 k32 ((aG.mk [] [] [] [] [] [] 0 0 0).gA2)), (k32 ((aG.mk [] [] [] [] [] [] 0 0 0).gA8)), (k32 ((aG.mk [] [] [] [] [] [] 0 0 0).gA9)), (k32 ((aG.mk [] [] [] [] [] [] 0 0 0).gTo))]), (aI.enc p1.2.2.2.2.1), (.ifc 91 (.ref 6 [] 0)), (eO 4 1 (eL 2 aD.enc) p1.2.2.2.1), (aB.enc p1.2.2.2.2.2.1), (.st 3 [(j64 0), (j64 0), (j64 0)])]), .tail (p1.1.length * 19), .tail (p1.2.1.length * 5), .tail (p1.2.2.1.length * 13), .tail (p1.2.2.2.1.length * 1), .var (bK.enc p1.2.2.2.2.2.2.1), .var (aJ.enc p1.2.2.2.2.2.2.2.1)])) (fun p1 => ?_) fun p1 => ?_
 ·refine At.b 1 (fun _ e => aK [] (aBH e)) fun r2 => ?_
  refine sumI (fun r3 hr3 => ?_) (fun q hq => ?_)
  ·exact nn
  ·refine aKo (fun r4 e => ?_) (fun q e => ?_)
   ·subst e
    have hr4 := hq
    exact nn
   ·subst e
    have hq := hq
    refine aKo (fun r5 e => ?_) (fun q e => ?_)
    ·subst e
     have hr5 := hq
     exact nn
    ·subst e
     have hq := hq
     refine aKo (fun r6 e => ?_) (fun r7 e => ?_)
     ·subst e
      have hr6 := hq
      exact nn
     ·subst e
      have hr7 := hq
      refine At.o 0 (aK [] (aA3 hr7)) ?_
      apply rt; exact At.jn 5
 ·refine At.b 1 (fun _ e => aK [0, 6, 4] (wR e)) fun r8 => ?_
  refine At.J 6 0 [] 8 (fun p9 => ([(0, (eB p9))], [], [])) (fun p9 => ?_) fun p9 => ?_
  ·refine lx ?_; intro x10
   refine lx ?_; intro x11
   refine At.s 22 7 ?_ ?_
   ·refine At.g [22] 2 ?_
    refine At.o 0 (oQ aOd (r8.2.2.1 : aL) (aL.mk (aB.mk 0 0 0) 0 0 (aB.mk 0 0 0) (-1) : aL) (by kernel_rfl) (by kernel_rfl) (fun _ => rfl) (fun _ => rfl) (by kernel_rfl) (by kernel_rfl)) ?_
    refine lx ?_; intro x12
    refine At.g [22] 2 ?_
    apply rt; exact At.jn 0
   ·refine At.g [22] 5 ?_
    apply rt; exact At.jn 0
  ·apply rt; exact At.r 0

def xY : Nat → Bool := imL [3]

def iG (N : Nat) (a0 : aG) (a1 : aI) : Option (Bool) :=
 Option.bind (nJ N a0) fun r1 =>
 Option.bind (kK N r1 a1) fun q =>
 fW q (fun r3 =>
  Option.bind (Option.bind (dW N r1) fun r9 =>
  Option.bind (dX N r1) fun r10 =>
  cond (r9 == r10) (
   Option.bind (fU N a1) fun r11 =>
   Option.bind (eQ N a1) fun r12 =>
   cond (r11 == r12) (
    Option.bind (hJ N r1 a1) fun r13 =>
    cond (r3 == r13) (
     cond (false == (r3 == 0)) (
      Option.bind (lC N a1) fun r14 =>
      Option.bind (fN N a1) fun r15 =>
      cond (aH.eq r14 r15) (
       Option.bind (eU N ) fun r16 =>
       some r16) (
       some false)) (
      some false)) (
     some false)) (
    some false)) (
   some false)) fun p8 =>
  some p8) (fun q =>
 fW q (fun r4 =>
  Option.bind (Option.bind (dW N r1) fun r18 =>
  Option.bind (dX N r1) fun r19 =>
  cond (r18 == r19) (
   Option.bind (fU N a1) fun r20 =>
   Option.bind (eQ N a1) fun r21 =>
   cond (r20 == r21) (
    Option.bind (hJ N r1 a1) fun r22 =>
    cond (r4.2.2.2.2.2 == r22) (
     aM (true == (r4.2.2.2.2.2 == 0)) fun x23 =>
     cond x23 (
      Option.bind (lC N a1) fun r24 =>
      Option.bind (fN N a1) fun r25 =>
      cond (aH.eq r24 r25) (
       Option.bind (eU N ) fun r26 =>
       some r26) (
       some false)) (
      some false)) (
     some false)) (
    some false)) (
   some false)) fun p17 =>
  some p17) (fun q =>
 fW q (fun r5 =>
  Option.bind (Option.bind (dW N r1) fun r28 =>
  Option.bind (dX N r1) fun r29 =>
  cond (r28 == r29) (
   Option.bind (fU N a1) fun r30 =>
   Option.bind (eQ N a1) fun r31 =>
   cond (r30 == r31) (
    Option.bind (hJ N r1 a1) fun r32 =>
    cond (r5.2.2.2.2.2.2 == r32) (
     aM (true == (r5.2.2.2.2.2.2 == 0)) fun x33 =>
     cond x33 (
      Option.bind (lC N a1) fun r34 =>
      Option.bind (fN N a1) fun r35 =>
      cond (aH.eq r34 r35) (
       Option.bind (eU N ) fun r36 =>
       some r36) (
       some false)) (
      some false)) (
     some false)) (
    some false)) (
   some false)) fun p27 =>
  some p27) (fun q =>
 fW q (fun r6 =>
  Option.bind (Option.bind (dW N r1) fun r38 =>
  Option.bind (dX N r1) fun r39 =>
  cond (r38 == r39) (
   Option.bind (fU N a1) fun r40 =>
   Option.bind (eQ N a1) fun r41 =>
   cond (r40 == r41) (
    Option.bind (hJ N r1 a1) fun r42 =>
    cond (r6.2.2.2.2.2 == r42) (
     aM (true == (r6.2.2.2.2.2 == 0)) fun x43 =>
     cond x43 (
      Option.bind (lC N a1) fun r44 =>
      Option.bind (fN N a1) fun r45 =>
      cond (aH.eq r44 r45) (
       Option.bind (eU N ) fun r46 =>
       some r46) (
       some false)) (
      some false)) (
     some false)) (
    some false)) (
   some false)) fun p37 =>
  some p37) (fun r7 =>
  Option.bind (Option.bind (dW N r1) fun r48 =>
  Option.bind (dX N r1) fun r49 =>
  cond (r48 == r49) (
   Option.bind (fU N a1) fun r50 =>
   Option.bind (eQ N a1) fun r51 =>
   cond (r50 == r51) (
    Option.bind (hJ N r1 a1) fun r52 =>
    aM (r7.2.2.2.2.2.2.2 == r52) fun x53 =>
    cond x53 (
     aM (true == (r7.2.2.2.2.2.2.2 == 0)) fun x54 =>
     cond x54 (
      Option.bind (lC N a1) fun r55 =>
      Option.bind (fN N a1) fun r56 =>
      cond (aH.eq r55 r56) (
       Option.bind (eU N ) fun r57 =>
       some r57) (
       some false)) (
      some false)) (
     some false)) (
    some false)) (
   some false)) fun p47 =>
  some p47))))

theorem wU {N a0 a1 r} (h : iG N a0 a1 = some r) : FnM Tryz.prog 7 [] [(aG.enc a0), (aI.enc a1)] (eB r) [] := by
 unfold iG at h
 refine At.f xY hT hmo Tryz.func7 rfl h ?_
 refine At.b 4 (fun _ e => aK [] (aCh e)) fun r1 => ?_
 refine sumI (fun r3 hr3 => ?_) (fun q hq => ?_)
 ·refine At.o 3 (aK [] (aEU hr3)) ?_
  refine At.J 5 0 [] 1 (fun p8 => ([(4, (eB p8))], [], [])) (fun p8 => ?_) fun p8 => ?_
  ·refine bi fun r9 hr9 => ?_
   refine bi fun r10 hr10 => ?_
   refine boI (fun hc5 => ?_) (fun hc5 => ?_)
   ·refine bi fun r11 hr11 => ?_
    refine bi fun r12 hr12 => ?_
    refine boI (fun hc12 => ?_) (fun hc12 => ?_)
    ·refine bi fun r13 hr13 => ?_
     refine boI (fun hc19 => ?_) (fun hc19 => ?_)
     ·refine boI (fun hc26 => ?_) (fun hc26 => ?_)
      ·refine bi fun r14 hr14 => ?_
       refine bi fun r15 hr15 => ?_
       refine boI (fun hc33 => ?_) (fun hc33 => ?_)
       ·refine bi fun r16 hr16 => ?_
        refine At.d 0 (dE2 1 (j64 r9) (fun _ => aF (bC hr9)) (dE2 3 (j64 r10) (fun _ => aF (aT hr10)) (dE1 5 (fun _ => aR hc5 rfl (aQ hT (im := false) (by kernel_rfl))) (dE2 7 (j64 r11) (fun _ => aF (bW hr11)) (dE2 9 (j64 r12) (fun _ => aF (aZ hr12)) (dE1 12 (fun _ => aR hc12 rfl (aQ hT (im := false) (by kernel_rfl))) (dE2 16 (j64 r13) (fun _ => aF (bO hr13)) (dE1 19 (fun _ => aR hc19 rfl (aQ hT (im := false) (by kernel_rfl))) (dE1 21 (fun _ => oA hT (t := 40) (x := (.v (.pointer none))) (b := false) (by kernel_rfl) rfl rfl (by kernel_rfl)) (dE1 26 (fun _ => aR hc26 rfl (aQ hT (im := false) (by kernel_rfl))) (dE2 28 (aH.enc r14) (fun _ => aF (iY hr14)) (dE2 30 (aH.enc r15) (fun _ => aF (dU hr15)) (dE1 31 (fun _ => oQ yD (r14 : aH) (r15 : aH) (by kernel_rfl) (by kernel_rfl) (fun _ => rfl) (fun _ => rfl) (by kernel_rfl) (by kernel_rfl)) (dE1 33 (fun _ => aR hc33 rfl (aQ hT (im := false) (by kernel_rfl))) (dE2 34 (eB r16) (fun _ => aF (kT hr16)) dE0))))))))))))))) dF0 ?_
        apply rt; exact At.jn 0
       ·refine At.d 0 (dE2 1 (j64 r9) (fun _ => aF (bC hr9)) (dE2 3 (j64 r10) (fun _ => aF (aT hr10)) (dE1 5 (fun _ => aR hc5 rfl (aQ hT (im := false) (by kernel_rfl))) (dE2 7 (j64 r11) (fun _ => aF (bW hr11)) (dE2 9 (j64 r12) (fun _ => aF (aZ hr12)) (dE1 12 (fun _ => aR hc12 rfl (aQ hT (im := false) (by kernel_rfl))) (dE2 16 (j64 r13) (fun _ => aF (bO hr13)) (dE1 19 (fun _ => aR hc19 rfl (aQ hT (im := false) (by kernel_rfl))) (dE1 21 (fun _ => oA hT (t := 40) (x := (.v (.pointer none))) (b := false) (by kernel_rfl) rfl rfl (by kernel_rfl)) (dE1 26 (fun _ => aR hc26 rfl (aQ hT (im := false) (by kernel_rfl))) (dE2 28 (aH.enc r14) (fun _ => aF (iY hr14)) (dE2 30 (aH.enc r15) (fun _ => aF (dU hr15)) (dE1 31 (fun _ => oQ yD (r14 : aH) (r15 : aH) (by kernel_rfl) (by kernel_rfl) (fun _ => rfl) (fun _ => rfl) (by kernel_rfl) (by kernel_rfl)) (dE1 33 (fun _ => aR hc33 rfl (aQ hT (im := false) (by kernel_rfl))) dE0)))))))))))))) dF0 ?_
        apply rt; exact At.jn 0
      ·refine At.d 0 (dE2 1 (j64 r9) (fun _ => aF (bC hr9)) (dE2 3 (j64 r10) (fun _ => aF (aT hr10)) (dE1 5 (fun _ => aR hc5 rfl (aQ hT (im := false) (by kernel_rfl))) (dE2 7 (j64 r11) (fun _ => aF (bW hr11)) (dE2 9 (j64 r12) (fun _ => aF (aZ hr12)) (dE1 12 (fun _ => aR hc12 rfl (aQ hT (im := false) (by kernel_rfl))) (dE2 16 (j64 r13) (fun _ => aF (bO hr13)) (dE1 19 (fun _ => aR hc19 rfl (aQ hT (im := false) (by kernel_rfl))) (dE1 21 (fun _ => oA hT (t := 40) (x := (.v (.pointer none))) (b := false) (by kernel_rfl) rfl rfl (by kernel_rfl)) (dE1 26 (fun _ => aR hc26 rfl (aQ hT (im := false) (by kernel_rfl))) dE0)))))))))) dF0 ?_
       apply rt; exact At.jn 0
     ·refine At.d 0 (dE2 1 (j64 r9) (fun _ => aF (bC hr9)) (dE2 3 (j64 r10) (fun _ => aF (aT hr10)) (dE1 5 (fun _ => aR hc5 rfl (aQ hT (im := false) (by kernel_rfl))) (dE2 7 (j64 r11) (fun _ => aF (bW hr11)) (dE2 9 (j64 r12) (fun _ => aF (aZ hr12)) (dE1 12 (fun _ => aR hc12 rfl (aQ hT (im := false) (by kernel_rfl))) (dE2 16 (j64 r13) (fun _ => aF (bO hr13)) (dE1 19 (fun _ => aR hc19 rfl (aQ hT (im := false) (by kernel_rfl))) dE0)))))))) dF0 ?_
      apply rt; exact At.jn 0
    ·refine At.d 0 (dE2 1 (j64 r9) (fun _ => aF (bC hr9)) (dE2 3 (j64 r10) (fun _ => aF (aT hr10)) (dE1 5 (fun _ => aR hc5 rfl (aQ hT (im := false) (by kernel_rfl))) (dE2 7 (j64 r11) (fun _ => aF (bW hr11)) (dE2 9 (j64 r12) (fun _ => aF (aZ hr12)) (dE1 12 (fun _ => aR hc12 rfl (aQ hT (im := false) (by kernel_rfl))) dE0)))))) dF0 ?_
     apply rt; exact At.jn 0
   ·refine At.d 0 (dE2 1 (j64 r9) (fun _ => aF (bC hr9)) (dE2 3 (j64 r10) (fun _ => aF (aT hr10)) (dE1 5 (fun _ => aR hc5 rfl (aQ hT (im := false) (by kernel_rfl))) dE0))) dF0 ?_
    apply rt; exact At.jn 0
  ·apply rt; exact At.r 0
 ·refine aKo (fun r4 e => ?_) (fun q e => ?_)
  ·subst e
   have hr4 := hq
   refine At.o 3 (aK [] (aEa hr4)) ?_
   refine At.J 5 0 [] 2 (fun p17 => ([(4, (eB p17))], [], [])) (fun p17 => ?_) fun p17 => ?_
   ·refine bi fun r18 hr18 => ?_
    refine bi fun r19 hr19 => ?_
    refine boI (fun hc5 => ?_) (fun hc5 => ?_)
    ·refine bi fun r20 hr20 => ?_
     refine bi fun r21 hr21 => ?_
     refine boI (fun hc12 => ?_) (fun hc12 => ?_)
     ·refine bi fun r22 hr22 => ?_
      refine boI (fun hc19 => ?_) (fun hc19 => ?_)
      ·refine lx ?_; intro x23
       refine boI (fun hc26 => ?_) (fun hc26 => ?_)
       ·refine bi fun r24 hr24 => ?_
        refine bi fun r25 hr25 => ?_
        refine boI (fun hc33 => ?_) (fun hc33 => ?_)
        ·refine bi fun r26 hr26 => ?_
         refine At.d 0 (dE2 1 (j64 r18) (fun _ => aF (bC hr18)) (dE2 3 (j64 r19) (fun _ => aF (aT hr19)) (dE1 5 (fun _ => aR hc5 rfl (aQ hT (im := false) (by kernel_rfl))) (dE2 7 (j64 r20) (fun _ => aF (bW hr20)) (dE2 9 (j64 r21) (fun _ => aF (aZ hr21)) (dE1 12 (fun _ => aR hc12 rfl (aQ hT (im := false) (by kernel_rfl))) (dE2 16 (j64 r22) (fun _ => aF (bO hr22)) (dE1 19 (fun _ => aR hc19 rfl (aQ hT (im := false) (by kernel_rfl))) (dE1 21 (fun _ => oA hT (t := 40) (x := (.ref 1 [] 0)) (b := true) (by kernel_rfl) rfl rfl (by kernel_rfl)) (dE1 26 (fun _ => aR hc26 rfl (aQ hT (im := false) (by kernel_rfl))) (dE2 28 (aH.enc r24) (fun _ => aF (iY hr24)) (dE2 30 (aH.enc r25) (fun _ => aF (dU hr25)) (dE1 31 (fun _ => oQ yD (r24 : aH) (r25 : aH) (by kernel_rfl) (by kernel_rfl) (fun _ => rfl) (fun _ => rfl) (by kernel_rfl) (by kernel_rfl)) (dE1 33 (fun _ => aR hc33 rfl (aQ hT (im := false) (by kernel_rfl))) (dE2 34 (eB r26) (fun _ => aF (kT hr26)) dE0))))))))))))))) dF0 ?_
         apply rt; exact At.jn 0
        ·refine At.d 0 (dE2 1 (j64 r18) (fun _ => aF (bC hr18)) (dE2 3 (j64 r19) (fun _ => aF (aT hr19)) (dE1 5 (fun _ => aR hc5 rfl (aQ hT (im := false) (by kernel_rfl))) (dE2 7 (j64 r20) (fun _ => aF (bW hr20)) (dE2 9 (j64 r21) (fun _ => aF (aZ hr21)) (dE1 12 (fun _ => aR hc12 rfl (aQ hT (im := false) (by kernel_rfl))) (dE2 16 (j64 r22) (fun _ => aF (bO hr22)) (dE1 19 (fun _ => aR hc19 rfl (aQ hT (im := false) (by kernel_rfl))) (dE1 21 (fun _ => oA hT (t := 40) (x := (.ref 1 [] 0)) (b := true) (by kernel_rfl) rfl rfl (by kernel_rfl)) (dE1 26 (fun _ => aR hc26 rfl (aQ hT (im := false) (by kernel_rfl))) (dE2 28 (aH.enc r24) (fun _ => aF (iY hr24)) (dE2 30 (aH.enc r25) (fun _ => aF (dU hr25)) (dE1 31 (fun _ => oQ yD (r24 : aH) (r25 : aH) (by kernel_rfl) (by kernel_rfl) (fun _ => rfl) (fun _ => rfl) (by kernel_rfl) (by kernel_rfl)) (dE1 33 (fun _ => aR hc33 rfl (aQ hT (im := false) (by kernel_rfl))) dE0)))))))))))))) dF0 ?_
         apply rt; exact At.jn 0
       ·refine At.d 0 (dE2 1 (j64 r18) (fun _ => aF (bC hr18)) (dE2 3 (j64 r19) (fun _ => aF (aT hr19)) (dE1 5 (fun _ => aR hc5 rfl (aQ hT (im := false) (by kernel_rfl))) (dE2 7 (j64 r20) (fun _ => aF (bW hr20)) (dE2 9 (j64 r21) (fun _ => aF (aZ hr21)) (dE1 12 (fun _ => aR hc12 rfl (aQ hT (im := false) (by kernel_rfl))) (dE2 16 (j64 r22) (fun _ => aF (bO hr22)) (dE1 19 (fun _ => aR hc19 rfl (aQ hT (im := false) (by kernel_rfl))) (dE1 21 (fun _ => oA hT (t := 40) (x := (.ref 1 [] 0)) (b := true) (by kernel_rfl) rfl rfl (by kernel_rfl)) (dE1 26 (fun _ => aR hc26 rfl (aQ hT (im := false) (by kernel_rfl))) dE0)))))))))) dF0 ?_
        apply rt; exact At.jn 0
      ·refine At.d 0 (dE2 1 (j64 r18) (fun _ => aF (bC hr18)) (dE2 3 (j64 r19) (fun _ => aF (aT hr19)) (dE1 5 (fun _ => aR hc5 rfl (aQ hT (im := false) (by kernel_rfl))) (dE2 7 (j64 r20) (fun _ => aF (bW hr20)) (dE2 9 (j64 r21) (fun _ => aF (aZ hr21)) (dE1 12 (fun _ => aR hc12 rfl (aQ hT (im := false) (by kernel_rfl))) (dE2 16 (j64 r22) (fun _ => aF (bO hr22)) (dE1 19 (fun _ => aR hc19 rfl (aQ hT (im := false) (by kernel_rfl))) dE0)))))))) dF0 ?_
       apply rt; exact At.jn 0
     ·refine At.d 0 (dE2 1 (j64 r18) (fun _ => aF (bC hr18)) (dE2 3 (j64 r19) (fun _ => aF (aT hr19)) (dE1 5 (fun _ => aR hc5 rfl (aQ hT (im := false) (by kernel_rfl))) (dE2 7 (j64 r20) (fun _ => aF (bW hr20)) (dE2 9 (j64 r21) (fun _ => aF (aZ hr21)) (dE1 12 (fun _ => aR hc12 rfl (aQ hT (im := false) (by kernel_rfl))) dE0)))))) dF0 ?_
      apply rt; exact At.jn 0
    ·refine At.d 0 (dE2 1 (j64 r18) (fun _ => aF (bC hr18)) (dE2 3 (j64 r19) (fun _ => aF (aT hr19)) (dE1 5 (fun _ => aR hc5 rfl (aQ hT (im := false) (by kernel_rfl))) dE0))) dF0 ?_
     apply rt; exact At.jn 0
   ·apply rt; exact At.r 0
  ·subst e
   have hq := hq
   refine aKo (fun r5 e => ?_) (fun q e => ?_)
   ·subst e
    have hr5 := hq
    refine At.o 3 (aK [] (aEb hr5)) ?_
    refine At.J 5 0 [] 8 (fun p27 => ([(4, (eB p27))], [], [])) (fun p27 => ?_) fun p27 => ?_
    ·refine bi fun r28 hr28 => ?_
     refine bi fun r29 hr29 => ?_
     refine boI (fun hc5 => ?_) (fun hc5 => ?_)
     ·refine bi fun r30 hr30 => ?_
      refine bi fun r31 hr31 => ?_
      refine boI (fun hc12 => ?_) (fun hc12 => ?_)
      ·refine bi fun r32 hr32 => ?_
       refine boI (fun hc19 => ?_) (fun hc19 => ?_)
       ·refine lx ?_; intro x33
        refine boI (fun hc26 => ?_) (fun hc26 => ?_)
        ·refine bi fun r34 hr34 => ?_
         refine bi fun r35 hr35 => ?_
         refine boI (fun hc33 => ?_) (fun hc33 => ?_)
         ·refine bi fun r36 hr36 => ?_
          refine At.d 0 (dE2 1 (j64 r28) (fun _ => aF (bC hr28)) (dE2 3 (j64 r29) (fun _ => aF (aT hr29)) (dE1 5 (fun _ => aR hc5 rfl (aQ hT (im := false) (by kernel_rfl))) (dE2 7 (j64 r30) (fun _ => aF (bW hr30)) (dE2 9 (j64 r31) (fun _ => aF (aZ hr31)) (dE1 12 (fun _ => aR hc12 rfl (aQ hT (im := false) (by kernel_rfl))) (dE2 16 (j64 r32) (fun _ => aF (bO hr32)) (dE1 19 (fun _ => aR hc19 rfl (aQ hT (im := false) (by kernel_rfl))) (dE1 21 (fun _ => oA hT (t := 40) (x := (.ref 1 [] 0)) (b := true) (by kernel_rfl) rfl rfl (by kernel_rfl)) (dE1 26 (fun _ => aR hc26 rfl (aQ hT (im := false) (by kernel_rfl))) (dE2 28 (aH.enc r34) (fun _ => aF (iY hr34)) (dE2 30 (aH.enc r35) (fun _ => aF (dU hr35)) (dE1 31 (fun _ => oQ yD (r34 : aH) (r35 : aH) (by kernel_rfl) (by kernel_rfl) (fun _ => rfl) (fun _ => rfl) (by kernel_rfl) (by kernel_rfl)) (dE1 33 (fun _ => aR hc33 rfl (aQ hT (im := false) (by kernel_rfl))) (dE2 34 (eB r36) (fun _ => aF (kT hr36)) dE0))))))))))))))) dF0 ?_
          apply rt; exact At.jn 0
         ·refine At.d 0 (dE2 1 (j64 r28) (fun _ => aF (bC hr28)) (dE2 3 (j64 r29) (fun _ => aF (aT hr29)) (dE1 5 (fun _ => aR hc5 rfl (aQ hT (im := false) (by kernel_rfl))) (dE2 7 (j64 r30) (fun _ => aF (bW hr30)) (dE2 9 (j64 r31) (fun _ => aF (aZ hr31)) (dE1 12 (fun _ => aR hc12 rfl (aQ hT (im := false) (by kernel_rfl))) (dE2 16 (j64 r32) (fun _ => aF (bO hr32)) (dE1 19 (fun _ => aR hc19 rfl (aQ hT (im := false) (by kernel_rfl))) (dE1 21 (fun _ => oA hT (t := 40) (x := (.ref 1 [] 0)) (b := true) (by kernel_rfl) rfl rfl (by kernel_rfl)) (dE1 26 (fun _ => aR hc26 rfl (aQ hT (im := false) (by kernel_rfl))) (dE2 28 (aH.enc r34) (fun _ => aF (iY hr34)) (dE2 30 (aH.enc r35) (fun _ => aF (dU hr35)) (dE1 31 (fun _ => oQ yD (r34 : aH) (r35 : aH) (by kernel_rfl) (by kernel_rfl) (fun _ => rfl) (fun _ => rfl) (by kernel_rfl) (by kernel_rfl)) (dE1 33 (fun _ => aR hc33 rfl (aQ hT (im := false) (by kernel_rfl))) dE0)))))))))))))) dF0 ?_
          apply rt; exact At.jn 0
        ·refine At.d 0 (dE2 1 (j64 r28) (fun _ => aF (bC hr28)) (dE2 3 (j64 r29) (fun _ => aF (aT hr29)) (dE1 5 (fun _ => aR hc5 rfl (aQ hT (im := false) (by kernel_rfl))) (dE2 7 (j64 r30) (fun _ => aF (bW hr30)) (dE2 9 (j64 r31) (fun _ => aF (aZ hr31)) (dE1 12 (fun _ => aR hc12 rfl (aQ hT (im := false) (by kernel_rfl))) (dE2 16 (j64 r32) (fun _ => aF (bO hr32)) (dE1 19 (fun _ => aR hc19 rfl (aQ hT (im := false) (by kernel_rfl))) (dE1 21 (fun _ => oA hT (t := 40) (x := (.ref 1 [] 0)) (b := true) (by kernel_rfl) rfl rfl (by kernel_rfl)) (dE1 26 (fun _ => aR hc26 rfl (aQ hT (im := false) (by kernel_rfl))) dE0)))))))))) dF0 ?_
         apply rt; exact At.jn 0
       ·refine At.d 0 (dE2 1 (j64 r28) (fun _ => aF (bC hr28)) (dE2 3 (j64 r29) (fun _ => aF (aT hr29)) (dE1 5 (fun _ => aR hc5 rfl (aQ hT (im := false) (by kernel_rfl))) (dE2 7 (j64 r30) (fun _ => aF (bW hr30)) (dE2 9 (j64 r31) (fun _ => aF (aZ hr31)) (dE1 12 (fun _ => aR hc12 rfl (aQ hT (im := false) (by kernel_rfl))) (dE2 16 (j64 r32) (fun _ => aF (bO hr32)) (dE1 19 (fun _ => aR hc19 rfl (aQ hT (im := false) (by kernel_rfl))) dE0)))))))) dF0 ?_
        apply rt; exact At.jn 0
      ·refine At.d 0 (dE2 1 (j64 r28) (fun _ => aF (bC hr28)) (dE2 3 (j64 r29) (fun _ => aF (aT hr29)) (dE1 5 (fun _ => aR hc5 rfl (aQ hT (im := false) (by kernel_rfl))) (dE2 7 (j64 r30) (fun _ => aF (bW hr30)) (dE2 9 (j64 r31) (fun _ => aF (aZ hr31)) (dE1 12 (fun _ => aR hc12 rfl (aQ hT (im := false) (by kernel_rfl))) dE0)))))) dF0 ?_
       apply rt; exact At.jn 0
     ·refine At.d 0 (dE2 1 (j64 r28) (fun _ => aF (bC hr28)) (dE2 3 (j64 r29) (fun _ => aF (aT hr29)) (dE1 5 (fun _ => aR hc5 rfl (aQ hT (im := false) (by kernel_rfl))) dE0))) dF0 ?_
      apply rt; exact At.jn 0
    ·apply rt; exact At.r 0
   ·subst e
    have hq := hq
    refine aKo (fun r6 e => ?_) (fun r7 e => ?_)
    ·subst e
     have hr6 := hq
     refine At.o 3 (aK [] (aFP hr6)) ?_
     refine At.J 5 0 [] 2 (fun p37 => ([(4, (eB p37))], [], [])) (fun p37 => ?_) fun p37 => ?_
     ·refine bi fun r38 hr38 => ?_
      refine bi fun r39 hr39 => ?_
      refine boI (fun hc5 => ?_) (fun hc5 => ?_)
      ·refine bi fun r40 hr40 => ?_
       refine bi fun r41 hr41 => ?_
       refine boI (fun hc12 => ?_) (fun hc12 => ?_)
       ·refine bi fun r42 hr42 => ?_
        refine boI (fun hc19 => ?_) (fun hc19 => ?_)
        ·refine lx ?_; intro x43
         refine boI (fun hc26 => ?_) (fun hc26 => ?_)
         ·refine bi fun r44 hr44 => ?_
          refine bi fun r45 hr45 => ?_
          refine boI (fun hc33 => ?_) (fun hc33 => ?_)
          ·refine bi fun r46 hr46 => ?_
           refine At.d 0 (dE2 1 (j64 r38) (fun _ => aF (bC hr38)) (dE2 3 (j64 r39) (fun _ => aF (aT hr39)) (dE1 5 (fun _ => aR hc5 rfl (aQ hT (im := false) (by kernel_rfl))) (dE2 7 (j64 r40) (fun _ => aF (bW hr40)) (dE2 9 (j64 r41) (fun _ => aF (aZ hr41)) (dE1 12 (fun _ => aR hc12 rfl (aQ hT (im := false) (by kernel_rfl))) (dE2 16 (j64 r42) (fun _ => aF (bO hr42)) (dE1 19 (fun _ => aR hc19 rfl (aQ hT (im := false) (by kernel_rfl))) (dE1 21 (fun _ => oA hT (t := 40) (x := (.ref 1 [] 0)) (b := true) (by kernel_rfl) rfl rfl (by kernel_rfl)) (dE1 26 (fun _ => aR hc26 rfl (aQ hT (im := false) (by kernel_rfl))) (dE2 28 (aH.enc r44) (fun _ => aF (iY hr44)) (dE2 30 (aH.enc r45) (fun _ => aF (dU hr45)) (dE1 31 (fun _ => oQ yD (r44 : aH) (r45 : aH) (by kernel_rfl) (by kernel_rfl) (fun _ => rfl) (fun _ => rfl) (by kernel_rfl) (by kernel_rfl)) (dE1 33 (fun _ => aR hc33 rfl (aQ hT (im := false) (by kernel_rfl))) (dE2 34 (eB r46) (fun _ => aF (kT hr46)) dE0))))))))))))))) dF0 ?_
           apply rt; exact At.jn 0
          ·refine At.d 0 (dE2 1 (j64 r38) (fun _ => aF (bC hr38)) (dE2 3 (j64 r39) (fun _ => aF (aT hr39)) (dE1 5 (fun _ => aR hc5 rfl (aQ hT (im := false) (by kernel_rfl))) (dE2 7 (j64 r40) (fun _ => aF (bW hr40)) (dE2 9 (j64 r41) (fun _ => aF (aZ hr41)) (dE1 12 (fun _ => aR hc12 rfl (aQ hT (im := false) (by kernel_rfl))) (dE2 16 (j64 r42) (fun _ => aF (bO hr42)) (dE1 19 (fun _ => aR hc19 rfl (aQ hT (im := false) (by kernel_rfl))) (dE1 21 (fun _ => oA hT (t := 40) (x := (.ref 1 [] 0)) (b := true) (by kernel_rfl) rfl rfl (by kernel_rfl)) (dE1 26 (fun _ => aR hc26 rfl (aQ hT (im := false) (by kernel_rfl))) (dE2 28 (aH.enc r44) (fun _ => aF (iY hr44)) (dE2 30 (aH.enc r45) (fun _ => aF (dU hr45)) (dE1 31 (fun _ => oQ yD (r44 : aH) (r45 : aH) (by kernel_rfl) (by kernel_rfl) (fun _ => rfl) (fun _ => rfl) (by kernel_rfl) (by kernel_rfl)) (dE1 33 (fun _ => aR hc33 rfl (aQ hT (im := false) (by kernel_rfl))) dE0)))))))))))))) dF0 ?_
           apply rt; exact At.jn 0
         ·refine At.d 0 (dE2 1 (j64 r38) (fun _ => aF (bC hr38)) (dE2 3 (j64 r39) (fun _ => aF (aT hr39)) (dE1 5 (fun _ => aR hc5 rfl (aQ hT (im := false) (by kernel_rfl))) (dE2 7 (j64 r40) (fun _ => aF (bW hr40)) (dE2 9 (j64 r41) (fun _ => aF (aZ hr41)) (dE1 12 (fun _ => aR hc12 rfl (aQ hT (im := false) (by kernel_rfl))) (dE2 16 (j64 r42) (fun _ => aF (bO hr42)) (dE1 19 (fun _ => aR hc19 rfl (aQ hT (im := false) (by kernel_rfl))) (dE1 21 (fun _ => oA hT (t := 40) (x := (.ref 1 [] 0)) (b := true) (by kernel_rfl) rfl rfl (by kernel_rfl)) (dE1 26 (fun _ => aR hc26 rfl (aQ hT (im := false) (by kernel_rfl))) dE0)))))))))) dF0 ?_
          apply rt; exact At.jn 0
        ·refine At.d 0 (dE2 1 (j64 r38) (fun _ => aF (bC hr38)) (dE2 3 (j64 r39) (fun _ => aF (aT hr39)) (dE1 5 (fun _ => aR hc5 rfl (aQ hT (im := false) (by kernel_rfl))) (dE2 7 (j64 r40) (fun _ => aF (bW hr40)) (dE2 9 (j64 r41) (fun _ => aF (aZ hr41)) (dE1 12 (fun _ => aR hc12 rfl (aQ hT (im := false) (by kernel_rfl))) (dE2 16 (j64 r42) (fun _ => aF (bO hr42)) (dE1 19 (fun _ => aR hc19 rfl (aQ hT (im := false) (by kernel_rfl))) dE0)))))))) dF0 ?_
         apply rt; exact At.jn 0
       ·refine At.d 0 (dE2 1 (j64 r38) (fun _ => aF (bC hr38)) (dE2 3 (j64 r39) (fun _ => aF (aT hr39)) (dE1 5 (fun _ => aR hc5 rfl (aQ hT (im := false) (by kernel_rfl))) (dE2 7 (j64 r40) (fun _ => aF (bW hr40)) (dE2 9 (j64 r41) (fun _ => aF (aZ hr41)) (dE1 12 (fun _ => aR hc12 rfl (aQ hT (im := false) (by kernel_rfl))) dE0)))))) dF0 ?_
        apply rt; exact At.jn 0
      ·refine At.d 0 (dE2 1 (j64 r38) (fun _ => aF (bC hr38)) (dE2 3 (j64 r39) (fun _ => aF (aT hr39)) (dE1 5 (fun _ => aR hc5 rfl (aQ hT (im := false) (by kernel_rfl))) dE0))) dF0 ?_
       apply rt; exact At.jn 0
     ·apply rt; exact At.r 0
    ·subst e
     have hr7 := hq
     refine At.o 3 (aK [] (aA3 hr7)) ?_
     refine At.J 5 0 [] 8 (fun p47 => ([(4, (eB p47))], [], [])) (fun p47 => ?_) fun p47 => ?_
     ·refine bi fun r48 hr48 => ?_
      refine bi fun r49 hr49 => ?_
      refine boI (fun hc5 => ?_) (fun hc5 => ?_)
      ·refine bi fun r50 hr50 => ?_
       refine bi fun r51 hr51 => ?_
       refine boI (fun hc12 => ?_) (fun hc12 => ?_)
       ·refine bi fun r52 hr52 => ?_
        refine lx ?_; intro x53
        refine boI (fun hc19 => ?_) (fun hc19 => ?_)
        ·refine lx ?_; intro x54
         refine boI (fun hc26 => ?_) (fun hc26 => ?_)
         ·refine bi fun r55 hr55 => ?_
          refine bi fun r56 hr56 => ?_
          refine boI (fun hc33 => ?_) (fun hc33 => ?_)
          ·refine bi fun r57 hr57 => ?_
           refine At.d 0 (dE2 1 (j64 r48) (fun _ => aF (bC hr48)) (dE2 3 (j64 r49) (fun _ => aF (aT hr49)) (dE1 5 (fun _ => aR hc5 rfl (aQ hT (im := false) (by kernel_rfl))) (dE2 7 (j64 r50) (fun _ => aF (bW hr50)) (dE2 9 (j64 r51) (fun _ => aF (aZ hr51)) (dE1 12 (fun _ => aR hc12 rfl (aQ hT (im := false) (by kernel_rfl))) (dE2 16 (j64 r52) (fun _ => aF (bO hr52)) (dE1 19 (fun _ => aR hc19 rfl (aQ hT (im := false) (by kernel_rfl))) (dE1 21 (fun _ => oA hT (t := 40) (x := (.ref 1 [] 0)) (b := true) (by kernel_rfl) rfl rfl (by kernel_rfl)) (dE1 26 (fun _ => aR hc26 rfl (aQ hT (im := false) (by kernel_rfl))) (dE2 28 (aH.enc r55) (fun _ => aF (iY hr55)) (dE2 30 (aH.enc r56) (fun _ => aF (dU hr56)) (dE1 31 (fun _ => oQ yD (r55 : aH) (r56 : aH) (by kernel_rfl) (by kernel_rfl) (fun _ => rfl) (fun _ => rfl) (by kernel_rfl) (by kernel_rfl)) (dE1 33 (fun _ => aR hc33 rfl (aQ hT (im := false) (by kernel_rfl))) (dE2 34 (eB r57) (fun _ => aF (kT hr57)) dE0))))))))))))))) dF0 ?_
           apply rt; exact At.jn 0
          ·refine At.d 0 (dE2 1 (j64 r48) (fun _ => aF (bC hr48)) (dE2 3 (j64 r49) (fun _ => aF (aT hr49)) (dE1 5 (fun _ => aR hc5 rfl (aQ hT (im := false) (by kernel_rfl))) (dE2 7 (j64 r50) (fun _ => aF (bW hr50)) (dE2 9 (j64 r51) (fun _ => aF (aZ hr51)) (dE1 12 (fun _ => aR hc12 rfl (aQ hT (im := false) (by kernel_rfl))) (dE2 16 (j64 r52) (fun _ => aF (bO hr52)) (dE1 19 (fun _ => aR hc19 rfl (aQ hT (im := false) (by kernel_rfl))) (dE1 21 (fun _ => oA hT (t := 40) (x := (.ref 1 [] 0)) (b := true) (by kernel_rfl) rfl rfl (by kernel_rfl)) (dE1 26 (fun _ => aR hc26 rfl (aQ hT (im := false) (by kernel_rfl))) (dE2 28 (aH.enc r55) (fun _ => aF (iY hr55)) (dE2 30 (aH.enc r56) (fun _ => aF (dU hr56)) (dE1 31 (fun _ => oQ yD (r55 : aH) (r56 : aH) (by kernel_rfl) (by kernel_rfl) (fun _ => rfl) (fun _ => rfl) (by kernel_rfl) (by kernel_rfl)) (dE1 33 (fun _ => aR hc33 rfl (aQ hT (im := false) (by kernel_rfl))) dE0)))))))))))))) dF0 ?_
           apply rt; exact At.jn 0
         ·refine At.d 0 (dE2 1 (j64 r48) (fun _ => aF (bC hr48)) (dE2 3 (j64 r49) (fun _ => aF (aT hr49)) (dE1 5 (fun _ => aR hc5 rfl (aQ hT (im := false) (by kernel_rfl))) (dE2 7 (j64 r50) (fun _ => aF (bW hr50)) (dE2 9 (j64 r51) (fun _ => aF (aZ hr51)) (dE1 12 (fun _ => aR hc12 rfl (aQ hT (im := false) (by kernel_rfl))) (dE2 16 (j64 r52) (fun _ => aF (bO hr52)) (dE1 19 (fun _ => aR hc19 rfl (aQ hT (im := false) (by kernel_rfl))) (dE1 21 (fun _ => oA hT (t := 40) (x := (.ref 1 [] 0)) (b := true) (by kernel_rfl) rfl rfl (by kernel_rfl)) (dE1 26 (fun _ => aR hc26 rfl (aQ hT (im := false) (by kernel_rfl))) dE0)))))))))) dF0 ?_
          apply rt; exact At.jn 0
        ·refine At.d 0 (dE2 1 (j64 r48) (fun _ => aF (bC hr48)) (dE2 3 (j64 r49) (fun _ => aF (aT hr49)) (dE1 5 (fun _ => aR hc5 rfl (aQ hT (im := false) (by kernel_rfl))) (dE2 7 (j64 r50) (fun _ => aF (bW hr50)) (dE2 9 (j64 r51) (fun _ => aF (aZ hr51)) (dE1 12 (fun _ => aR hc12 rfl (aQ hT (im := false) (by kernel_rfl))) (dE2 16 (j64 r52) (fun _ => aF (bO hr52)) (dE1 19 (fun _ => aR hc19 rfl (aQ hT (im := false) (by kernel_rfl))) dE0)))))))) dF0 ?_
         apply rt; exact At.jn 0
       ·refine At.d 0 (dE2 1 (j64 r48) (fun _ => aF (bC hr48)) (dE2 3 (j64 r49) (fun _ => aF (aT hr49)) (dE1 5 (fun _ => aR hc5 rfl (aQ hT (im := false) (by kernel_rfl))) (dE2 7 (j64 r50) (fun _ => aF (bW hr50)) (dE2 9 (j64 r51) (fun _ => aF (aZ hr51)) (dE1 12 (fun _ => aR hc12 rfl (aQ hT (im := false) (by kernel_rfl))) dE0)))))) dF0 ?_
        apply rt; exact At.jn 0
      ·refine At.d 0 (dE2 1 (j64 r48) (fun _ => aF (bC hr48)) (dE2 3 (j64 r49) (fun _ => aF (aT hr49)) (dE1 5 (fun _ => aR hc5 rfl (aQ hT (im := false) (by kernel_rfl))) dE0))) dF0 ?_
       apply rt; exact At.jn 0
     ·apply rt; exact At.r 0

end Go.UK
