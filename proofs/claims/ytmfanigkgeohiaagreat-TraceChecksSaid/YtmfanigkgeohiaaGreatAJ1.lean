/- A part of the proof: what the functions of the program compute. -/
import Derived.Test.YtmfanigkgeohiaaGreatCT
namespace Go.UK
open Go Go.Proofs
set_option maxRecDepth 20000
set_option maxHeartbeats 40000000
set_option linter.all false

attribute [local irreducible] adv aIH aHF yL brPt aJr aEf nI yT dS mJ fH aIW aHa lPt owp awl aw FnM aEe opS Stab TOK Big
def aCv : Nat → Bool := imL [1]

def kW (N : Nat) (a0 : aG) : Nat → (List aD) → Int → Option ((List aD))
 | 0, _, _ => none
 | k + 1, s2, s3 =>
  aM ((a0.gK.length : Int)) fun x4 =>
  aM (cond (decide (s3 < x4)) (decide (s3 < 4)) false) fun x5 =>
  cond x5 (
   Option.bind (idx a0.gK s3) fun e6 =>
   aM ((e6.gG.length : Int)) fun x7 =>
   Option.bind (uF e6.gG 0 (jI x7 260)) fun s8 =>
   Option.bind (yC 32 s2 (([aD.mk e6.gE s8] : List aD))) fun z9 =>
   kW N a0 k z9 (I64 (s3 + 1))) (
   some s2)

def nJ (N : Nat) (a0 : aG) : Option (aG) :=
 Option.bind (kW N a0 N [] 0) fun p1 =>
 aM ((a0.gM.length : Int)) fun x10 =>
 Option.bind (uF a0.gM 0 (jI x10 20)) fun s11 =>
 aM ((a0.gQ.length : Int)) fun x12 =>
 Option.bind (uF a0.gQ 0 (jI x12 8)) fun s13 =>
 aM ((a0.gR.length : Int)) fun x14 =>
 Option.bind (uF a0.gR 0 (jI x14 5)) fun s15 =>
 aM (jI ((a0.gA1.length : Int)) 20) fun x16 =>
 Option.bind (uF a0.gA1 0 x16) fun s17 =>
 aM ((a0.gA2.length : Int)) fun x18 =>
 Option.bind (uF a0.gA2 0 (jI x18 20)) fun s19 =>
 some (aG.mk s11 s13 p1 s15 s17 s19 a0.gA8 a0.gA9 a0.gTo)

theorem aCh {N a0 r} (h : nJ N a0 = some r) : FnM Tryz.prog 10 [] [(aG.enc a0)] (aG.enc r) [] := by
 unfold nJ at h
 refine At.f aCv hT hmo Tryz.func10 rfl h ?_
 refine At.ownn 4 3 2 ?_
 refine At.L 0 [1, 2] 2 (fun p1 => ([(3, (eO 1 2 aD.enc p1))], [(1, .tail (p1.length * 2))], [])) (fun p1 J k => ∃ s2 s3, kW N a0 k s2 s3 = some p1 ∧ J [1, 2] 2 [(3, (eO 1 2 aD.enc s2)), (4, (j64 s3))] [(1, .tail (s2.length * 2))] []) N (fun _ h => ⟨_, _, h, jr⟩) (fun p1 k s hI => ?_) fun p1 => ?_
 ·obtain ⟨s2, s3, h, hj⟩ := hI
  cases k with
  | zero => cases h
  | succ k =>
   refine At.jr hj ?_ h
   refine lx ?_; intro x4
   refine lx ?_; intro x5
   refine At.c 9 ?_ ?_
   ·refine At.b 3 (fun _ e => cC hT aD.enc e) fun e6 => ?_
    refine lx ?_; intro x7
    refine bi fun s8 hs8 => ?_
    refine bi fun z9 hz9 => ?_
    refine At.d 3 (dE1 9 (fun _ => xL hT (k := 3) (eA 3 1 j64) hs8) (dE1 11 (fun _ => cX hT (x := (.sl 2 1 [(.st 2 [(j64 e6.gE), (eL 3 (eA 3 1 j64) s8)])]))) dE0)) (dF 12 (eO 1 2 aD.enc z9) [(1, .tail (z9.length * 2))] [] (dA (qR hT aD.enc (id := 1) (k := 2) hz9)) dF0) ?_
    exact fun h => At.k 3 ⟨_, _, h, jr⟩
   ·apply rt; exact At.x 0
 ·refine lx ?_; intro x10
  refine bi fun s11 hs11 => ?_
  refine lx ?_; intro x12
  refine bi fun s13 hs13 => ?_
  refine lx ?_; intro x14
  refine bi fun s15 hs15 => ?_
  refine lx ?_; intro x16
  refine bi fun s17 hs17 => ?_
  refine lx ?_; intro x18
  refine bi fun s19 hs19 => ?_
  refine At.d 0 (dE1 6 (fun _ => xL hT (k := 19) aE.enc hs11) (dE1 13 (fun _ => xL hT (k := 5) aP.enc hs13) (dE1 21 (fun _ => xL hT (k := 13) aN.enc hs15) (dE1 28 (fun _ => xL hT (k := 1) k64 hs17) (dE1 35 (fun _ => xL hT (k := 1) k32 hs19) dE0))))) dF0 ?_
  apply rt; exact At.r 0

def aGa : Nat → Bool := imL [2]

def oF (N : Nat) (a0 : aA) (a1 : Int) : Option (Bool) :=
 Option.bind (aM (decide ((iS (iS a0.gX a0.gY) a0.gZ) ≤ a1)) fun x2 =>
 cond x2 (
  aM (decide ((jI (jI a0.gX a0.gY) a0.gZ) ≥ (I64 (0 - a1)))) fun x3 =>
  some x3) (
  some false)) fun p1 =>
 some p1

theorem yE {N a0 a1 r} (h : oF N a0 a1 = some r) : FnM Tryz.prog 176 [] [(aA.enc a0), (j64 a1)] (eB r) [] := by
 unfold oF at h
 refine At.f aGa hT hmo Tryz.func176 rfl h ?_
 refine At.J 2 0 [] 0 (fun p1 => ([(4, (eB p1))], [], [])) (fun p1 => ?_) fun p1 => ?_
 ·refine At.o 6 (wN (k := .i64) (i := a0.gX) (j := a0.gY) (l := a0.gZ) (by kernel_rfl) (by kernel_rfl)) ?_
  refine lx ?_; intro x2
  refine At.s 14 3 ?_ ?_
  ·refine At.g [14] 6 ?_
   refine At.o 0 (vN (k := .i64) (i := a0.gX) (j := a0.gY) (l := a0.gZ) (by kernel_rfl) (by kernel_rfl)) ?_
   refine lx ?_; intro x3
   refine At.g [14] 5 ?_
   apply rt; exact At.jn 0
  ·refine At.g [14] 12 ?_
   apply rt; exact At.jn 0
 ·apply rt; exact At.r 0

def aKT : Nat → Bool := imL [2, 3]

def nN (N : Nat) (a0 : aA) (a1 : aA) : Option (Bool) :=
 Option.bind (Option.bind (oF N a0 65536) fun r2 =>
 cond r2 (
  Option.bind (oF N a1 131072) fun r3 =>
  cond r3 (
   aM (!(aA.eq a1 (aA.mk 0 0 0))) fun x4 =>
   some x4) (
   some false)) (
  some false)) fun p1 =>
 some p1

theorem vZ {N a0 a1 r} (h : nN N a0 a1 = some r) : FnM Tryz.prog 92 [] [(aA.enc a0), (aA.enc a1)] (eB r) [] := by
 unfold nN at h
 refine At.f aKT hT hmo Tryz.func92 rfl h ?_
 refine At.J 3 0 [] 0 (fun p1 => ([(4, (eB p1))], [], [])) (fun p1 => ?_) fun p1 => ?_
 ·refine At.b 1 (fun _ e => aK [] (yE e)) fun r2 => ?_
  refine At.s 7 1 ?_ ?_
  ·refine At.g [7] 1 ?_
   refine At.b 0 (fun _ e => aK [] (yE e)) fun r3 => ?_
   refine At.g [7] 2 ?_
   refine At.s 11 0 ?_ ?_
   ·refine At.g [11] 2 ?_
    refine At.o 0 (pX rX (a1 : aA) (aA.mk 0 0 0 : aA) (by kernel_rfl) (by kernel_rfl) (fun _ => rfl) (fun _ => rfl) (by kernel_rfl) (by kernel_rfl)) ?_
    refine lx ?_; intro x4
    refine At.g [11] 2 ?_
    apply rt; exact At.jn 0
   ·refine At.g [11] 5 ?_
    apply rt; exact At.jn 0
  ·refine At.g [7, 11] 9 ?_
   apply rt; exact At.jn 0
 ·apply rt; exact At.r 0

def aDB : Nat → Bool := imL [2, 3]

def eH (N : Nat) (a1 : aE) : Nat → Int → Option (Sum (Unit) (Int))
 | 0, _ => none
 | k + 1, s9 =>
  cond (decide (s9 < 3)) (
   Option.bind (idx a1.gUv.toList s9) fun e10 =>
   Option.bind (Option.bind (fK 0 2) fun _ =>
   Option.bind (e10.toList[(Int.toNat 0)]?) fun e13 =>
   Option.bind (fK 1 2) fun _ =>
   Option.bind (e10.toList[(Int.toNat 1)]?) fun e15 =>
   aM (decide ((jI e13 e15) < 0)) fun x16 =>
   cond x16 (
    some true) (
    Option.bind (fK 0 2) fun _ =>
    Option.bind (e10.toList[(Int.toNat 0)]?) fun e18 =>
    Option.bind (fK 1 2) fun _ =>
    Option.bind (e10.toList[(Int.toNat 1)]?) fun e20 =>
    aM (decide ((iS e18 e20) > 65535)) fun x21 =>
    some x21)) fun p11 =>
   cond p11 (some (Sum.inr 5)) (eH N a1 k (I64 (s9 + 1)))) (
   some (Sum.inl (())))

def eJ (N : Nat) (a1 : aE) : Nat → Int → Option (Sum (Unit) (Int))
 | 0, _ => none
 | k + 1, s23 =>
  cond (decide (s23 < 3)) (
   Option.bind (idx a1.gP.toList s23) fun e24 =>
   Option.bind (nN N e24 (aA.mk 1 0 0)) fun r25 =>
   cond (!r25) (some (Sum.inr 8)) (eJ N a1 k (I64 (s23 + 1)))) (
   some (Sum.inl (())))

def kA (N : Nat) (a0 : aG) (a1 : aE) : Option (Int) :=
 aM ((a0.gQ.length : Int)) fun x1 =>
 aM (cond (decide (a1.gB2 < 0)) true (decide (a1.gB2 ≥ x1))) fun x2 =>
 aM (decide (a1.gB5 < (-1))) fun x3 =>
 aM ((a0.gK.length : Int)) fun x4 =>
 aM (cond (cond x2 true x3) true (decide (a1.gB5 ≥ x4))) fun x5 =>
 aM (cond x5 true (decide (a1.gB1 < 0))) fun x6 =>
 aM (decide (a1.gB1 ≥ ((a0.gA1.length : Int)))) fun x7 =>
 cond (cond x6 true x7) (
  some 5) (
  Option.bind (eH N a1 N 0) fun o => fW o (fun p8 =>
   Option.bind (eJ N a1 N 0) fun o => fW o (fun p22 =>
    some 0) (fun r => some r)) (fun r => some r))

theorem aCa {N a0 a1 r} (h : kA N a0 a1 = some r) : FnM Tryz.prog 37 [] [(aG.enc a0), (aE.enc a1)] (j64 r) [] := by
 unfold kA at h
 refine At.f aDB hT hmo Tryz.func37 rfl h ?_
 refine lx ?_; intro x1
 refine lx ?_; intro x2
 refine lx ?_; intro x3
 refine lx ?_; intro x4
 refine lx ?_; intro x5
 refine lx ?_; intro x6
 refine lx ?_; intro x7
 refine At.c 40 ?_ ?_
 ·apply rt; exact At.r 1
 ·refine At.LS 3 [3] 0 (fun p8 => ([], [], [])) (fun op8 J k => ∃ s9, eH N a1 k s9 = some op8 ∧ J [3, 47] 0 [(48, (j64 s9))] [] []) N (fun _ h => ⟨_, h, jr⟩) (fun op8 g8 k s hI => ?_) fun p8 => ?_
  ·obtain ⟨s9, h, hj⟩ := hI
   cases k with
   | zero => cases h
   | succ k =>
    refine At.jr hj ?_ h
    refine At.c 1 ?_ ?_
    ·refine At.b 0 (fun _ e => xP hT (eA 2 1 j64) a1.gUv e (by kernel_rfl) (by kernel_rfl)) fun e10 => ?_
     refine At.J 2 0 [3, 47, 48] 1 (fun p11 => ([(64, (eB p11))], [], [])) (fun p11 => ?_) fun p11 => ?_
     ·refine At.b 0 (fun _ e => bL hT (k := 1) 0 [] 0 e) fun u12 => ?_
      refine At.b 0 (fun _ e => nE hT j64 0 e) fun e13 => ?_
      refine At.b 0 (fun _ e => bL hT (k := 1) 0 [] 0 e) fun u14 => ?_
      refine At.b 0 (fun _ e => nE hT j64 0 e) fun e15 => ?_
      refine lx ?_; intro x16
      refine At.s 57 3 ?_ ?_
      ·refine At.g [57] 7 ?_
       apply rt; exact At.jn 0
      ·refine At.b 0 (fun _ e => bL hT (k := 1) 0 [] 0 e) fun u17 => ?_
       refine At.b 0 (fun _ e => nE hT j64 0 e) fun e18 => ?_
       refine At.b 0 (fun _ e => bL hT (k := 1) 0 [] 0 e) fun u19 => ?_
       refine At.b 0 (fun _ e => nE hT j64 0 e) fun e20 => ?_
       refine lx ?_; intro x21
       refine At.g [57] 3 ?_
       apply rt; exact At.jn 0
     ·refine At.c 0 ?_ ?_
      ·intro e; apply uY g8 e; exact At.r 1
      ·exact fun h => At.k 2 ⟨_, h, jr⟩
    ·apply rt; exact At.xs 0
  ·refine At.LS 3 [] 0 (fun p22 => ([], [], [])) (fun op22 J k => ∃ s23, eJ N a1 k s23 = some op22 ∧ J [67] 0 [(68, (j64 s23))] [] []) N (fun _ h => ⟨_, h, jr⟩) (fun op22 g22 k s hI => ?_) fun p22 => ?_
   ·obtain ⟨s23, h, hj⟩ := hI
    cases k with
    | zero => cases h
    | succ k =>
     refine At.jr hj ?_ h
     refine At.c 1 ?_ ?_
     ·refine At.b 0 (fun _ e => xP hT aA.enc a1.gP e (by kernel_rfl) (by kernel_rfl)) fun e24 => ?_
      refine At.b 4 (fun _ e => aK [] (vZ e)) fun r25 => ?_
      refine At.c 1 ?_ ?_
      ·intro e; apply uY g22 e; exact At.r 1
      ·exact fun h => At.k 2 ⟨_, h, jr⟩
     ·apply rt; exact At.xs 0
   ·apply rt; exact At.r 1

def aBu : Nat → Bool := imL [2]

def iP (N : Nat) (a0 : aE) (a1 : aG) : Option (Int) :=
 Option.bind (kA N a1 a0) fun r1 =>
 some r1

theorem aBI {N a0 a1 r} (h : iP N a0 a1 = some r) : FnM Tryz.prog 36 [] [(aE.enc a0), (.im (aG.enc a1))] (j64 r) [] := by
 unfold iP at h
 refine At.f aBu hT hmo Tryz.func36 rfl h ?_
 refine At.b 4 (fun _ e => aK [] (aCa e)) fun r1 => ?_
 apply rt; exact At.r 1

def cN (N : Nat) (a0 : (List aE)) (a1 : aG) : Nat → Int → Option (Sum (Unit) (Int))
 | 0, _ => none
 | k + 1, s2 =>
  aM (decide (s2 < ((a0.length : Int)))) fun x3 =>
  cond x3 (
   Option.bind (idx a0 s2) fun e4 =>
   Option.bind (iP N e4 a1) fun r5 =>
   cond (r5 != 0) (
    some (Sum.inr r5)) (
    cN N a0 a1 k (I64 (s2 + 1)))) (
   some (Sum.inl (())))

def dI (N : Nat) (a0 : (List aE)) (a1 : aG) : Option (Int) :=
 Option.bind (cN N a0 a1 N 0) fun o => fW o (fun p1 =>
  some 0) (fun r => some r)

theorem tF {N a0 a1 r} (h : dI N a0 a1 = some r) : FnM Tryz.prog 35 [] [(eL 19 aE.enc a0), (.fn (.func 36) [] [(.im (aG.enc a1))])] (j64 r) [] := by
 unfold dI at h
 refine At.f dG hT hmo Tryz.func35 rfl h ?_
 refine At.LS 4 [] 0 (fun p1 => ([], [], [])) (fun op1 J k => ∃ s2, cN N a0 a1 k s2 = some op1 ∧ J [1, 8, 9] 0 [(10, (j64 s2))] [] []) N (fun _ h => ⟨_, h, jr⟩) (fun op1 g1 k s hI => ?_) fun p1 => ?_
 ·obtain ⟨s2, h, hj⟩ := hI
  cases k with
  | zero => cases h
  | succ k =>
   refine At.jr hj ?_ h
   refine lx ?_; intro x3
   refine At.c 1 ?_ ?_
   ·refine At.b 0 (fun _ e => cC hT aE.enc e) fun e4 => ?_
    refine At.b 5 (fun _ e => aK [] (aBI e)) fun r5 => ?_
    refine At.c 3 ?_ ?_
    ·intro e; apply uY g1 e; exact At.r 2
    ·exact fun h => At.k 2 ⟨_, h, jr⟩
   ·apply rt; exact At.xs 0
 ·apply rt; exact At.r 1

def fT (N : Nat) (a0 : Int) (a1 : Int) : Option (Bool) :=
 aM (cond (decide (a0 < 0)) true (decide (a0 > a1))) fun x1 =>
 some x1

theorem aAT {N a0 a1 r} (h : fT N a0 a1 = some r) : FnM Tryz.prog 178 [] [(j64 a0), (.im (j64 a1))] (eB r) [] := by
 unfold fT at h
 refine At.f dG hT hmo Tryz.func178 rfl h ?_
 refine lx ?_; intro x1
 apply rt; exact At.r 9

def cW (N : Nat) (a0 : (List Int)) (a1 : Int) : Nat → Int → Option (Sum (Unit) (Int))
 | 0, _ => none
 | k + 1, s2 =>
  aM (decide (s2 < ((a0.length : Int)))) fun x3 =>
  cond x3 (
   Option.bind (idx a0 s2) fun e4 =>
   Option.bind (fT N e4 a1) fun r5 =>
   cond r5 (
    some (Sum.inr s2)) (
    cW N a0 a1 k (I64 (s2 + 1)))) (
   some (Sum.inl (())))

def dC (N : Nat) (a0 : (List Int)) (a1 : Int) : Option (Int) :=
 Option.bind (cW N a0 a1 N 0) fun o => fW o (fun p1 =>
  some (-1)) (fun r => some r)

theorem pW {N a0 a1 r} (h : dC N a0 a1 = some r) : FnM Tryz.prog 212 [] [(eL 1 j64 a0), (.fn (.func 178) [] [(.im (j64 a1))])] (j64 r) [] := by
 unfold dC at h
 refine At.f dG hT hmo Tryz.func212 rfl h ?_
 refine At.LS 4 [] 0 (fun p1 => ([], [], [])) (fun op1 J k => ∃ s2, cW N a0 a1 k s2 = some op1 ∧ J [0, 1, 7] 0 [(8, (j64 s2))] [] []) N (fun _ h => ⟨_, h, jr⟩) (fun op1 g1 k s hI => ?_) fun p1 => ?_
 ·obtain ⟨s2, h, hj⟩ := hI
  cases k with
  | zero => cases h
  | succ k =>
   refine At.jr hj ?_ h
   refine lx ?_; intro x3
   refine At.c 1 ?_ ?_
   ·refine At.b 5 (fun _ e => cC hT j64 e) fun e4 => ?_
    refine At.b 1 (fun _ e => aK [] (aAT e)) fun r5 => ?_
    refine At.c 0 ?_ ?_
    ·intro e; apply uY g1 e; exact At.r 2
    ·exact fun h => At.k 2 ⟨_, h, jr⟩
   ·apply rt; exact At.xs 0
 ·apply rt; exact At.r 1

def cV (N : Nat) (a0 : (List Int)) (a1 : Int) : Option (Bool) :=
 Option.bind (dC N a0 a1) fun r1 =>
 some (decide (r1 ≥ 0))

theorem oO {N a0 a1 r} (h : cV N a0 a1 = some r) : FnM Tryz.prog 177 [] [(eL 1 j64 a0), (.fn (.func 178) [] [(.im (j64 a1))])] (eB r) [] := by
 unfold cV at h
 refine At.f dG hT hmo Tryz.func177 rfl h ?_
 refine At.b 3 (fun _ e => aK [] (pW e)) fun r1 => ?_
 apply rt; exact At.r 2

def aD0 : Nat → Bool := imL [2]

def fV (N : Nat) (a0 : Int) (a1 : (List Int)) : Option (Bool) :=
 Option.bind (cV N a1 a0) fun r1 =>
 some r1

theorem pU {N a0 a1 r} (h : fV N a0 a1 = some r) : FnM Tryz.prog 93 [] [(j64 a0), (eL 1 j64 a1)] (eB r) [] := by
 unfold fV at h
 refine At.f aD0 hT hmo Tryz.func93 rfl h ?_
 refine At.o 3 (oC (x := (.fn (.func 178) [] [(.im (j64 a0))])) (by kernel_rfl) (by kernel_rfl)) ?_
 refine At.b 0 (fun _ e => aK [] (oO e)) fun r1 => ?_
 apply rt; exact At.r 1

def aDD : Nat → Bool := imL [1]

def fC (N : Nat) (a0 : aP) : Option (Int) :=
 Option.bind (Option.bind (fV N 4 ([a0.gF])) fun r2 =>
 cond r2 (
  some true) (
  Option.bind (idx a0.gL.toList 0) fun e3 =>
  Option.bind (idx a0.gL.toList 1) fun e4 =>
  Option.bind (idx a0.gL.toList 2) fun e5 =>
  Option.bind (fV N 65535 ([e3, e4, e5, a0.gA4])) fun r6 =>
  some r6)) fun p1 =>
 cond p1 (some 5) (some 0)

theorem aCP {N a0 r} (h : fC N a0 = some r) : FnM Tryz.prog 39 [] [(aP.enc a0)] (j64 r) [] := by
 unfold fC at h
 refine At.f aDD hT hmo Tryz.func39 rfl h ?_
 refine At.J 2 0 [] 0 (fun p1 => ([(21, (eB p1))], [], [])) (fun p1 => ?_) fun p1 => ?_
 ·refine At.o 2 (cX hT (x := (.sl 1 1 [(j64 a0.gF)]))) ?_
  refine At.b 0 (fun _ e => aK [] (pU e)) fun r2 => ?_
  refine At.s 7 1 ?_ ?_
  ·refine At.g [7] 14 ?_
   apply rt; exact At.jn 0
  ·refine At.g [7] 1 ?_
   refine At.b 0 (fun _ e => cK hT (N := 3) (k := 1) j64 a0.gL e) fun e3 => ?_
   refine At.g [7] 2 ?_
   refine At.b 0 (fun _ e => cK hT (N := 3) (k := 1) j64 a0.gL e) fun e4 => ?_
   refine At.g [7] 2 ?_
   refine At.b 0 (fun _ e => cK hT (N := 3) (k := 1) j64 a0.gL e) fun e5 => ?_
   refine At.g [7] 3 ?_
   refine At.o 0 (cX hT (x := (.sl 1 4 [(j64 e3), (j64 e4), (j64 e5), (j64 a0.gA4)]))) ?_
   refine At.b 0 (fun _ e => aK [] (pU e)) fun r6 => ?_
   refine At.g [7] 1 ?_
   apply rt; exact At.jn 0
 ·refine At.c 0 ?_ ?_
  ·apply rt; exact At.r 1
  ·apply rt; exact At.r 1

def bT (N : Nat) (a0 : (List aP)) : Nat → Int → Option (Sum (Unit) (Int))
 | 0, _ => none
 | k + 1, s2 =>
  aM (decide (s2 < ((a0.length : Int)))) fun x3 =>
  cond x3 (
   Option.bind (idx a0 s2) fun e4 =>
   Option.bind (fC N e4) fun r5 =>
   cond (r5 != 0) (
    some (Sum.inr r5)) (
    bT N a0 k (I64 (s2 + 1)))) (
   some (Sum.inl (())))

def cR (N : Nat) (a0 : (List aP)) : Option (Int) :=
 Option.bind (bT N a0 N 0) fun o => fW o (fun p1 =>
  some 0) (fun r => some r)

theorem qB {N a0 r} (h : cR N a0 = some r) : FnM Tryz.prog 38 [] [(eL 5 aP.enc a0), (.fn (.func 39) [] [])] (j64 r) [] := by
 unfold cR at h
 refine At.f dG hT hmo Tryz.func38 rfl h ?_
 refine At.LS 4 [] 0 (fun p1 => ([], [], [])) (fun op1 J k => ∃ s2, bT N a0 k s2 = some op1 ∧ J [1, 8, 9] 0 [(10, (j64 s2))] [] []) N (fun _ h => ⟨_, h, jr⟩) (fun op1 g1 k s hI => ?_) fun p1 => ?_
 ·obtain ⟨s2, h, hj⟩ := hI
  cases k with
  | zero => cases h
  | succ k =>
   refine At.jr hj ?_ h
   refine lx ?_; intro x3
   refine At.c 1 ?_ ?_
   ·refine At.b 0 (fun _ e => cC hT aP.enc e) fun e4 => ?_
    refine At.b 5 (fun _ e => aK [] (aCP e)) fun r5 => ?_
    refine At.c 3 ?_ ?_
    ·intro e; apply uY g1 e; exact At.r 2
    ·exact fun h => At.k 2 ⟨_, h, jr⟩
   ·apply rt; exact At.xs 0
 ·apply rt; exact At.r 1

def cS (N : Nat) (a0 : (List Int)) (a1 : Int) : Nat → Int → Option (Sum (Unit) (Int))
 | 0, _ => none
 | k + 1, s2 =>
  aM (decide (s2 < ((a0.length : Int)))) fun x3 =>
  cond x3 (
   Option.bind (idx a0 s2) fun e4 =>
   cond (a1 == e4) (
    some (Sum.inr s2)) (
    cS N a0 a1 k (I64 (s2 + 1)))) (
   some (Sum.inl (())))

def jE (N : Nat) (a0 : (List Int)) (a1 : Int) : Option (Int) :=
 Option.bind (cS N a0 a1 N 0) fun o => fW o (fun p1 =>
  some (-1)) (fun r => some r)

theorem yW {N a0 a1 r} (h : jE N a0 a1 = some r) : FnM Tryz.prog 179 [] [(eL 1 j64 a0), (j64 a1)] (j64 r) [] := by
 unfold jE at h
 refine At.f dG hT hmo Tryz.func179 rfl h ?_
 refine At.LS 4 [] 0 (fun p1 => ([], [], [])) (fun op1 J k => ∃ s2, cS N a0 a1 k s2 = some op1 ∧ J [0, 1, 7] 0 [(8, (j64 s2))] [] []) N (fun _ h => ⟨_, h, jr⟩) (fun op1 g1 k s hI => ?_) fun p1 => ?_
 ·obtain ⟨s2, h, hj⟩ := hI
  cases k with
  | zero => cases h
  | succ k =>
   refine At.jr hj ?_ h
   refine lx ?_; intro x3
   refine At.c 1 ?_ ?_
   ·refine At.b 5 (fun _ e => cC hT j64 e) fun e4 => ?_
    refine At.c 2 ?_ ?_
    ·intro e; apply uY g1 e; exact At.r 2
    ·exact fun h => At.k 2 ⟨_, h, jr⟩
   ·apply rt; exact At.xs 0
 ·apply rt; exact At.r 1

def dM (N : Nat) (a0 : (List Int)) (a1 : Int) : Option (Bool) :=
 Option.bind (jE N a0 a1) fun r1 =>
 some (decide (r1 ≥ 0))

theorem vT {N a0 a1 r} (h : dM N a0 a1 = some r) : FnM Tryz.prog 94 [] [(eL 1 j64 a0), (j64 a1)] (eB r) [] := by
 unfold dM at h
 refine At.f dG hT hmo Tryz.func94 rfl h ?_
 refine At.b 3 (fun _ e => aK [] (yW e)) fun r1 => ?_
 apply rt; exact At.r 2

def aD7 : Nat → Bool := imL [1]

def eW (N : Nat) (x5 : Int) (a0 : aD) : Nat → Int → Option (Sum (Unit) (Int))
 | 0, _ => none
 | k + 1, s7 =>
  cond (decide (s7 < x5)) (
   Option.bind (idx a0.gG s7) fun e8 =>
   Option.bind (Option.bind (fK 0 3) fun _ =>
   Option.bind (e8.toList[(Int.toNat 0)]?) fun e11 =>
   Option.bind (fK 1 3) fun _ =>
   Option.bind (e8.toList[(Int.toNat 1)]?) fun e13 =>
   Option.bind (fK 2 3) fun _ =>
   Option.bind (e8.toList[(Int.toNat 2)]?) fun e15 =>
   aM (decide ((jI (jI e11 e13) e15) < 0)) fun x16 =>
   cond x16 (
    some true) (
    Option.bind (fK 0 3) fun _ =>
    Option.bind (e8.toList[(Int.toNat 0)]?) fun e18 =>
    Option.bind (fK 1 3) fun _ =>
    Option.bind (e8.toList[(Int.toNat 1)]?) fun e20 =>
    Option.bind (fK 2 3) fun _ =>
    Option.bind (e8.toList[(Int.toNat 2)]?) fun e22 =>
    aM (decide ((iS (iS e18 e20) e22) > 255)) fun x23 =>
    some x23)) fun p9 =>
   cond p9 (some (Sum.inr 5)) (eW N x5 a0 k (I64 (s7 + 1)))) (
   some (Sum.inl (())))

def eM (N : Nat) (a0 : aD) : Option (Int) :=
 Option.bind (dM N ([1, 2, 4, 8, 16]) a0.gE) fun r1 =>
 aM ((a0.gG.length : Int)) fun x2 =>
 aM (I64 (a0.gE * a0.gE)) fun x3 =>
 aM (cond (!r1) true (x2 != x3)) fun x4 =>
 cond x4 (
  some 5) (
  aM ((a0.gG.length : Int)) fun x5 =>
  Option.bind (eW N x5 a0 N 0) fun o => fW o (fun p6 =>
   some 0) (fun r => some r))

theorem pS {N a0 r} (h : eM N a0 = some r) : FnM Tryz.prog 41 [] [(aD.enc a0)] (j64 r) [] := by
 unfold eM at h
 refine At.f aD7 hT hmo Tryz.func41 rfl h ?_
 refine At.o 2 (cX hT (x := (.sl 1 5 [(j64 1), (j64 2), (j64 4), (j64 8), (j64 16)]))) ?_
 refine At.b 2 (fun _ e => aK [] (vT e)) fun r1 => ?_
 refine lx ?_; intro x2
 refine lx ?_; intro x3
 refine lx ?_; intro x4
 refine At.c 12 ?_ ?_
 ·apply rt; exact At.r 1
 ·refine lx ?_; intro x5
  refine At.LS 4 [] 0 (fun p6 => ([], [], [])) (fun op6 J k => ∃ s7, eW N x5 a0 k s7 = some op6 ∧ J [22, 23] 0 [(24, (j64 s7))] [] []) N (fun _ h => ⟨_, h, jr⟩) (fun op6 g6 k s hI => ?_) fun p6 => ?_
  ·obtain ⟨s7, h, hj⟩ := hI
   cases k with
   | zero => cases h
   | succ k =>
    refine At.jr hj ?_ h
    refine At.c 1 ?_ ?_
    ·refine At.b 0 (fun _ e => cC hT (eA 3 1 j64) e) fun e8 => ?_
     refine At.J 3 0 [22, 23, 24] 1 (fun p9 => ([(45, (eB p9))], [], [])) (fun p9 => ?_) fun p9 => ?_
     ·refine At.b 0 (fun _ e => bL hT (k := 1) 0 [] 0 e) fun u10 => ?_
      refine At.b 0 (fun _ e => nE hT j64 0 e) fun e11 => ?_
      refine At.b 0 (fun _ e => bL hT (k := 1) 0 [] 0 e) fun u12 => ?_
      refine At.b 0 (fun _ e => nE hT j64 0 e) fun e13 => ?_
      refine At.b 0 (fun _ e => bL hT (k := 1) 0 [] 0 e) fun u14 => ?_
      refine At.b 0 (fun _ e => nE hT j64 0 e) fun e15 => ?_
      refine At.o 0 (vN (k := .i64) (i := e11) (j := e13) (l := e15) (by kernel_rfl) (by kernel_rfl)) ?_
      refine lx ?_; intro x16
      refine At.s 36 2 ?_ ?_
      ·refine At.g [36] 9 ?_
       apply rt; exact At.jn 0
      ·refine At.b 0 (fun _ e => bL hT (k := 1) 0 [] 0 e) fun u17 => ?_
       refine At.b 0 (fun _ e => nE hT j64 0 e) fun e18 => ?_
       refine At.b 0 (fun _ e => bL hT (k := 1) 0 [] 0 e) fun u19 => ?_
       refine At.b 0 (fun _ e => nE hT j64 0 e) fun e20 => ?_
       refine At.b 0 (fun _ e => bL hT (k := 1) 0 [] 0 e) fun u21 => ?_
       refine At.b 0 (fun _ e => nE hT j64 0 e) fun e22 => ?_
       refine At.o 0 (wN (k := .i64) (i := e18) (j := e20) (l := e22) (by kernel_rfl) (by kernel_rfl)) ?_
       refine lx ?_; intro x23
       refine At.g [36] 2 ?_
       apply rt; exact At.jn 0
     ·refine At.c 0 ?_ ?_
      ·intro e; apply uY g6 e; exact At.r 1
      ·exact fun h => At.k 2 ⟨_, h, jr⟩
    ·apply rt; exact At.xs 0
  ·apply rt; exact At.r 1

def cE (N : Nat) (a0 : (List aD)) : Nat → Int → Option (Sum (Unit) (Int))
 | 0, _ => none
 | k + 1, s2 =>
  aM (decide (s2 < ((a0.length : Int)))) fun x3 =>
  cond x3 (
   Option.bind (idx a0 s2) fun e4 =>
   Option.bind (eM N e4) fun r5 =>
   cond (r5 != 0) (
    some (Sum.inr r5)) (
    cE N a0 k (I64 (s2 + 1)))) (
   some (Sum.inl (())))

def dD (N : Nat) (a0 : (List aD)) : Option (Int) :=
 Option.bind (cE N a0 N 0) fun o => fW o (fun p1 =>
  some 0) (fun r => some r)

theorem sO {N a0 r} (h : dD N a0 = some r) : FnM Tryz.prog 40 [] [(eL 2 aD.enc a0), (.fn (.func 41) [] [])] (j64 r) [] := by
 unfold dD at h
 refine At.f dG hT hmo Tryz.func40 rfl h ?_
 refine At.LS 4 [] 0 (fun p1 => ([], [], [])) (fun op1 J k => ∃ s2, cE N a0 k s2 = some op1 ∧ J [1, 8, 9] 0 [(10, (j64 s2))] [] []) N (fun _ h => ⟨_, h, jr⟩) (fun op1 g1 k s hI => ?_) fun p1 => ?_
 ·obtain ⟨s2, h, hj⟩ := hI
  cases k with
  | zero => cases h
  | succ k =>
   refine At.jr hj ?_ h
   refine lx ?_; intro x3
   refine At.c 1 ?_ ?_
   ·refine At.b 0 (fun _ e => cC hT aD.enc e) fun e4 => ?_
    refine At.b 5 (fun _ e => aK [] (pS e)) fun r5 => ?_
    refine At.c 3 ?_ ?_
    ·intro e; apply uY g1 e; exact At.r 2
    ·exact fun h => At.k 2 ⟨_, h, jr⟩
   ·apply rt; exact At.xs 0
 ·apply rt; exact At.r 1

def aEC : Nat → Bool := imL [1]

def iJ (N : Nat) (a0 : aA) : Option (Bool) :=
 Option.bind (aM (decide ((iS (iS a0.gX a0.gY) a0.gZ) > 4096)) fun x2 =>
 cond x2 (
  some true) (
  aM (decide ((jI (jI a0.gX a0.gY) a0.gZ) < (-4096))) fun x3 =>
  some x3)) fun p1 =>
 some p1

theorem sX {N a0 r} (h : iJ N a0 = some r) : FnM Tryz.prog 95 [] [(aA.enc a0)] (eB r) [] := by
 unfold iJ at h
 refine At.f aEC hT hmo Tryz.func95 rfl h ?_
 refine At.J 2 0 [] 0 (fun p1 => ([(2, (eB p1))], [], [])) (fun p1 => ?_) fun p1 => ?_
 ·refine At.o 6 (wN (k := .i64) (i := a0.gX) (j := a0.gY) (l := a0.gZ) (by kernel_rfl) (by kernel_rfl)) ?_
  refine lx ?_; intro x2
  refine At.s 11 2 ?_ ?_
  ·refine At.g [11] 10 ?_
   apply rt; exact At.jn 0
  ·refine At.g [11] 6 ?_
   refine At.o 0 (vN (k := .i64) (i := a0.gX) (j := a0.gY) (l := a0.gZ) (by kernel_rfl) (by kernel_rfl)) ?_
   refine lx ?_; intro x3
   refine At.g [11] 3 ?_
   apply rt; exact At.jn 0
 ·apply rt; exact At.r 0

def aFl : Nat → Bool := imL [1]

def iE (N : Nat) (a0 : aN) : Option (Int) :=
 Option.bind (Option.bind (fV N 2 ([a0.gF])) fun r2 =>
 cond r2 (
  some true) (
  Option.bind (uF a0.gL.toList 0 3) fun s3 =>
  Option.bind (fV N 1048576 s3) fun r4 =>
  some r4)) fun p1 =>
 cond p1 (
  some 5) (
  Option.bind (Option.bind (iJ N a0.gAt) fun r6 =>
  cond r6 (
   some true) (
   Option.bind (iJ N a0.gU) fun r7 =>
   cond r7 (
    some true) (
    Option.bind (iJ N a0.gV) fun r8 =>
    some r8))) fun p5 =>
  cond p5 (
   some 8) (
   Option.bind (cond (a0.gF == 2) (
    cond (!(aA.eq a0.gAt (aA.mk 0 0 0))) (
     some (Sum.inr 5)) (
     Option.bind (aM (!(aA.eq a0.gU (aA.mk 0 0 0))) fun x11 =>
     cond x11 (
      some true) (
      some (!(aA.eq a0.gV (aA.mk 0 0 0))))) fun p10 =>
     cond p10 (some (Sum.inr 5)) (some (Sum.inl (()))))) (
    cond (a0.gF == 0) (
     Option.bind (aM (!(aA.eq a0.gU (aA.mk 0 0 0))) fun x13 =>
     cond x13 (
      some true) (
      some (!(aA.eq a0.gV (aA.mk 0 0 0))))) fun p12 =>
     cond p12 (some (Sum.inr 5)) (some (Sum.inl (())))) (
     some (Sum.inl (()))))) fun o => fW o (fun p9 =>
    some 0) (fun r => some r)))

theorem aAn {N a0 r} (h : iE N a0 = some r) : FnM Tryz.prog 43 [] [(aN.enc a0)] (j64 r) [] := by
 unfold iE at h
 refine At.f aFl hT hmo Tryz.func43 rfl h ?_
 refine At.J 6 0 [1, 3, 4] 1 (fun p1 => ([(6, (eB p1))], [], [])) (fun p1 => ?_) fun p1 => ?_
 ·refine At.o 2 (cX hT (x := (.sl 1 1 [(j64 a0.gF)]))) ?_
  refine At.b 0 (fun _ e => aK [] (pU e)) fun r2 => ?_
  refine At.s 11 1 ?_ ?_
  ·refine At.g [11] 5 ?_
   apply rt; exact At.jn 0
  ·refine At.g [11] 1 ?_
   refine At.b 0 (fun _ e => zF hT (N := 3) (k := 1) j64 a0.gL e) fun s3 => ?_
   refine At.b 0 (fun _ e => aK [] (pU e)) fun r4 => ?_
   refine At.g [11] 2 ?_
   apply rt; exact At.jn 0
 ·refine At.c 0 ?_ ?_
  ·apply rt; exact At.r 1
  ·refine At.J 0 0 [1, 4] 1 (fun p5 => ([(16, (eB p5))], [], [])) (fun p5 => ?_) fun p5 => ?_
   ·refine At.b 3 (fun _ e => aK [] (sX e)) fun r6 => ?_
    refine At.s 21 1 ?_ ?_
    ·refine At.g [21, 27] 12 ?_
     apply rt; exact At.jn 0
    ·refine At.g [21] 3 ?_
     refine At.b 0 (fun _ e => aK [] (sX e)) fun r7 => ?_
     refine At.g [21] 2 ?_
     refine At.s 27 0 ?_ ?_
     ·refine At.g [27] 6 ?_
      apply rt; exact At.jn 0
     ·refine At.g [27] 3 ?_
      refine At.b 0 (fun _ e => aK [] (sX e)) fun r8 => ?_
      refine At.g [27] 2 ?_
      apply rt; exact At.jn 0
   ·refine At.c 0 ?_ ?_
    ·apply rt; exact At.r 1
    ·refine At.JS 0 1 [] 1 (fun p9 => ([], [], [])) (fun op9 g9 => ?_) fun p9 => ?_
     ·refine At.c 4 ?_ ?_
      ·refine At.o 3 (pX rX (a0.gAt : aA) (aA.mk 0 0 0 : aA) (by kernel_rfl) (by kernel_rfl) (fun _ => rfl) (fun _ => rfl) (by kernel_rfl) (by kernel_rfl)) ?_
       refine At.c 0 ?_ ?_
       ·intro e; apply uY g9 e; exact At.r 1
       ·refine At.J 0 0 [] 1 (fun p10 => ([(52, (eB p10))], [], [])) (fun p10 => ?_) fun p10 => ?_
        ·refine At.o 3 (pX rX (a0.gU : aA) (aA.mk 0 0 0 : aA) (by kernel_rfl) (by kernel_rfl) (fun _ => rfl) (fun _ => rfl) (by kernel_rfl) (by kernel_rfl)) ?_
         refine lx ?_; intro x11
         refine At.s 47 1 ?_ ?_
         ·refine At.g [47] 5 ?_
          apply rt; exact At.jn 0
         ·refine At.g [47] 3 ?_
          refine At.o 0 (pX rX (a0.gV : aA) (aA.mk 0 0 0 : aA) (by kernel_rfl) (by kernel_rfl) (fun _ => rfl) (fun _ => rfl) (by kernel_rfl) (by kernel_rfl)) ?_
          refine At.g [47] 1 ?_
          apply rt; exact At.jn 0
        ·refine At.c 0 ?_ ?_
         ·intro e; apply uY g9 e; exact At.r 1
         ·apply rt; exact At.jsn 0
      ·refine At.c 2 ?_ ?_
       ·refine At.J 0 0 [] 1 (fun p12 => ([(52, (eB p12))], [], [])) (fun p12 => ?_) fun p12 => ?_
        ·refine At.o 3 (pX rX (a0.gU : aA) (aA.mk 0 0 0 : aA) (by kernel_rfl) (by kernel_rfl) (fun _ => rfl) (fun _ => rfl) (by kernel_rfl) (by kernel_rfl)) ?_
         refine lx ?_; intro x13
         refine At.s 47 1 ?_ ?_
         ·refine At.g [47] 5 ?_
          apply rt; exact At.jn 0
         ·refine At.g [47] 3 ?_
          refine At.o 0 (pX rX (a0.gV : aA) (aA.mk 0 0 0 : aA) (by kernel_rfl) (by kernel_rfl) (fun _ => rfl) (fun _ => rfl) (by kernel_rfl) (by kernel_rfl)) ?_
          refine At.g [47] 1 ?_
          apply rt; exact At.jn 0
        ·refine At.c 0 ?_ ?_
         ·intro e; apply uY g9 e; exact At.r 1
         ·apply rt; exact At.jsn 0
       ·apply rt; exact At.jsn 0
     ·apply rt; exact At.r 1

def cM (N : Nat) (a0 : (List aN)) : Nat → Int → Option (Sum (Unit) (Int))
 | 0, _ => none
 | k + 1, s2 =>
  aM (decide (s2 < ((a0.length : Int)))) fun x3 =>
  cond x3 (
   Option.bind (idx a0 s2) fun e4 =>
   Option.bind (iE N e4) fun r5 =>
   cond (r5 != 0) (
    some (Sum.inr r5)) (
    cM N a0 k (I64 (s2 + 1)))) (
   some (Sum.inl (())))

def dJ (N : Nat) (a0 : (List aN)) : Option (Int) :=
 Option.bind (cM N a0 N 0) fun o => fW o (fun p1 =>
  some 0) (fun r => some r)

theorem tE {N a0 r} (h : dJ N a0 = some r) : FnM Tryz.prog 42 [] [(eL 13 aN.enc a0), (.fn (.func 43) [] [])] (j64 r) [] := by
 unfold dJ at h
 refine At.f dG hT hmo Tryz.func42 rfl h ?_
 refine At.LS 4 [] 0 (fun p1 => ([], [], [])) (fun op1 J k => ∃ s2, cM N a0 k s2 = some op1 ∧ J [1, 8, 9] 0 [(10, (j64 s2))] [] []) N (fun _ h => ⟨_, h, jr⟩) (fun op1 g1 k s hI => ?_) fun p1 => ?_
 ·obtain ⟨s2, h, hj⟩ := hI
  cases k with
  | zero => cases h
  | succ k =>
   refine At.jr hj ?_ h
   refine lx ?_; intro x3
   refine At.c 1 ?_ ?_
   ·refine At.b 0 (fun _ e => cC hT aN.enc e) fun e4 => ?_
    refine At.b 5 (fun _ e => aK [] (aAn e)) fun r5 => ?_
    refine At.c 3 ?_ ?_
    ·intro e; apply uY g1 e; exact At.r 2
    ·exact fun h => At.k 2 ⟨_, h, jr⟩
   ·apply rt; exact At.xs 0
 ·apply rt; exact At.r 1

def aFv : Nat → Bool := imL [1]

def dW (N : Nat) (a0 : aG) : Option (Int) :=
 aM ((a0.gA2.length : Int)) fun x1 =>
 aM (x1 != ((a0.gA1.length : Int))) fun x2 =>
 cond x2 (
  some 5) (
  Option.bind (dI N a0.gM a0) fun r3 =>
  cond (r3 != 0) (
   some r3) (
   Option.bind (cR N a0.gQ) fun r4 =>
   cond (r4 != 0) (
    some r4) (
    Option.bind (dD N a0.gK) fun r5 =>
    cond (r5 != 0) (
     some r5) (
     Option.bind (dJ N a0.gR) fun r6 =>
     some r6))))

theorem bC {N a0 r} (h : dW N a0 = some r) : FnM Tryz.prog 14 [] [(aG.enc a0)] (j64 r) [] := by
 unfold dW at h
 refine At.f aFv hT hmo Tryz.func14 rfl h ?_
 refine lx ?_; intro x1
 refine lx ?_; intro x2
 refine At.c 9 ?_ ?_
 ·apply rt; exact At.r 1
 ·refine At.o 2 (oC (x := (.fn (.func 36) [] [(.im (aG.enc a0))])) (by kernel_rfl) (by kernel_rfl)) ?_
  refine At.b 0 (fun _ e => aK [] (tF e)) fun r3 => ?_
  refine At.c 3 ?_ ?_
  ·apply rt; exact At.r 2
  ·refine At.b 2 (fun _ e => aK [] (qB e)) fun r4 => ?_
   refine At.c 3 ?_ ?_
   ·apply rt; exact At.r 2
   ·refine At.b 2 (fun _ e => aK [] (sO e)) fun r5 => ?_
    refine At.c 3 ?_ ?_
    ·apply rt; exact At.r 2
    ·refine At.b 2 (fun _ e => aK [] (tE e)) fun r6 => ?_
     apply rt; exact At.r 1


def aId : Nat → Bool := imL [1]

def qV (N : Nat) (a0 : aA) : Option (Bool) :=
 Option.bind (aM (!(aA.eq a0 (aA.mk 0 0 0))) fun x2 =>
 cond x2 (
  aM (decide ((iS (iS a0.gX a0.gY) a0.gZ) ≤ 16384)) fun x3 =>
  cond x3 (
   aM (decide ((jI (jI a0.gX a0.gY) a0.gZ) ≥ (-16384))) fun x4 =>
   some x4) (
   some false)) (
  some false)) fun p1 =>
 some p1

theorem aAi {N a0 r} (h : qV N a0 = some r) : FnM Tryz.prog 98 [] [(aA.enc a0)] (eB r) [] := by
 unfold qV at h
 refine At.f aId hT hmo Tryz.func98 rfl h ?_
 refine At.J 2 0 [] 0 (fun p1 => ([(2, (eB p1))], [], [])) (fun p1 => ?_) fun p1 => ?_
 ·refine At.o 2 (pX rX (a0 : aA) (aA.mk 0 0 0 : aA) (by kernel_rfl) (by kernel_rfl) (fun _ => rfl) (fun _ => rfl) (by kernel_rfl) (by kernel_rfl)) ?_
  refine lx ?_; intro x2
  refine At.s 6 1 ?_ ?_
  ·refine At.g [6] 6 ?_
   refine At.o 0 (wN (k := .i64) (i := a0.gX) (j := a0.gY) (l := a0.gZ) (by kernel_rfl) (by kernel_rfl)) ?_
   refine lx ?_; intro x3
   refine At.g [6] 3 ?_
   refine At.s 16 0 ?_ ?_
   ·refine At.g [16] 6 ?_
    refine At.o 0 (vN (k := .i64) (i := a0.gX) (j := a0.gY) (l := a0.gZ) (by kernel_rfl) (by kernel_rfl)) ?_
    refine lx ?_; intro x4
    refine At.g [16] 3 ?_
    apply rt; exact At.jn 0
   ·refine At.g [16] 10 ?_
    apply rt; exact At.jn 0
  ·refine At.g [6, 16] 20 ?_
   apply rt; exact At.jn 0
 ·apply rt; exact At.r 0

def kI (N : Nat) (a0 : Int) (a1 : Int) (a2 : Int) : Option (Bool) :=
 aM (cond (decide (a0 ≥ a1)) (decide (a0 ≤ a2)) false) fun x1 =>
 some x1

theorem qP {N a0 a1 a2 r} (h : kI N a0 a1 a2 = some r) : FnM Tryz.prog 97 [] [(j64 a0), (j64 a1), (j64 a2)] (eB r) [] := by
 unfold kI at h
 refine At.f dG hT hmo Tryz.func97 rfl h ?_
 refine lx ?_; intro x1
 apply rt; exact At.r 10

def aGk : Nat → Bool := imL [3]

def mI (N : Nat) (a0 : bR) (a1 : Int) (a2 : Int) : Option (Int) :=
 Option.bind (aM (decide ((iS (iS a0.gJ.gX a0.gJ.gY) a0.gJ.gZ) > 32768)) fun x2 =>
 cond x2 (
  some true) (
  aM (decide ((jI (jI a0.gJ.gX a0.gJ.gY) a0.gJ.gZ) < (-32768))) fun x3 =>
  some x3)) fun p1 =>
 cond p1 (
  some 8) (
  Option.bind (Option.bind (qV N a0.gA6) fun r5 =>
  cond (!r5) (
   some true) (
   Option.bind (qV N a0.gUp) fun r6 =>
   cond (!r6) (
    some true) (
    Option.bind (qV N a0.gC0) fun r7 =>
    some (!r7)))) fun p4 =>
  cond p4 (
   some 2) (
   Option.bind (Option.bind (kI N a0.gB0 0 1024) fun r9 =>
   cond (!r9) (
    some true) (
    Option.bind (kI N a0.gB3 1 32768) fun r10 =>
    cond (!r10) (
     some true) (
     Option.bind (kI N a1 1 64) fun r11 =>
     cond (!r11) (
      some true) (
      Option.bind (kI N a2 1 64) fun r12 =>
      some (!r12))))) fun p8 =>
   cond p8 (some 2) (some 0)))

theorem aBS {N a0 a1 a2 r} (h : mI N a0 a1 a2 = some r) : FnM Tryz.prog 48 [] [(bR.enc a0), (j64 a1), (j64 a2)] (j64 r) [] := by
 unfold mI at h
 refine At.f aGk hT hmo Tryz.func48 rfl h ?_
 refine At.J 7 0 [1, 2, 3, 8] 1 (fun p1 => ([(11, (eB p1))], [], [])) (fun p1 => ?_) fun p1 => ?_
 ·refine At.o 6 (wN (k := .i64) (i := a0.gJ.gX) (j := a0.gJ.gY) (l := a0.gJ.gZ) (by kernel_rfl) (by kernel_rfl)) ?_
  refine lx ?_; intro x2
  refine At.s 20 2 ?_ ?_
  ·refine At.g [20] 10 ?_
   apply rt; exact At.jn 0
  ·refine At.g [20] 6 ?_
   refine At.o 0 (vN (k := .i64) (i := a0.gJ.gX) (j := a0.gJ.gY) (l := a0.gJ.gZ) (by kernel_rfl) (by kernel_rfl)) ?_
   refine lx ?_; intro x3
   refine At.g [20] 3 ?_
   apply rt; exact At.jn 0
 ·refine At.c 0 ?_ ?_
  ·apply rt; exact At.r 1
  ·refine At.J 0 0 [1, 2, 3, 8] 1 (fun p4 => ([(30, (eB p4))], [], [])) (fun p4 => ?_) fun p4 => ?_
   ·refine At.b 2 (fun _ e => aK [] (aAi e)) fun r5 => ?_
    refine At.s 35 2 ?_ ?_
    ·refine At.g [35, 41] 12 ?_
     apply rt; exact At.jn 0
    ·refine At.g [35] 2 ?_
     refine At.b 0 (fun _ e => aK [] (aAi e)) fun r6 => ?_
     refine At.g [35] 3 ?_
     refine At.s 41 0 ?_ ?_
     ·refine At.g [41] 6 ?_
      apply rt; exact At.jn 0
     ·refine At.g [41] 2 ?_
      refine At.b 0 (fun _ e => aK [] (aAi e)) fun r7 => ?_
      refine At.g [41] 3 ?_
      apply rt; exact At.jn 0
   ·refine At.c 0 ?_ ?_
    ·apply rt; exact At.r 1
    ·refine At.J 0 0 [] 1 (fun p8 => ([(47, (eB p8))], [], [])) (fun p8 => ?_) fun p8 => ?_
     ·refine At.b 3 (fun _ e => aK [] (qP e)) fun r9 => ?_
      refine At.s 53 2 ?_ ?_
      ·refine At.g [53, 60, 66] 19 ?_
       apply rt; exact At.jn 0
      ·refine At.g [53] 3 ?_
       refine At.b 0 (fun _ e => aK [] (qP e)) fun r10 => ?_
       refine At.g [53] 3 ?_
       refine At.s 60 0 ?_ ?_
       ·refine At.g [60, 66] 12 ?_
        apply rt; exact At.jn 0
       ·refine At.g [60] 2 ?_
        refine At.b 0 (fun _ e => aK [] (qP e)) fun r11 => ?_
        refine At.g [60] 3 ?_
        refine At.s 66 0 ?_ ?_
        ·refine At.g [66] 6 ?_
         apply rt; exact At.jn 0
        ·refine At.g [66] 2 ?_
         refine At.b 0 (fun _ e => aK [] (qP e)) fun r12 => ?_
         refine At.g [66] 3 ?_
         apply rt; exact At.jn 0
     ·refine At.c 0 ?_ ?_
      ·apply rt; exact At.r 1
      ·apply rt; exact At.r 1

def aHq : Nat → Bool := imL [1]

def fU (N : Nat) (a0 : aI) : Option (Int) :=
 Option.bind (mI N a0.gC7 a0.gW a0.gH) fun r1 =>
 cond (r1 != 0) (
  some r1) (
  aM (decide (a0.gA5 < 1)) fun x2 =>
  aM (decide (a0.gA5 > 16)) fun x3 =>
  aM (cond (cond x2 true x3) true (decide (a0.gA0 < 0))) fun x4 =>
  aM (cond x4 true (decide (a0.gA0 > 8))) fun x5 =>
  aM (cond x5 true (decide (a0.gS < 0))) fun x6 =>
  aM (cond x6 true (decide (a0.gS > 2))) fun x7 =>
  cond x7 (some 2) (some 0))

theorem bW {N a0 r} (h : fU N a0 = some r) : FnM Tryz.prog 16 [] [(aI.enc a0)] (j64 r) [] := by
 unfold fU at h
 refine At.f aHq hT hmo Tryz.func16 rfl h ?_
 refine At.b 8 (fun _ e => aK [] (aBS e)) fun r1 => ?_
 refine At.c 3 ?_ ?_
 ·apply rt; exact At.r 2
 ·refine lx ?_; intro x2
  refine lx ?_; intro x3
  refine lx ?_; intro x4
  refine lx ?_; intro x5
  refine lx ?_; intro x6
  refine lx ?_; intro x7
  refine At.c 28 ?_ ?_
  ·apply rt; exact At.r 1
  ·apply rt; exact At.r 1

def iI (N : Nat) (a0 : Int) : Option (Int × Int) :=
 cond (a0 == 0) (
  some ((16, 4))) (
  cond (a0 == 1) (
   some ((64, 4))) (
   cond (a0 == 2) (some ((256, 8))) (some ((0, 0)))))

theorem pO {N a0 r} (h : iI N a0 = some r) : FnM Tryz.prog 27 [] [(j64 a0)] (.tup [(j64 r.1), (j64 r.2)]) [] := by
 unfold iI at h
 refine At.f dG hT hmo Tryz.func27 rfl h ?_
 refine At.c 5 ?_ ?_
 ·apply rt; exact At.r 2
 ·refine At.c 2 ?_ ?_
  ·apply rt; exact At.r 2
  ·refine At.c 2 ?_ ?_
   ·apply rt; exact At.r 2
   ·apply rt; exact At.r 2

def aFQ : Nat → Bool := imL [2]

def kG (N : Nat) (a0 : aG) (a1 : Int) : Option (Int) :=
 Option.bind (iI N a1) fun r1 =>
 aM ((a0.gM.length : Int)) fun x2 =>
 aM ((a0.gR.length : Int)) fun x3 =>
 aM (cond (decide (x2 > r1.1)) true (decide (x3 > r1.2))) fun x4 =>
 cond x4 (some 15) (some 0)

theorem aD2 {N a0 a1 r} (h : kG N a0 a1 = some r) : FnM Tryz.prog 24 [] [(aG.enc a0), (j64 a1)] (j64 r) [] := by
 unfold kG at h
 refine At.f aFQ hT hmo Tryz.func24 rfl h ?_
 refine At.b 3 (fun _ e => aK [] (pO e)) fun r1 => ?_
 refine lx ?_; intro x2
 refine lx ?_; intro x3
 refine lx ?_; intro x4
 refine At.c 17 ?_ ?_
 ·apply rt; exact At.r 1
 ·apply rt; exact At.r 1

def pH (N : Nat) (a0 : Int) : Option (Int × Bool) :=
 cond (decide (a0 < 0)) (some ((U64 (0 - (U64 a0)), true))) (some ((U64 a0, false)))

theorem zS {N a0 r} (h : pH N a0 = some r) : FnM Tryz.prog 216 [] [(j64 a0)] (.tup [(k64 r.1), (eB r.2)]) [] := by
 unfold pH at h
 refine At.f dG hT hmo Tryz.func216 rfl h ?_
 refine At.c 4 ?_ ?_
 ·apply rt; exact At.r 5
 ·apply rt; exact At.r 4

def jB (N : Nat) (a0 : Int) (a1 : Int) : Option (Int × Int) :=
 aM (iX .u64 a0 4294967295) fun x1 =>
 aM (iX .u64 a1 4294967295) fun x2 =>
 aM (U64 ((shr .u64 a0 32) * x2)) fun x3 =>
 aM (shr .u64 (U64 (x1 * x2)) 32) fun x4 =>
 aM (iX .u64 (U64 (x3 + x4)) 4294967295) fun x5 =>
 aM (shr .u64 (U64 (x3 + x4)) 32) fun x6 =>
 aM (U64 (x1 * (shr .u64 a1 32))) fun x7 =>
 aM (U64 ((shr .u64 a0 32) * (shr .u64 a1 32))) fun x8 =>
 aM (shr .u64 (U64 (x5 + x7)) 32) fun x9 =>
 aM (U64 ((U64 (x8 + x6)) + x9)) fun x10 =>
 some ((x10, U64 (a0 * a1)))

theorem vY {N a0 a1 r} (h : jB N a0 a1 = some r) : FnM Tryz.prog 183 [] [(k64 a0), (k64 a1)] (.tup [(k64 r.1), (k64 r.2)]) [] := by
 unfold jB at h
 refine At.f dG hT hmo Tryz.func183 rfl h ?_
 refine lx ?_; intro x1
 refine lx ?_; intro x2
 refine lx ?_; intro x3
 refine lx ?_; intro x4
 refine lx ?_; intro x5
 refine lx ?_; intro x6
 refine lx ?_; intro x7
 refine lx ?_; intro x8
 refine lx ?_; intro x9
 refine lx ?_; intro x10
 apply rt; exact At.r 50

theorem aJg {x y c : Int} {r : Int × Int} (h : aBG x y c = some r) : aEe Tryz.prog 254 [.int .u64 x, .int .u64 y, .int .u64 c] (.tuple #[.int .u64 r.1, .int .u64 r.2]) :=
 aKf Tryz.func254 (by kernel_rfl) (by kernel_rfl) (by kernel_rfl) (by kernel_rfl) h

def nA (N : Nat) (a0 : Int) (a1 : Int) : Option (Int × Int) :=
 Option.bind (aBG 0 a1 0) fun r1 =>
 Option.bind (aBG 0 a0 r1.2) fun r2 =>
 some ((r2.1, r1.1))

theorem aAl {N a0 a1 r} (h : nA N a0 a1 = some r) : FnM Tryz.prog 215 [] [(k64 a0), (k64 a1)] (.tup [(k64 r.1), (k64 r.2)]) [] := by
 unfold nA at h
 refine At.f dG hT hmo Tryz.func215 rfl h ?_
 refine At.b 3 (fun _ e => aCq (aJg e) (fun _ => aCW)) fun r1 => ?_
 refine At.b 7 (fun _ e => aCq (aJg e) (fun _ => aCW)) fun r2 => ?_
 apply rt; exact At.r 8

def lE (N : Nat) (a0 : Int) (a1 : Int) (a2 : Bool) : Option (aO × Bool) :=
 Option.bind (cond a2 (
  Option.bind (nA N a0 a1) fun r2 =>
  some ((r2.1, r2.2))) (
  some ((a0, a1)))) fun p1 =>
 aM (decide ((I64 p1.1) < 0)) fun x3 =>
 aM ((bor .u64 p1.1 p1.2) == 0) fun x4 =>
 aM (cond (x3 == a2) true x4) fun x5 =>
 some ((aO.mk (I64 p1.1) p1.2, x5))

theorem aAe {N a0 a1 a2 r} (h : lE N a0 a1 a2 = some r) : FnM Tryz.prog 217 [] [(k64 a0), (k64 a1), (eB a2)] (.tup [(aO.enc r.1), (eB r.2)]) [] := by
 unfold lE at h
 refine At.f dG hT hmo Tryz.func217 rfl h ?_
 refine At.J 2 1 [2, 6] 1 (fun p1 => ([(0, (k64 p1.1)), (1, (k64 p1.2))], [], [])) (fun p1 => ?_) fun p1 => ?_
 ·refine At.c 1 ?_ ?_
  ·refine At.b 2 (fun _ e => aK [] (aAl e)) fun r2 => ?_
   apply rt; exact At.jn 5
  ·apply rt; exact At.jn 0
 ·refine lx ?_; intro x3
  refine lx ?_; intro x4
  refine lx ?_; intro x5
  apply rt; exact At.r 20

def hO (N : Nat) (a0 : Int) (a1 : Int) : Option (aO) :=
 Option.bind (pH N a0) fun r1 =>
 Option.bind (pH N a1) fun r2 =>
 Option.bind (jB N r1.1 r2.1) fun r3 =>
 Option.bind (lE N r3.1 r3.2 (!(r1.2 == r2.2))) fun r4 =>
 some r4.1

theorem jM {N a0 a1 r} (h : hO N a0 a1 = some r) : FnM Tryz.prog 154 [] [(j64 a0), (j64 a1)] (aO.enc r) [] := by
 unfold hO at h
 refine At.f dG hT hmo Tryz.func154 rfl h ?_
 refine At.b 2 (fun _ e => aK [] (zS e)) fun r1 => ?_
 refine At.b 6 (fun _ e => aK [] (zS e)) fun r2 => ?_
 refine At.b 7 (fun _ e => aK [] (vY e)) fun r3 => ?_
 refine At.b 10 (fun _ e => aK [] (aAe e)) fun r4 => ?_
 apply rt; exact At.r 8

def aI7 : Nat → Bool := imL [1]

def oT (N : Nat) (a0 : aO) : Option (Int × Bool) :=
 aM (shr .i64 (I64 a0.gLo) 63) fun x1 =>
 cond (a0.gHi != x1) (some ((0, false))) (some ((I64 a0.gLo, true)))

theorem uD {N a0 r} (h : oT N a0 = some r) : FnM Tryz.prog 218 [] [(aO.enc a0)] (.tup [(j64 r.1), (eB r.2)]) [] := by
 unfold oT at h
 refine At.f aI7 hT hmo Tryz.func218 rfl h ?_
 refine lx ?_; intro x1
 refine At.c 12 ?_ ?_
 ·apply rt; exact At.r 2
 ·apply rt; exact At.r 3

def aI0 : Nat → Bool := imL [1]

def rB (N : Nat) (a0 : aO) : Option (Int) :=
 Option.bind (oT N a0) fun r1 =>
 cond r1.2 (
  some r1.1) (
  cond (decide (a0.gHi < 0)) (some (-9223372036854775808)) (some 9223372036854775807))

theorem aAx {N a0 r} (h : rB N a0 = some r) : FnM Tryz.prog 155 [] [(aO.enc a0)] (j64 r) [] := by
 unfold rB at h
 refine At.f aI0 hT hmo Tryz.func155 rfl h ?_
 refine At.b 3 (fun _ e => aK [] (uD e)) fun r1 => ?_
 refine At.c 6 ?_ ?_
 ·apply rt; exact At.r 2
 ·refine At.c 3 ?_ ?_
  ·apply rt; exact At.r 1
  ·apply rt; exact At.r 1

def jA (N : Nat) (a0 : Int) : Option (Int) :=
 Option.bind (hO N a0 4294967296) fun r1 =>
 Option.bind (rB N r1) fun r2 =>
 some r2

theorem jZ {N a0 r} (h : jA N a0 = some r) : FnM Tryz.prog 82 [] [(j64 a0)] (j64 r) [] := by
 unfold jA at h
 refine At.f dG hT hmo Tryz.func82 rfl h ?_
 refine At.b 2 (fun _ e => aK [] (jM e)) fun r1 => ?_
 refine At.b 0 (fun _ e => aK [] (aAx e)) fun r2 => ?_
 apply rt; exact At.r 1

def mL (N : Nat) (a0 : Int) : Option (Int) :=
 Option.bind (aM (decide (a0 ≥ 4294967296)) fun x2 =>
 cond x2 (some ((shr .u64 a0 32, 32))) (some ((a0, 0)))) fun p1 =>
 Option.bind (cond (decide (p1.1 ≥ 65536)) (
  some ((shr .u64 p1.1 16, I64 (p1.2 + 16)))) (
  some ((p1.1, p1.2)))) fun p3 =>
 Option.bind (cond (decide (p3.1 ≥ 256)) (some ((shr .u64 p3.1 8, I64 (p3.2 + 8)))) (some ((p3.1, p3.2)))) fun p4 =>
 Option.bind (idx aJ2.data.toList (U8 p4.1)) fun c5 =>
 aM (I64 ((UInt8.toNat c5 : Int))) fun x6 =>
 some (I64 (p4.2 + x6))

theorem aB6 {N a0 r} (h : mL N a0 = some r) : FnM Tryz.prog 236 [] [(k64 a0)] (j64 r) [] := by
 unfold mL at h
 refine At.f dG hT hmo Tryz.func236 rfl h ?_
 refine At.J 1 1 [] 0 (fun p1 => ([(0, (k64 p1.1)), (2, (j64 p1.2))], [], [])) (fun p1 => ?_) fun p1 => ?_
 ·refine lx ?_; intro x2
  refine At.c 2 ?_ ?_
  ·apply rt; exact At.jn 4
  ·apply rt; exact At.jn 0
 ·refine At.J 0 1 [] 0 (fun p3 => ([(0, (k64 p3.1)), (2, (j64 p3.2))], [], [])) (fun p3 => ?_) fun p3 => ?_
  ·refine At.c 2 ?_ ?_
   ·apply rt; exact At.jn 6
   ·apply rt; exact At.jn 0
  ·refine At.J 0 1 [] 0 (fun p4 => ([(0, (k64 p4.1)), (2, (j64 p4.2))], [], [])) (fun p4 => ?_) fun p4 => ?_
   ·refine At.c 2 ?_ ?_
    ·apply rt; exact At.jn 6
    ·apply rt; exact At.jn 0
   ·refine At.b 3 (fun _ e => aMv hT e (by kernel_rfl) (by kernel_rfl)) fun c5 => ?_
    refine lx ?_; intro x6
    apply rt; exact At.r 3

def iZ (N : Nat) (a0 : Int) : Option (Int) :=
 Option.bind (mL N a0) fun r1 =>
 some (I64 (64 - r1))

theorem vG {N a0 r} (h : iZ N a0 = some r) : FnM Tryz.prog 188 [] [(k64 a0)] (j64 r) [] := by
 unfold iZ at h
 refine At.f dG hT hmo Tryz.func188 rfl h ?_
 refine At.b 2 (fun _ e => aK [] (aB6 e)) fun r1 => ?_
 apply rt; exact At.r 2

def kF (N : Nat) (x5 : Int) : Nat → Int → Int → Int → Int → Int → Option (Int × Int × Int × Int)
 | 0, _, _, _, _, _ => none
 | k + 1, s14, s15, s16, s17, s18 =>
  aM (decide (s17 ≥ 4294967296)) fun x19 =>
  aM (U64 ((U64 (4294967296 * s18)) + s16)) fun x20 =>
  aM (decide ((U64 (s17 * x5)) > x20)) fun x21 =>
  cond (cond x19 true x21) (
   aM (decide ((U64 (s18 + s14)) ≥ 4294967296)) fun x22 =>
   cond x22 (
    some ((s14, s15, s16, U64 (s17 - 1)))) (
    kF N x5 k s14 s15 s16 (U64 (s17 - 1)) (U64 (s18 + s14)))) (
   some ((s14, s15, s16, s17)))

def kE (N : Nat) (x9 : Int) (x5 : Int) (p13 : Int × Int × Int × Int) : Nat → Int → Int → Option (Int)
 | 0, _, _ => none
 | k + 1, s28, s29 =>
  aM (decide (s29 ≥ 4294967296)) fun x30 =>
  aM (U64 ((U64 (4294967296 * s28)) + x9)) fun x31 =>
  aM (decide ((U64 (s29 * x5)) > x31)) fun x32 =>
  cond (cond x30 true x32) (
   aM (decide ((U64 (s28 + p13.1)) ≥ 4294967296)) fun x33 =>
   cond x33 (
    some (U64 (s29 - 1))) (
    kE N x9 x5 p13 k (U64 (s28 + p13.1)) (U64 (s29 - 1)))) (
   some s29)

def hQ (N : Nat) (a0 : Int) (a1 : Int) (a2 : Int) : Option (Int × Int) :=
 cond (a2 == 0) (
  none) (
  cond (decide (a2 ≤ a0)) (
   none) (
   cond (a0 == 0) (
    Option.bind (aHW .u64 a1 a2) fun x1 =>
    Option.bind (aMH .u64 a1 a2) fun x2 =>
    some ((x1, x2))) (
    Option.bind (iZ N a2) fun r3 =>
    Option.bind (aHR .u64 a2 (U64 r3)) fun x4 =>
    aM (iX .u64 x4 4294967295) fun x5 =>
    Option.bind (aHR .u64 a0 (U64 r3)) fun x6 =>
    Option.bind (aD5 .u64 a1 (U64 (64 - (U64 r3)))) fun x7 =>
    Option.bind (aHR .u64 a1 (U64 r3)) fun x8 =>
    aM (iX .u64 x8 4294967295) fun x9 =>
    Option.bind (aHW .u64 (bor .u64 x6 x7) (shr .u64 x4 32)) fun x10 =>
    aM (U64 (x10 * (shr .u64 x4 32))) fun x11 =>
    aM (U64 ((bor .u64 x6 x7) - x11)) fun x12 =>
    Option.bind (kF N x5 N (shr .u64 x4 32) (bor .u64 x6 x7) (shr .u64 x8 32) x10 x12) fun p13 =>
    aM (U64 (p13.2.1 * 4294967296)) fun x23 =>
    aM (U64 ((U64 (x23 + p13.2.2.1)) - (U64 (p13.2.2.2 * x4)))) fun x24 =>
    Option.bind (aHW .u64 x24 p13.1) fun x25 =>
    aM (U64 (x24 - (U64 (x25 * p13.1)))) fun x26 =>
    Option.bind (kE N x9 x5 p13 N x26 x25) fun p27 =>
    aM (U64 (p13.2.2.2 * 4294967296)) fun x34 =>
    aM (U64 ((U64 (x24 * 4294967296)) + x9)) fun x35 =>
    aM (U64 (x35 - (U64 (p27 * x4)))) fun x36 =>
    Option.bind (aD5 .u64 x36 (U64 r3)) fun x37 =>
    some ((U64 (x34 + p27), x37)))))

theorem wP {N a0 a1 a2 r} (h : hQ N a0 a1 a2 = some r) : FnM Tryz.prog 119 [] [(k64 a0), (k64 a1), (k64 a2)] (.tup [(k64 r.1), (k64 r.2)]) [] := by
 unfold hQ at h
 refine At.f dG hT hmo Tryz.func119 rfl h ?_
 refine At.c 4 ?_ ?_
 ·exact nn
 ·refine At.c 3 ?_ ?_
  ·exact nn
  ·refine At.c 2 ?_ ?_
   ·refine bi fun x1 hx1 => ?_
    refine bi fun x2 hx2 => ?_
    refine At.d 0 (dE1 2 (fun _ => aCc hT hx1 (by kernel_rfl) (by kernel_rfl)) (dE1 5 (fun _ => aJ9 hT hx2 (by kernel_rfl) (by kernel_rfl)) dE0)) dF0 ?_
    apply rt; exact At.r 0
   ·refine At.b 1 (fun _ e => aK [] (vG e)) fun r3 => ?_
    refine At.b 4 (fun _ e => aBA hT (k' := .u64) e (by kernel_rfl) (by kernel_rfl)) fun x4 => ?_
    refine lx ?_; intro x5
    refine At.b 9 (fun _ e => aBA hT (k' := .u64) e (by kernel_rfl) (by kernel_rfl)) fun x6 => ?_
    refine At.b 3 (fun _ e => uX hT (k' := .u64) e (by kernel_rfl) (by kernel_rfl)) fun x7 => ?_
    refine At.b 4 (fun _ e => aBA hT (k' := .u64) e (by kernel_rfl) (by kernel_rfl)) fun x8 => ?_
    refine lx ?_; intro x9
    refine At.b 9 (fun _ e => aCc hT e (by kernel_rfl) (by kernel_rfl)) fun x10 => ?_
    refine lx ?_; intro x11
    refine lx ?_; intro x12
    refine At.L 7 [2, 8, 10, 14] 0 (fun p13 => ([(9, (k64 p13.1)), (11, (k64 p13.2.1)), (13, (k64 p13.2.2.1)), (15, (k64 p13.2.2.2))], [], [])) (fun p13 J k => ∃ s14 s15 s16 s17 s18, kF N x5 k s14 s15 s16 s17 s18 = some p13 ∧ J [2, 8, 10, 14] 0 [(9, (k64 s14)), (11, (k64 s15)), (13, (k64 s16)), (15, (k64 s17)), (16, (k64 s18))] [] []) N (fun _ h => ⟨_, _, _, _, _, h, jr⟩) (fun p13 k s hI => ?_) fun p13 => ?_
    ·obtain ⟨s14, s15, s16, s17, s18, h, hj⟩ := hI
     cases k with
     | zero => cases h
     | succ k =>
      refine At.jr hj ?_ h
      refine lx ?_; intro x19
      refine lx ?_; intro x20
      refine lx ?_; intro x21
      refine At.c 12 ?_ ?_
      ·refine lx ?_; intro x22
       refine At.c 9 ?_ ?_
       ·apply rt; exact At.x 0
       ·exact fun h => At.k 0 ⟨_, _, _, _, _, h, jr⟩
      ·apply rt; exact At.x 0
    ·refine lx ?_; intro x23
     refine lx ?_; intro x24
     refine At.b 11 (fun _ e => aCc hT e (by kernel_rfl) (by kernel_rfl)) fun x25 => ?_
     refine lx ?_; intro x26
     refine At.L 7 [2, 8, 14, 15, 17] 0 (fun p27 => ([(18, (k64 p27))], [], [])) (fun p27 J k => ∃ s28 s29, kE N x9 x5 p13 k s28 s29 = some p27 ∧ J [2, 8, 9, 10, 14, 15, 17] 0 [(16, (k64 s28)), (18, (k64 s29))] [] []) N (fun _ h => ⟨_, _, h, jr⟩) (fun p27 k s hI => ?_) fun p27 => ?_
     ·obtain ⟨s28, s29, h, hj⟩ := hI
      cases k with
      | zero => cases h
      | succ k =>
       refine At.jr hj ?_ h
       refine lx ?_; intro x30
       refine lx ?_; intro x31
       refine lx ?_; intro x32
       refine At.c 12 ?_ ?_
       ·refine lx ?_; intro x33
        refine At.c 9 ?_ ?_
        ·apply rt; exact At.x 0
        ·exact fun h => At.k 0 ⟨_, _, h, jr⟩
       ·apply rt; exact At.x 0
     ·refine lx ?_; intro x34
      refine lx ?_; intro x35
      refine lx ?_; intro x36
      refine At.b 13 (fun _ e => uX hT (k' := .u64) e (by kernel_rfl) (by kernel_rfl)) fun x37 => ?_
      apply rt; exact At.r 2

theorem aHL {x y c : Int} {r : Int × Int} (h : yX x y c = some r) : aEe Tryz.prog 189 [.int .u64 x, .int .u64 y, .int .u64 c] (.tuple #[.int .u64 r.1, .int .u64 r.2]) :=
 aKG Tryz.func189 (by kernel_rfl) (by kernel_rfl) (by kernel_rfl) (by kernel_rfl) h

def aIb : Nat → Bool := imL [2]

def pA (N : Nat) (a0 : aO) (a1 : Int) : Option (aO × Int × Bool) :=
 cond (a1 == 0) (
  some ((aO.mk 0 0, 0, false))) (
  Option.bind (cond (decide (a0.gHi < 0)) (
   Option.bind (nA N (U64 a0.gHi) a0.gLo) fun r2 =>
   some ((r2.1, r2.2))) (
   some ((U64 a0.gHi, a0.gLo)))) fun p1 =>
  Option.bind (pH N a1) fun r3 =>
  Option.bind (hQ N 0 p1.1 r3.1) fun r4 =>
  Option.bind (hQ N r4.2 p1.2 r3.1) fun r5 =>
  Option.bind (aM (!((decide (a0.gHi < 0)) == r3.2)) fun x7 =>
  aM (cond x7 (decide (r5.2 > 0)) false) fun x8 =>
  cond x8 (
   Option.bind (yX r5.1 1 0) fun r9 =>
   some ((U64 (r4.1 + r9.2), r9.1, U64 (r3.1 - r5.2)))) (
   some ((r4.1, r5.1, r5.2)))) fun p6 =>
  aM (!((decide (a0.gHi < 0)) == r3.2)) fun x10 =>
  Option.bind (lE N p6.1 p6.2.1 x10) fun r11 =>
  cond (!r11.2) (
   some ((aO.mk 0 0, 0, false))) (
   Option.bind (cond r3.2 (some (U64 (0 - p6.2.2))) (some p6.2.2)) fun p12 =>
   some ((r11.1, I64 p12, true))))

theorem xK {N a0 a1 r} (h : pA N a0 a1 = some r) : FnM Tryz.prog 153 [] [(aO.enc a0), (j64 a1)] (.tup [(aO.enc r.1), (j64 r.2.1), (eB r.2.2)]) [] := by
 unfold pA at h
 refine At.f aIb hT hmo Tryz.func153 rfl h ?_
 refine At.c 6 ?_ ?_
 ·apply rt; exact At.r 4
 ·refine At.d 0 dE0 dF0 ?_
  refine At.J 0 1 [1, 2, 4] 1 (fun p1 => ([(7, (k64 p1.1)), (8, (k64 p1.2))], [], [])) (fun p1 => ?_) fun p1 => ?_
  ·refine At.c 3 ?_ ?_
   ·refine At.b 2 (fun _ e => aK [] (aAl e)) fun r2 => ?_
    apply rt; exact At.jn 5
   ·apply rt; exact At.jn 0
  ·refine At.b 1 (fun _ e => aK [] (zS e)) fun r3 => ?_
   refine At.b 7 (fun _ e => aK [] (wP e)) fun r4 => ?_
   refine At.b 8 (fun _ e => aK [] (wP e)) fun r5 => ?_
   refine At.J 5 1 [2, 4, 10] 1 (fun p6 => ([(11, (k64 p6.1)), (13, (k64 p6.2.1)), (14, (k64 p6.2.2))], [], [])) (fun p6 => ?_) fun p6 => ?_
   ·refine lx ?_; intro x7
    refine lx ?_; intro x8
    refine At.c 9 ?_ ?_
    ·refine At.b 1 (fun _ e => aCq (aHL e) (fun _ => aCW)) fun r9 => ?_
     apply rt; exact At.jn 15
    ·apply rt; exact At.jn 0
   ·refine lx ?_; intro x10
    refine At.b 7 (fun _ e => aK [] (aAe e)) fun r11 => ?_
    refine At.c 7 ?_ ?_
    ·apply rt; exact At.r 4
    ·refine At.J 0 1 [4] 1 (fun p12 => ([(14, (k64 p12))], [], [])) (fun p12 => ?_) fun p12 => ?_
     ·refine At.c 1 ?_ ?_
      ·apply rt; exact At.jn 3
      ·apply rt; exact At.jn 0
     ·apply rt; exact At.r 6

def nF (N : Nat) (a0 : Int) (a1 : Int) : Option (Int) :=
 cond (a1 == 0) (
  cond (decide (a0 > 0)) (
   some 9223372036854775807) (
   cond (decide (a0 < 0)) (some (-9223372036854775808)) (some 0))) (
  Option.bind (hO N a0 4294967296) fun r1 =>
  Option.bind (pA N r1 a1) fun r2 =>
  Option.bind (rB N r2.1) fun r3 =>
  some r3)

theorem rA {N a0 a1 r} (h : nF N a0 a1 = some r) : FnM Tryz.prog 81 [] [(j64 a0), (j64 a1)] (j64 r) [] := by
 unfold nF at h
 refine At.f dG hT hmo Tryz.func81 rfl h ?_
 refine At.c 3 ?_ ?_
 ·refine At.c 3 ?_ ?_
  ·apply rt; exact At.r 1
  ·refine At.c 3 ?_ ?_
   ·apply rt; exact At.r 1
   ·apply rt; exact At.r 1
 ·refine At.b 1 (fun _ e => aK [] (jM e)) fun r1 => ?_
  refine At.b 1 (fun _ e => aK [] (xK e)) fun r2 => ?_
  refine At.b 9 (fun _ e => aK [] (aAx e)) fun r3 => ?_
  apply rt; exact At.r 1

def iM (N : Nat) (a0 : Int) (a1 : Int) : Option (Int) :=
 Option.bind (jA N a0) fun r1 =>
 Option.bind (jA N a1) fun r2 =>
 Option.bind (nF N r1 r2) fun r3 =>
 some r3

theorem qA {N a0 a1 r} (h : iM N a0 a1 = some r) : FnM Tryz.prog 202 [] [(j64 a0), (.im (j64 a1))] (j64 r) [] := by
 unfold iM at h
 refine At.f dG hT hmo Tryz.func202 rfl h ?_
 refine bi fun r1 hr1 => ?_
 refine bi fun r2 hr2 => ?_
 refine bi fun r3 hr3 => ?_
 refine At.d 1 (dE2 1 (j64 r1) (fun _ => aF (jZ hr1)) (dE2 3 (j64 r2) (fun _ => aF (jZ hr2)) (dE2 4 (j64 r3) (fun _ => aF (rA hr3)) dE0))) dF0 ?_
 apply rt; exact At.r 0

def aFr : Nat → Bool := imL [2, 3]

def oK (N : Nat) (a0 : (Vector Int 3)) (a1 : Int) : Option (aB) :=
 Option.bind (idx a0.toList 0) fun e1 =>
 Option.bind (iM N e1 a1) fun r2 =>
 Option.bind (idx a0.toList 1) fun e3 =>
 Option.bind (iM N e3 a1) fun r4 =>
 Option.bind (idx a0.toList 2) fun e5 =>
 Option.bind (iM N e5 a1) fun r6 =>
 some (aB.mk r2 r4 r6)

theorem aAu {N a0 a1 r} (h : oK N a0 a1 = some r) : FnM Tryz.prog 136 [] [(eA 3 1 j64 a0), (j64 a1)] (aB.enc r) [] := by
 unfold oK at h
 refine At.f aFr hT hmo Tryz.func136 rfl h ?_
 refine At.o 3 (oC (x := (.fn (.func 202) [] [(.im (j64 a1))])) (by kernel_rfl) (by kernel_rfl)) ?_
 refine bi fun e1 he1 => ?_
 refine bi fun r2 hr2 => ?_
 refine bi fun e3 he3 => ?_
 refine bi fun r4 hr4 => ?_
 refine bi fun e5 he5 => ?_
 refine bi fun r6 hr6 => ?_
 refine At.d 1 (dE1 1 (fun _ => cK hT (N := 3) (k := 1) j64 a0 he1) (dE2 3 (j64 r2) (fun _ => aF (qA hr2)) (dE1 5 (fun _ => cK hT (N := 3) (k := 1) j64 a0 he3) (dE2 7 (j64 r4) (fun _ => aF (qA hr4)) (dE1 9 (fun _ => cK hT (N := 3) (k := 1) j64 a0 he5) (dE2 11 (j64 r6) (fun _ => aF (qA hr6)) dE0)))))) dF0 ?_
 apply rt; exact At.r 0

def aFj : Nat → Bool := imL [1]

def mZ (N : Nat) (a0 : aN) : Option (aB) :=
 Option.bind (oK N a0.gL 65536) fun r1 =>
 some r1

theorem wJ {N a0 r} (h : mZ N a0 = some r) : FnM Tryz.prog 70 [] [(aN.enc a0)] (aB.enc r) [] := by
 unfold mZ at h
 refine At.f aFj hT hmo Tryz.func70 rfl h ?_
 refine At.b 4 (fun _ e => aK [] (aAu e)) fun r1 => ?_
 apply rt; exact At.r 1

def pQ (N : Nat) (a0 : (List Int)) : Nat → Int → Int → Option (Int)
 | 0, _, _ => none
 | k + 1, s2, s3 =>
  aM (decide (s3 < ((a0.length : Int)))) fun x4 =>
  cond x4 (
   Option.bind (idx a0 s3) fun e5 =>
   Option.bind (aM (cond (decide (s2 > 0)) (decide (e5 > 0)) false) fun x7 =>
   aM (decide ((I64 (s2 + e5)) < 0)) fun x8 =>
   cond (cond x7 x8 false) (
    some 9223372036854775807) (
    aM (cond (decide (s2 < 0)) (decide (e5 < 0)) false) fun x9 =>
    aM (decide ((I64 (s2 + e5)) ≥ 0)) fun x10 =>
    cond (cond x9 x10 false) (some (-9223372036854775808)) (some (I64 (s2 + e5))))) fun p6 =>
   pQ N a0 k p6 (I64 (s3 + 1))) (
   some s2)

def nW (N : Nat) (a0 : (List Int)) : Option (Int) :=
 Option.bind (pQ N a0 N 0 0) fun p1 =>
 some p1

theorem qY {N a0 r} (h : nW N a0 = some r) : FnM Tryz.prog 139 [] [(eL 1 j64 a0)] (j64 r) [] := by
 unfold nW at h
 refine At.f dG hT hmo Tryz.func139 rfl h ?_
 refine At.L 5 [] 0 (fun p1 => ([(3, (j64 p1))], [], [])) (fun p1 J k => ∃ s2 s3, pQ N a0 k s2 s3 = some p1 ∧ J [7, 8] 0 [(3, (j64 s2)), (9, (j64 s3))] [] []) N (fun _ h => ⟨_, _, h, jr⟩) (fun p1 k s hI => ?_) fun p1 => ?_
 ·obtain ⟨s2, s3, h, hj⟩ := hI
  cases k with
  | zero => cases h
  | succ k =>
   refine At.jr hj ?_ h
   refine lx ?_; intro x4
   refine At.c 1 ?_ ?_
   ·refine At.b 0 (fun _ e => cC hT j64 e) fun e5 => ?_
    refine At.J 6 2 [7, 8, 9] 0 (fun p6 => ([(6, (j64 p6))], [], [])) (fun p6 => ?_) fun p6 => ?_
    ·refine lx ?_; intro x7
     refine lx ?_; intro x8
     refine At.c 11 ?_ ?_
     ·apply rt; exact At.jn 1
     ·refine lx ?_; intro x9
      refine lx ?_; intro x10
      refine At.c 11 ?_ ?_
      ·apply rt; exact At.jn 1
      ·apply rt; exact At.jn 0
    ·exact fun h => At.k 4 ⟨_, _, h, jr⟩
   ·apply rt; exact At.x 0
 ·apply rt; exact At.r 2

def rI (N : Nat) (a0 : Int) (a1 : Int) : Option (Int) :=
 Option.bind (nW N ([a0, a1])) fun r1 =>
 some r1

theorem yZ {N a0 a1 r} (h : rI N a0 a1 = some r) : FnM Tryz.prog 138 [] [(j64 a0), (j64 a1)] (j64 r) [] := by
 unfold rI at h
 refine At.f dG hT hmo Tryz.func138 rfl h ?_
 refine At.o 3 (cX hT (x := (.sl 1 2 [(j64 a0), (j64 a1)]))) ?_
 refine At.b 0 (fun _ e => aK [] (qY e)) fun r1 => ?_
 apply rt; exact At.r 1

def aDO : Nat → Bool := imL [3, 4]

def nK (N : Nat) (a0 : aB) (a1 : aB) : Option (aB) :=
 Option.bind (rI N a0.gX a1.gX) fun r1 =>
 Option.bind (rI N a0.gY a1.gY) fun r2 =>
 Option.bind (rI N a0.gZ a1.gZ) fun r3 =>
 some (aB.mk r1 r2 r3)

theorem aCF {N a0 a1 r} (h : nK N a0 a1 = some r) : FnM Tryz.prog 137 [] [(aB.enc a0), (aB.enc a1), (.fn (.func 138) [] [])] (aB.enc r) [] := by
 unfold nK at h
 refine At.f aDO hT hmo Tryz.func137 rfl h ?_
 refine bi fun r1 hr1 => ?_
 refine bi fun r2 hr2 => ?_
 refine bi fun r3 hr3 => ?_
 refine At.d 3 (dE2 5 (j64 r1) (fun _ => aF (yZ hr1)) (dE2 11 (j64 r2) (fun _ => aF (yZ hr2)) (dE2 17 (j64 r3) (fun _ => aF (yZ hr3)) dE0))) dF0 ?_
 apply rt; exact At.r 0

def sE (N : Nat) (a0 : (List aB)) : Nat → aB → Int → Option (aB)
 | 0, _, _ => none
 | k + 1, s2, s3 =>
  aM (decide (s3 < ((a0.length : Int)))) fun x4 =>
  cond x4 (
   Option.bind (idx a0 s3) fun e5 =>
   Option.bind (nK N s2 e5) fun r6 =>
   sE N a0 k r6 (I64 (s3 + 1))) (
   some s2)

def oL (N : Nat) (a0 : (List aB)) : Option (aB) :=
 Option.bind (sE N a0 N (aB.mk 0 0 0) 0) fun p1 =>
 some p1

theorem vR {N a0 r} (h : oL N a0 = some r) : FnM Tryz.prog 71 [] [(eL 3 aB.enc a0)] (aB.enc r) [] := by
 unfold oL at h
 refine At.f dG hT hmo Tryz.func71 rfl h ?_
 refine At.L 5 [2, 3] 2 (fun p1 => ([], [(1, .var (aB.enc p1))], [])) (fun p1 J k => ∃ s2 s3, sE N a0 k s2 s3 = some p1 ∧ J [2, 3, 6, 7] 2 [(8, (j64 s3))] [(1, .var (aB.enc s2))] []) N (fun _ h => ⟨_, _, h, jr⟩) (fun p1 k s hI => ?_) fun p1 => ?_
 ·obtain ⟨s2, s3, h, hj⟩ := hI
  cases k with
  | zero => cases h
  | succ k =>
   refine At.jr hj ?_ h
   refine lx ?_; intro x4
   refine At.c 1 ?_ ?_
   ·refine At.b 0 (fun _ e => cC hT aB.enc e) fun e5 => ?_
    refine At.b 5 (fun _ e => aK [] (aCF e)) fun r6 => ?_
    exact fun h => At.k 3 ⟨_, _, h, jr⟩
   ·apply rt; exact At.x 0
 ·apply rt; exact At.r 2

def oJ (N : Nat) (a0 : (List aN)) : Nat → (List aB) → Int → Option ((List aB))
 | 0, _, _ => none
 | k + 1, s2, s3 =>
  aM (decide (s3 < ((a0.length : Int)))) fun x4 =>
  cond x4 (
   Option.bind (Option.bind (idx a0 s3) fun e6 =>
   cond (e6.gF == 2) (
    Option.bind (mZ N e6) fun r7 =>
    Option.bind (yC 24 s2 (([r7] : List aB))) fun z8 =>
    some ((z8, e6))) (
    some ((s2, e6)))) fun p5 =>
   oJ N a0 k p5.1 (I64 (s3 + 1))) (
   some s2)

def vO (N : Nat) (a0 : (List aN)) : Option (aB) :=
 Option.bind (oJ N a0 N [] 0) fun p1 =>
 Option.bind (oL N p1) fun r9 =>
 some r9

theorem aIB {N a0 r} (h : vO N a0 = some r) : FnM Tryz.prog 25 [] [(eL 13 aN.enc a0)] (aB.enc r) [] := by
 unfold vO at h
 refine At.f dG hT hmo Tryz.func25 rfl h ?_
 refine At.ownn 5 3 3 ?_
 refine At.L 0 [2] 2 (fun p1 => ([(3, (eO 1 3 aB.enc p1))], [(1, .tail (p1.length * 3))], [])) (fun p1 J k => ∃ s2 s3, oJ N a0 k s2 s3 = some p1 ∧ J [2, 6, 7] 2 [(3, (eO 1 3 aB.enc s2)), (8, (j64 s3))] [(1, .tail (s2.length * 3))] []) N (fun _ h => ⟨_, _, h, jr⟩) (fun p1 k s hI => ?_) fun p1 => ?_
 ·obtain ⟨s2, s3, h, hj⟩ := hI
  cases k with
  | zero => cases h
  | succ k =>
   refine At.jr hj ?_ h
   refine lx ?_; intro x4
   refine At.c 1 ?_ ?_
   ·refine At.J 0 2 [2, 6, 7, 8] 2 (fun p5 => ([(3, (eO 1 3 aB.enc p5.1))], [(1, .tail (p5.1.length * 3))], [.var (aN.enc p5.2)])) (fun p5 => ?_) fun p5 => ?_
    ·refine At.b 0 (fun _ e => cC hT aN.enc e) fun e6 => ?_
     refine At.c 6 ?_ ?_
     ·refine At.b 2 (fun _ e => aK [] (wJ e)) fun r7 => ?_
      refine At.o 0 (cX hT (x := (.sl 3 1 [(aB.enc r7)]))) ?_
      refine At.b 0 (fun _ e => qR hT aB.enc (id := 1) (k := 3) e) fun z8 => ?_
      apply rt; exact At.jn 1
     ·apply rt; exact At.jn 0
    ·exact fun h => At.k 2 ⟨_, _, h, jr⟩
   ·apply rt; exact At.x 0
 ·refine At.b 1 (fun _ e => aK [] (vR e)) fun r9 => ?_
  apply rt; exact At.r 1

def fQ (N : Nat) (a0 : (List (Vector Int 3))) : Option ((List (Vector Int 3))) :=
 Option.bind (yC 24 (([] : List (Vector Int 3))) a0) fun z1 =>
 some z1

theorem vE {N a0 r} (h : fQ N a0 = some r) : FnM Tryz.prog 73 [] [(eL 3 (eA 3 1 j64) a0)] (eL 3 (eA 3 1 j64) r) [] := by
 unfold fQ at h
 refine At.f dG hT hmo Tryz.func73 rfl h ?_
 refine At.q hT 2 (d := 4) (t := 62) (e := 38) (z := 3) (x := (eL 3 (eA 3 1 j64) a0)) (es := List.map (eA 3 1 j64) a0) rfl ?_ (fun he => ?_)
 ·refine At.o 1 (yR hT (eA 3 1 j64) (k := 3) ([] : List (Vector Int 3)) (by kernel_rfl) (by kernel_rfl)) ?_
  refine At.b 1 (fun _ e => qR hT (eA 3 1 j64) (id := 0) (k := 3) e) fun z1 => ?_
  apply rt; exact At.r 1
 ·have h0 : a0 = [] := List.map_eq_nil_iff.1 he
  subst h0
  change some [] = _ → _
  apply rt; exact At.r 2

def pR (N : Nat) (a0 : aD) : Option (Unit) :=
 some (())

theorem aCT {N a0 r} (h : pR N a0 = some r) : FnM Tryz.prog 72 [] [(aD.enc a0)] (.fn (.func 140) [] [(.ref 0 [] 0)]) [.var (aD.enc a0)] := by
 unfold pR at h
 refine At.f dG hT hmo Tryz.func72 rfl h ?_
 refine At.o 2 (oC (x := (.fn (.func 140) [] [(.ref 0 [] 0)])) (by kernel_rfl) (by kernel_rfl)) ?_
 apply rt; exact At.r 1

def aBO : Nat → Bool := imL [1]

def kV (N : Nat) (b2 : (List aD)) (a1 : aD) (a2 : aD) : Option ((List aD)) :=
 Option.bind (yC 32 b2 (([a2] : List aD))) fun z1 =>
 some z1

theorem aAY {N : Nat} {b2 : (List aD)} {a1 : aD} {a2 : aD} {r : (List aD)} (h : kV N b2 a1 a2 = some r) : YldM Tryz.prog (aMn 25 Tryz.f26.body [1, 1, 1, 0, 1, 0]) [en 5 (.ref 0 [] 0)] [.var (eO 2 2 aD.enc b2), .var (aD.enc a1), .tail (b2.length * 2)] [(aD.enc a2)] [.var (eO 2 2 aD.enc r), .var (aD.enc a1), .tail (r.length * 2)] none := by
 unfold kV at h
 refine aJH (lo := 4) (by kernel_rfl) (fun bk rl => At.of aBO hT hmo h ?_)
 refine At.to 0 ⟨[en 5 (.ref 0 [] 0), en 19 (aD.enc a2)], [.var (eO 2 2 aD.enc b2), .var (aD.enc a1), .tail (b2.length * 2), .loop rl]⟩ ?_
 refine At.mid 2 (fun rl2 => ?_)
 refine At.o 2 (cX hT (x := (.sl 2 1 [(aD.enc a2)]))) ?_
 refine At.b 0 (fun _ e => qR hT aD.enc (id := 2) (k := 2) e) fun z1 => ?_
 apply rt; exact At.rnd 1


def aHK : Nat → Bool := imL [3]

def kZ (N : Nat) (a0 : aD) (a1 : Int) (a2 : Int) : Option ((Vector Int 3)) :=
 aM (iX .i64 a2 (I64 (a0.gE - 1))) fun x1 =>
 aM (iX .i64 a1 (I64 (a0.gE - 1))) fun x2 =>
 aM (I64 ((I64 (x1 * a0.gE)) + x2)) fun x3 =>
 Option.bind (idx a0.gG x3) fun e4 =>
 some e4

theorem qK {N a0 a1 a2 r} (h : kZ N a0 a1 a2 = some r) : FnM Tryz.prog 203 [] [(aD.enc a0), (j64 a1), (j64 a2)] (eA 3 1 j64 r) [] := by
 unfold kZ at h
 refine At.f aHK hT hmo Tryz.func203 rfl h ?_
 refine lx ?_; intro x1
 refine lx ?_; intro x2
 refine lx ?_; intro x3
 refine At.b 18 (fun _ e => cC hT (eA 3 1 j64) e) fun e4 => ?_
 apply rt; exact At.r 2

def aEX : Nat → Bool := imL [1]

def jH (N : Nat) (r12 : (Vector Int 3)) (r14 : (Vector Int 3)) (r16 : (Vector Int 3)) (r19 : (Vector Int 3)) : Nat → (Vector Int 3) → Int → Option ((Vector Int 3))
 | 0, _, _ => none
 | k + 1, s21, s22 =>
  cond (decide (s22 < 3)) (
   Option.bind (fK s22 3) fun _ =>
   Option.bind (r12.toList[s22.toNat]?) fun e24 =>
   Option.bind (fK s22 3) fun _ =>
   Option.bind (r14.toList[s22.toNat]?) fun e26 =>
   Option.bind (fK s22 3) fun _ =>
   Option.bind (r16.toList[s22.toNat]?) fun e28 =>
   aM (I64 ((I64 (e24 + e26)) + e28)) fun x29 =>
   Option.bind (fK s22 3) fun _ =>
   Option.bind (r19.toList[s22.toNat]?) fun e31 =>
   aM (I64 ((I64 (x29 + e31)) + 2)) fun x32 =>
   Option.bind (fK s22 3) fun _ =>
   Option.bind (s21.toList[s22.toNat]?) fun e34 =>
   jH N r12 r14 r16 r19 k (s21.setIfInBounds s22.toNat (I64 (Int.tdiv x32 4))) (I64 (s22 + 1))) (
   some s21)

def kM (N : Nat) (x2 : Int) (x3 : Int) (a0 : aD) : Nat → (List (Vector Int 3)) → Int → Option ((List (Vector Int 3)))
 | 0, _, _ => none
 | k + 1, s5, s6 =>
  aM (decide (s6 < (I64 (x2 * x3)))) fun x7 =>
  cond x7 (
   aM ((I64 (Int.tdiv a0.gE 2))) fun x8 =>
   Option.bind (aMH .i64 s6 x8) fun x9 =>
   aM ((I64 (Int.tdiv a0.gE 2))) fun x10 =>
   Option.bind (aHW .i64 s6 x10) fun x11 =>
   Option.bind (kZ N a0 (I64 (2 * x9)) (I64 (2 * x11))) fun r12 =>
   aM (I64 ((I64 (2 * x9)) + 1)) fun x13 =>
   Option.bind (kZ N a0 x13 (I64 (2 * x11))) fun r14 =>
   aM (I64 ((I64 (2 * x11)) + 1)) fun x15 =>
   Option.bind (kZ N a0 (I64 (2 * x9)) x15) fun r16 =>
   aM (I64 ((I64 (2 * x9)) + 1)) fun x17 =>
   aM (I64 ((I64 (2 * x11)) + 1)) fun x18 =>
   Option.bind (kZ N a0 x17 x18) fun r19 =>
   Option.bind (jH N r12 r14 r16 r19 N (#v[0, 0, 0]) 0) fun p20 =>
   Option.bind (yC 24 s5 (([p20] : List (Vector Int 3)))) fun z35 =>
   kM N x2 x3 a0 k z35 (I64 (s6 + 1))) (
   some s5)

def pE (N : Nat) (a0 : aD) : Option (aD) :=
 aM (I64 (Int.tdiv a0.gE 2)) fun x1 =>
 aM ((I64 (Int.tdiv a0.gE 2))) fun x2 =>
 aM ((I64 (Int.tdiv a0.gE 2))) fun x3 =>
 Option.bind (kM N x2 x3 a0 N [] 0) fun p4 =>
 some (aD.mk ((I64 (Int.tdiv a0.gE 2))) p4)

theorem aD9 {N a0 r} (h : pE N a0 = some r) : FnM Tryz.prog 141 [] [(aD.enc a0)] (aD.enc r) [] := by
 unfold pE at h
 refine At.f aEX hT hmo Tryz.func141 rfl h ?_
 refine lx ?_; intro x1
 refine lx ?_; intro x2
 refine lx ?_; intro x3
 refine At.ownb 14 1 3 [1] ?_
 refine At.L 0 [2, 3] 3 (fun p4 => ([], [(1, .var (.st 2 [(j64 ((I64 (Int.tdiv a0.gE 2)))), (eO 2 3 (eA 3 1 j64) p4)])), (2, .tail (p4.length * 3))], [])) (fun p4 J k => ∃ s5 s6, kM N x2 x3 a0 k s5 s6 = some p4 ∧ J [1, 2, 3, 21] 3 [(22, (j64 s6))] [(1, .var (.st 2 [(j64 ((I64 (Int.tdiv a0.gE 2)))), (eO 2 3 (eA 3 1 j64) s5)])), (2, .tail (s5.length * 3))] []) N (fun _ h => ⟨_, _, h, jr⟩) (fun p4 k s hI => ?_) fun p4 => ?_
 ·obtain ⟨s5, s6, h, hj⟩ := hI
  cases k with
  | zero => cases h
  | succ k =>
   refine At.jr hj ?_ h
   refine lx ?_; intro x7
   refine At.c 1 ?_ ?_
   ·refine lx ?_; intro x8
    refine bi fun x9 hx9 => ?_
    refine lx ?_; intro x10
    refine bi fun x11 hx11 => ?_
    refine At.d 2 (dE1 3 (fun _ => aJ9 hT hx9 (by kernel_rfl) (by kernel_rfl)) (dE1 8 (fun _ => aCc hT hx11 (by kernel_rfl) (by kernel_rfl)) dE0)) dF0 ?_
    refine bi fun r12 hr12 => ?_
    refine lx ?_; intro x13
    refine bi fun r14 hr14 => ?_
    refine lx ?_; intro x15
    refine bi fun r16 hr16 => ?_
    refine lx ?_; intro x17
    refine lx ?_; intro x18
    refine bi fun r19 hr19 => ?_
    refine At.d2 0 [false, false, false, false] (dC2 3 (eA 3 1 j64 r12) (fun _ => aF (qK hr12)) (dC2 8 (eA 3 1 j64 r14) (fun _ => aF (qK hr14)) (dC2 13 (eA 3 1 j64 r16) (fun _ => aF (qK hr16)) (dC2 19 (eA 3 1 j64 r19) (fun _ => aF (qK hr19)) dC0)))) (dS1 20 ⟨(.ref 3 [] 0), 3, .var (.arr 3 1 [(j64 0), (j64 0), (j64 0)]), .dead⟩ [[.var (.st 2 [(j64 0), (.v (.slice none 0 0))]), .var (.st 2 [(j64 ((I64 (Int.tdiv a0.gE 2)))), (eO 2 3 (eA 3 1 j64) s5)]), .tail (s5.length * 3), .dead, .dead, .dead, .dead], [.var (.st 2 [(j64 0), (.v (.slice none 0 0))]), .var (.st 2 [(j64 ((I64 (Int.tdiv a0.gE 2)))), (eO 2 3 (eA 3 1 j64) s5)]), .tail (s5.length * 3), .dead, .dead, .dead, .var (.arr 3 1 [(j64 0), (j64 0), (j64 0)])], [.var (.st 2 [(j64 0), (.v (.slice none 0 0))]), .var (.st 2 [(j64 ((I64 (Int.tdiv a0.gE 2)))), (eO 2 3 (eA 3 1 j64) s5)]), .tail (s5.length * 3), .dead, .dead, .var (.arr 3 1 [(j64 0), (j64 0), (j64 0)]), .dead], [.var (.st 2 [(j64 0), (.v (.slice none 0 0))]), .var (.st 2 [(j64 ((I64 (Int.tdiv a0.gE 2)))), (eO 2 3 (eA 3 1 j64) s5)]), .tail (s5.length * 3), .dead, .dead, .var (.arr 3 1 [(j64 0), (j64 0), (j64 0)]), .var (.arr 3 1 [(j64 0), (j64 0), (j64 0)])], [.var (.st 2 [(j64 0), (.v (.slice none 0 0))]), .var (.st 2 [(j64 ((I64 (Int.tdiv a0.gE 2)))), (eO 2 3 (eA 3 1 j64) s5)]), .tail (s5.length * 3), .dead, .var (.arr 3 1 [(j64 0), (j64 0), (j64 0)]), .dead, .dead], [.var (.st 2 [(j64 0), (.v (.slice none 0 0))]), .var (.st 2 [(j64 ((I64 (Int.tdiv a0.gE 2)))), (eO 2 3 (eA 3 1 j64) s5)]), .tail (s5.length * 3), .dead, .var (.arr 3 1 [(j64 0), (j64 0), (j64 0)]), .dead, .var (.arr 3 1 [(j64 0), (j64 0), (j64 0)])], [.var (.st 2 [(j64 0), (.v (.slice none 0 0))]), .var (.st 2 [(j64 ((I64 (Int.tdiv a0.gE 2)))), (eO 2 3 (eA 3 1 j64) s5)]), .tail (s5.length * 3), .dead, .var (.arr 3 1 [(j64 0), (j64 0), (j64 0)]), .var (.arr 3 1 [(j64 0), (j64 0), (j64 0)]), .dead], [.var (.st 2 [(j64 0), (.v (.slice none 0 0))]), .var (.st 2 [(j64 ((I64 (Int.tdiv a0.gE 2)))), (eO 2 3 (eA 3 1 j64) s5)]), .tail (s5.length * 3), .dead, .var (.arr 3 1 [(j64 0), (j64 0), (j64 0)]), .var (.arr 3 1 [(j64 0), (j64 0), (j64 0)]), .var (.arr 3 1 [(j64 0), (j64 0), (j64 0)])]] ⟨aV hT 3 (by kernel_rfl) (by kernel_rfl) (by kernel_rfl), aV hT 3 (by kernel_rfl) (by kernel_rfl) (by kernel_rfl), aV hT 3 (by kernel_rfl) (by kernel_rfl) (by kernel_rfl), aV hT 3 (by kernel_rfl) (by kernel_rfl) (by kernel_rfl), aV hT 3 (by kernel_rfl) (by kernel_rfl) (by kernel_rfl), aV hT 3 (by kernel_rfl) (by kernel_rfl) (by kernel_rfl), aV hT 3 (by kernel_rfl) (by kernel_rfl) (by kernel_rfl), aV hT 3 (by kernel_rfl) (by kernel_rfl) (by kernel_rfl), trivial⟩ (dS1 21 ⟨(.ref 4 [] 0), 4, .var (.arr 3 1 [(j64 0), (j64 0), (j64 0)]), .dead⟩ [[.var (.st 2 [(j64 0), (.v (.slice none 0 0))]), .var (.st 2 [(j64 ((I64 (Int.tdiv a0.gE 2)))), (eO 2 3 (eA 3 1 j64) s5)]), .tail (s5.length * 3), .dead, .dead, .dead, .dead], [.var (.st 2 [(j64 0), (.v (.slice none 0 0))]), .var (.st 2 [(j64 ((I64 (Int.tdiv a0.gE 2)))), (eO 2 3 (eA 3 1 j64) s5)]), .tail (s5.length * 3), .dead, .dead, .dead, .var (.arr 3 1 [(j64 0), (j64 0), (j64 0)])], [.var (.st 2 [(j64 0), (.v (.slice none 0 0))]), .var (.st 2 [(j64 ((I64 (Int.tdiv a0.gE 2)))), (eO 2 3 (eA 3 1 j64) s5)]), .tail (s5.length * 3), .dead, .dead, .var (.arr 3 1 [(j64 0), (j64 0), (j64 0)]), .dead], [.var (.st 2 [(j64 0), (.v (.slice none 0 0))]), .var (.st 2 [(j64 ((I64 (Int.tdiv a0.gE 2)))), (eO 2 3 (eA 3 1 j64) s5)]), .tail (s5.length * 3), .dead, .dead, .var (.arr 3 1 [(j64 0), (j64 0), (j64 0)]), .var (.arr 3 1 [(j64 0), (j64 0), (j64 0)])], [.var (.st 2 [(j64 0), (.v (.slice none 0 0))]), .var (.st 2 [(j64 ((I64 (Int.tdiv a0.gE 2)))), (eO 2 3 (eA 3 1 j64) s5)]), .tail (s5.length * 3), .var (.arr 3 1 [(j64 0), (j64 0), (j64 0)]), .dead, .dead, .dead], [.var (.st 2 [(j64 0), (.v (.slice none 0 0))]), .var (.st 2 [(j64 ((I64 (Int.tdiv a0.gE 2)))), (eO 2 3 (eA 3 1 j64) s5)]), .tail (s5.length * 3), .var (.arr 3 1 [(j64 0), (j64 0), (j64 0)]), .dead, .dead, .var (.arr 3 1 [(j64 0), (j64 0), (j64 0)])], [.var (.st 2 [(j64 0), (.v (.slice none 0 0))]), .var (.st 2 [(j64 ((I64 (Int.tdiv a0.gE 2)))), (eO 2 3 (eA 3 1 j64) s5)]), .tail (s5.length * 3), .var (.arr 3 1 [(j64 0), (j64 0), (j64 0)]), .dead, .var (.arr 3 1 [(j64 0), (j64 0), (j64 0)]), .dead], [.var (.st 2 [(j64 0), (.v (.slice none 0 0))]), .var (.st 2 [(j64 ((I64 (Int.tdiv a0.gE 2)))), (eO 2 3 (eA 3 1 j64) s5)]), .tail (s5.length * 3), .var (.arr 3 1 [(j64 0), (j64 0), (j64 0)]), .dead, .var (.arr 3 1 [(j64 0), (j64 0), (j64 0)]), .var (.arr 3 1 [(j64 0), (j64 0), (j64 0)])]] ⟨aV hT 4 (by kernel_rfl) (by kernel_rfl) (by kernel_rfl), aV hT 4 (by kernel_rfl) (by kernel_rfl) (by kernel_rfl), aV hT 4 (by kernel_rfl) (by kernel_rfl) (by kernel_rfl), aV hT 4 (by kernel_rfl) (by kernel_rfl) (by kernel_rfl), aV hT 4 (by kernel_rfl) (by kernel_rfl) (by kernel_rfl), aV hT 4 (by kernel_rfl) (by kernel_rfl) (by kernel_rfl), aV hT 4 (by kernel_rfl) (by kernel_rfl) (by kernel_rfl), aV hT 4 (by kernel_rfl) (by kernel_rfl) (by kernel_rfl), trivial⟩ (dS1 22 ⟨(.ref 5 [] 0), 5, .var (.arr 3 1 [(j64 0), (j64 0), (j64 0)]), .dead⟩ [[.var (.st 2 [(j64 0), (.v (.slice none 0 0))]), .var (.st 2 [(j64 ((I64 (Int.tdiv a0.gE 2)))), (eO 2 3 (eA 3 1 j64) s5)]), .tail (s5.length * 3), .dead, .dead, .dead, .dead], [.var (.st 2 [(j64 0), (.v (.slice none 0 0))]), .var (.st 2 [(j64 ((I64 (Int.tdiv a0.gE 2)))), (eO 2 3 (eA 3 1 j64) s5)]), .tail (s5.length * 3), .dead, .dead, .dead, .var (.arr 3 1 [(j64 0), (j64 0), (j64 0)])], [.var (.st 2 [(j64 0), (.v (.slice none 0 0))]), .var (.st 2 [(j64 ((I64 (Int.tdiv a0.gE 2)))), (eO 2 3 (eA 3 1 j64) s5)]), .tail (s5.length * 3), .dead, .var (.arr 3 1 [(j64 0), (j64 0), (j64 0)]), .dead, .dead], [.var (.st 2 [(j64 0), (.v (.slice none 0 0))]), .var (.st 2 [(j64 ((I64 (Int.tdiv a0.gE 2)))), (eO 2 3 (eA 3 1 j64) s5)]), .tail (s5.length * 3), .dead, .var (.arr 3 1 [(j64 0), (j64 0), (j64 0)]), .dead, .var (.arr 3 1 [(j64 0), (j64 0), (j64 0)])], [.var (.st 2 [(j64 0), (.v (.slice none 0 0))]), .var (.st 2 [(j64 ((I64 (Int.tdiv a0.gE 2)))), (eO 2 3 (eA 3 1 j64) s5)]), .tail (s5.length * 3), .var (.arr 3 1 [(j64 0), (j64 0), (j64 0)]), .dead, .dead, .dead], [.var (.st 2 [(j64 0), (.v (.slice none 0 0))]), .var (.st 2 [(j64 ((I64 (Int.tdiv a0.gE 2)))), (eO 2 3 (eA 3 1 j64) s5)]), .tail (s5.length * 3), .var (.arr 3 1 [(j64 0), (j64 0), (j64 0)]), .dead, .dead, .var (.arr 3 1 [(j64 0), (j64 0), (j64 0)])], [.var (.st 2 [(j64 0), (.v (.slice none 0 0))]), .var (.st 2 [(j64 ((I64 (Int.tdiv a0.gE 2)))), (eO 2 3 (eA 3 1 j64) s5)]), .tail (s5.length * 3), .var (.arr 3 1 [(j64 0), (j64 0), (j64 0)]), .var (.arr 3 1 [(j64 0), (j64 0), (j64 0)]), .dead, .dead], [.var (.st 2 [(j64 0), (.v (.slice none 0 0))]), .var (.st 2 [(j64 ((I64 (Int.tdiv a0.gE 2)))), (eO 2 3 (eA 3 1 j64) s5)]), .tail (s5.length * 3), .var (.arr 3 1 [(j64 0), (j64 0), (j64 0)]), .var (.arr 3 1 [(j64 0), (j64 0), (j64 0)]), .dead, .var (.arr 3 1 [(j64 0), (j64 0), (j64 0)])]] ⟨aV hT 5 (by kernel_rfl) (by kernel_rfl) (by kernel_rfl), aV hT 5 (by kernel_rfl) (by kernel_rfl) (by kernel_rfl), aV hT 5 (by kernel_rfl) (by kernel_rfl) (by kernel_rfl), aV hT 5 (by kernel_rfl) (by kernel_rfl) (by kernel_rfl), aV hT 5 (by kernel_rfl) (by kernel_rfl) (by kernel_rfl), aV hT 5 (by kernel_rfl) (by kernel_rfl) (by kernel_rfl), aV hT 5 (by kernel_rfl) (by kernel_rfl) (by kernel_rfl), aV hT 5 (by kernel_rfl) (by kernel_rfl) (by kernel_rfl), trivial⟩ (dS1 23 ⟨(.ref 6 [] 0), 6, .var (.arr 3 1 [(j64 0), (j64 0), (j64 0)]), .dead⟩ [[.var (.st 2 [(j64 0), (.v (.slice none 0 0))]), .var (.st 2 [(j64 ((I64 (Int.tdiv a0.gE 2)))), (eO 2 3 (eA 3 1 j64) s5)]), .tail (s5.length * 3), .dead, .dead, .dead, .dead], [.var (.st 2 [(j64 0), (.v (.slice none 0 0))]), .var (.st 2 [(j64 ((I64 (Int.tdiv a0.gE 2)))), (eO 2 3 (eA 3 1 j64) s5)]), .tail (s5.length * 3), .dead, .dead, .var (.arr 3 1 [(j64 0), (j64 0), (j64 0)]), .dead], [.var (.st 2 [(j64 0), (.v (.slice none 0 0))]), .var (.st 2 [(j64 ((I64 (Int.tdiv a0.gE 2)))), (eO 2 3 (eA 3 1 j64) s5)]), .tail (s5.length * 3), .dead, .var (.arr 3 1 [(j64 0), (j64 0), (j64 0)]), .dead, .dead], [.var (.st 2 [(j64 0), (.v (.slice none 0 0))]), .var (.st 2 [(j64 ((I64 (Int.tdiv a0.gE 2)))), (eO 2 3 (eA 3 1 j64) s5)]), .tail (s5.length * 3), .dead, .var (.arr 3 1 [(j64 0), (j64 0), (j64 0)]), .var (.arr 3 1 [(j64 0), (j64 0), (j64 0)]), .dead], [.var (.st 2 [(j64 0), (.v (.slice none 0 0))]), .var (.st 2 [(j64 ((I64 (Int.tdiv a0.gE 2)))), (eO 2 3 (eA 3 1 j64) s5)]), .tail (s5.length * 3), .var (.arr 3 1 [(j64 0), (j64 0), (j64 0)]), .dead, .dead, .dead], [.var (.st 2 [(j64 0), (.v (.slice none 0 0))]), .var (.st 2 [(j64 ((I64 (Int.tdiv a0.gE 2)))), (eO 2 3 (eA 3 1 j64) s5)]), .tail (s5.length * 3), .var (.arr 3 1 [(j64 0), (j64 0), (j64 0)]), .dead, .var (.arr 3 1 [(j64 0), (j64 0), (j64 0)]), .dead], [.var (.st 2 [(j64 0), (.v (.slice none 0 0))]), .var (.st 2 [(j64 ((I64 (Int.tdiv a0.gE 2)))), (eO 2 3 (eA 3 1 j64) s5)]), .tail (s5.length * 3), .var (.arr 3 1 [(j64 0), (j64 0), (j64 0)]), .var (.arr 3 1 [(j64 0), (j64 0), (j64 0)]), .dead, .dead], [.var (.st 2 [(j64 0), (.v (.slice none 0 0))]), .var (.st 2 [(j64 ((I64 (Int.tdiv a0.gE 2)))), (eO 2 3 (eA 3 1 j64) s5)]), .tail (s5.length * 3), .var (.arr 3 1 [(j64 0), (j64 0), (j64 0)]), .var (.arr 3 1 [(j64 0), (j64 0), (j64 0)]), .var (.arr 3 1 [(j64 0), (j64 0), (j64 0)]), .dead]] ⟨aV hT 6 (by kernel_rfl) (by kernel_rfl) (by kernel_rfl), aV hT 6 (by kernel_rfl) (by kernel_rfl) (by kernel_rfl), aV hT 6 (by kernel_rfl) (by kernel_rfl) (by kernel_rfl), aV hT 6 (by kernel_rfl) (by kernel_rfl) (by kernel_rfl), aV hT 6 (by kernel_rfl) (by kernel_rfl) (by kernel_rfl), aV hT 6 (by kernel_rfl) (by kernel_rfl) (by kernel_rfl), aV hT 6 (by kernel_rfl) (by kernel_rfl) (by kernel_rfl), aV hT 6 (by kernel_rfl) (by kernel_rfl) (by kernel_rfl), trivial⟩ dS0)))) ?_
    refine At.L 2 [1, 2, 3, 11, 21, 22] 8 (fun p20 => ([], [(7, .var (eA 3 1 j64 p20))], [])) (fun p20 J k => ∃ s21 s22, jH N r12 r14 r16 r19 k s21 s22 = some p20 ∧ J [1, 2, 3, 7, 8, 9, 10, 11, 21, 22] 8 [(55, (j64 s22))] [(7, .var (eA 3 1 j64 s21))] []) N (fun _ h => ⟨_, _, h, jr⟩) (fun p20 k s hI => ?_) fun p20 => ?_
    ·obtain ⟨s21, s22, h, hj⟩ := hI
     cases k with
     | zero => cases h
     | succ k =>
      refine At.jr hj ?_ h
      refine At.c 1 ?_ ?_
      ·refine bi fun u23 hu23 => ?_
       refine bi fun e24 he24 => ?_
       refine bi fun u25 hu25 => ?_
       refine bi fun e26 he26 => ?_
       refine bi fun u27 hu27 => ?_
       refine bi fun e28 he28 => ?_
       refine lx ?_; intro x29
       refine bi fun u30 hu30 => ?_
       refine bi fun e31 he31 => ?_
       refine lx ?_; intro x32
       refine bi fun u33 hu33 => ?_
       refine bi fun e34 he34 => ?_
       refine At.d 2 (dE1 2 (fun _ => bL hT (k := 1) 3 [] 0 hu23) (dEL hT 3 (j64 e24) j64 0 he24 (dE1 5 (fun _ => bL hT (k := 1) 4 [] 0 hu25) (dEL hT 6 (j64 e26) j64 0 he26 (dE1 9 (fun _ => bL hT (k := 1) 5 [] 0 hu27) (dEL hT 10 (j64 e28) j64 0 he28 (dE1 13 (fun _ => bL hT (k := 1) 6 [] 0 hu30) (dEL hT 14 (j64 e31) j64 0 he31 (dE1 18 (fun _ => bL hT (k := 1) 7 [] 0 hu33) dE0))))))))) (dF 19 (.v (.bool false)) [(7, .var (eA 3 1 j64 (s21.setIfInBounds s22.toNat (I64 (Int.tdiv x32 4)))))] [] (dA (mF hT j64 0 s21 he34 (I64 (Int.tdiv x32 4)) (by kernel_rfl) (by kernel_rfl) (H' := [.var (.st 2 [(j64 0), (.v (.slice none 0 0))]), .var (.st 2 [(j64 ((I64 (Int.tdiv a0.gE 2)))), (eO 2 3 (eA 3 1 j64) s5)]), .tail (s5.length * 3), .var (eA 3 1 j64 r12), .var (eA 3 1 j64 r14), .var (eA 3 1 j64 r16), .var (eA 3 1 j64 r19), .var (eA 3 1 j64 (s21.setIfInBounds s22.toNat (I64 (Int.tdiv x32 4))))]))) dF0) ?_
       exact fun h => At.k 2 ⟨_, _, h, jr⟩
      ·apply rt; exact At.x 0
    ·refine At.o 3 (cX hT (x := (.sl 3 1 [(eA 3 1 j64 p20)]))) ?_
     refine At.b 0 (fun _ e => qR hT (eA 3 1 j64) (id := 2) (k := 3) e) fun z35 => ?_
     exact fun h => At.k 4 ⟨_, _, h, jr⟩
   ·apply rt; exact At.x 0
 ·apply rt; exact At.r 2

def bU (N : Nat)  : Nat → (List aD) → aD → Option ((List aD) × aD)
 | 0, _, _ => none
 | k + 1, s2, s3 =>
  Option.bind (kV N s2 s3 s3) fun r4 =>
  cond (decide (s3.gE > 1)) (
   Option.bind (pE N s3) fun r5 =>
   bU N k r4 r5) (
   some ((r4, s3)))

def dH (N : Nat) (b2 : (List aD)) (a1 : aD) : Option ((List aD) × aD) :=
 Option.bind (bU N N b2 a1) fun p1 =>
 some ((p1.1, p1.2))

theorem oG {N : Nat} {b2 : (List aD)} {a1 : aD} {r : (List aD) × aD} (h : dH N b2 a1 = some r) : ItM Tryz.prog 140 (aMn 25 Tryz.f26.body [1, 1, 1, 0, 1, 0]) [en 5 (.ref 0 [] 0)] [.var (eO 2 2 aD.enc b2), .var (aD.enc a1), .tail (b2.length * 2)] [(.yld 3), (.ref 1 [] 0)] (.tup []) [.var (eO 2 2 aD.enc r.1), .var (aD.enc r.2), .tail (r.1.length * 2)] none := by
 unfold dH at h
 refine aKv (m := 13) (lo := 4) (rs := []) hT Tryz.func140 rfl (by kernel_rfl) rfl (fun fn tmps D hsz => At.of dG hT hmo h ?_)
 refine At.L 0 [] 4 (fun p1 => ([], [(0, .var (eO 2 2 aD.enc p1.1)), (1, .var (aD.enc p1.2)), (2, .tail (p1.1.length * 2))], [])) (fun p1 J k => ∃ s2 s3, bU N k s2 s3 = some p1 ∧ J [0, 1] 4 [] [(0, .var (eO 2 2 aD.enc s2)), (1, .var (aD.enc s3)), (2, .tail (s2.length * 2))] []) N (fun _ h => ⟨_, _, h, jr⟩) (fun p1 k s hI => ?_) fun p1 => ?_
 ·obtain ⟨s2, s3, h, hj⟩ := hI
  cases k with
  | zero => cases h
  | succ k =>
   refine At.jr hj ?_ h
   refine At.b 2 (fun _ e => aM7 (aAY e) (fn := fn) (D := D) hsz rfl (List.mem_singleton.2 rfl) (by kernel_rfl) (by kernel_rfl)) fun r4 => ?_
   refine At.g [6] 5 ?_
   refine At.c 0 ?_ ?_
   ·refine At.b 1 (fun _ e => aK [] (aD9 e)) fun r5 => ?_
    exact fun h => At.k 1 ⟨_, _, h, jr⟩
   ·apply rt; exact At.x 0
 ·apply rt; exact At.z 0

theorem nY : rT Tryz.prog 140 := wF (show yN Tryz.prog 140 = true by kernel_rfl)

def aDU : Nat → Bool := imL [1]

def nO (N : Nat) (a0 : aD) : Option ((List aD) × Int) :=
 Option.bind (eM N a0) fun r1 =>
 cond (r1 != 0) (
  some (([], r1))) (
  Option.bind (fQ N a0.gG) fun r2 =>
  Option.bind (pR N (aD.mk a0.gE r2)) fun r3 =>
  Option.bind (dH N [] ((aD.mk a0.gE r2))) fun r4 =>
  some ((r4.1, 0)))

theorem aCX {N a0 r} (h : nO N a0 = some r) : FnM Tryz.prog 26 [] [(aD.enc a0)] (.tup [(eL 2 aD.enc r.1), (j64 r.2)]) [] := by
 unfold nO at h
 refine At.fR aDU hT hmo Tryz.func26 rfl h ?_
 refine At.b 4 (fun _ e => aK [] (pS e)) fun r1 => ?_
 refine At.c 3 ?_ ?_
 ·apply rt; exact At.r 3
 ·refine bi fun r2 hr2 => ?_
  refine bi fun r3 hr3 => ?_
  refine At.d 1 (dE2 4 (eL 3 (eA 3 1 j64) r2) (fun _ => aF (vE hr2)) dE0) (dF 6 (.fn (.func 140) [] [(.ref 1 [] 0)]) [] [.var (aD.enc ((aD.mk a0.gE r2)))] (dA (aK [] (aCT hr3))) dF0) ?_
  refine At.ownb 0 0 2 [] ?_
  refine bi fun r4 hr4 => ?_
  refine At.rg 0 (oG hr4) nY (.tmp 18) [0, 1, 2] ⟨[en 5 (.ref 0 [] 0)], [.var (eO 2 2 aD.enc r4.1), .var (aD.enc r4.2), .tail (r4.1.length * 2)]⟩ [(.ref 1 [] 0)] ?_
  apply rt; exact At.r 3

def oZ (N : Nat) (a0 : (List aE)) (a1 : Int) : Option (Sum (Int) ((List aE) × Int)) :=
 aM (cond (decide (a1 < 0)) true (decide (a1 > 4096))) fun x1 =>
 cond x1 (
  some (Sum.inl 2)) (
  aM (decide (((a0.length : Int)) > a1)) fun x2 =>
  cond x2 (
   some (Sum.inl 15)) (
   Option.bind (mkO 152 a1) fun _ =>
   Option.bind (cpD (List.replicate a1.toNat (aE.mk (#v[aA.mk 0 0 0, aA.mk 0 0 0, aA.mk 0 0 0]) (#v[#v[0, 0], #v[0, 0], #v[0, 0]]) 0 0 0 0 : aE)) a0 a1.toNat) fun v4 =>
   Option.bind (yO v4 a1.toNat) fun _ =>
   some (Sum.inr ((v4, 0)))))

theorem aCb {N a0 a1 r} (h : oZ N a0 a1 = some r) : FnM Tryz.prog 28 [] [(eL 19 aE.enc a0), (j64 a1)] (aED r (fun r => (.tup [(.v (.pointer none)), (j64 r)])) (fun r => (.tup [(.ref 1 [] 0), (j64 r.2)]))) (aED r (fun r => []) (fun r => [.dead, .var (.st 3 [(.st 1 [(j64 0)]), (eB true), (eL 19 aE.enc r.1)])])) := by
 unfold oZ at h
 refine At.f dG hT hmo Tryz.func28 rfl h ?_
 refine lx ?_; intro x1
 refine At.c 9 ?_ ?_
 ·apply rt; exact At.r 2
 ·refine lx ?_; intro x2
  refine At.c 5 ?_ ?_
  ·apply rt; exact At.r 2
  ·refine At.b 1 (fun _ e => aOW hT aE.enc ((aE.mk (#v[aA.mk 0 0 0, aA.mk 0 0 0, aA.mk 0 0 0]) (#v[#v[0, 0], #v[0, 0], #v[0, 0]]) 0 0 0 0 : aE)) (k := 19) (kd := .st [(0, 57), (9, 59), (15, 3), (16, 3), (17, 3), (18, 5)]) e (by kernel_rfl) (by kernel_rfl) rfl) fun u3 => ?_
   refine At.b 8 (fun v4 e => aMB hT aE.enc (id := 0) (k := 19) (N := a1.toNat * 19) (H' := [.var (.arr (a1.toNat * 19) 19 (List.map aE.enc v4)), .var (.st 3 [(.st 1 [(j64 0)]), (eB true), (.bsl 0 [] 0 19 0 a1.toNat)])]) e (by kernel_rfl) (by kernel_rfl) (by kernel_rfl)) fun v4 => ?_
   refine bi fun u5 hu5 => ?_
   refine At.fz 3 0 19 a1.toNat _ (List.map aE.enc v4) (List.length_map _) (lenM aE.enc hu5) ?_
   apply rt; exact At.r 0

theorem aEn {N a0 a1 r} (h : oZ N a0 a1 = some (Sum.inl r)) : FnM Tryz.prog 28 [] [(eL 19 aE.enc a0), (j64 a1)] (.tup [(.v (.pointer none)), (j64 r)]) [] := aCb h

theorem aFF {N a0 a1 r} (h : oZ N a0 a1 = some (Sum.inr r)) : FnM Tryz.prog 28 [] [(eL 19 aE.enc a0), (j64 a1)] (.tup [(.ref 1 [] 0), (j64 r.2)]) [.dead, .var (.st 3 [(.st 1 [(j64 0)]), (eB true), (eL 19 aE.enc r.1)])] := aCb h

def nP (N : Nat) (a0 : aE) : Nat → aA → aA → Int → Option (aA × aA)
 | 0, _, _, _ => none
 | k + 1, s2, s3, s4 =>
  aM (decide (s4 < ((3 : Int)))) fun x5 =>
  cond x5 (
   Option.bind (fK s4 3) fun _ =>
   Option.bind (a0.gP.toList[s4.toNat]?) fun e7 =>
   Option.bind (cond (s4 == 0) (some ((e7, e7))) (some ((s2, s3)))) fun p8 =>
   nP N a0 k (aA.mk (jI p8.1.gX e7.gX) (jI p8.1.gY e7.gY) (jI p8.1.gZ e7.gZ)) (aA.mk (iS p8.2.gX e7.gX) (iS p8.2.gY e7.gY) (iS p8.2.gZ e7.gZ)) (I64 (s4 + 1))) (
   some ((s2, s3)))

def uE (N : Nat) (a0 : aE) : Option (aA × aA) :=
 Option.bind (nP N a0 N (aA.mk 0 0 0) (aA.mk 0 0 0) 0) fun p1 =>
 some ((p1.1, p1.2))

theorem aG8 {N a0 r} (h : uE N a0 = some r) : FnM Tryz.prog 142 [.var (aE.enc a0)] [(.bsl 0 [0] 0 3 0 3)] (.tup [(aA.enc r.1), (aA.enc r.2)]) [.var (aE.enc a0)] := by
 unfold uE at h
 refine At.f dG hT hmo Tryz.func142 rfl h ?_
 refine At.L 5 [2, 3] 3 (fun p1 => ([], [(1, .var (aA.enc p1.1)), (2, .var (aA.enc p1.2))], [])) (fun p1 J k => ∃ s2 s3 s4, nP N a0 k s2 s3 s4 = some p1 ∧ J [2, 3, 6, 7] 3 [(8, (j64 s4))] [(1, .var (aA.enc s2)), (2, .var (aA.enc s3))] []) N (fun _ h => ⟨_, _, _, h, jr⟩) (fun p1 k s hI => ?_) fun p1 => ?_
 ·obtain ⟨s2, s3, s4, h, hj⟩ := hI
  cases k with
  | zero => cases h
  | succ k =>
   refine At.jr hj ?_ h
   refine lx ?_; intro x5
   refine At.c 1 ?_ ?_
   ·refine At.b 1 (fun _ e => aM3 hT 0 [0] 0 0 3 (k := 3) e (by kernel_rfl) (by kernel_rfl)) fun u6 => ?_
    refine At.b 0 (fun _ e => nE hT aA.enc 1 e) fun e7 => ?_
    refine At.J 3 1 [2, 3, 5, 6, 7, 8] 4 (fun p8 => ([], [(1, .var (aA.enc p8.1)), (2, .var (aA.enc p8.2))], [])) (fun p8 => ?_) fun p8 => ?_
    ·refine At.c 2 ?_ ?_
     ·refine At.d 0 dE0 dF0 ?_
      apply rt; exact At.jn 0
     ·apply rt; exact At.jn 0
    ·exact fun h => At.k 36 ⟨_, _, _, h, jr⟩
   ·apply rt; exact At.x 0
 ·refine At.d 0 dE0 dF0 ?_
  apply rt; exact At.r 0

def pP (N : Nat) (a0 : (List aA)) : Nat → aA → aA → Int → Option (aA × aA)
 | 0, _, _, _ => none
 | k + 1, s2, s3, s4 =>
  aM (decide (s4 < ((a0.length : Int)))) fun x5 =>
  cond x5 (
   Option.bind (idx a0 s4) fun e6 =>
   Option.bind (cond (s4 == 0) (some ((e6, e6))) (some ((s2, s3)))) fun p7 =>
   pP N a0 k (aA.mk (jI p7.1.gX e6.gX) (jI p7.1.gY e6.gY) (jI p7.1.gZ e6.gZ)) (aA.mk (iS p7.2.gX e6.gX) (iS p7.2.gY e6.gY) (iS p7.2.gZ e6.gZ)) (I64 (s4 + 1))) (
   some ((s2, s3)))

def lJ (N : Nat) (a0 : (List aA)) : Option (aA × aA) :=
 Option.bind (pP N a0 N (aA.mk 0 0 0) (aA.mk 0 0 0) 0) fun p1 =>
 some ((p1.1, p1.2))

theorem pM {N a0 r} (h : lJ N a0 = some r) : FnM Tryz.prog 142 [] [(eL 3 aA.enc a0)] (.tup [(aA.enc r.1), (aA.enc r.2)]) [] := by
 unfold lJ at h
 refine At.f dG hT hmo Tryz.func142 rfl h ?_
 refine At.L 5 [2, 3] 2 (fun p1 => ([], [(0, .var (aA.enc p1.1)), (1, .var (aA.enc p1.2))], [])) (fun p1 J k => ∃ s2 s3 s4, pP N a0 k s2 s3 s4 = some p1 ∧ J [2, 3, 6, 7] 2 [(8, (j64 s4))] [(0, .var (aA.enc s2)), (1, .var (aA.enc s3))] []) N (fun _ h => ⟨_, _, _, h, jr⟩) (fun p1 k s hI => ?_) fun p1 => ?_
 ·obtain ⟨s2, s3, s4, h, hj⟩ := hI
  cases k with
  | zero => cases h
  | succ k =>
   refine At.jr hj ?_ h
   refine lx ?_; intro x5
   refine At.c 1 ?_ ?_
   ·refine At.b 1 (fun _ e => cC hT aA.enc e) fun e6 => ?_
    refine At.J 4 1 [2, 3, 5, 6, 7, 8] 3 (fun p7 => ([], [(0, .var (aA.enc p7.1)), (1, .var (aA.enc p7.2))], [])) (fun p7 => ?_) fun p7 => ?_
    ·refine At.c 2 ?_ ?_
     ·refine At.d 0 dE0 dF0 ?_
      apply rt; exact At.jn 0
     ·apply rt; exact At.jn 0
    ·exact fun h => At.k 36 ⟨_, _, _, h, jr⟩
   ·apply rt; exact At.x 0
 ·refine At.d 0 dE0 dF0 ?_
  apply rt; exact At.r 0

def lX (N : Nat) (a3 : Nat) (b0 : (List Int)) (a2 : Nat) (a1 : (List aE)) : Nat → aA → aA → Int → Option (aA × aA)
 | 0, _, _, _ => none
 | k + 1, s2, s3, s4 =>
  aM (decide (s4 < ((a3 : Int)))) fun x5 =>
  cond x5 (
   Option.bind (Option.bind (uI b0.length a2 a3 s4) fun _ =>
   Option.bind (b0[(vB a2 s4.toNat)]?) fun e8 =>
   Option.bind (idx a1 e8) fun e9 =>
   Option.bind (uF e9.gP.toList 0 3) fun s10 =>
   Option.bind (lJ N s10) fun r11 =>
   cond (s4 == 0) (
    some ((r11.1, r11.2, r11.1, r11.2))) (
    Option.bind (lJ N ([s2, r11.1])) fun r12 =>
    Option.bind (lJ N ([s3, r11.2])) fun r13 =>
    some ((r12.1, r13.2, r11.1, r11.2)))) fun p6 =>
   lX N a3 b0 a2 a1 k p6.1 p6.2.1 (I64 (s4 + 1))) (
   some ((s2, s3)))

def sN (N : Nat) (b0 : (List Int)) (a1 : (List aE)) (a2 : Nat) (a3 : Nat) : Option (aA × aA) :=
 Option.bind (lX N a3 b0 a2 a1 N (aA.mk 0 0 0) (aA.mk 0 0 0) 0) fun p1 =>
 some ((p1.1, p1.2))

theorem aFZ {N b0 a1 a2 a3 r} (h : sN N b0 a1 a2 a3 = some r) : FnM Tryz.prog 143 [.gro 1 (List.map j64 b0)] [(eL 19 aE.enc a1), (.gro 0 1 b0.length (.sub a2 a3))] (.tup [(aA.enc r.1), (aA.enc r.2)]) [.gro 1 (List.map j64 b0)] := by
 unfold sN at h
 refine At.f dG hT hmo Tryz.func143 rfl h ?_
 refine At.L 5 [4, 5] 3 (fun p1 => ([], [(1, .var (aA.enc p1.1)), (2, .var (aA.enc p1.2))], [])) (fun p1 J k => ∃ s2 s3 s4, lX N a3 b0 a2 a1 k s2 s3 s4 = some p1 ∧ J [0, 4, 5, 10, 11] 3 [(12, (j64 s4))] [(1, .var (aA.enc s2)), (2, .var (aA.enc s3))] []) N (fun _ h => ⟨_, _, _, h, jr⟩) (fun p1 k s hI => ?_) fun p1 => ?_
 ·obtain ⟨s2, s3, s4, h, hj⟩ := hI
  cases k with
  | zero => cases h
  | succ k =>
   refine At.jr hj ?_ h
   refine lx ?_; intro x5
   refine At.c 1 ?_ ?_
   ·refine At.J 0 2 [0, 4, 5, 10, 11, 12] 3 (fun p6 => ([], [(1, .var (aA.enc p6.1)), (2, .var (aA.enc p6.2.1))], [.var (aA.enc p6.2.2.1), .var (aA.enc p6.2.2.2)])) (fun p6 => ?_) fun p6 => ?_
    ·refine At.b 1 (fun _ e => jC hT (id := 0) (k := 1) e (by kernel_rfl) (by kernel_rfl)) fun u7 => ?_
     refine At.b 0 (fun _ e => mP hT j64 [] e rfl (by kernel_rfl) (by kernel_rfl)) fun e8 => ?_
     refine At.b 4 (fun _ e => cC hT aE.enc e) fun e9 => ?_
     refine At.b 1 (fun _ e => zF hT (N := 9) (k := 3) aA.enc e9.gP e) fun s10 => ?_
     refine At.b 0 (fun _ e => aK [] (pM e)) fun r11 => ?_
     refine At.c 9 ?_ ?_
     ·refine At.d 0 dE0 dF0 ?_
      apply rt; exact At.jn 0
     ·refine At.o 2 (cX hT (x := (.sl 3 2 [(aA.enc s2), (aA.enc r11.1)]))) ?_
      refine At.b 0 (fun _ e => aK [] (pM e)) fun r12 => ?_
      refine At.o 6 (cX hT (x := (.sl 3 2 [(aA.enc s3), (aA.enc r11.2)]))) ?_
      refine At.b 0 (fun _ e => aK [] (pM e)) fun r13 => ?_
      apply rt; exact At.jn 4
    ·exact fun h => At.k 2 ⟨_, _, _, h, jr⟩
   ·apply rt; exact At.x 0
 ·refine At.d 0 dE0 dF0 ?_
  apply rt; exact At.r 0

def aHO : Nat → Bool := imL [1]

def iK (N : Nat) (a0 : aE) : Option (aA) :=
 Option.bind (uF a0.gP.toList 0 3) fun s1 =>
 Option.bind (lJ N s1) fun r2 =>
 aM (I64 (r2.1.gX + r2.2.gX)) fun x3 =>
 aM (I64 (r2.1.gY + r2.2.gY)) fun x4 =>
 aM (I64 (r2.1.gZ + r2.2.gZ)) fun x5 =>
 some (aA.mk ((I64 (r2.1.gX + r2.2.gX))) ((I64 (r2.1.gY + r2.2.gY))) ((I64 (r2.1.gZ + r2.2.gZ))))

theorem qN {N a0 r} (h : iK N a0 = some r) : FnM Tryz.prog 204 [] [(aE.enc a0)] (aA.enc r) [] := by
 unfold iK at h
 refine At.f aHO hT hmo Tryz.func204 rfl h ?_
 refine At.b 3 (fun _ e => zF hT (N := 9) (k := 3) aA.enc a0.gP e) fun s1 => ?_
 refine At.b 0 (fun _ e => aK [] (pM e)) fun r2 => ?_
 refine lx ?_; intro x3
 refine lx ?_; intro x4
 refine lx ?_; intro x5
 apply rt; exact At.r 24

def aIs : Nat → Bool := imL [2]

def jX (N : Nat) (a0 : aA) (a1 : Int) : Option (Int) :=
 Option.bind (idx (#v[a0.gX, a0.gY, a0.gZ]).toList a1) fun e1 =>
 some e1

theorem lG {N a0 a1 r} (h : jX N a0 a1 = some r) : FnM Tryz.prog 205 [] [(aA.enc a0), (j64 a1)] (j64 r) [] := by
 unfold jX at h
 refine At.f aIs hT hmo Tryz.func205 rfl h ?_
 refine At.b 10 (fun _ e => xP hT j64 (#v[a0.gX, a0.gY, a0.gZ]) e (by kernel_rfl) (by kernel_rfl)) fun e1 => ?_
 apply rt; exact At.r 1

def mH (N : Nat) (a0 : Int) (a1 : Int) (a2 : (List aE)) (a3 : Int) : Option (Int) :=
 Option.bind (idx a2 a0) fun e1 =>
 Option.bind (iK N e1) fun r2 =>
 Option.bind (jX N r2 a3) fun r3 =>
 Option.bind (idx a2 a1) fun e4 =>
 Option.bind (iK N e4) fun r5 =>
 Option.bind (jX N r5 a3) fun r6 =>
 some (I64 (r3 - r6))

theorem aBp {N a0 a1 a2 a3 r} (h : mH N a0 a1 a2 a3 = some r) : FnM Tryz.prog 207 [.var (j64 a3)] [(j64 a0), (j64 a1), (.im (eL 19 aE.enc a2)), (.ref 0 [] 0)] (j64 r) [.var (j64 a3)] := by
 unfold mH at h
 refine At.f dG hT hmo Tryz.func207 rfl h ?_
 refine bi fun e1 he1 => ?_
 refine bi fun r2 hr2 => ?_
 refine bi fun r3 hr3 => ?_
 refine bi fun e4 he4 => ?_
 refine bi fun r5 hr5 => ?_
 refine bi fun r6 hr6 => ?_
 refine At.d 1 (dE1 2 (fun _ => cC hT aE.enc he1) (dE2 4 (aA.enc r2) (fun _ => aF (qN hr2)) (dE2 6 (j64 r3) (fun _ => aF (lG hr3)) (dE1 9 (fun _ => cC hT aE.enc he4) (dE2 11 (aA.enc r5) (fun _ => aF (qN hr5)) (dE2 13 (j64 r6) (fun _ => aF (lG hr6)) dE0)))))) dF0 ?_
 apply rt; exact At.r 0

def bM (N : Nat) (a3 : Int) (a1 : Nat) (a5 : (List aE)) (a6 : Int) : Nat → (List Int) → Nat → Int → Option ((List Int) × Nat)
 | 0, _, _, _ => none
 | k + 1, s6, s7, s8 =>
  Option.bind (cond (decide (s8 > a3)) (
   Option.bind (uI s6.length a1 s7 s8) fun _ =>
   Option.bind (s6[(vB a1 s8.toNat)]?) fun e11 =>
   Option.bind (uI s6.length a1 s7 (I64 (s8 - 1))) fun _ =>
   Option.bind (s6[(vB a1 ((I64 (s8 - 1)).toNat))]?) fun e13 =>
   Option.bind (mH N e11 e13 a5 a6) fun r14 =>
   some (decide (r14 < 0))) (
   some false)) fun p9 =>
  cond p9 (
   Option.bind (uI s6.length a1 s7 (I64 (s8 - 1))) fun _ =>
   Option.bind (s6[(vB a1 ((I64 (s8 - 1)).toNat))]?) fun e16 =>
   Option.bind (uI s6.length a1 s7 s8) fun _ =>
   Option.bind (s6[(vB a1 s8.toNat)]?) fun e18 =>
   Option.bind (uI s6.length a1 s7 s8) fun _ =>
   Option.bind (aEY s6 ((vB a1 s8.toNat)) e16) fun z20 =>
   Option.bind (uI s6.length a1 s7 (I64 (s8 - 1))) fun _ =>
   Option.bind (aEY z20 ((vB a1 ((I64 (s8 - 1)).toNat))) e18) fun z22 =>
   bM N a3 a1 a5 a6 k z22 s7 (I64 (s8 - 1))) (
   some ((s6, s7)))

def bX (N : Nat) (a4 : Int) (a3 : Int) (a1 : Nat) (a5 : (List aE)) (a6 : Int) : Nat → (List Int) → Nat → Int → Option ((List Int))
 | 0, _, _, _ => none
 | k + 1, s2, s3, s4 =>
  cond (decide (s4 < a4)) (
   Option.bind (bM N a3 a1 a5 a6 N s2 s3 s4) fun p5 =>
   bX N a4 a3 a1 a5 a6 k p5.1 p5.2 (I64 (s4 + 1))) (
   some s2)

def bG (N : Nat) (b0 : (List Int)) (a1 : Nat) (a2 : Nat) (a3 : Int) (a4 : Int) (a5 : (List aE)) (a6 : Int) : Option ((List Int)) :=
 Option.bind (bX N a4 a3 a1 a5 a6 N b0 a2 (I64 (a3 + 1))) fun p1 =>
 some p1

theorem iH {N b0 a1 a2 a3 a4 a5 a6 r} (h : bG N b0 a1 a2 a3 a4 a5 a6 = some r) : FnM Tryz.prog 265 [.gro 1 (List.map j64 b0), .var (j64 a6)] [(.gro 0 1 b0.length (.sub a1 a2)), (j64 a3), (j64 a4), (.fn (.func 207) [] [(.im (eL 19 aE.enc a5)), (.ref 1 [] 0)])] (.tup []) [.gro 1 (List.map j64 r), .var (j64 a6)] := by
 unfold bG at h
 refine At.f dG hT hmo Tryz.func265 rfl h ?_
 refine At.L 3 [] 2 (fun p1 => ([], [(0, .gro 1 (List.map j64 p1))], [])) (fun p1 J k => ∃ s2 s3 s4, bX N a4 a3 a1 a5 a6 k s2 s3 s4 = some p1 ∧ J [1, 2, 3] 2 [(0, (.gro 0 1 s2.length (.sub a1 s3))), (8, (j64 s4))] [(0, .gro 1 (List.map j64 s2))] []) N (fun _ h => ⟨_, _, _, h, jr⟩) (fun p1 k s hI => ?_) fun p1 => ?_
 ·obtain ⟨s2, s3, s4, h, hj⟩ := hI
  cases k with
  | zero => cases h
  | succ k =>
   refine At.jr hj ?_ h
   refine At.c 3 ?_ ?_
   ·refine At.L 2 [1, 2, 3, 8] 2 (fun p5 => ([(0, (.gro 0 1 p5.1.length (.sub a1 p5.2)))], [(0, .gro 1 (List.map j64 p5.1))], [])) (fun p5 J k => ∃ s6 s7 s8, bM N a3 a1 a5 a6 k s6 s7 s8 = some p5 ∧ J [1, 2, 3, 8] 2 [(0, (.gro 0 1 s6.length (.sub a1 s7))), (9, (j64 s8))] [(0, .gro 1 (List.map j64 s6))] []) N (fun _ h => ⟨_, _, _, h, jr⟩) (fun p5 k s hI => ?_) fun p5 => ?_
    ·obtain ⟨s6, s7, s8, h, hj⟩ := hI
     cases k with
     | zero => cases h
     | succ k =>
      refine At.jr hj ?_ h
      refine At.J 0 0 [0, 1, 2, 3, 8, 9] 2 (fun p9 => ([(34, (eB p9))], [], [])) (fun p9 => ?_) fun p9 => ?_
      ·refine boI (fun hc3 => ?_) (fun hc3 => ?_)
       ·refine bi fun u10 hu10 => ?_
        refine bi fun e11 he11 => ?_
        refine bi fun u12 hu12 => ?_
        refine bi fun e13 he13 => ?_
        refine bi fun r14 hr14 => ?_
        refine At.d 0 (dE1 3 (fun _ => aR hc3 rfl (aQ hT (im := false) (by kernel_rfl))) (dE1 7 (fun _ => jC hT (id := 0) (k := 1) hu10 (by kernel_rfl) (by kernel_rfl)) (dET 8 (j64 e11) [[.gro 1 (List.map j64 s6), .var (j64 a6)]] ⟨dA (mP hT j64 [] he11 rfl (by kernel_rfl) (by kernel_rfl)), trivial⟩ (dE1 12 (fun _ => jC hT (id := 0) (k := 1) hu12 (by kernel_rfl) (by kernel_rfl)) (dET 13 (j64 e13) [[.gro 1 (List.map j64 s6), .var (j64 a6)]] ⟨dA (mP hT j64 [] he13 rfl (by kernel_rfl) (by kernel_rfl)), trivial⟩ dE0))))) (dF 14 (j64 r14) [] [] (dA (aK [1] (aBp hr14))) dF0) ?_
        apply rt; exact At.jn 0
       ·refine At.d 0 (dE1 3 (fun _ => aR hc3 rfl (aQ hT (im := false) (by kernel_rfl))) dE0) dF0 ?_
        apply rt; exact At.jn 0
      ·refine At.c 0 ?_ ?_
       ·refine bi fun u15 hu15 => ?_
        refine bi fun e16 he16 => ?_
        refine bi fun u17 hu17 => ?_
        refine bi fun e18 he18 => ?_
        refine bi fun u19 hu19 => ?_
        refine bi fun z20 hz20 => ?_
        refine bi fun u21 hu21 => ?_
        refine bi fun z22 hz22 => ?_
        refine At.d 0 (dE1 8 (fun _ => jC hT (id := 0) (k := 1) hu15 (by kernel_rfl) (by kernel_rfl)) (dET 9 (j64 e16) [[.gro 1 (List.map j64 s6), .var (j64 a6)]] ⟨dA (mP hT j64 [] he16 rfl (by kernel_rfl) (by kernel_rfl)), trivial⟩ (dE1 12 (fun _ => jC hT (id := 0) (k := 1) hu17 (by kernel_rfl) (by kernel_rfl)) (dET 13 (j64 e18) [[.gro 1 (List.map j64 s6), .var (j64 a6)]] ⟨dA (mP hT j64 [] he18 rfl (by kernel_rfl) (by kernel_rfl)), trivial⟩ (dE1 14 (fun _ => jC hT (id := 0) (k := 1) hu19 (by kernel_rfl) (by kernel_rfl)) (dE1 16 (fun _ => jC hT (id := 0) (k := 1) hu21 (by kernel_rfl) (by kernel_rfl)) dE0)))))) (dF 15 (.v (.bool false)) [(0, .gro 1 (List.map j64 z20))] [] (dA (aAV hT j64 (k := 1) e16 hz20 rfl (by kernel_rfl) (fun _ => by kernel_rfl) (by kernel_rfl) (H' := [.gro 1 (List.map j64 z20), .var (j64 a6)]) (by kernel_rfl))) (dF 17 (.v (.bool false)) [(0, .gro 1 (List.map j64 z22))] [] (dA (aAV hT j64 (k := 1) e18 hz22 ((aAf hz20).2.2).symm (by kernel_rfl) (fun _ => by kernel_rfl) (by kernel_rfl) (H' := [.gro 1 (List.map j64 z22), .var (j64 a6)]) (by kernel_rfl))) dF0)) ?_
        refine At.gl 0 [0] [] 0 s6.length z22.length (((aAf hz22).2.2).trans ((aAf hz20).2.2)) ?_
        exact fun h => At.k 3 ⟨_, _, _, h, jr⟩
       ·apply rt; exact At.x 0
    ·exact fun h => At.k 3 ⟨_, _, _, h, jr⟩
   ·apply rt; exact At.x 0
 ·apply rt; exact At.z 0


def bY (N : Nat) (a3 : Int) (a1 : Nat) (a4 : (List aE)) (a5 : Int) : Nat → (List Int) → Nat → Int → Int → Option ((List Int) × Nat × Int)
 | 0, _, _, _, _ => none
 | k + 1, s2, s3, s4, s5 =>
  cond (decide (s5 ≤ a3)) (
   Option.bind (bG N s2 a1 s3 s4 s5 a4 a5) fun r6 =>
   Option.bind (yO r6 s2.length) fun _ =>
   bY N a3 a1 a4 a5 k r6 s3 s5 (I64 (s5 + 20))) (
   some ((s2, s3, s4)))

def eY (N : Nat) (s11 : Int) (a3 : Int) : Nat → Option (Unit)
 | 0 => none
 | k + 1 =>
  aM (decide ((I64 (2 * s11)) ≤ a3)) fun x13 =>
  cond x13 (none) (some (()))

def cQ (N : Nat) (a3 : Int) : Nat → Int → Option (Unit)
 | 0, _ => none
 | k + 1, s11 =>
  cond (decide (s11 < a3)) (
   Option.bind (eY N s11 a3 N ) fun p12 =>
   Option.bind (aM (decide ((I64 (0 + s11)) < a3)) fun x15 =>
   cond x15 (none) (some (()))) fun p14 =>
   cQ N a3 k (I64 (s11 * 2))) (
   some (()))

def dO (N : Nat) (b0 : (List Int)) (a1 : Nat) (a2 : Nat) (a3 : Int) (a4 : (List aE)) (a5 : Int) : Option ((List Int)) :=
 Option.bind (bY N a3 a1 a4 a5 N b0 a2 0 20) fun p1 =>
 Option.bind (bG N p1.1 a1 p1.2.1 p1.2.2 a3 a4 a5) fun r8 =>
 Option.bind (yO r8 p1.1.length) fun _ =>
 Option.bind (cQ N a3 N 20) fun p10 =>
 some r8

theorem oR {N b0 a1 a2 a3 a4 a5 r} (h : dO N b0 a1 a2 a3 a4 a5 = some r) : FnM Tryz.prog 249 [.gro 1 (List.map j64 b0), .var (j64 a5)] [(.gro 0 1 b0.length (.sub a1 a2)), (j64 a3), (.fn (.func 207) [] [(.im (eL 19 aE.enc a4)), (.ref 1 [] 0)])] (.tup []) [.gro 1 (List.map j64 r), .var (j64 a5)] := by
 unfold dO at h
 refine At.f dG hT hmo Tryz.func249 rfl h ?_
 refine At.L 4 [1, 2, 6] 2 (fun p1 => ([(0, (.gro 0 1 p1.1.length (.sub a1 p1.2.1))), (7, (j64 p1.2.2))], [(0, .gro 1 (List.map j64 p1.1))], [])) (fun p1 J k => ∃ s2 s3 s4 s5, bY N a3 a1 a4 a5 k s2 s3 s4 s5 = some p1 ∧ J [1, 2, 6] 2 [(0, (.gro 0 1 s2.length (.sub a1 s3))), (7, (j64 s4)), (8, (j64 s5))] [(0, .gro 1 (List.map j64 s2))] []) N (fun _ h => ⟨_, _, _, _, h, jr⟩) (fun p1 k s hI => ?_) fun p1 => ?_
 ·obtain ⟨s2, s3, s4, s5, h, hj⟩ := hI
  cases k with
  | zero => cases h
  | succ k =>
   refine At.jr hj ?_ h
   refine At.c 3 ?_ ?_
   ·refine bi fun r6 hr6 => ?_
    refine bi fun u7 hu7 => ?_
    refine At.o 4 (aK [0, 1] (iH hr6)) ?_
    refine At.gl 0 [0] [] 0 s2.length r6.length (aAv hu7) ?_
    exact fun h => At.k 6 ⟨_, _, _, _, h, jr⟩
   ·apply rt; exact At.x 0
 ·refine bi fun r8 hr8 => ?_
  refine bi fun u9 hu9 => ?_
  refine At.o 4 (aK [0, 1] (iH hr8)) ?_
  refine At.gl 0 [0] [] 0 p1.1.length r8.length (aAv hu9) ?_
  refine At.L 0 [] 2 (fun p10 => ([], [], [])) (fun p10 J k => ∃ s11, cQ N a3 k s11 = some p10 ∧ J [0, 1, 2] 2 [(6, (j64 s11))] [] []) N (fun _ h => ⟨_, h, jr⟩) (fun p10 k s hI => ?_) fun p10 => ?_
  ·obtain ⟨s11, h, hj⟩ := hI
   cases k with
   | zero => cases h
   | succ k =>
    refine At.jr hj ?_ h
    refine At.c 3 ?_ ?_
    ·refine At.L 4 [0, 1, 2, 6, 7] 2 (fun p12 => ([], [], [])) (fun p12 J k => eY N s11 a3 k  = some p12 ∧ J [0, 1, 2, 6, 7, 8] 2 [] [] []) N (fun _ h => ⟨h, jr⟩) (fun p12 k s hI => ?_) fun p12 => ?_
     ·obtain ⟨h, hj⟩ := hI
      cases k with
      | zero => cases h
      | succ k =>
       unfold eY at h
       dsimp only at h
       refine At.jr hj ?_ h
       refine lx ?_; intro x13
       refine At.c 3 ?_ ?_
       ·exact nn
       ·apply rt; exact At.x 0
     ·refine At.J 0 1 [0, 1, 2, 6] 2 (fun p14 => ([], [], [])) (fun p14 => ?_) fun p14 => ?_
      ·refine lx ?_; intro x15
       refine At.c 7 ?_ ?_
       ·exact nn
       ·apply rt; exact At.jn 0
      ·exact fun h => At.k 3 ⟨_, h, jr⟩
    ·apply rt; exact At.x 0
  ·apply rt; exact At.z 0

def cJ (N : Nat) (b0 : (List Int)) (a1 : Nat) (a2 : Nat) (a3 : (List aE)) (a4 : Int) : Option ((List Int)) :=
 Option.bind (dO N b0 a1 a2 ((a2 : Int)) a3 a4) fun r1 =>
 some r1

theorem nL {N b0 a1 a2 a3 a4 r} (h : cJ N b0 a1 a2 a3 a4 = some r) : FnM Tryz.prog 206 [.gro 1 (List.map j64 b0), .var (j64 a4)] [(.gro 0 1 b0.length (.sub a1 a2)), (.fn (.func 207) [] [(.im (eL 19 aE.enc a3)), (.ref 1 [] 0)])] (.tup []) [.gro 1 (List.map j64 r), .var (j64 a4)] := by
 unfold cJ at h
 refine At.f dG hT hmo Tryz.func206 rfl h ?_
 refine At.b 4 (fun _ e => aK [0, 1] (oR e)) fun r1 => ?_
 apply rt; exact At.z 0

def rN (N : Nat) (a0 : Int) (a1 : Int) (a2 : Int) : Option (Int) :=
 aM (I64 ((I64 (a0 - a1)) * 8)) fun x1 =>
 Option.bind (aHW .i64 x1 (I64 (a2 - a1))) fun x2 =>
 some (jI x2 7)

theorem aET {N a0 a1 a2 r} (h : rN N a0 a1 a2 = some r) : FnM Tryz.prog 210 [] [(j64 a0), (j64 a1), (j64 a2)] (j64 r) [] := by
 unfold rN at h
 refine At.f dG hT hmo Tryz.func210 rfl h ?_
 refine lx ?_; intro x1
 refine At.b 8 (fun _ e => aCc hT e (by kernel_rfl) (by kernel_rfl)) fun x2 => ?_
 apply rt; exact At.r 2

def aFR : Nat → Bool := imL [4]

def lS (N : Nat) (a0 : bA) (a1 : Int) (a2 : aA) (a3 : aA) : Option (bA) :=
 cond (a1 == 0) (
  some a0) (
  Option.bind (cond (decide (a0.gn > 0)) (
   Option.bind (lJ N ([a0.glo, a2])) fun r2 =>
   Option.bind (lJ N ([a0.ghi, a3])) fun r3 =>
   some ((r2.1, r3.2))) (
   some ((a2, a3)))) fun p1 =>
  some (bA.mk (I64 (a0.gn + a1)) p1.1 p1.2))

theorem uN {N a0 a1 a2 a3 r} (h : lS N a0 a1 a2 a3 = some r) : FnM Tryz.prog 250 [] [(bA.enc a0), (j64 a1), (aA.enc a2), (aA.enc a3)] (bA.enc r) [] := by
 unfold lS at h
 refine At.f aFR hT hmo Tryz.func250 rfl h ?_
 refine At.c 6 ?_ ?_
 ·apply rt; exact At.r 2
 ·refine At.J 0 1 [1, 4, 6, 7, 8] 3 (fun p1 => ([], [(0, .var (aA.enc p1.1)), (1, .var (aA.enc p1.2))], [])) (fun p1 => ?_) fun p1 => ?_
  ·refine At.c 3 ?_ ?_
   ·refine At.o 3 (cX hT (x := (.sl 3 2 [(aA.enc a0.glo), (aA.enc a2)]))) ?_
    refine At.b 0 (fun _ e => aK [] (pM e)) fun r2 => ?_
    refine At.o 7 (cX hT (x := (.sl 3 2 [(aA.enc a0.ghi), (aA.enc a3)]))) ?_
    refine At.b 0 (fun _ e => aK [] (pM e)) fun r3 => ?_
    apply rt; exact At.jn 4
   ·apply rt; exact At.jn 0
  ·apply rt; exact At.r 8

def aIq : Nat → Bool := imL [2, 3]

def aAH (N : Nat) (a0 : aA) (a1 : aA) : Option (Int) :=
 aM (shr .i64 (I64 (a1.gX - a0.gX)) 10) fun x1 =>
 aM (shr .i64 (I64 (a1.gY - a0.gY)) 10) fun x2 =>
 aM (shr .i64 (I64 (a1.gZ - a0.gZ)) 10) fun x3 =>
 aM (I64 ((I64 (x1 + 1)) * (I64 (x2 + 1)))) fun x4 =>
 aM (I64 ((I64 (x2 + 1)) * (I64 (x3 + 1)))) fun x5 =>
 aM (I64 ((I64 (x3 + 1)) * (I64 (x1 + 1)))) fun x6 =>
 aM (I64 ((I64 (x4 + x5)) + x6)) fun x7 =>
 some x7

theorem aIY {N a0 a1 r} (h : aAH N a0 a1 = some r) : FnM Tryz.prog 267 [] [(aA.enc a0), (aA.enc a1)] (j64 r) [] := by
 unfold aAH at h
 refine At.f aIq hT hmo Tryz.func267 rfl h ?_
 refine lx ?_; intro x1
 refine lx ?_; intro x2
 refine lx ?_; intro x3
 refine At.d 3 dE0 dF0 ?_
 refine lx ?_; intro x4
 refine lx ?_; intro x5
 refine lx ?_; intro x6
 refine lx ?_; intro x7
 apply rt; exact At.r 12

def aEF : Nat → Bool := imL [1]

def lY (N : Nat) (a0 : bA) : Option (Int) :=
 cond (a0.gn == 0) (
  some 1152921504606846976) (
  Option.bind (aAH N a0.glo a0.ghi) fun r1 =>
  some (I64 (a0.gn * r1)))

theorem yQ {N a0 r} (h : lY N a0 = some r) : FnM Tryz.prog 251 [] [(bA.enc a0)] (j64 r) [] := by
 unfold lY at h
 refine At.f aEF hT hmo Tryz.func251 rfl h ?_
 refine At.c 5 ?_ ?_
 ·apply rt; exact At.r 1
 ·refine bi fun r1 hr1 => ?_
  refine At.d 0 (dE2 6 (j64 r1) (fun _ => aF (aIY hr1)) dE0) dF0 ?_
  apply rt; exact At.r 0

def jV (N : Nat) (a3 : Nat) (b0 : (List Int)) (a2 : Nat) (a1 : (List aE)) (a4 : Int) (a5 : Int) (a6 : Int) : Nat → (Vector bA 8) → Int → Option ((Vector bA 8))
 | 0, _, _ => none
 | k + 1, s2, s3 =>
  aM (decide (s3 < ((a3 : Int)))) fun x4 =>
  cond x4 (
   Option.bind (uI b0.length a2 a3 s3) fun _ =>
   Option.bind (b0[(vB a2 s3.toNat)]?) fun e6 =>
   Option.bind (idx a1 e6) fun e7 =>
   Option.bind (uF e7.gP.toList 0 3) fun s8 =>
   Option.bind (lJ N s8) fun r9 =>
   Option.bind (idx a1 e6) fun e10 =>
   Option.bind (iK N e10) fun r11 =>
   Option.bind (jX N r11 a4) fun r12 =>
   Option.bind (rN N r12 a5 a6) fun r13 =>
   Option.bind (fK r13 8) fun _ =>
   Option.bind (s2.toList[r13.toNat]?) fun e15 =>
   Option.bind (lS N e15 1 r9.1 r9.2) fun r16 =>
   Option.bind (fK r13 8) fun _ =>
   Option.bind (s2.toList[r13.toNat]?) fun e18 =>
   jV N a3 b0 a2 a1 a4 a5 a6 k (s2.setIfInBounds r13.toNat r16) (I64 (s3 + 1))) (
   some s2)

def jW (N : Nat) (p1 : (Vector bA 8)) (s22 : Int) : Nat → bA → bA → Int → Option (bA × bA)
 | 0, _, _, _ => none
 | k + 1, s25, s26, s27 =>
  cond (decide (s27 < 8)) (
   Option.bind (Option.bind (idx p1.toList s27) fun e29 =>
   cond (decide (s27 < s22)) (
    Option.bind (lS N s25 e29.gn e29.glo e29.ghi) fun r30 =>
    some ((r30, s26, e29))) (
    Option.bind (lS N s26 e29.gn e29.glo e29.ghi) fun r31 =>
    some ((s25, r31, e29)))) fun p28 =>
   jW N p1 s22 k p28.1 p28.2.1 (I64 (s27 + 1))) (
   some ((s25, s26)))

def lN (N : Nat) (p1 : (Vector bA 8)) : Nat → Int → Int → Int → Option (Int)
 | 0, _, _, _ => none
 | k + 1, s20, s21, s22 =>
  cond (decide (s22 < 8)) (
   Option.bind (Option.bind (jW N p1 s22 N (bA.mk 0 (aA.mk 0 0 0) (aA.mk 0 0 0)) (bA.mk 0 (aA.mk 0 0 0) (aA.mk 0 0 0)) 0) fun p24 =>
   Option.bind (lY N p24.1) fun r32 =>
   aM (jI r32 576460752303423488) fun x33 =>
   Option.bind (lY N p24.2) fun r34 =>
   aM (jI r34 576460752303423488) fun x35 =>
   aM (cond (decide (p24.1.gn > 0)) (decide (p24.2.gn > 0)) false) fun x36 =>
   aM (decide ((I64 (x33 + x35)) < s20)) fun x37 =>
   cond (cond x36 x37 false) (
    some ((p24.1, p24.2, I64 (x33 + x35), s22))) (
    some ((p24.1, p24.2, s20, s21)))) fun p23 =>
   lN N p1 k p23.2.2.1 p23.2.2.2 (I64 (s22 + 1))) (
   some s21)

def oH (N : Nat) (b0 : (List Int)) (a1 : (List aE)) (a2 : Nat) (a3 : Nat) (a4 : Int) (a5 : Int) (a6 : Int) : Option (Int) :=
 Option.bind (jV N a3 b0 a2 a1 a4 a5 a6 N (Vector.replicate 8 (bA.mk 0 (aA.mk 0 0 0) (aA.mk 0 0 0))) 0) fun p1 =>
 Option.bind (lN N p1 N 2305843009213693952 1 1) fun p19 =>
 some p19

theorem aC6 {N b0 a1 a2 a3 a4 a5 a6 r} (h : oH N b0 a1 a2 a3 a4 a5 a6 = some r) : FnM Tryz.prog 208 [.gro 1 (List.map j64 b0)] [(eL 19 aE.enc a1), (.gro 0 1 b0.length (.sub a2 a3)), (j64 a4), (j64 a5), (j64 a6)] (j64 r) [.gro 1 (List.map j64 b0)] := by
 unfold oH at h
 refine At.f dG hT hmo Tryz.func208 rfl h ?_
 refine At.L 5 [11] 2 (fun p1 => ([], [(1, .var (eA 56 7 bA.enc p1))], [])) (fun p1 J k => ∃ s2 s3, jV N a3 b0 a2 a1 a4 a5 a6 k s2 s3 = some p1 ∧ J [0, 2, 3, 4, 11, 25, 26] 2 [(27, (j64 s3))] [(1, .var (eA 56 7 bA.enc s2))] []) N (fun _ h => ⟨_, _, h, jr⟩) (fun p1 k s hI => ?_) fun p1 => ?_
 ·obtain ⟨s2, s3, h, hj⟩ := hI
  cases k with
  | zero => cases h
  | succ k =>
   refine At.jr hj ?_ h
   refine lx ?_; intro x4
   refine At.c 1 ?_ ?_
   ·refine At.b 0 (fun _ e => jC hT (id := 0) (k := 1) e (by kernel_rfl) (by kernel_rfl)) fun u5 => ?_
    refine At.b 0 (fun _ e => mP hT j64 [] e rfl (by kernel_rfl) (by kernel_rfl)) fun e6 => ?_
    refine At.b 3 (fun _ e => cC hT aE.enc e) fun e7 => ?_
    refine At.b 1 (fun _ e => zF hT (N := 9) (k := 3) aA.enc e7.gP e) fun s8 => ?_
    refine At.b 0 (fun _ e => aK [] (pM e)) fun r9 => ?_
    refine At.b 9 (fun _ e => cC hT aE.enc e) fun e10 => ?_
    refine At.b 1 (fun _ e => aK [] (qN e)) fun r11 => ?_
    refine At.b 1 (fun _ e => aK [] (lG e)) fun r12 => ?_
    refine At.b 2 (fun _ e => aK [] (aET e)) fun r13 => ?_
    refine bi fun u14 hu14 => ?_
    refine bi fun e15 he15 => ?_
    refine bi fun r16 hr16 => ?_
    refine bi fun u17 hu17 => ?_
    refine bi fun e18 he18 => ?_
    refine At.d 1 (dE1 2 (fun _ => bL hT (k := 7) 1 [] 0 hu14) (dEL hT 3 (bA.enc e15) bA.enc 0 he15 (dE2 6 (bA.enc r16) (fun _ => aF (uN hr16)) (dE1 7 (fun _ => bL hT (k := 7) 1 [] 0 hu17) dE0)))) (dF 8 (.v (.bool false)) [(1, .var (eA 56 7 bA.enc (s2.setIfInBounds r13.toNat r16)))] [] (dA (mF hT bA.enc 0 s2 he18 r16 (by kernel_rfl) (by kernel_rfl) (H' := [.gro 1 (List.map j64 b0), .var (eA 56 7 bA.enc (s2.setIfInBounds r13.toNat r16)), .var (aA.enc r9.1), .var (aA.enc r9.2)]))) dF0) ?_
    exact fun h => At.k 2 ⟨_, _, h, jr⟩
   ·apply rt; exact At.x 0
 ·refine At.L 3 [] 2 (fun p19 => ([(18, (j64 p19))], [], [])) (fun p19 J k => ∃ s20 s21 s22, lN N p1 k s20 s21 s22 = some p19 ∧ J [11] 2 [(17, (j64 s20)), (18, (j64 s21)), (19, (j64 s22))] [] []) N (fun _ h => ⟨_, _, _, h, jr⟩) (fun p19 k s hI => ?_) fun p19 => ?_
  ·obtain ⟨s20, s21, s22, h, hj⟩ := hI
   cases k with
   | zero => cases h
   | succ k =>
    refine At.jr hj ?_ h
    refine At.c 2 ?_ ?_
    ·refine At.J 0 2 [11, 19] 2 (fun p23 => ([(17, (j64 p23.2.2.1)), (18, (j64 p23.2.2.2))], [], [.var (bA.enc p23.1), .var (bA.enc p23.2.1)])) (fun p23 => ?_) fun p23 => ?_
     ·refine At.L 4 [11, 17, 18, 19, 20, 21] 4 (fun p24 => ([], [(2, .var (bA.enc p24.1)), (3, .var (bA.enc p24.2))], [])) (fun p24 J k => ∃ s25 s26 s27, jW N p1 s22 k s25 s26 s27 = some p24 ∧ J [11, 17, 18, 19, 20, 21, 63] 4 [(64, (j64 s27))] [(2, .var (bA.enc s25)), (3, .var (bA.enc s26))] []) N (fun _ h => ⟨_, _, _, h, jr⟩) (fun p24 k s hI => ?_) fun p24 => ?_
      ·obtain ⟨s25, s26, s27, h, hj⟩ := hI
       cases k with
       | zero => cases h
       | succ k =>
        refine At.jr hj ?_ h
        refine At.c 1 ?_ ?_
        ·refine At.J 0 2 [11, 17, 18, 19, 20, 21, 63, 64] 4 (fun p28 => ([], [(2, .var (bA.enc p28.1)), (3, .var (bA.enc p28.2.1))], [.var (bA.enc p28.2.2)])) (fun p28 => ?_) fun p28 => ?_
         ·refine At.b 1 (fun _ e => xP hT bA.enc p1 e (by kernel_rfl) (by kernel_rfl)) fun e29 => ?_
          refine At.c 6 ?_ ?_
          ·refine At.b 7 (fun _ e => aK [] (uN e)) fun r30 => ?_
           apply rt; exact At.jn 1
          ·refine At.b 7 (fun _ e => aK [] (uN e)) fun r31 => ?_
           apply rt; exact At.jn 1
         ·exact fun h => At.k 2 ⟨_, _, _, h, jr⟩
        ·apply rt; exact At.x 0
      ·refine bi fun r32 hr32 => ?_
       refine lx ?_; intro x33
       refine bi fun r34 hr34 => ?_
       refine lx ?_; intro x35
       refine At.d 0 (dE2 1 (j64 r32) (fun _ => aF (yQ hr32)) (dE2 4 (j64 r34) (fun _ => aF (yQ hr34)) dE0)) dF0 ?_
       refine lx ?_; intro x36
       refine lx ?_; intro x37
       refine At.c 13 ?_ ?_
       ·apply rt; exact At.jn 4
       ·apply rt; exact At.jn 0
     ·exact fun h => At.k 3 ⟨_, _, _, h, jr⟩
    ·apply rt; exact At.x 0
  ·apply rt; exact At.r 2

def fF (N : Nat) (a0 : Int) (a1 : (List aE)) (a2 : Int) (a3 : Int) (a4 : Int) (a5 : Int) : Option (Bool) :=
 Option.bind (idx a1 a0) fun e1 =>
 Option.bind (iK N e1) fun r2 =>
 Option.bind (jX N r2 a5) fun r3 =>
 Option.bind (rN N r3 a2 a3) fun r4 =>
 some (decide (r4 ≥ a4))

theorem mO {N a0 a1 a2 a3 a4 a5 r} (h : fF N a0 a1 a2 a3 a4 a5 = some r) : FnM Tryz.prog 209 [.var (j64 a5)] [(j64 a0), (.im (eL 19 aE.enc a1)), (.ref 0 [] 0), (.im (j64 a2)), (.im (j64 a3)), (.im (j64 a4))] (eB r) [.var (j64 a5)] := by
 unfold fF at h
 refine At.f dG hT hmo Tryz.func209 rfl h ?_
 refine bi fun e1 he1 => ?_
 refine bi fun r2 hr2 => ?_
 refine bi fun r3 hr3 => ?_
 refine bi fun r4 hr4 => ?_
 refine At.d 1 (dE1 2 (fun _ => cC hT aE.enc he1) (dE2 4 (aA.enc r2) (fun _ => aF (qN hr2)) (dE2 6 (j64 r3) (fun _ => aF (lG hr3)) (dE2 9 (j64 r4) (fun _ => aF (aET hr4)) dE0)))) dF0 ?_
 apply rt; exact At.r 0

def nV (N : Nat) (a0 : Int) (a1 : Int) (a2 : (List aE)) (a3 : Int) (a4 : Int) (a5 : Int) (a6 : Int) : Option (Int) :=
 Option.bind (fF N a0 a2 a3 a4 a5 a6) fun r1 =>
 Option.bind (fF N a1 a2 a3 a4 a5 a6) fun r2 =>
 cond (r1 == r2) (
  some 0) (
  Option.bind (fF N a1 a2 a3 a4 a5 a6) fun r3 =>
  cond r3 (some (-1)) (some 1))

theorem aCo {N a0 a1 a2 a3 a4 a5 a6 r} (h : nV N a0 a1 a2 a3 a4 a5 a6 = some r) : FnM Tryz.prog 211 [.var (.fn (.func 209) [] [(.im (eL 19 aE.enc a2)), (.ref 1 [] 0), (.im (j64 a3)), (.im (j64 a4)), (.im (j64 a5))]), .var (j64 a6)] [(j64 a0), (j64 a1), (.ref 0 [] 0)] (j64 r) [.var (.fn (.func 209) [] [(.im (eL 19 aE.enc a2)), (.ref 1 [] 0), (.im (j64 a3)), (.im (j64 a4)), (.im (j64 a5))]), .var (j64 a6)] := by
 unfold nV at h
 refine At.f dG hT hmo Tryz.func211 rfl h ?_
 refine bi fun r1 hr1 => ?_
 refine bi fun r2 hr2 => ?_
 refine At.d 1 dE0 (dF 2 (eB r1) [] [] (dA (aK [1] (mO hr1))) (dF 5 (eB r2) [] [] (dA (aK [1] (mO hr2))) dF0)) ?_
 refine At.c 0 ?_ ?_
 ·apply rt; exact At.r 1
 ·refine At.b 2 (fun _ e => aK [1] (mO e)) fun r3 => ?_
  refine At.c 1 ?_ ?_
  ·apply rt; exact At.r 1
  ·apply rt; exact At.r 1

def bN (N : Nat) (a3 : Int) (a1 : Nat) (a5 : (List aE)) (a6 : Int) (a7 : Int) (a8 : Int) (a9 : Int) : Nat → (List Int) → Nat → Int → Option ((List Int) × Nat)
 | 0, _, _, _ => none
 | k + 1, s6, s7, s8 =>
  Option.bind (cond (decide (s8 > a3)) (
   Option.bind (uI s6.length a1 s7 s8) fun _ =>
   Option.bind (s6[(vB a1 s8.toNat)]?) fun e11 =>
   Option.bind (uI s6.length a1 s7 (I64 (s8 - 1))) fun _ =>
   Option.bind (s6[(vB a1 ((I64 (s8 - 1)).toNat))]?) fun e13 =>
   Option.bind (nV N e11 e13 a5 a6 a7 a8 a9) fun r14 =>
   some (decide (r14 < 0))) (
   some false)) fun p9 =>
  cond p9 (
   Option.bind (uI s6.length a1 s7 (I64 (s8 - 1))) fun _ =>
   Option.bind (s6[(vB a1 ((I64 (s8 - 1)).toNat))]?) fun e16 =>
   Option.bind (uI s6.length a1 s7 s8) fun _ =>
   Option.bind (s6[(vB a1 s8.toNat)]?) fun e18 =>
   Option.bind (uI s6.length a1 s7 s8) fun _ =>
   Option.bind (aEY s6 ((vB a1 s8.toNat)) e16) fun z20 =>
   Option.bind (uI s6.length a1 s7 (I64 (s8 - 1))) fun _ =>
   Option.bind (aEY z20 ((vB a1 ((I64 (s8 - 1)).toNat))) e18) fun z22 =>
   bN N a3 a1 a5 a6 a7 a8 a9 k z22 s7 (I64 (s8 - 1))) (
   some ((s6, s7)))

def bZ (N : Nat) (a4 : Int) (a3 : Int) (a1 : Nat) (a5 : (List aE)) (a6 : Int) (a7 : Int) (a8 : Int) (a9 : Int) : Nat → (List Int) → Nat → Int → Option ((List Int))
 | 0, _, _, _ => none
 | k + 1, s2, s3, s4 =>
  cond (decide (s4 < a4)) (
   Option.bind (bN N a3 a1 a5 a6 a7 a8 a9 N s2 s3 s4) fun p5 =>
   bZ N a4 a3 a1 a5 a6 a7 a8 a9 k p5.1 p5.2 (I64 (s4 + 1))) (
   some s2)

def bI (N : Nat) (b0 : (List Int)) (a1 : Nat) (a2 : Nat) (a3 : Int) (a4 : Int) (a5 : (List aE)) (a6 : Int) (a7 : Int) (a8 : Int) (a9 : Int) : Option ((List Int)) :=
 Option.bind (bZ N a4 a3 a1 a5 a6 a7 a8 a9 N b0 a2 (I64 (a3 + 1))) fun p1 =>
 some p1

theorem iL {N b0 a1 a2 a3 a4 a5 a6 a7 a8 a9 r} (h : bI N b0 a1 a2 a3 a4 a5 a6 a7 a8 a9 = some r) : FnM Tryz.prog 265 [.gro 1 (List.map j64 b0), .var (.fn (.func 209) [] [(.im (eL 19 aE.enc a5)), (.ref 2 [] 0), (.im (j64 a6)), (.im (j64 a7)), (.im (j64 a8))]), .var (j64 a9)] [(.gro 0 1 b0.length (.sub a1 a2)), (j64 a3), (j64 a4), (.fn (.func 211) [] [(.ref 1 [] 0)])] (.tup []) [.gro 1 (List.map j64 r), .var (.fn (.func 209) [] [(.im (eL 19 aE.enc a5)), (.ref 2 [] 0), (.im (j64 a6)), (.im (j64 a7)), (.im (j64 a8))]), .var (j64 a9)] := by
 unfold bI at h
 refine At.f dG hT hmo Tryz.func265 rfl h ?_
 refine At.L 3 [] 3 (fun p1 => ([], [(0, .gro 1 (List.map j64 p1))], [])) (fun p1 J k => ∃ s2 s3 s4, bZ N a4 a3 a1 a5 a6 a7 a8 a9 k s2 s3 s4 = some p1 ∧ J [1, 2, 3] 3 [(0, (.gro 0 1 s2.length (.sub a1 s3))), (8, (j64 s4))] [(0, .gro 1 (List.map j64 s2))] []) N (fun _ h => ⟨_, _, _, h, jr⟩) (fun p1 k s hI => ?_) fun p1 => ?_
 ·obtain ⟨s2, s3, s4, h, hj⟩ := hI
  cases k with
  | zero => cases h
  | succ k =>
   refine At.jr hj ?_ h
   refine At.c 3 ?_ ?_
   ·refine At.L 2 [1, 2, 3, 8] 3 (fun p5 => ([(0, (.gro 0 1 p5.1.length (.sub a1 p5.2)))], [(0, .gro 1 (List.map j64 p5.1))], [])) (fun p5 J k => ∃ s6 s7 s8, bN N a3 a1 a5 a6 a7 a8 a9 k s6 s7 s8 = some p5 ∧ J [1, 2, 3, 8] 3 [(0, (.gro 0 1 s6.length (.sub a1 s7))), (9, (j64 s8))] [(0, .gro 1 (List.map j64 s6))] []) N (fun _ h => ⟨_, _, _, h, jr⟩) (fun p5 k s hI => ?_) fun p5 => ?_
    ·obtain ⟨s6, s7, s8, h, hj⟩ := hI
     cases k with
     | zero => cases h
     | succ k =>
      refine At.jr hj ?_ h
      refine At.J 0 0 [0, 1, 2, 3, 8, 9] 3 (fun p9 => ([(34, (eB p9))], [], [])) (fun p9 => ?_) fun p9 => ?_
      ·refine boI (fun hc3 => ?_) (fun hc3 => ?_)
       ·refine bi fun u10 hu10 => ?_
        refine bi fun e11 he11 => ?_
        refine bi fun u12 hu12 => ?_
        refine bi fun e13 he13 => ?_
        refine bi fun r14 hr14 => ?_
        refine At.d 0 (dE1 3 (fun _ => aR hc3 rfl (aQ hT (im := false) (by kernel_rfl))) (dE1 7 (fun _ => jC hT (id := 0) (k := 1) hu10 (by kernel_rfl) (by kernel_rfl)) (dET 8 (j64 e11) [[.gro 1 (List.map j64 s6), .var (.fn (.func 209) [] [(.im (eL 19 aE.enc a5)), (.ref 2 [] 0), (.im (j64 a6)), (.im (j64 a7)), (.im (j64 a8))]), .var (j64 a9)]] ⟨dA (mP hT j64 [] he11 rfl (by kernel_rfl) (by kernel_rfl)), trivial⟩ (dE1 12 (fun _ => jC hT (id := 0) (k := 1) hu12 (by kernel_rfl) (by kernel_rfl)) (dET 13 (j64 e13) [[.gro 1 (List.map j64 s6), .var (.fn (.func 209) [] [(.im (eL 19 aE.enc a5)), (.ref 2 [] 0), (.im (j64 a6)), (.im (j64 a7)), (.im (j64 a8))]), .var (j64 a9)]] ⟨dA (mP hT j64 [] he13 rfl (by kernel_rfl) (by kernel_rfl)), trivial⟩ dE0))))) (dF 14 (j64 r14) [] [] (dA (aK [1, 2] (aCo hr14))) dF0) ?_
        apply rt; exact At.jn 0
       ·refine At.d 0 (dE1 3 (fun _ => aR hc3 rfl (aQ hT (im := false) (by kernel_rfl))) dE0) dF0 ?_
        apply rt; exact At.jn 0
      ·refine At.c 0 ?_ ?_
       ·refine bi fun u15 hu15 => ?_
        refine bi fun e16 he16 => ?_
        refine bi fun u17 hu17 => ?_
        refine bi fun e18 he18 => ?_
        refine bi fun u19 hu19 => ?_
        refine bi fun z20 hz20 => ?_
        refine bi fun u21 hu21 => ?_
        refine bi fun z22 hz22 => ?_
        refine At.d 0 (dE1 8 (fun _ => jC hT (id := 0) (k := 1) hu15 (by kernel_rfl) (by kernel_rfl)) (dET 9 (j64 e16) [[.gro 1 (List.map j64 s6), .var (.fn (.func 209) [] [(.im (eL 19 aE.enc a5)), (.ref 2 [] 0), (.im (j64 a6)), (.im (j64 a7)), (.im (j64 a8))]), .var (j64 a9)]] ⟨dA (mP hT j64 [] he16 rfl (by kernel_rfl) (by kernel_rfl)), trivial⟩ (dE1 12 (fun _ => jC hT (id := 0) (k := 1) hu17 (by kernel_rfl) (by kernel_rfl)) (dET 13 (j64 e18) [[.gro 1 (List.map j64 s6), .var (.fn (.func 209) [] [(.im (eL 19 aE.enc a5)), (.ref 2 [] 0), (.im (j64 a6)), (.im (j64 a7)), (.im (j64 a8))]), .var (j64 a9)]] ⟨dA (mP hT j64 [] he18 rfl (by kernel_rfl) (by kernel_rfl)), trivial⟩ (dE1 14 (fun _ => jC hT (id := 0) (k := 1) hu19 (by kernel_rfl) (by kernel_rfl)) (dE1 16 (fun _ => jC hT (id := 0) (k := 1) hu21 (by kernel_rfl) (by kernel_rfl)) dE0)))))) (dF 15 (.v (.bool false)) [(0, .gro 1 (List.map j64 z20))] [] (dA (aAV hT j64 (k := 1) e16 hz20 rfl (by kernel_rfl) (fun _ => by kernel_rfl) (by kernel_rfl) (H' := [.gro 1 (List.map j64 z20), .var (.fn (.func 209) [] [(.im (eL 19 aE.enc a5)), (.ref 2 [] 0), (.im (j64 a6)), (.im (j64 a7)), (.im (j64 a8))]), .var (j64 a9)]) (by kernel_rfl))) (dF 17 (.v (.bool false)) [(0, .gro 1 (List.map j64 z22))] [] (dA (aAV hT j64 (k := 1) e18 hz22 ((aAf hz20).2.2).symm (by kernel_rfl) (fun _ => by kernel_rfl) (by kernel_rfl) (H' := [.gro 1 (List.map j64 z22), .var (.fn (.func 209) [] [(.im (eL 19 aE.enc a5)), (.ref 2 [] 0), (.im (j64 a6)), (.im (j64 a7)), (.im (j64 a8))]), .var (j64 a9)]) (by kernel_rfl))) dF0)) ?_
        refine At.gl 0 [0] [] 0 s6.length z22.length (((aAf hz22).2.2).trans ((aAf hz20).2.2)) ?_
        exact fun h => At.k 3 ⟨_, _, _, h, jr⟩
       ·apply rt; exact At.x 0
    ·exact fun h => At.k 3 ⟨_, _, _, h, jr⟩
   ·apply rt; exact At.x 0
 ·apply rt; exact At.z 0

def cA (N : Nat) (a3 : Int) (a1 : Nat) (a4 : (List aE)) (a5 : Int) (a6 : Int) (a7 : Int) (a8 : Int) : Nat → (List Int) → Nat → Int → Int → Option ((List Int) × Nat × Int)
 | 0, _, _, _, _ => none
 | k + 1, s2, s3, s4, s5 =>
  cond (decide (s5 ≤ a3)) (
   Option.bind (bI N s2 a1 s3 s4 s5 a4 a5 a6 a7 a8) fun r6 =>
   Option.bind (yO r6 s2.length) fun _ =>
   cA N a3 a1 a4 a5 a6 a7 a8 k r6 s3 s5 (I64 (s5 + 20))) (
   some ((s2, s3, s4)))

def fL (N : Nat) (s11 : Int) (a3 : Int) : Nat → Option (Unit)
 | 0 => none
 | k + 1 =>
  aM (decide ((I64 (2 * s11)) ≤ a3)) fun x13 =>
  cond x13 (none) (some (()))

def cU (N : Nat) (a3 : Int) : Nat → Int → Option (Unit)
 | 0, _ => none
 | k + 1, s11 =>
  cond (decide (s11 < a3)) (
   Option.bind (fL N s11 a3 N ) fun p12 =>
   Option.bind (aM (decide ((I64 (0 + s11)) < a3)) fun x15 =>
   cond x15 (none) (some (()))) fun p14 =>
   cU N a3 k (I64 (s11 * 2))) (
   some (()))

def dY (N : Nat) (b0 : (List Int)) (a1 : Nat) (a2 : Nat) (a3 : Int) (a4 : (List aE)) (a5 : Int) (a6 : Int) (a7 : Int) (a8 : Int) : Option ((List Int)) :=
 Option.bind (cA N a3 a1 a4 a5 a6 a7 a8 N b0 a2 0 20) fun p1 =>
 Option.bind (bI N p1.1 a1 p1.2.1 p1.2.2 a3 a4 a5 a6 a7 a8) fun r8 =>
 Option.bind (yO r8 p1.1.length) fun _ =>
 Option.bind (cU N a3 N 20) fun p10 =>
 some r8

theorem oU {N b0 a1 a2 a3 a4 a5 a6 a7 a8 r} (h : dY N b0 a1 a2 a3 a4 a5 a6 a7 a8 = some r) : FnM Tryz.prog 249 [.gro 1 (List.map j64 b0), .var (.fn (.func 209) [] [(.im (eL 19 aE.enc a4)), (.ref 2 [] 0), (.im (j64 a5)), (.im (j64 a6)), (.im (j64 a7))]), .var (j64 a8)] [(.gro 0 1 b0.length (.sub a1 a2)), (j64 a3), (.fn (.func 211) [] [(.ref 1 [] 0)])] (.tup []) [.gro 1 (List.map j64 r), .var (.fn (.func 209) [] [(.im (eL 19 aE.enc a4)), (.ref 2 [] 0), (.im (j64 a5)), (.im (j64 a6)), (.im (j64 a7))]), .var (j64 a8)] := by
 unfold dY at h
 refine At.f dG hT hmo Tryz.func249 rfl h ?_
 refine At.L 4 [1, 2, 6] 3 (fun p1 => ([(0, (.gro 0 1 p1.1.length (.sub a1 p1.2.1))), (7, (j64 p1.2.2))], [(0, .gro 1 (List.map j64 p1.1))], [])) (fun p1 J k => ∃ s2 s3 s4 s5, cA N a3 a1 a4 a5 a6 a7 a8 k s2 s3 s4 s5 = some p1 ∧ J [1, 2, 6] 3 [(0, (.gro 0 1 s2.length (.sub a1 s3))), (7, (j64 s4)), (8, (j64 s5))] [(0, .gro 1 (List.map j64 s2))] []) N (fun _ h => ⟨_, _, _, _, h, jr⟩) (fun p1 k s hI => ?_) fun p1 => ?_
 ·obtain ⟨s2, s3, s4, s5, h, hj⟩ := hI
  cases k with
  | zero => cases h
  | succ k =>
   refine At.jr hj ?_ h
   refine At.c 3 ?_ ?_
   ·refine bi fun r6 hr6 => ?_
    refine bi fun u7 hu7 => ?_
    refine At.o 4 (aK [0, 1, 2] (iL hr6)) ?_
    refine At.gl 0 [0] [] 0 s2.length r6.length (aAv hu7) ?_
    exact fun h => At.k 6 ⟨_, _, _, _, h, jr⟩
   ·apply rt; exact At.x 0
 ·refine bi fun r8 hr8 => ?_
  refine bi fun u9 hu9 => ?_
  refine At.o 4 (aK [0, 1, 2] (iL hr8)) ?_
  refine At.gl 0 [0] [] 0 p1.1.length r8.length (aAv hu9) ?_
  refine At.L 0 [] 3 (fun p10 => ([], [], [])) (fun p10 J k => ∃ s11, cU N a3 k s11 = some p10 ∧ J [0, 1, 2] 3 [(6, (j64 s11))] [] []) N (fun _ h => ⟨_, h, jr⟩) (fun p10 k s hI => ?_) fun p10 => ?_
  ·obtain ⟨s11, h, hj⟩ := hI
   cases k with
   | zero => cases h
   | succ k =>
    refine At.jr hj ?_ h
    refine At.c 3 ?_ ?_
    ·refine At.L 4 [0, 1, 2, 6, 7] 3 (fun p12 => ([], [], [])) (fun p12 J k => fL N s11 a3 k  = some p12 ∧ J [0, 1, 2, 6, 7, 8] 3 [] [] []) N (fun _ h => ⟨h, jr⟩) (fun p12 k s hI => ?_) fun p12 => ?_
     ·obtain ⟨h, hj⟩ := hI
      cases k with
      | zero => cases h
      | succ k =>
       unfold fL at h
       dsimp only at h
       refine At.jr hj ?_ h
       refine lx ?_; intro x13
       refine At.c 3 ?_ ?_
       ·exact nn
       ·apply rt; exact At.x 0
     ·refine At.J 0 1 [0, 1, 2, 6] 3 (fun p14 => ([], [], [])) (fun p14 => ?_) fun p14 => ?_
      ·refine lx ?_; intro x15
       refine At.c 7 ?_ ?_
       ·exact nn
       ·apply rt; exact At.jn 0
      ·exact fun h => At.k 3 ⟨_, h, jr⟩
    ·apply rt; exact At.x 0
  ·apply rt; exact At.z 0

def cL (N : Nat) (b0 : (List Int)) (a1 : Nat) (a2 : Nat) (a3 : (List aE)) (a4 : Int) (a5 : Int) (a6 : Int) (a7 : Int) : Option ((List Int)) :=
 Option.bind (dY N b0 a1 a2 ((a2 : Int)) a3 a4 a5 a6 a7) fun r1 =>
 some r1

theorem nX {N b0 a1 a2 a3 a4 a5 a6 a7 r} (h : cL N b0 a1 a2 a3 a4 a5 a6 a7 = some r) : FnM Tryz.prog 206 [.gro 1 (List.map j64 b0), .var (.fn (.func 209) [] [(.im (eL 19 aE.enc a3)), (.ref 2 [] 0), (.im (j64 a4)), (.im (j64 a5)), (.im (j64 a6))]), .var (j64 a7)] [(.gro 0 1 b0.length (.sub a1 a2)), (.fn (.func 211) [] [(.ref 1 [] 0)])] (.tup []) [.gro 1 (List.map j64 r), .var (.fn (.func 209) [] [(.im (eL 19 aE.enc a3)), (.ref 2 [] 0), (.im (j64 a4)), (.im (j64 a5)), (.im (j64 a6))]), .var (j64 a7)] := by
 unfold cL at h
 refine At.f dG hT hmo Tryz.func206 rfl h ?_
 refine At.b 4 (fun _ e => aK [0, 1, 2] (oU e)) fun r1 => ?_
 apply rt; exact At.z 0

def bJ (N : Nat) (a2 : Nat) (b0 : (List Int)) (a1 : Nat) (a3 : (List aE)) (a4 : Int) (a5 : Int) (a6 : Int) (a7 : Int) : Nat → Int → Option (Sum (Unit) (Int))
 | 0, _ => none
 | k + 1, s2 =>
  aM (decide (s2 < ((a2 : Int)))) fun x3 =>
  cond x3 (
   Option.bind (uI b0.length a1 a2 s2) fun _ =>
   Option.bind (b0[(vB a1 s2.toNat)]?) fun e5 =>
   Option.bind (fF N e5 a3 a4 a5 a6 a7) fun r6 =>
   cond r6 (
    some (Sum.inr s2)) (
    bJ N a2 b0 a1 a3 a4 a5 a6 a7 k (I64 (s2 + 1)))) (
   some (Sum.inl (())))

def cP (N : Nat) (b0 : (List Int)) (a1 : Nat) (a2 : Nat) (a3 : (List aE)) (a4 : Int) (a5 : Int) (a6 : Int) (a7 : Int) : Option (Int) :=
 Option.bind (bJ N a2 b0 a1 a3 a4 a5 a6 a7 N 0) fun o => fW o (fun p1 =>
  some (-1)) (fun r => some r)

theorem oD {N b0 a1 a2 a3 a4 a5 a6 a7 r} (h : cP N b0 a1 a2 a3 a4 a5 a6 a7 = some r) : FnM Tryz.prog 212 [.gro 1 (List.map j64 b0), .var (j64 a7)] [(.gro 0 1 b0.length (.sub a1 a2)), (.fn (.func 209) [] [(.im (eL 19 aE.enc a3)), (.ref 1 [] 0), (.im (j64 a4)), (.im (j64 a5)), (.im (j64 a6))])] (j64 r) [.gro 1 (List.map j64 b0), .var (j64 a7)] := by
 unfold cP at h
 refine At.f dG hT hmo Tryz.func212 rfl h ?_
 refine At.LS 4 [] 2 (fun p1 => ([], [], [])) (fun op1 J k => ∃ s2, bJ N a2 b0 a1 a3 a4 a5 a6 a7 k s2 = some op1 ∧ J [0, 1, 7] 2 [(8, (j64 s2))] [] []) N (fun _ h => ⟨_, h, jr⟩) (fun op1 g1 k s hI => ?_) fun p1 => ?_
 ·obtain ⟨s2, h, hj⟩ := hI
  cases k with
  | zero => cases h
  | succ k =>
   refine At.jr hj ?_ h
   refine lx ?_; intro x3
   refine At.c 1 ?_ ?_
   ·refine At.b 5 (fun _ e => jC hT (id := 0) (k := 1) e (by kernel_rfl) (by kernel_rfl)) fun u4 => ?_
    refine At.b 0 (fun _ e => mP hT j64 [] e rfl (by kernel_rfl) (by kernel_rfl)) fun e5 => ?_
    refine At.b 0 (fun _ e => aK [1] (mO e)) fun r6 => ?_
    refine At.c 0 ?_ ?_
    ·intro e; apply uY g1 e; exact At.r 2
    ·exact fun h => At.k 2 ⟨_, h, jr⟩
   ·apply rt; exact At.xs 0
 ·apply rt; exact At.r 1

def aEl : Nat → Bool := imL [3]

def kL (N : Nat) (a3 : Nat) (b0 : (List Int)) (a2 : Nat) (a1 : (List aE)) : Nat → (List aA) → Int → Option ((List aA))
 | 0, _, _ => none
 | k + 1, s3, s4 =>
  aM (decide (s4 < ((a3 : Int)))) fun x5 =>
  cond x5 (
   Option.bind (uI b0.length a2 a3 s4) fun _ =>
   Option.bind (b0[(vB a2 s4.toNat)]?) fun e7 =>
   Option.bind (idx a1 e7) fun e8 =>
   Option.bind (iK N e8) fun r9 =>
   Option.bind (yC 24 s3 (([r9] : List aA))) fun z10 =>
   kL N a3 b0 a2 a1 k z10 (I64 (s4 + 1))) (
   some s3)

def mG (N : Nat) (r11 : aA × aA) : Nat → Int → Int → Option (Int)
 | 0, _, _ => none
 | k + 1, s13, s14 =>
  cond (decide (s14 < 3)) (
   Option.bind (Option.bind (jX N r11.2 s14) fun r16 =>
   Option.bind (jX N r11.1 s14) fun r17 =>
   Option.bind (jX N r11.2 s13) fun r18 =>
   Option.bind (jX N r11.1 s13) fun r19 =>
   aM (decide ((I64 (r16 - r17)) > (I64 (r18 - r19)))) fun x20 =>
   cond x20 (some s14) (some s13)) fun p15 =>
   mG N r11 k p15 (I64 (s14 + 1))) (
   some s13)

def oX (N : Nat) (b0 : (List Int)) (a1 : (List aE)) (a2 : Nat) (a3 : Nat) (a4 : Int) : Option ((List Int) × Int) :=
 aM (decide (((a3 : Int)) ≤ 4)) fun x1 =>
 cond x1 (
  some ((b0, 0))) (
  Option.bind (kL N a3 b0 a2 a1 N [] 0) fun p2 =>
  Option.bind (lJ N p2) fun r11 =>
  Option.bind (mG N r11 N 0 1) fun p12 =>
  Option.bind (jX N r11.1 p12) fun r21 =>
  Option.bind (jX N r11.2 p12) fun r22 =>
  cond (r21 == r22) (
   some ((b0, 0))) (
   cond (decide (a4 > 31)) (
    Option.bind (cJ N b0 a2 a3 a1 p12) fun r23 =>
    Option.bind (yO r23 b0.length) fun _ =>
    aM (I64 (Int.tdiv ((a3 : Int)) 2)) fun x25 =>
    some ((r23, x25))) (
    Option.bind (oH N b0 a1 a2 a3 p12 r21 r22) fun r26 =>
    Option.bind (cL N b0 a2 a3 a1 r21 r22 r26 p12) fun r27 =>
    Option.bind (yO r27 b0.length) fun _ =>
    Option.bind (cP N r27 a2 a3 a1 r21 r22 r26 p12) fun r29 =>
    some ((r27, r29)))))

theorem aEA {N b0 a1 a2 a3 a4 r} (h : oX N b0 a1 a2 a3 a4 = some r) : FnM Tryz.prog 144 [.gro 1 (List.map j64 b0)] [(eL 19 aE.enc a1), (.gro 0 1 b0.length (.sub a2 a3)), (j64 a4)] (j64 r.2) [.gro 1 (List.map j64 r.1)] := by
 unfold oX at h
 refine At.f aEl hT hmo Tryz.func144 rfl h ?_
 refine lx ?_; intro x1
 refine At.c 5 ?_ ?_
 ·apply rt; exact At.r 1
 ·refine At.ownn 4 7 3 ?_
  refine At.L 0 [1, 2, 3] 2 (fun p2 => ([(7, (eO 1 3 aA.enc p2))], [(1, .tail (p2.length * 3))], [])) (fun p2 J k => ∃ s3 s4, kL N a3 b0 a2 a1 k s3 s4 = some p2 ∧ J [1, 2, 3, 21, 22] 2 [(7, (eO 1 3 aA.enc s3)), (23, (j64 s4))] [(1, .tail (s3.length * 3))] []) N (fun _ h => ⟨_, _, h, jr⟩) (fun p2 k s hI => ?_) fun p2 => ?_
  ·obtain ⟨s3, s4, h, hj⟩ := hI
   cases k with
   | zero => cases h
   | succ k =>
    refine At.jr hj ?_ h
    refine lx ?_; intro x5
    refine At.c 1 ?_ ?_
    ·refine At.b 0 (fun _ e => jC hT (id := 0) (k := 1) e (by kernel_rfl) (by kernel_rfl)) fun u6 => ?_
     refine At.b 0 (fun _ e => mP hT j64 [] e rfl (by kernel_rfl) (by kernel_rfl)) fun e7 => ?_
     refine At.b 4 (fun _ e => cC hT aE.enc e) fun e8 => ?_
     refine At.b 1 (fun _ e => aK [] (qN e)) fun r9 => ?_
     refine At.o 0 (cX hT (x := (.sl 3 1 [(aA.enc r9)]))) ?_
     refine At.b 0 (fun _ e => qR hT aA.enc (id := 1) (k := 3) e) fun z10 => ?_
     exact fun h => At.k 3 ⟨_, _, h, jr⟩
    ·apply rt; exact At.x 0
  ·refine At.b 1 (fun _ e => aK [] (pM e)) fun r11 => ?_
   refine At.L 10 [1, 2, 3, 10, 11, 12] 5 (fun p12 => ([], [(4, .var (j64 p12))], [])) (fun p12 J k => ∃ s13 s14, mG N r11 k s13 s14 = some p12 ∧ J [1, 2, 3, 10, 11, 12] 5 [(13, (j64 s14))] [(4, .var (j64 s13))] []) N (fun _ h => ⟨_, _, h, jr⟩) (fun p12 k s hI => ?_) fun p12 => ?_
   ·obtain ⟨s13, s14, h, hj⟩ := hI
    cases k with
    | zero => cases h
    | succ k =>
     refine At.jr hj ?_ h
     refine At.c 2 ?_ ?_
     ·refine At.J 0 2 [1, 2, 3, 10, 11, 12, 13] 5 (fun p15 => ([], [(4, .var (j64 p15))], [])) (fun p15 => ?_) fun p15 => ?_
      ·refine bi fun r16 hr16 => ?_
       refine bi fun r17 hr17 => ?_
       refine bi fun r18 hr18 => ?_
       refine bi fun r19 hr19 => ?_
       refine lx ?_; intro x20
       refine At.d 0 (dE2 2 (j64 r16) (fun _ => aF (lG hr16)) (dE2 5 (j64 r17) (fun _ => aF (lG hr17)) (dE2 9 (j64 r18) (fun _ => aF (lG hr18)) (dE2 12 (j64 r19) (fun _ => aF (lG hr19)) dE0)))) dF0 ?_
       refine At.c 0 ?_ ?_
       ·apply rt; exact At.jn 2
       ·apply rt; exact At.jn 0
      ·exact fun h => At.k 3 ⟨_, _, h, jr⟩
     ·apply rt; exact At.x 0
   ·refine bi fun r21 hr21 => ?_
    refine bi fun r22 hr22 => ?_
    refine At.d2 0 [false, false] (dC2 2 (j64 r21) (fun _ => aF (lG hr21)) (dC2 5 (j64 r22) (fun _ => aF (lG hr22)) dC0)) (dS1 6 ⟨(.ref 5 [] 0), 5, .var (j64 0), .dead⟩ [[.gro 1 (List.map j64 b0), .tail (p2.length * 3), .var (aA.enc r11.1), .var (aA.enc r11.2), .var (j64 p12), .dead, .dead], [.gro 1 (List.map j64 b0), .tail (p2.length * 3), .var (aA.enc r11.1), .var (aA.enc r11.2), .var (j64 p12), .dead, .var (j64 0)]] ⟨aV hT 5 (by kernel_rfl) (by kernel_rfl) (by kernel_rfl), aV hT 5 (by kernel_rfl) (by kernel_rfl) (by kernel_rfl), trivial⟩ (dS1 7 ⟨(.ref 6 [] 0), 6, .var (j64 0), .dead⟩ [[.gro 1 (List.map j64 b0), .tail (p2.length * 3), .var (aA.enc r11.1), .var (aA.enc r11.2), .var (j64 p12), .dead, .dead], [.gro 1 (List.map j64 b0), .tail (p2.length * 3), .var (aA.enc r11.1), .var (aA.enc r11.2), .var (j64 p12), .var (j64 0), .dead]] ⟨aV hT 6 (by kernel_rfl) (by kernel_rfl) (by kernel_rfl), aV hT 6 (by kernel_rfl) (by kernel_rfl) (by kernel_rfl), trivial⟩ dS0)) ?_
    refine At.c 3 ?_ ?_
    ·apply rt; exact At.r 1
    ·refine At.c 2 ?_ ?_
     ·refine At.o 1 (oC (x := (.fn (.func 207) [] [(.im (eL 19 aE.enc a1)), (.ref 4 [] 0)])) (by kernel_rfl) (by kernel_rfl)) ?_
      refine bi fun r23 hr23 => ?_
      refine bi fun u24 hu24 => ?_
      refine At.o 0 (aK [0, 4] (nL hr23)) ?_
      refine At.gl 0 [1] [] 0 b0.length r23.length (aAv hu24) ?_
      refine lx ?_; intro x25
      apply rt; exact At.r 4
     ·refine At.b 5 (fun _ e => aK [0] (aC6 e)) fun r26 => ?_
      refine At.gz 2 5 ((j64 r21)) ?_
      refine At.gz 0 6 ((j64 r22)) ?_
      refine At.gz 0 7 ((j64 r26)) ?_
      refine At.o 0 (oC (x := (.fn (.func 209) [] [(.im (eL 19 aE.enc a1)), (.ref 4 [] 0), (.im (j64 r21)), (.im (j64 r22)), (.im (j64 r26))])) (by kernel_rfl) (by kernel_rfl)) ?_
      refine At.o 3 (oC (x := (.fn (.func 211) [] [(.ref 8 [] 0)])) (by kernel_rfl) (by kernel_rfl)) ?_
      refine bi fun r27 hr27 => ?_
      refine bi fun u28 hu28 => ?_
      refine At.o 0 (aK [0, 8, 4] (nX hr27)) ?_
      refine At.gl 0 [1] [] 0 b0.length r27.length (aAv hu28) ?_
      refine At.b 2 (fun _ e => aK [0, 4] (oD e)) fun r29 => ?_
      apply rt; exact At.r 1


def nS (N : Nat) (a0 : (List aE)) : Nat → Int → Option (Sum (Unit) (bK × Int))
 | 0, _ => none
 | k + 1, s3 =>
  aM (decide (s3 < ((a0.length : Int)))) fun x4 =>
  cond x4 (
   Option.bind (idx a0 s3) fun e5 =>
   Option.bind (aLt 3 0 3) fun _ =>
   Option.bind (uE N e5) fun r7 =>
   Option.bind (aM (decide ((jI (jI r7.1.gX r7.1.gY) r7.1.gZ) < (-1048576))) fun x9 =>
   cond x9 (
    some true) (
    aM (decide ((iS (iS r7.2.gX r7.2.gY) r7.2.gZ) > 1048576)) fun x10 =>
    some x10)) fun p8 =>
   cond p8 (
    some (Sum.inr ((bK.mk [] [], 8)))) (
    nS N a0 k (I64 (s3 + 1)))) (
   some (Sum.inl (())))

def nT (N : Nat) (a0 : (List aE)) : Nat → (List Int) → Int → Option ((List Int))
 | 0, _, _ => none
 | k + 1, s13, s14 =>
  aM (decide (s14 < ((a0.length : Int)))) fun x15 =>
  cond x15 (
   Option.bind (yC 8 s13 (([s14] : List Int))) fun z16 =>
   nT N a0 k z16 (I64 (s14 + 1))) (
   some s13)

def nQ (N : Nat) (a0 : (List aE)) : Nat → (List Int) → (List bH) → (List bE) → Nat → Option ((List Int) × (List bH) × (List bE))
 | 0, _, _, _, _ => none
 | k + 1, s18, s19, s20, s21 =>
  aM (decide (((s21 : Int)) > 0)) fun x22 =>
  cond x22 (
   aM (I64 (((s21 : Int)) - 1)) fun x23 =>
   Option.bind (uI s20.length 0 s21 x23) fun _ =>
   Option.bind (s20[x23.toNat]?) fun e25 =>
   aM (I64 (((s21 : Int)) - 1)) fun x26 =>
   Option.bind (aGU s20.length 0 s21 0 x26) fun _ =>
   aM (I64 (e25.gB + e25.gT)) fun x28 =>
   Option.bind (aGU s18.length 0 s18.length e25.gB x28) fun _ =>
   Option.bind (sN N s18 a0 e25.gB.toNat (x28.toNat - e25.gB.toNat)) fun r30 =>
   Option.bind (Option.bind (oX N s18 a0 e25.gB.toNat (x28.toNat - e25.gB.toNat) e25.gC3) fun r32 =>
   Option.bind (yO r32.1 s18.length) fun _ =>
   cond (decide (r32.2 > 0)) (
    aM (I64 (((s19.length : Int)) + 1)) fun x34 =>
    Option.bind (yC 80 s19 (([bH.mk (aA.mk 0 0 0) (aA.mk 0 0 0) 0 0 0 0, bH.mk (aA.mk 0 0 0) (aA.mk 0 0 0) 0 0 0 0] : List bH))) fun z35 =>
    aM (I64 (((s19.length : Int)) + 1)) fun x36 =>
    aM (I64 (e25.gB + r32.2)) fun x37 =>
    aM (I64 (e25.gT - r32.2)) fun x38 =>
    Option.bind (aID 32 s20 x26.toNat (([bE.mk x36 x37 x38 (I64 (e25.gC3 + 1)), bE.mk ((s19.length : Int)) e25.gB r32.2 (I64 (e25.gC3 + 1))] : List bE))) fun z39 =>
    some ((r32.1, z35, z39, bH.mk r30.1 r30.2 ((s19.length : Int)) ((I64 (((s19.length : Int)) + 1))) 0 0, x26.toNat + 2))) (
    some ((r32.1, s19, s20, bH.mk r30.1 r30.2 (-1) (-1) e25.gB e25.gT, x26.toNat)))) fun p31 =>
   Option.bind (fK e25.gA3 p31.2.1.length) fun _ =>
   Option.bind (aEY p31.2.1 e25.gA3.toNat p31.2.2.2.1) fun z41 =>
   nQ N a0 k p31.1 z41 p31.2.2.1 p31.2.2.2.2) (
   some ((s18, s19, s20)))

def uB (N : Nat) (a0 : (List aE)) : Option (bK × Int) :=
 aM (decide (((a0.length : Int)) > 4096)) fun x1 =>
 cond x1 (
  some ((bK.mk [] [], 3))) (
  Option.bind (nS N a0 N 0) fun o => fW o (fun p2 =>
   aM (((a0.length : Int)) == 0) fun x11 =>
   cond x11 (
    some ((bK.mk [] [], 0))) (
    Option.bind (nT N a0 N [] 0) fun p12 =>
    Option.bind (nQ N a0 N p12 (([bH.mk (aA.mk 0 0 0) (aA.mk 0 0 0) 0 0 0 0] : List bH)) (([bE.mk 0 0 ((a0.length : Int)) 1] : List bE)) ((([bE.mk 0 0 ((a0.length : Int)) 1] : List bE)).length)) fun p17 =>
    some ((bK.mk p17.2.1 p17.1, 0)))) (fun r => some r))

theorem aGc {N a0 r} (h : uB N a0 = some r) : FnM Tryz.prog 74 [] [(eL 19 aE.enc a0)] (.tup [(bK.enc r.1), (j64 r.2)]) [] := by
 unfold uB at h
 refine At.f dG hT hmo Tryz.func74 rfl h ?_
 refine lx ?_; intro x1
 refine At.c 5 ?_ ?_
 ·apply rt; exact At.r 3
 ·refine At.LS 3 [0, 2] 1 (fun p2 => ([], [], [])) (fun op2 J k => ∃ s3, nS N a0 k s3 = some op2 ∧ J [0, 2, 22, 23] 1 [(24, (j64 s3))] [] []) N (fun _ h => ⟨_, h, jr⟩) (fun op2 g2 k s hI => ?_) fun p2 => ?_
  ·obtain ⟨s3, h, hj⟩ := hI
   cases k with
   | zero => cases h
   | succ k =>
    refine At.jr hj ?_ h
    refine lx ?_; intro x4
    refine At.c 1 ?_ ?_
    ·refine At.b 0 (fun _ e => cC hT aE.enc e) fun e5 => ?_
     refine At.b 4 (fun _ e => aJp hT (k := 3) 1 [0] 0 e (by kernel_rfl) (by kernel_rfl) (by decide)) fun s6 => ?_
     refine At.b 0 (fun _ e => aK [1] (aG8 e)) fun r7 => ?_
     refine At.J 7 0 [0, 2, 22, 23, 24] 4 (fun p8 => ([(51, (eB p8))], [], [])) (fun p8 => ?_) fun p8 => ?_
     ·refine At.o 6 (vN (k := .i64) (i := r7.1.gX) (j := r7.1.gY) (l := r7.1.gZ) (by kernel_rfl) (by kernel_rfl)) ?_
      refine lx ?_; intro x9
      refine At.s 42 2 ?_ ?_
      ·refine At.g [42] 9 ?_
       apply rt; exact At.jn 0
      ·refine At.g [42] 6 ?_
       refine At.o 0 (wN (k := .i64) (i := r7.2.gX) (j := r7.2.gY) (l := r7.2.gZ) (by kernel_rfl) (by kernel_rfl)) ?_
       refine lx ?_; intro x10
       refine At.g [42] 2 ?_
       apply rt; exact At.jn 0
     ·refine At.c 0 ?_ ?_
      ·intro e; apply uY g2 e; exact At.r 3
      ·exact fun h => At.k 2 ⟨_, h, jr⟩
    ·apply rt; exact At.xs 0
  ·refine lx ?_; intro x11
   refine At.c 4 ?_ ?_
   ·apply rt; exact At.r 3
   ·refine At.grob 3 1 1 [1] ?_
    refine At.L 0 [0, 2, 8] 3 (fun p12 => ([], [(1, .var (.st 2 [(.v (.slice none 0 0)), (.gro 2 1 p12.length .all)])), (2, .gro 1 (List.map j64 p12))], [])) (fun p12 J k => ∃ s13 s14, nT N a0 k s13 s14 = some p12 ∧ J [0, 2, 8, 59] 3 [(60, (j64 s14))] [(1, .var (.st 2 [(.v (.slice none 0 0)), (.gro 2 1 s13.length .all)])), (2, .gro 1 (List.map j64 s13))] []) N (fun _ h => ⟨_, _, h, jr⟩) (fun p12 k s hI => ?_) fun p12 => ?_
    ·obtain ⟨s13, s14, h, hj⟩ := hI
     cases k with
     | zero => cases h
     | succ k =>
      refine At.jr hj ?_ h
      refine lx ?_; intro x15
      refine At.c 1 ?_ ?_
      ·refine At.o 5 (cX hT (x := (.sl 1 1 [(j64 s14)]))) ?_
       refine At.b 0 (fun z16 e => aGQ hT j64 (id := 2) (k := 1) e (by kernel_rfl) (by kernel_rfl) (H' := [.var (.st 2 [(.v (.slice none 0 0)), (.v (.slice none 0 0))]), .var (.st 2 [(.v (.slice none 0 0)), (.gro 2 1 s13.length .all)]), .gro 1 (List.map j64 z16)]) (by kernel_rfl)) fun z16 => ?_
       exact fun h => At.k 4 ⟨_, _, h, jr⟩
      ·apply rt; exact At.x 0
    ·refine At.o 1 (aCm hT bH.enc (k := 10) ([bH.mk (aA.mk 0 0 0) (aA.mk 0 0 0) 0 0 0 0] : List bH) (by kernel_rfl) (by kernel_rfl)) ?_
     refine At.o 5 (aCm hT bE.enc (k := 4) ([bE.mk 0 0 ((a0.length : Int)) 1] : List bE) (by kernel_rfl) (by kernel_rfl)) ?_
     refine At.gsub 1 10 ?_
     refine At.L 0 [2, 8] 5 (fun p17 => ([], [(1, .var (.st 2 [(.gro 3 10 p17.2.1.length .all), (.gro 2 1 p17.1.length .all)])), (2, .gro 1 (List.map j64 p17.1)), (3, .gro 10 (List.map bH.enc p17.2.1)), (4, .gro 4 (List.map bE.enc p17.2.2))], [])) (fun p17 J k => ∃ s18 s19 s20 s21, nQ N a0 k s18 s19 s20 s21 = some p17 ∧ J [0, 2, 8] 5 [(10, (.gro 4 4 s20.length (.sub 0 s21)))] [(1, .var (.st 2 [(.gro 3 10 s19.length .all), (.gro 2 1 s18.length .all)])), (2, .gro 1 (List.map j64 s18)), (3, .gro 10 (List.map bH.enc s19)), (4, .gro 4 (List.map bE.enc s20))] []) N (fun _ h => ⟨_, _, _, _, h, jr⟩) (fun p17 k s hI => ?_) fun p17 => ?_
     ·obtain ⟨s18, s19, s20, s21, h, hj⟩ := hI
      cases k with
      | zero => cases h
      | succ k =>
       refine At.jr hj ?_ h
       refine lx ?_; intro x22
       refine At.c 3 ?_ ?_
       ·refine lx ?_; intro x23
        refine At.b 4 (fun _ e => jC hT (id := 4) (k := 4) e (by kernel_rfl) (by kernel_rfl)) fun u24 => ?_
        refine At.b 0 (fun _ e => mP hT bE.enc [] e rfl (by kernel_rfl) (by kernel_rfl)) fun e25 => ?_
        refine lx ?_; intro x26
        refine At.b 6 (fun _ e => aEL hT (id := 4) (k := 4) (L := s20.length) (lo0 := 0) (m := s21) e (by kernel_rfl) (by kernel_rfl)) fun s27 => ?_
        refine lx ?_; intro x28
        refine At.b 10 (fun _ e => aEL hT (id := 2) (k := 1) (L := s18.length) (lo0 := 0) (m := s18.length) e (by kernel_rfl) (by kernel_rfl)) fun s29 => ?_
        refine At.b 3 (fun _ e => aK [2] (aFZ e)) fun r30 => ?_
        refine At.J 16 1 [0, 2, 8, 11, 15] 9 (fun p31 => ([(10, (.gro 4 4 p31.2.2.1.length (.sub 0 p31.2.2.2.2)))], [(1, .var (.st 2 [(.gro 3 10 p31.2.1.length .all), (.gro 2 1 p31.1.length .all)])), (2, .gro 1 (List.map j64 p31.1)), (3, .gro 10 (List.map bH.enc p31.2.1)), (4, .gro 4 (List.map bE.enc p31.2.2.1)), (8, .var (bH.enc p31.2.2.2.1))], [])) (fun p31 => ?_) fun p31 => ?_
        ·refine bi fun r32 hr32 => ?_
         refine bi fun u33 hu33 => ?_
         refine At.o 4 (aK [2] (aEA hr32)) ?_
         refine At.gl 0 [] [1] 2 s18.length r32.1.length (aAv hu33) ?_
         refine At.c 3 ?_ ?_
         ·refine lx ?_; intro x34
          refine At.o 15 (cX hT (x := (.sl 10 2 [(.st 10 [(.st 3 [(j64 0), (j64 0), (j64 0)]), (.st 3 [(j64 0), (j64 0), (j64 0)]), (j64 0), (j64 0), (j64 0), (j64 0)]), (.st 10 [(.st 3 [(j64 0), (j64 0), (j64 0)]), (.st 3 [(j64 0), (j64 0), (j64 0)]), (j64 0), (j64 0), (j64 0), (j64 0)])]))) ?_
          refine At.b 0 (fun z35 e => aGQ hT bH.enc (id := 3) (k := 10) e (by kernel_rfl) (by kernel_rfl) (H' := [.var (.st 2 [(.v (.slice none 0 0)), (.v (.slice none 0 0))]), .var (.st 2 [(.gro 3 10 s19.length .all), (.gro 2 1 r32.1.length .all)]), .gro 1 (List.map j64 r32.1), .gro 10 (List.map bH.enc z35), .gro 4 (List.map bE.enc s20), .var (bE.enc e25), .var (aA.enc r30.1), .var (aA.enc r30.2), .var (.st 10 [(aA.enc r30.1), (aA.enc r30.2), (j64 ((s19.length : Int))), (j64 ((I64 (((s19.length : Int)) + 1)))), (j64 0), (j64 0)])]) (by kernel_rfl)) fun z35 => ?_
          refine lx ?_; intro x36
          refine lx ?_; intro x37
          refine lx ?_; intro x38
          refine At.o 25 (cX hT (x := (.sl 4 2 [(.st 4 [(j64 x36), (j64 x37), (j64 x38), (j64 (I64 (e25.gC3 + 1)))]), (.st 4 [(j64 ((s19.length : Int))), (j64 e25.gB), (j64 r32.2), (j64 (I64 (e25.gC3 + 1)))])]))) ?_
          refine At.b 0 (fun z39 e => aC7 hT bE.enc (id := 4) (k := 4) e (by kernel_rfl) (by kernel_rfl) (H' := [.var (.st 2 [(.v (.slice none 0 0)), (.v (.slice none 0 0))]), .var (.st 2 [(.gro 3 10 z35.length .all), (.gro 2 1 r32.1.length .all)]), .gro 1 (List.map j64 r32.1), .gro 10 (List.map bH.enc z35), .gro 4 (List.map bE.enc z39), .var (bE.enc e25), .var (aA.enc r30.1), .var (aA.enc r30.2), .var (.st 10 [(aA.enc r30.1), (aA.enc r30.2), (j64 ((s19.length : Int))), (j64 ((I64 (((s19.length : Int)) + 1)))), (j64 0), (j64 0)])]) (by kernel_rfl)) fun z39 => ?_
          apply rt; exact At.jn 1
         ·apply rt; exact At.jn 0
        ·refine At.b 5 (fun _ e => aNA hT (id := 3) (k := 10) e (by kernel_rfl) (by kernel_rfl)) fun u40 => ?_
         refine bi fun z41 hz41 => ?_
         refine At.o 0 (aAV hT bH.enc (k := 10) p31.2.2.2.1 hz41 rfl (by kernel_rfl) (fun _ => by kernel_rfl) (by kernel_rfl) (H' := [.var (.st 2 [(.v (.slice none 0 0)), (.v (.slice none 0 0))]), .var (.st 2 [(.gro 3 10 p31.2.1.length .all), (.gro 2 1 p31.1.length .all)]), .gro 1 (List.map j64 p31.1), .gro 10 (List.map bH.enc z41), .gro 4 (List.map bE.enc p31.2.2.1), .var (bE.enc e25), .var (aA.enc r30.1), .var (aA.enc r30.2), .var (bH.enc p31.2.2.2.1)]) (by kernel_rfl)) ?_
         refine At.gl 0 [167] [1] 3 p31.2.1.length z41.length ((aAf hz41).2.2) ?_
         exact fun h => At.k 0 ⟨_, _, _, _, h, jr⟩
       ·apply rt; exact At.x 0
     ·refine At.fz 3 2 1 p17.1.length _ (List.map j64 p17.1) (List.length_map _) (List.length_map _) ?_
      refine At.fz 0 3 10 p17.2.1.length _ (List.map bH.enc p17.2.1) (List.length_map _) (List.length_map _) ?_
      apply rt; exact At.r 0

def fX (N : Nat) (a0 : (List aE)) : Option ((List aE)) :=
 Option.bind (yC 152 (([] : List aE)) a0) fun z1 =>
 some z1

theorem sQ {N a0 r} (h : fX N a0 = some r) : FnM Tryz.prog 75 [] [(eL 19 aE.enc a0)] (eL 19 aE.enc r) [] := by
 unfold fX at h
 refine At.f dG hT hmo Tryz.func75 rfl h ?_
 refine At.q hT 2 (d := 4) (t := 22) (e := 61) (z := 19) (x := (eL 19 aE.enc a0)) (es := List.map aE.enc a0) rfl ?_ (fun he => ?_)
 ·refine At.o 1 (yR hT aE.enc (k := 19) ([] : List aE) (by kernel_rfl) (by kernel_rfl)) ?_
  refine At.b 1 (fun _ e => qR hT aE.enc (id := 0) (k := 19) e) fun z1 => ?_
  apply rt; exact At.r 1
 ·have h0 : a0 = [] := List.map_eq_nil_iff.1 he
  subst h0
  change some [] = _ → _
  apply rt; exact At.r 2

def rC (N : Nat) (a0 : (List aE)) : Option (Sum (Int) (bK × aJ × Int)) :=
 Option.bind (uB N a0) fun r1 =>
 cond (r1.2 != 0) (
  some (Sum.inl r1.2)) (
  Option.bind (fX N a0) fun r2 =>
  some (Sum.inr ((r1.1, aJ.mk r1.1 true r2 0, 0))))

theorem aDj {N a0 r} (h : rC N a0 = some r) : FnM Tryz.prog 29 [] [(eL 19 aE.enc a0)] (aED r (fun r => (.tup [(.v (.pointer none)), (j64 r)])) (fun r => (.tup [(.ref 1 [] 0), (j64 r.2.2)]))) (aED r (fun r => []) (fun r => [.var (bK.enc r.1), .var (aJ.enc r.2.1)])) := by
 unfold rC at h
 refine At.f dG hT hmo Tryz.func29 rfl h ?_
 refine At.b 3 (fun _ e => aK [] (aGc e)) fun r1 => ?_
 refine At.c 8 ?_ ?_
 ·apply rt; exact At.r 3
 ·refine bi fun r2 hr2 => ?_
  refine At.d 0 (dE2 2 (eL 19 aE.enc r2) (fun _ => aF (sQ hr2)) dE0) dF0 ?_
  apply rt; exact At.r 0

theorem aFm {N a0 r} (h : rC N a0 = some (Sum.inl r)) : FnM Tryz.prog 29 [] [(eL 19 aE.enc a0)] (.tup [(.v (.pointer none)), (j64 r)]) [] := aDj h

theorem aFh {N a0 r} (h : rC N a0 = some (Sum.inr r)) : FnM Tryz.prog 29 [] [(eL 19 aE.enc a0)] (.tup [(.ref 1 [] 0), (j64 r.2.2)]) [.var (bK.enc r.1), .var (aJ.enc r.2.1)] := aDj h

def aHk : Nat → Bool := imL [2, 3]

def nR (N : Nat) (x8 : Int) (a0 : aG) : Nat → (List (List aD)) → Int → Option ((List (List aD)))
 | 0, _, _ => none
 | k + 1, s10, s11 =>
  cond (decide (s11 < x8)) (
   Option.bind (idx a0.gK s11) fun e12 =>
   Option.bind (nO N e12) fun r13 =>
   Option.bind (yC 24 s10 (([r13.1] : List (List aD)))) fun z14 =>
   nR N x8 a0 k z14 (I64 (s11 + 1))) (
   some s10)

def kK (N : Nat) (a0 : aG) (a1 : aI) : Option (Sum (Int) (Sum ((List aE) × (List aP) × (List aN) × (List (List aD)) × aB × Int) (Sum ((List aE) × (List aP) × (List aN) × (List (List aD)) × aB × (List aE) × Int) (Sum ((List aE) × (List aP) × (List aN) × (List (List aD)) × aB × Int) ((List aE) × (List aP) × (List aN) × (List (List aD)) × aB × bK × aJ × Int))))) :=
 Option.bind (dW N a0) fun r1 =>
 cond (r1 != 0) (
  some (Sum.inl r1)) (
  Option.bind (fU N a1) fun r2 =>
  cond (r2 != 0) (
   some (Sum.inl r2)) (
   Option.bind (kG N a0 a1.gS) fun r3 =>
   cond (r3 != 0) (
    some (Sum.inl r3)) (
    Option.bind (vO N a0.gR) fun r4 =>
    Option.bind (yC 152 (([] : List aE)) a0.gM) fun z5 =>
    Option.bind (yC 40 (([] : List aP)) a0.gQ) fun z6 =>
    Option.bind (yC 104 (([] : List aN)) a0.gR) fun z7 =>
    aM ((a0.gK.length : Int)) fun x8 =>
    Option.bind (nR N x8 a0 N [] 0) fun p9 =>
    cond a1.gB6 (
     Option.bind (iI N a1.gS) fun r15 =>
     Option.bind (oZ N a0.gM r15.1) fun q =>
     fW q (fun r17 =>
      some (Sum.inr (Sum.inl ((z5, z6, z7, p9, r4, r17))))) (fun r18 =>
      some (Sum.inr (Sum.inr (Sum.inl ((z5, z6, z7, p9, r4, r18.1, r18.2))))))) (
     Option.bind (rC N a0.gM) fun q =>
     fW q (fun r20 =>
      some (Sum.inr (Sum.inr (Sum.inr (Sum.inl ((z5, z6, z7, p9, r4, r20))))))) (fun r21 =>
      some (Sum.inr (Sum.inr (Sum.inr (Sum.inr ((z5, z6, z7, p9, r4, r21.1, r21.2.1, r21.2.2)))))))))))

theorem sG {N a0 a1 r} (h : kK N a0 a1 = some r) : FnM Tryz.prog 11 [] [(aG.enc a0), (aI.enc a1)] (aED r (fun r => (.tup [(.v (.pointer none)), (j64 r)])) (fun r => aED r (fun r => (.tup [(.ref 0 [] 0), (j64 r.2.2.2.2.2)])) (fun r => aED r (fun r => (.tup [(.ref 0 [] 0), (j64 r.2.2.2.2.2.2)])) (fun r => aED r (fun r => (.tup [(.ref 0 [] 0), (j64 r.2.2.2.2.2)])) (fun r => (.tup [(.ref 0 [] 0), (j64 r.2.2.2.2.2.2.2)])))))) (aED r (fun r => []) (fun r => aED r (fun r => [.var (.st 38 [(.st 9 [(eL 19 aE.enc r.1), (eL 5 aP.enc r.2.1), (eL 2 aD.enc a0.gK), (eL 13 aN.enc r.2.2.1), (eL 1 k64 a0.gA1), (eL 1 k32 a0.gA2), (k32 a0.gA8), (k32 a0.gA9), (k32 a0.gTo)]), (aI.enc a1), (.ifc 88 (.v (.pointer none))), (eL 1 (eL 2 aD.enc) r.2.2.2.1), (aB.enc r.2.2.2.2.1), (.st 3 [(j64 0), (j64 0), (j64 0)])])]) (fun r => aED r (fun r => [.var (.st 38 [(.st 9 [(eO 1 19 aE.enc r.1), (eO 2 5 aP.enc r.2.1), (eL 2 aD.enc a0.gK), (eO 3 13 aN.enc r.2.2.1), (eL 1 k64 a0.gA1), (eL 1 k32 a0.gA2), (k32 a0.gA8), (k32 a0.gA9), (k32 a0.gTo)]), (aI.enc a1), (.ifc 88 (.ref 6 [] 0)), (eO 4 1 (eL 2 aD.enc) r.2.2.2.1), (aB.enc r.2.2.2.2.1), (.st 3 [(j64 0), (j64 0), (j64 0)])]), .tail (r.1.length * 19), .tail (r.2.1.length * 5), .tail (r.2.2.1.length * 13), .tail (r.2.2.2.1.length * 1), .dead, .var (.st 3 [(.st 1 [(j64 0)]), (eB true), (eL 19 aE.enc r.2.2.2.2.2.1)])]) (fun r => aED r (fun r => [.var (.st 38 [(.st 9 [(eL 19 aE.enc r.1), (eL 5 aP.enc r.2.1), (eL 2 aD.enc a0.gK), (eL 13 aN.enc r.2.2.1), (eL 1 k64 a0.gA1), (eL 1 k32 a0.gA2), (k32 a0.gA8), (k32 a0.gA9), (k32 a0.gTo)]), (aI.enc a1), (.ifc 91 (.v (.pointer none))), (eL 1 (eL 2 aD.enc) r.2.2.2.1), (aB.enc r.2.2.2.2.1), (.st 3 [(j64 0), (j64 0), (j64 0)])])]) (fun r => [.var (.st 38 [(.st 9 [(eO 1 19 aE.enc r.1), (eO 2 5 aP.enc r.2.1), (eL 2 aD.enc a0.gK), (eO 3 13 aN.enc r.2.2.1), (eL 1 k64 a0.gA1), (eL 1 k32 a0.gA2), (k32 a0.gA8), (k32 a0.gA9), (k32 a0.gTo)]), (aI.enc a1), (.ifc 91 (.ref 6 [] 0)), (eO 4 1 (eL 2 aD.enc) r.2.2.2.1), (aB.enc r.2.2.2.2.1), (.st 3 [(j64 0), (j64 0), (j64 0)])]), .tail (r.1.length * 19), .tail (r.2.1.length * 5), .tail (r.2.2.1.length * 13), .tail (r.2.2.2.1.length * 1), .var (bK.enc r.2.2.2.2.2.1), .var (aJ.enc r.2.2.2.2.2.2.1)]))))) := by
 unfold kK at h
 refine At.f aHk hT hmo Tryz.func11 rfl h ?_
 refine At.b 5 (fun _ e => aK [] (bC e)) fun r1 => ?_
 refine At.c 3 ?_ ?_
 ·apply rt; exact At.r 3
 ·refine At.b 1 (fun _ e => aK [] (bW e)) fun r2 => ?_
  refine At.c 3 ?_ ?_
  ·apply rt; exact At.r 3
  ·refine At.b 3 (fun _ e => aK [] (aD2 e)) fun r3 => ?_
   refine At.c 3 ?_ ?_
   ·apply rt; exact At.r 3
   ·refine bi fun r4 hr4 => ?_
    refine At.d 0 (dE2 4 (aB.enc r4) (fun _ => aF (aIB hr4)) dE0) dF0 ?_
    refine At.o 1 (yR hT aE.enc (k := 19) ([] : List aE) (by kernel_rfl) (by kernel_rfl)) ?_
    refine At.b 2 (fun _ e => qR hT aE.enc (id := 1) (k := 19) e) fun z5 => ?_
    refine At.o 5 (yR hT aP.enc (k := 5) ([] : List aP) (by kernel_rfl) (by kernel_rfl)) ?_
    refine At.b 2 (fun _ e => qR hT aP.enc (id := 2) (k := 5) e) fun z6 => ?_
    refine At.o 5 (yR hT aN.enc (k := 13) ([] : List aN) (by kernel_rfl) (by kernel_rfl)) ?_
    refine At.b 2 (fun _ e => qR hT aN.enc (id := 3) (k := 13) e) fun z7 => ?_
    refine lx ?_; intro x8
    refine At.ownb 8 0 1 [3] ?_
    refine At.L 0 [2, 3, 9] 5 (fun p9 => ([], [(0, .var (.st 38 [(.st 9 [(eO 1 19 aE.enc z5), (eO 2 5 aP.enc z6), (eL 2 aD.enc a0.gK), (eO 3 13 aN.enc z7), (eL 1 k64 a0.gA1), (eL 1 k32 a0.gA2), (k32 a0.gA8), (k32 a0.gA9), (k32 a0.gTo)]), (aI.enc a1), (.v .nilIface), (eO 4 1 (eL 2 aD.enc) p9), (aB.enc r4), (.st 3 [(j64 0), (j64 0), (j64 0)])])), (4, .tail (p9.length * 1))], [])) (fun p9 J k => ∃ s10 s11, nR N x8 a0 k s10 s11 = some p9 ∧ J [2, 3, 9, 69, 70] 5 [(71, (j64 s11))] [(0, .var (.st 38 [(.st 9 [(eO 1 19 aE.enc z5), (eO 2 5 aP.enc z6), (eL 2 aD.enc a0.gK), (eO 3 13 aN.enc z7), (eL 1 k64 a0.gA1), (eL 1 k32 a0.gA2), (k32 a0.gA8), (k32 a0.gA9), (k32 a0.gTo)]), (aI.enc a1), (.v .nilIface), (eO 4 1 (eL 2 aD.enc) s10), (aB.enc r4), (.st 3 [(j64 0), (j64 0), (j64 0)])])), (4, .tail (s10.length * 1))] []) N (fun _ h => ⟨_, _, h, jr⟩) (fun p9 k s hI => ?_) fun p9 => ?_
    ·obtain ⟨s10, s11, h, hj⟩ := hI
     cases k with
     | zero => cases h
     | succ k =>
      refine At.jr hj ?_ h
      refine At.c 1 ?_ ?_
      ·refine At.b 0 (fun _ e => cC hT aD.enc e) fun e12 => ?_
       refine At.b 4 (fun _ e => aK [] (aCX e)) fun r13 => ?_
       refine At.o 11 (cX hT (x := (.sl 1 1 [(eL 2 aD.enc r13.1)]))) ?_
       refine At.b 0 (fun _ e => qR hT (eL 2 aD.enc) (id := 4) (k := 1) e) fun z14 => ?_
       exact fun h => At.k 5 ⟨_, _, h, jr⟩
      ·apply rt; exact At.x 0
    ·refine At.c 2 ?_ ?_
     ·refine At.b 2 (fun _ e => aK [] (pO e)) fun r15 => ?_
      refine sumI (fun r17 hr17 => ?_) (fun r18 hr18 => ?_)
      ·refine At.o 8 (aK [] (aEn hr17)) ?_
       refine At.o 7 (aA5 hT (t := 88) (x := (.v (.pointer none))) (by kernel_rfl) (by kernel_rfl)) ?_
       apply rt; exact At.r 7
      ·refine At.o 8 (aK [] (aFF hr18)) ?_
       refine At.o 7 (aA5 hT (t := 88) (x := (.ref 6 [] 0)) (by kernel_rfl) (by kernel_rfl)) ?_
       apply rt; exact At.r 7
     ·refine sumI (fun r20 hr20 => ?_) (fun r21 hr21 => ?_)
      ·refine At.o 2 (aK [] (aFm hr20)) ?_
       refine At.o 7 (aA5 hT (t := 91) (x := (.v (.pointer none))) (by kernel_rfl) (by kernel_rfl)) ?_
       apply rt; exact At.r 7
      ·refine At.o 2 (aK [] (aFh hr21)) ?_
       refine At.o 7 (aA5 hT (t := 91) (x := (.ref 6 [] 0)) (by kernel_rfl) (by kernel_rfl)) ?_
       apply rt; exact At.r 7

theorem aEU {N a0 a1 r} (h : kK N a0 a1 = some (Sum.inl r)) : FnM Tryz.prog 11 [] [(aG.enc a0), (aI.enc a1)] (.tup [(.v (.pointer none)), (j64 r)]) [] := sG h

theorem aEa {N a0 a1 r} (h : kK N a0 a1 = some (Sum.inr (Sum.inl r))) : FnM Tryz.prog 11 [] [(aG.enc a0), (aI.enc a1)] (.tup [(.ref 0 [] 0), (j64 r.2.2.2.2.2)]) [.var (.st 38 [(.st 9 [(eL 19 aE.enc r.1), (eL 5 aP.enc r.2.1), (eL 2 aD.enc a0.gK), (eL 13 aN.enc r.2.2.1), (eL 1 k64 a0.gA1), (eL 1 k32 a0.gA2), (k32 a0.gA8), (k32 a0.gA9), (k32 a0.gTo)]), (aI.enc a1), (.ifc 88 (.v (.pointer none))), (eL 1 (eL 2 aD.enc) r.2.2.2.1), (aB.enc r.2.2.2.2.1), (.st 3 [(j64 0), (j64 0), (j64 0)])])] := sG h

theorem aEb {N a0 a1 r} (h : kK N a0 a1 = some (Sum.inr (Sum.inr (Sum.inl r)))) : FnM Tryz.prog 11 [] [(aG.enc a0), (aI.enc a1)] (.tup [(.ref 0 [] 0), (j64 r.2.2.2.2.2.2)]) [.var (.st 38 [(.st 9 [(eO 1 19 aE.enc r.1), (eO 2 5 aP.enc r.2.1), (eL 2 aD.enc a0.gK), (eO 3 13 aN.enc r.2.2.1), (eL 1 k64 a0.gA1), (eL 1 k32 a0.gA2), (k32 a0.gA8), (k32 a0.gA9), (k32 a0.gTo)]), (aI.enc a1), (.ifc 88 (.ref 6 [] 0)), (eO 4 1 (eL 2 aD.enc) r.2.2.2.1), (aB.enc r.2.2.2.2.1), (.st 3 [(j64 0), (j64 0), (j64 0)])]), .tail (r.1.length * 19), .tail (r.2.1.length * 5), .tail (r.2.2.1.length * 13), .tail (r.2.2.2.1.length * 1), .dead, .var (.st 3 [(.st 1 [(j64 0)]), (eB true), (eL 19 aE.enc r.2.2.2.2.2.1)])] := sG h

theorem aFP {N a0 a1 r} (h : kK N a0 a1 = some (Sum.inr (Sum.inr (Sum.inr (Sum.inl r))))) : FnM Tryz.prog 11 [] [(aG.enc a0), (aI.enc a1)] (.tup [(.ref 0 [] 0), (j64 r.2.2.2.2.2)]) [.var (.st 38 [(.st 9 [(eL 19 aE.enc r.1), (eL 5 aP.enc r.2.1), (eL 2 aD.enc a0.gK), (eL 13 aN.enc r.2.2.1), (eL 1 k64 a0.gA1), (eL 1 k32 a0.gA2), (k32 a0.gA8), (k32 a0.gA9), (k32 a0.gTo)]), (aI.enc a1), (.ifc 91 (.v (.pointer none))), (eL 1 (eL 2 aD.enc) r.2.2.2.1), (aB.enc r.2.2.2.2.1), (.st 3 [(j64 0), (j64 0), (j64 0)])])] := sG h

theorem aA3 {N a0 a1 r} (h : kK N a0 a1 = some (Sum.inr (Sum.inr (Sum.inr (Sum.inr r))))) : FnM Tryz.prog 11 [] [(aG.enc a0), (aI.enc a1)] (.tup [(.ref 0 [] 0), (j64 r.2.2.2.2.2.2.2)]) [.var (.st 38 [(.st 9 [(eO 1 19 aE.enc r.1), (eO 2 5 aP.enc r.2.1), (eL 2 aD.enc a0.gK), (eO 3 13 aN.enc r.2.2.1), (eL 1 k64 a0.gA1), (eL 1 k32 a0.gA2), (k32 a0.gA8), (k32 a0.gA9), (k32 a0.gTo)]), (aI.enc a1), (.ifc 91 (.ref 6 [] 0)), (eO 4 1 (eL 2 aD.enc) r.2.2.2.1), (aB.enc r.2.2.2.2.1), (.st 3 [(j64 0), (j64 0), (j64 0)])]), .tail (r.1.length * 19), .tail (r.2.1.length * 5), .tail (r.2.2.1.length * 13), .tail (r.2.2.2.1.length * 1), .var (bK.enc r.2.2.2.2.2.1), .var (aJ.enc r.2.2.2.2.2.2.1)] := sG h

def aDG : Nat → Bool := imL [2]

def fZ (N : Nat) (a0 : aA) (a1 : Int) : Option (Bool) :=
 aM (decide (a0.gX < (I64 (0 - a1)))) fun x1 =>
 aM (cond (decide (a0.gX > a1)) true x1) fun x2 =>
 aM (cond x2 true (decide (a0.gY > a1))) fun x3 =>
 aM (decide (a0.gY < (I64 (0 - a1)))) fun x4 =>
 aM (cond (cond x3 true x4) true (decide (a0.gZ > a1))) fun x5 =>
 aM (decide (a0.gZ < (I64 (0 - a1)))) fun x6 =>
 some (cond x5 true x6)

theorem mR {N a0 a1 r} (h : fZ N a0 a1 = some r) : FnM Tryz.prog 96 [] [(aA.enc a0), (j64 a1)] (eB r) [] := by
 unfold fZ at h
 refine At.f aDG hT hmo Tryz.func96 rfl h ?_
 refine lx ?_; intro x1
 refine lx ?_; intro x2
 refine lx ?_; intro x3
 refine lx ?_; intro x4
 refine lx ?_; intro x5
 refine lx ?_; intro x6
 apply rt; exact At.r 40

def aAR : Nat → Bool := imL [2, 3]

def iC (N : Nat) (a1 : aE) (s9 : Int) : Nat → Int → Option (Sum (Unit) (Int))
 | 0, _ => none
 | k + 1, s11 =>
  cond (decide (s11 < 2)) (
   Option.bind (Option.bind (idx a1.gUv.toList s9) fun e13 =>
   Option.bind (idx e13.toList s11) fun e14 =>
   cond (decide (e14 < 0)) (
    some true) (
    Option.bind (idx a1.gUv.toList s9) fun e15 =>
    Option.bind (idx e15.toList s11) fun e16 =>
    some (decide (e16 > 65535)))) fun p12 =>
   cond p12 (
    some (Sum.inr 5)) (
    iC N a1 s9 k (I64 (s11 + 1)))) (
   some (Sum.inl (())))

def fA (N : Nat) (a1 : aE) : Nat → Int → Option (Sum (Unit) (Int))
 | 0, _ => none
 | k + 1, s9 =>
  cond (decide (s9 < 3)) (
   Option.bind (iC N a1 s9 N 0) fun o => fW o (fun p10 =>
    fA N a1 k (I64 (s9 + 1))) (fun r => some (Sum.inr r))) (
   some (Sum.inl (())))

def fD (N : Nat) (a1 : aE) : Nat → Int → Option (Sum (Unit) (Int))
 | 0, _ => none
 | k + 1, s18 =>
  cond (decide (s18 < 3)) (
   Option.bind (idx a1.gP.toList s18) fun e19 =>
   Option.bind (fZ N e19 65536) fun r20 =>
   cond r20 (
    some (Sum.inr 8)) (
    fD N a1 k (I64 (s18 + 1)))) (
   some (Sum.inl (())))

def eE (N : Nat) (a0 : aG) (a1 : aE) : Option (Int) :=
 aM ((a0.gQ.length : Int)) fun x1 =>
 aM (cond (decide (a1.gB2 < 0)) true (decide (a1.gB2 ≥ x1))) fun x2 =>
 aM (decide (a1.gB5 < (-1))) fun x3 =>
 aM ((a0.gK.length : Int)) fun x4 =>
 aM (cond (cond x2 true x3) true (decide (a1.gB5 ≥ x4))) fun x5 =>
 aM (cond x5 true (decide (a1.gB1 < 0))) fun x6 =>
 aM (decide (a1.gB1 ≥ ((a0.gA1.length : Int)))) fun x7 =>
 cond (cond x6 true x7) (
  some 5) (
  Option.bind (fA N a1 N 0) fun o => fW o (fun p8 =>
   Option.bind (fD N a1 N 0) fun o => fW o (fun p17 =>
    some 0) (fun r => some r)) (fun r => some r))

theorem zU {N a0 a1 r} (h : eE N a0 a1 = some r) : FnM Tryz.prog 44 [] [(aG.enc a0), (aE.enc a1)] (j64 r) [] := by
 unfold eE at h
 refine At.f aAR hT hmo Tryz.func44 rfl h ?_
 refine lx ?_; intro x1
 refine lx ?_; intro x2
 refine lx ?_; intro x3
 refine lx ?_; intro x4
 refine lx ?_; intro x5
 refine lx ?_; intro x6
 refine lx ?_; intro x7
 refine At.c 40 ?_ ?_
 ·apply rt; exact At.r 1
 ·refine At.LS 1 [3] 0 (fun p8 => ([], [], [])) (fun op8 J k => ∃ s9, fA N a1 k s9 = some op8 ∧ J [3] 0 [(5, (j64 s9))] [] []) N (fun _ h => ⟨_, h, jr⟩) (fun op8 g8 k s hI => ?_) fun p8 => ?_
  ·obtain ⟨s9, h, hj⟩ := hI
   cases k with
   | zero => cases h
   | succ k =>
    refine At.jr hj ?_ h
    refine At.c 2 ?_ ?_
    ·refine At.LS 1 [3, 5] 0 (fun p10 => ([], [], [])) (fun op10 J k => ∃ s11, iC N a1 s9 k s11 = some op10 ∧ J [3, 5] 0 [(6, (j64 s11))] [] []) N (fun _ h => ⟨_, h, jr⟩) (fun op10 g10 k s hI => ?_) fun p10 => ?_
     ·obtain ⟨s11, h, hj⟩ := hI
      cases k with
      | zero => cases h
      | succ k =>
       refine At.jr hj ?_ h
       refine At.c 2 ?_ ?_
       ·refine At.J 0 0 [3, 5, 6] 0 (fun p12 => ([(68, (eB p12))], [], [])) (fun p12 => ?_) fun p12 => ?_
        ·refine At.b 3 (fun _ e => cK hT (N := 6) (k := 2) (eA 2 1 j64) a1.gUv e) fun e13 => ?_
         refine At.b 0 (fun _ e => cK hT (N := 2) (k := 1) j64 e13 e) fun e14 => ?_
         refine At.s 60 3 ?_ ?_
         ·refine At.g [60] 8 ?_
          apply rt; exact At.jn 0
         ·refine At.g [60] 3 ?_
          refine At.b 0 (fun _ e => cK hT (N := 6) (k := 2) (eA 2 1 j64) a1.gUv e) fun e15 => ?_
          refine At.b 0 (fun _ e => cK hT (N := 2) (k := 1) j64 e15 e) fun e16 => ?_
          refine At.g [60] 3 ?_
          apply rt; exact At.jn 0
        ·refine At.c 0 ?_ ?_
         ·intro e; apply aLM g10 g8 e; exact At.r 1
         ·exact fun h => At.k 3 ⟨_, h, jr⟩
       ·apply rt; exact At.xs 0
     ·exact fun h => At.k 3 ⟨_, h, jr⟩
    ·apply rt; exact At.xs 0
  ·refine At.LS 1 [] 0 (fun p17 => ([], [], [])) (fun op17 J k => ∃ s18, fD N a1 k s18 = some op17 ∧ J [3] 0 [(7, (j64 s18))] [] []) N (fun _ h => ⟨_, h, jr⟩) (fun op17 g17 k s hI => ?_) fun p17 => ?_
   ·obtain ⟨s18, h, hj⟩ := hI
    cases k with
    | zero => cases h
    | succ k =>
     refine At.jr hj ?_ h
     refine At.c 2 ?_ ?_
     ·refine At.b 2 (fun _ e => cK hT (N := 9) (k := 3) aA.enc a1.gP e) fun e19 => ?_
      refine At.b 1 (fun _ e => aK [] (mR e)) fun r20 => ?_
      refine At.c 0 ?_ ?_
      ·intro e; apply uY g17 e; exact At.r 1
      ·exact fun h => At.k 3 ⟨_, h, jr⟩
     ·apply rt; exact At.xs 0
   ·apply rt; exact At.r 1

def aAQ : Nat → Bool := imL [1]

def iF (N : Nat) (a0 : aP) : Nat → Int → Option (Sum (Unit) (Int))
 | 0, _ => none
 | k + 1, s5 =>
  cond (decide (s5 < 3)) (
   Option.bind (Option.bind (idx a0.gL.toList s5) fun e7 =>
   cond (decide (e7 < 0)) (
    some true) (
    Option.bind (idx a0.gL.toList s5) fun e8 =>
    some (decide (e8 > 65535)))) fun p6 =>
   cond p6 (
    some (Sum.inr 5)) (
    iF N a0 k (I64 (s5 + 1)))) (
   some (Sum.inl (())))

def eF (N : Nat) (a0 : aP) : Option (Int) :=
 aM (cond (decide (a0.gF < 0)) true (decide (a0.gF > 4))) fun x1 =>
 aM (cond x1 true (decide (a0.gA4 < 0))) fun x2 =>
 aM (decide (a0.gA4 > 65535)) fun x3 =>
 cond (cond x2 true x3) (
  some 5) (
  Option.bind (iF N a0 N 0) fun o => fW o (fun p4 =>
   some 0) (fun r => some r))

theorem zO {N a0 r} (h : eF N a0 = some r) : FnM Tryz.prog 45 [] [(aP.enc a0)] (j64 r) [] := by
 unfold eF at h
 refine At.f aAQ hT hmo Tryz.func45 rfl h ?_
 refine lx ?_; intro x1
 refine lx ?_; intro x2
 refine lx ?_; intro x3
 refine At.c 20 ?_ ?_
 ·apply rt; exact At.r 1
 ·refine At.LS 1 [] 0 (fun p4 => ([], [], [])) (fun op4 J k => ∃ s5, iF N a0 k s5 = some op4 ∧ J [1] 0 [(3, (j64 s5))] [] []) N (fun _ h => ⟨_, h, jr⟩) (fun op4 g4 k s hI => ?_) fun p4 => ?_
  ·obtain ⟨s5, h, hj⟩ := hI
   cases k with
   | zero => cases h
   | succ k =>
    refine At.jr hj ?_ h
    refine At.c 2 ?_ ?_
    ·refine At.J 0 0 [1, 3] 0 (fun p6 => ([(37, (eB p6))], [], [])) (fun p6 => ?_) fun p6 => ?_
     ·refine At.b 2 (fun _ e => cK hT (N := 3) (k := 1) j64 a0.gL e) fun e7 => ?_
      refine At.s 31 3 ?_ ?_
      ·refine At.g [31] 6 ?_
       apply rt; exact At.jn 0
      ·refine At.g [31] 2 ?_
       refine At.b 0 (fun _ e => cK hT (N := 3) (k := 1) j64 a0.gL e) fun e8 => ?_
       refine At.g [31] 3 ?_
       apply rt; exact At.jn 0
     ·refine At.c 0 ?_ ?_
      ·intro e; apply uY g4 e; exact At.r 1
      ·exact fun h => At.k 3 ⟨_, h, jr⟩
    ·apply rt; exact At.xs 0
  ·apply rt; exact At.r 1

def aBg : Nat → Bool := imL [1]

def jR (N : Nat) (a0 : aD) (s9 : Int) : Nat → Int → Option (Sum (Unit) (Int))
 | 0, _ => none
 | k + 1, s12 =>
  cond (decide (s12 < 3)) (
   Option.bind (Option.bind (idx a0.gG s9) fun e14 =>
   Option.bind (idx e14.toList s12) fun e15 =>
   cond (decide (e15 < 0)) (
    some true) (
    Option.bind (idx a0.gG s9) fun e16 =>
    Option.bind (idx e16.toList s12) fun e17 =>
    some (decide (e17 > 255)))) fun p13 =>
   cond p13 (
    some (Sum.inr 5)) (
    jR N a0 s9 k (I64 (s12 + 1)))) (
   some (Sum.inl (())))

def iB (N : Nat) (a0 : aD) : Nat → Int → Option (Sum (Unit) (Int))
 | 0, _ => none
 | k + 1, s9 =>
  aM ((a0.gG.length : Int)) fun x10 =>
  cond (decide (s9 < x10)) (
   Option.bind (jR N a0 s9 N 0) fun o => fW o (fun p11 =>
    iB N a0 k (I64 (s9 + 1))) (fun r => some (Sum.inr r))) (
   some (Sum.inl (())))

def iN (N : Nat) (a0 : aD) : Option (Int) :=
 aM (cond (a0.gE != 1) (a0.gE != 2) false) fun x1 =>
 aM (cond x1 (a0.gE != 4) false) fun x2 =>
 aM (cond x2 (a0.gE != 8) false) fun x3 =>
 aM (cond x3 (a0.gE != 16) false) fun x4 =>
 aM ((a0.gG.length : Int)) fun x5 =>
 aM (I64 (a0.gE * a0.gE)) fun x6 =>
 aM (cond x4 true (x5 != x6)) fun x7 =>
 cond x7 (
  some 5) (
  Option.bind (iB N a0 N 0) fun o => fW o (fun p8 =>
   some 0) (fun r => some r))

theorem aBM {N a0 r} (h : iN N a0 = some r) : FnM Tryz.prog 46 [] [(aD.enc a0)] (j64 r) [] := by
 unfold iN at h
 refine At.f aBg hT hmo Tryz.func46 rfl h ?_
 refine lx ?_; intro x1
 refine lx ?_; intro x2
 refine lx ?_; intro x3
 refine lx ?_; intro x4
 refine lx ?_; intro x5
 refine lx ?_; intro x6
 refine lx ?_; intro x7
 refine At.c 36 ?_ ?_
 ·apply rt; exact At.r 1
 ·refine At.LS 1 [] 0 (fun p8 => ([], [], [])) (fun op8 J k => ∃ s9, iB N a0 k s9 = some op8 ∧ J [1] 0 [(3, (j64 s9))] [] []) N (fun _ h => ⟨_, h, jr⟩) (fun op8 g8 k s hI => ?_) fun p8 => ?_
  ·obtain ⟨s9, h, hj⟩ := hI
   cases k with
   | zero => cases h
   | succ k =>
    refine At.jr hj ?_ h
    refine lx ?_; intro x10
    refine At.c 5 ?_ ?_
    ·refine At.LS 1 [1, 3] 0 (fun p11 => ([], [], [])) (fun op11 J k => ∃ s12, jR N a0 s9 k s12 = some op11 ∧ J [1, 3] 0 [(4, (j64 s12))] [] []) N (fun _ h => ⟨_, h, jr⟩) (fun op11 g11 k s hI => ?_) fun p11 => ?_
     ·obtain ⟨s12, h, hj⟩ := hI
      cases k with
      | zero => cases h
      | succ k =>
       refine At.jr hj ?_ h
       refine At.c 2 ?_ ?_
       ·refine At.J 0 0 [1, 3, 4] 0 (fun p13 => ([(67, (eB p13))], [], [])) (fun p13 => ?_) fun p13 => ?_
        ·refine At.b 4 (fun _ e => cC hT (eA 3 1 j64) e) fun e14 => ?_
         refine At.b 0 (fun _ e => cK hT (N := 3) (k := 1) j64 e14 e) fun e15 => ?_
         refine At.s 58 3 ?_ ?_
         ·refine At.g [58] 9 ?_
          apply rt; exact At.jn 0
         ·refine At.g [58] 4 ?_
          refine At.b 0 (fun _ e => cC hT (eA 3 1 j64) e) fun e16 => ?_
          refine At.b 0 (fun _ e => cK hT (N := 3) (k := 1) j64 e16 e) fun e17 => ?_
          refine At.g [58] 3 ?_
          apply rt; exact At.jn 0
        ·refine At.c 0 ?_ ?_
         ·intro e; apply aLM g11 g8 e; exact At.r 1
         ·exact fun h => At.k 3 ⟨_, h, jr⟩
       ·apply rt; exact At.xs 0
     ·exact fun h => At.k 3 ⟨_, h, jr⟩
    ·apply rt; exact At.xs 0
  ·apply rt; exact At.r 1


def aBe : Nat → Bool := imL [1]

def jQ (N : Nat) (a0 : aN) : Nat → Int → Option (Sum (Unit) (Int))
 | 0, _ => none
 | k + 1, s3 =>
  cond (decide (s3 < 3)) (
   Option.bind (Option.bind (idx a0.gL.toList s3) fun e5 =>
   cond (decide (e5 < 0)) (
    some true) (
    Option.bind (idx a0.gL.toList s3) fun e6 =>
    some (decide (e6 > 1048576)))) fun p4 =>
   cond p4 (
    some (Sum.inr 5)) (
    jQ N a0 k (I64 (s3 + 1)))) (
   some (Sum.inl (())))

def iO (N : Nat) (a0 : aN) : Option (Int) :=
 aM (cond (decide (a0.gF < 0)) true (decide (a0.gF > 2))) fun x1 =>
 cond x1 (
  some 5) (
  Option.bind (jQ N a0 N 0) fun o => fW o (fun p2 =>
   Option.bind (Option.bind (fZ N a0.gAt 4096) fun r8 =>
   cond r8 (
    some true) (
    Option.bind (fZ N a0.gU 4096) fun r9 =>
    cond r9 (
     some true) (
     Option.bind (fZ N a0.gV 4096) fun r10 =>
     some r10))) fun p7 =>
   cond p7 (
    some 8) (
    Option.bind (cond (a0.gF == 2) (
     aM (!(aA.eq a0.gAt (aA.mk 0 0 0))) fun x12 =>
     cond x12 (
      some true) (
      cond (a0.gF != 1) (
       aM (!(aA.eq a0.gU (aA.mk 0 0 0))) fun x13 =>
       cond x13 (
        some true) (
        some (!(aA.eq a0.gV (aA.mk 0 0 0))))) (
       some false))) (
     cond (a0.gF != 1) (
      aM (!(aA.eq a0.gU (aA.mk 0 0 0))) fun x14 =>
      cond x14 (
       some true) (
       some (!(aA.eq a0.gV (aA.mk 0 0 0))))) (
      some false))) fun p11 =>
    cond p11 (some 5) (some 0))) (fun r => some r))

theorem aBL {N a0 r} (h : iO N a0 = some r) : FnM Tryz.prog 47 [] [(aN.enc a0)] (j64 r) [] := by
 unfold iO at h
 refine At.f aBe hT hmo Tryz.func47 rfl h ?_
 refine lx ?_; intro x1
 refine At.c 10 ?_ ?_
 ·apply rt; exact At.r 1
 ·refine At.LS 1 [1] 0 (fun p2 => ([], [], [])) (fun op2 J k => ∃ s3, jQ N a0 k s3 = some op2 ∧ J [1] 0 [(3, (j64 s3))] [] []) N (fun _ h => ⟨_, h, jr⟩) (fun op2 g2 k s hI => ?_) fun p2 => ?_
  ·obtain ⟨s3, h, hj⟩ := hI
   cases k with
   | zero => cases h
   | succ k =>
    refine At.jr hj ?_ h
    refine At.c 2 ?_ ?_
    ·refine At.J 0 0 [1, 3] 0 (fun p4 => ([(28, (eB p4))], [], [])) (fun p4 => ?_) fun p4 => ?_
     ·refine At.b 2 (fun _ e => cK hT (N := 3) (k := 1) j64 a0.gL e) fun e5 => ?_
      refine At.s 22 3 ?_ ?_
      ·refine At.g [22] 6 ?_
       apply rt; exact At.jn 0
      ·refine At.g [22] 2 ?_
       refine At.b 0 (fun _ e => cK hT (N := 3) (k := 1) j64 a0.gL e) fun e6 => ?_
       refine At.g [22] 3 ?_
       apply rt; exact At.jn 0
     ·refine At.c 0 ?_ ?_
      ·intro e; apply uY g2 e; exact At.r 1
      ·exact fun h => At.k 3 ⟨_, h, jr⟩
    ·apply rt; exact At.xs 0
  ·refine At.J 0 0 [1] 0 (fun p7 => ([(41, (eB p7))], [], [])) (fun p7 => ?_) fun p7 => ?_
   ·refine At.b 2 (fun _ e => aK [] (mR e)) fun r8 => ?_
    refine At.s 32 1 ?_ ?_
    ·refine At.g [32, 37] 9 ?_
     apply rt; exact At.jn 0
    ·refine At.g [32] 2 ?_
     refine At.b 0 (fun _ e => aK [] (mR e)) fun r9 => ?_
     refine At.g [32] 2 ?_
     refine At.s 37 0 ?_ ?_
     ·refine At.g [37] 4 ?_
      apply rt; exact At.jn 0
     ·refine At.g [37] 2 ?_
      refine At.b 0 (fun _ e => aK [] (mR e)) fun r10 => ?_
      refine At.g [37] 1 ?_
      apply rt; exact At.jn 0
   ·refine At.c 0 ?_ ?_
    ·apply rt; exact At.r 1
    ·refine At.J 3 0 [] 1 (fun p11 => ([(68, (eB p11))], [], [])) (fun p11 => ?_) fun p11 => ?_
     ·refine At.s 46 4 ?_ ?_
      ·refine At.g [46] 3 ?_
       refine At.o 0 (pX rX (a0.gAt : aA) (aA.mk 0 0 0 : aA) (by kernel_rfl) (by kernel_rfl) (fun _ => rfl) (fun _ => rfl) (by kernel_rfl) (by kernel_rfl)) ?_
       refine lx ?_; intro x12
       refine At.g [46] 2 ?_
       refine At.s 52 0 ?_ ?_
       ·refine At.g [52, 56, 61] 16 ?_
        apply rt; exact At.jn 0
       ·refine At.g [52] 4 ?_
        refine At.s 56 0 ?_ ?_
        ·refine At.g [56] 3 ?_
         refine At.o 0 (pX rX (a0.gU : aA) (aA.mk 0 0 0 : aA) (by kernel_rfl) (by kernel_rfl) (fun _ => rfl) (fun _ => rfl) (by kernel_rfl) (by kernel_rfl)) ?_
         refine lx ?_; intro x13
         refine At.g [56] 1 ?_
         refine At.s 61 0 ?_ ?_
         ·refine At.g [61, 56, 52] 7 ?_
          apply rt; exact At.jn 0
         ·refine At.g [61] 3 ?_
          refine At.o 0 (pX rX (a0.gV : aA) (aA.mk 0 0 0 : aA) (by kernel_rfl) (by kernel_rfl) (fun _ => rfl) (fun _ => rfl) (by kernel_rfl) (by kernel_rfl)) ?_
          refine At.g [56, 61, 52] 3 ?_
          apply rt; exact At.jn 0
        ·refine At.g [56, 61, 52] 12 ?_
         apply rt; exact At.jn 0
      ·refine At.g [46, 52] 10 ?_
       refine At.s 56 0 ?_ ?_
       ·refine At.g [56] 3 ?_
        refine At.o 0 (pX rX (a0.gU : aA) (aA.mk 0 0 0 : aA) (by kernel_rfl) (by kernel_rfl) (fun _ => rfl) (fun _ => rfl) (by kernel_rfl) (by kernel_rfl)) ?_
        refine lx ?_; intro x14
        refine At.g [56] 1 ?_
        refine At.s 61 0 ?_ ?_
        ·refine At.g [61, 56, 52] 7 ?_
         apply rt; exact At.jn 0
        ·refine At.g [61] 3 ?_
         refine At.o 0 (pX rX (a0.gV : aA) (aA.mk 0 0 0 : aA) (by kernel_rfl) (by kernel_rfl) (fun _ => rfl) (fun _ => rfl) (by kernel_rfl) (by kernel_rfl)) ?_
         refine At.g [56, 61, 52] 3 ?_
         apply rt; exact At.jn 0
       ·refine At.g [56, 61, 52] 12 ?_
        apply rt; exact At.jn 0
     ·refine At.c 0 ?_ ?_
      ·apply rt; exact At.r 1
      ·apply rt; exact At.r 1

def aBd : Nat → Bool := imL [1]

def eC (N : Nat) (a0 : aG) : Nat → Int → Option (Sum (Unit) (Int))
 | 0, _ => none
 | k + 1, s4 =>
  aM ((a0.gM.length : Int)) fun x5 =>
  cond (decide (s4 < x5)) (
   Option.bind (idx a0.gM s4) fun e6 =>
   Option.bind (eE N a0 e6) fun r7 =>
   cond (r7 != 0) (
    some (Sum.inr r7)) (
    eC N a0 k (I64 (s4 + 1)))) (
   some (Sum.inl (())))

def eD (N : Nat) (a0 : aG) : Nat → Int → Option (Sum (Unit) (Int))
 | 0, _ => none
 | k + 1, s9 =>
  aM ((a0.gQ.length : Int)) fun x10 =>
  cond (decide (s9 < x10)) (
   Option.bind (idx a0.gQ s9) fun e11 =>
   Option.bind (eF N e11) fun r12 =>
   cond (r12 != 0) (
    some (Sum.inr r12)) (
    eD N a0 k (I64 (s9 + 1)))) (
   some (Sum.inl (())))

def eG (N : Nat) (a0 : aG) : Nat → Int → Option (Sum (Unit) (Int))
 | 0, _ => none
 | k + 1, s14 =>
  aM ((a0.gK.length : Int)) fun x15 =>
  cond (decide (s14 < x15)) (
   Option.bind (idx a0.gK s14) fun e16 =>
   Option.bind (iN N e16) fun r17 =>
   cond (r17 != 0) (
    some (Sum.inr r17)) (
    eG N a0 k (I64 (s14 + 1)))) (
   some (Sum.inl (())))

def fJ (N : Nat) (a0 : aG) : Nat → Int → Option (Sum (Unit) (Int))
 | 0, _ => none
 | k + 1, s19 =>
  aM ((a0.gR.length : Int)) fun x20 =>
  cond (decide (s19 < x20)) (
   Option.bind (idx a0.gR s19) fun e21 =>
   Option.bind (iO N e21) fun r22 =>
   cond (r22 != 0) (
    some (Sum.inr r22)) (
    fJ N a0 k (I64 (s19 + 1)))) (
   some (Sum.inl (())))

def dX (N : Nat) (a0 : aG) : Option (Int) :=
 aM ((a0.gA2.length : Int)) fun x1 =>
 aM (x1 != ((a0.gA1.length : Int))) fun x2 =>
 cond x2 (
  some 5) (
  Option.bind (eC N a0 N 0) fun o => fW o (fun p3 =>
   Option.bind (eD N a0 N 0) fun o => fW o (fun p8 =>
    Option.bind (eG N a0 N 0) fun o => fW o (fun p13 =>
     Option.bind (fJ N a0 N 0) fun o => fW o (fun p18 =>
      some 0) (fun r => some r)) (fun r => some r)) (fun r => some r)) (fun r => some r))

theorem aT {N a0 r} (h : dX N a0 = some r) : FnM Tryz.prog 15 [] [(aG.enc a0)] (j64 r) [] := by
 unfold dX at h
 refine At.f aBd hT hmo Tryz.func15 rfl h ?_
 refine lx ?_; intro x1
 refine lx ?_; intro x2
 refine At.c 9 ?_ ?_
 ·apply rt; exact At.r 1
 ·refine At.LS 1 [1] 0 (fun p3 => ([], [], [])) (fun op3 J k => ∃ s4, eC N a0 k s4 = some op3 ∧ J [1] 0 [(3, (j64 s4))] [] []) N (fun _ h => ⟨_, h, jr⟩) (fun op3 g3 k s hI => ?_) fun p3 => ?_
  ·obtain ⟨s4, h, hj⟩ := hI
   cases k with
   | zero => cases h
   | succ k =>
    refine At.jr hj ?_ h
    refine lx ?_; intro x5
    refine At.c 5 ?_ ?_
    ·refine bi fun e6 he6 => ?_
     refine bi fun r7 hr7 => ?_
     refine At.d 0 (dE1 4 (fun _ => cC hT aE.enc he6) (dE2 6 (j64 r7) (fun _ => aF (zU hr7)) dE0)) dF0 ?_
     refine At.c 2 ?_ ?_
     ·intro e; apply uY g3 e; exact At.r 2
     ·exact fun h => At.k 3 ⟨_, h, jr⟩
    ·apply rt; exact At.xs 0
  ·refine At.LS 1 [1] 0 (fun p8 => ([], [], [])) (fun op8 J k => ∃ s9, eD N a0 k s9 = some op8 ∧ J [1] 0 [(5, (j64 s9))] [] []) N (fun _ h => ⟨_, h, jr⟩) (fun op8 g8 k s hI => ?_) fun p8 => ?_
   ·obtain ⟨s9, h, hj⟩ := hI
    cases k with
    | zero => cases h
    | succ k =>
     refine At.jr hj ?_ h
     refine lx ?_; intro x10
     refine At.c 5 ?_ ?_
     ·refine At.b 3 (fun _ e => cC hT aP.enc e) fun e11 => ?_
      refine At.b 1 (fun _ e => aK [] (zO e)) fun r12 => ?_
      refine At.c 3 ?_ ?_
      ·intro e; apply uY g8 e; exact At.r 2
      ·exact fun h => At.k 3 ⟨_, h, jr⟩
     ·apply rt; exact At.xs 0
   ·refine At.LS 1 [1] 0 (fun p13 => ([], [], [])) (fun op13 J k => ∃ s14, eG N a0 k s14 = some op13 ∧ J [1] 0 [(7, (j64 s14))] [] []) N (fun _ h => ⟨_, h, jr⟩) (fun op13 g13 k s hI => ?_) fun p13 => ?_
    ·obtain ⟨s14, h, hj⟩ := hI
     cases k with
     | zero => cases h
     | succ k =>
      refine At.jr hj ?_ h
      refine lx ?_; intro x15
      refine At.c 5 ?_ ?_
      ·refine At.b 3 (fun _ e => cC hT aD.enc e) fun e16 => ?_
       refine At.b 1 (fun _ e => aK [] (aBM e)) fun r17 => ?_
       refine At.c 3 ?_ ?_
       ·intro e; apply uY g13 e; exact At.r 2
       ·exact fun h => At.k 3 ⟨_, h, jr⟩
      ·apply rt; exact At.xs 0
    ·refine At.LS 1 [] 0 (fun p18 => ([], [], [])) (fun op18 J k => ∃ s19, fJ N a0 k s19 = some op18 ∧ J [1] 0 [(9, (j64 s19))] [] []) N (fun _ h => ⟨_, h, jr⟩) (fun op18 g18 k s hI => ?_) fun p18 => ?_
     ·obtain ⟨s19, h, hj⟩ := hI
      cases k with
      | zero => cases h
      | succ k =>
       refine At.jr hj ?_ h
       refine lx ?_; intro x20
       refine At.c 5 ?_ ?_
       ·refine At.b 3 (fun _ e => cC hT aN.enc e) fun e21 => ?_
        refine At.b 1 (fun _ e => aK [] (aBL e)) fun r22 => ?_
        refine At.c 3 ?_ ?_
        ·intro e; apply uY g18 e; exact At.r 2
        ·exact fun h => At.k 3 ⟨_, h, jr⟩
       ·apply rt; exact At.xs 0
     ·apply rt; exact At.r 1

def aCz : Nat → Bool := imL [1]

def eK (N : Nat) (a0 : aA) : Nat → Bool → Int → Option (Sum (Bool) (Bool))
 | 0, _, _ => none
 | k + 1, s2, s3 =>
  cond (decide (s3 < 3)) (
   Option.bind (Option.bind (idx ([a0.gX, a0.gY, a0.gZ]) s3) fun e5 =>
   cond (decide (e5 > 16384)) (
    some true) (
    Option.bind (idx ([a0.gX, a0.gY, a0.gZ]) s3) fun e6 =>
    some (decide (e6 < (-16384))))) fun p4 =>
   cond p4 (
    some (Sum.inr false)) (
    cond s2 (
     eK N a0 k true (I64 (s3 + 1))) (
     Option.bind (idx ([a0.gX, a0.gY, a0.gZ]) s3) fun e7 =>
     eK N a0 k (e7 != 0) (I64 (s3 + 1))))) (
   some (Sum.inl s2))

def jU (N : Nat) (a0 : aA) : Option (Bool) :=
 Option.bind (eK N a0 N false 0) fun o => fW o (fun p1 =>
  some p1) (fun r => some r)

theorem rZ {N a0 r} (h : jU N a0 = some r) : FnM Tryz.prog 99 [] [(aA.enc a0)] (eB r) [] := by
 unfold jU at h
 refine At.f aCz hT hmo Tryz.func99 rfl h ?_
 refine At.o 8 (cX hT (x := (.sl 1 3 [(j64 a0.gX), (j64 a0.gY), (j64 a0.gZ)]))) ?_
 refine At.LS 3 [] 0 (fun p1 => ([(4, (eB p1))], [], [])) (fun op1 J k => ∃ s2 s3, eK N a0 k s2 s3 = some op1 ∧ J [3] 0 [(4, (eB s2)), (5, (j64 s3))] [] []) N (fun _ h => ⟨_, _, h, jr⟩) (fun op1 g1 k s hI => ?_) fun p1 => ?_
 ·obtain ⟨s2, s3, h, hj⟩ := hI
  cases k with
  | zero => cases h
  | succ k =>
   refine At.jr hj ?_ h
   refine At.c 2 ?_ ?_
   ·refine At.J 0 0 [3, 4, 5] 0 (fun p4 => ([(28, (eB p4))], [], [])) (fun p4 => ?_) fun p4 => ?_
    ·refine At.b 2 (fun _ e => cC hT j64 e) fun e5 => ?_
     refine At.s 22 3 ?_ ?_
     ·refine At.g [22] 6 ?_
      apply rt; exact At.jn 0
     ·refine At.g [22] 2 ?_
      refine At.b 0 (fun _ e => cC hT j64 e) fun e6 => ?_
      refine At.g [22] 3 ?_
      apply rt; exact At.jn 0
    ·refine At.c 0 ?_ ?_
     ·intro e; apply uY g1 e; exact At.r 1
     ·refine At.s 30 2 ?_ ?_
      ·refine At.g [30] 10 ?_
       exact fun h => At.k 0 ⟨_, _, h, jr⟩
      ·refine At.g [30] 2 ?_
       refine At.b 0 (fun _ e => cC hT j64 e) fun e7 => ?_
       refine At.g [30] 7 ?_
       exact fun h => At.k 0 ⟨_, _, h, jr⟩
   ·apply rt; exact At.xs 0
 ·apply rt; exact At.r 2

def aBt : Nat → Bool := imL [3]

def lO (N : Nat) (a0 : bR) (a1 : Int) (a2 : Int) : Option (Int) :=
 Option.bind (fZ N a0.gJ 32768) fun r1 =>
 cond r1 (
  some 8) (
  Option.bind (Option.bind (jU N a0.gA6) fun r3 =>
  cond (!r3) (
   some true) (
   Option.bind (jU N a0.gUp) fun r4 =>
   cond (!r4) (
    some true) (
    Option.bind (jU N a0.gC0) fun r5 =>
    some (!r5)))) fun p2 =>
  cond p2 (
   some 2) (
   aM (decide (a0.gB0 > 1024)) fun x6 =>
   aM (cond (decide (a0.gB0 < 0)) true x6) fun x7 =>
   aM (cond x7 true (decide (a0.gB3 < 1))) fun x8 =>
   aM (decide (a0.gB3 > 32768)) fun x9 =>
   aM (cond (cond x8 true x9) true (decide (a1 < 1))) fun x10 =>
   aM (cond x10 true (decide (a1 > 64))) fun x11 =>
   aM (cond x11 true (decide (a2 < 1))) fun x12 =>
   aM (cond x12 true (decide (a2 > 64))) fun x13 =>
   cond x13 (some 2) (some 0)))

theorem aBQ {N a0 a1 a2 r} (h : lO N a0 a1 a2 = some r) : FnM Tryz.prog 49 [] [(bR.enc a0), (j64 a1), (j64 a2)] (j64 r) [] := by
 unfold lO at h
 refine At.f aBt hT hmo Tryz.func49 rfl h ?_
 refine At.b 4 (fun _ e => aK [] (mR e)) fun r1 => ?_
 refine At.c 0 ?_ ?_
 ·apply rt; exact At.r 1
 ·refine At.J 0 0 [1, 2, 3] 0 (fun p2 => ([(25, (eB p2))], [], [])) (fun p2 => ?_) fun p2 => ?_
  ·refine At.b 2 (fun _ e => aK [] (rZ e)) fun r3 => ?_
   refine At.s 14 2 ?_ ?_
   ·refine At.g [14, 20] 11 ?_
    apply rt; exact At.jn 0
   ·refine At.g [14] 2 ?_
    refine At.b 0 (fun _ e => aK [] (rZ e)) fun r4 => ?_
    refine At.g [14] 3 ?_
    refine At.s 20 0 ?_ ?_
    ·refine At.g [20] 5 ?_
     apply rt; exact At.jn 0
    ·refine At.g [20] 2 ?_
     refine At.b 0 (fun _ e => aK [] (rZ e)) fun r5 => ?_
     refine At.g [20] 2 ?_
     apply rt; exact At.jn 0
  ·refine At.c 0 ?_ ?_
   ·apply rt; exact At.r 1
   ·refine lx ?_; intro x6
    refine lx ?_; intro x7
    refine lx ?_; intro x8
    refine lx ?_; intro x9
    refine lx ?_; intro x10
    refine lx ?_; intro x11
    refine lx ?_; intro x12
    refine lx ?_; intro x13
    refine At.c 34 ?_ ?_
    ·apply rt; exact At.r 1
    ·apply rt; exact At.r 1

def aC2 : Nat → Bool := imL [1]

def eQ (N : Nat) (a0 : aI) : Option (Int) :=
 Option.bind (lO N a0.gC7 a0.gW a0.gH) fun r1 =>
 cond (r1 != 0) (
  some r1) (
  aM (decide (a0.gA5 < 1)) fun x2 =>
  aM (decide (a0.gA5 > 16)) fun x3 =>
  aM (cond (cond x2 true x3) true (decide (a0.gA0 < 0))) fun x4 =>
  aM (cond x4 true (decide (a0.gA0 > 8))) fun x5 =>
  aM (cond x5 true (decide (a0.gS < 0))) fun x6 =>
  aM (cond x6 true (decide (a0.gS > 2))) fun x7 =>
  cond x7 (some 2) (some 0))

theorem aZ {N a0 r} (h : eQ N a0 = some r) : FnM Tryz.prog 17 [] [(aI.enc a0)] (j64 r) [] := by
 unfold eQ at h
 refine At.f aC2 hT hmo Tryz.func17 rfl h ?_
 refine At.b 8 (fun _ e => aK [] (aBQ e)) fun r1 => ?_
 refine At.c 3 ?_ ?_
 ·apply rt; exact At.r 2
 ·refine lx ?_; intro x2
  refine lx ?_; intro x3
  refine lx ?_; intro x4
  refine lx ?_; intro x5
  refine lx ?_; intro x6
  refine lx ?_; intro x7
  refine At.c 28 ?_ ?_
  ·apply rt; exact At.r 1
  ·apply rt; exact At.r 1

def aCg : Nat → Bool := imL [2]

def mK (N : Nat) (a0 : aG) (a1 : Int) : Option (Int) :=
 Option.bind (cond (a1 == 0) (
  some ((16, 4))) (
  cond (a1 == 1) (
   some ((64, 4))) (
   cond (a1 == 2) (some ((256, 8))) (some ((0, 0)))))) fun p1 =>
 aM ((a0.gM.length : Int)) fun x2 =>
 aM ((a0.gR.length : Int)) fun x3 =>
 aM (cond (decide (x2 > p1.1)) true (decide (x3 > p1.2))) fun x4 =>
 cond x4 (some 15) (some 0)

theorem aBo {N a0 a1 r} (h : mK N a0 a1 = some r) : FnM Tryz.prog 50 [] [(aG.enc a0), (j64 a1)] (j64 r) [] := by
 unfold mK at h
 refine At.f aCg hT hmo Tryz.func50 rfl h ?_
 refine At.J 4 1 [2] 0 (fun p1 => ([(5, (j64 p1.1)), (6, (j64 p1.2))], [], [])) (fun p1 => ?_) fun p1 => ?_
 ·refine At.c 3 ?_ ?_
  ·apply rt; exact At.jn 2
  ·refine At.c 2 ?_ ?_
   ·apply rt; exact At.jn 2
   ·refine At.c 2 ?_ ?_
    ·apply rt; exact At.jn 2
    ·apply rt; exact At.jn 0
 ·refine lx ?_; intro x2
  refine lx ?_; intro x3
  refine lx ?_; intro x4
  refine At.c 12 ?_ ?_
  ·apply rt; exact At.r 1
  ·apply rt; exact At.r 1

def aCu : Nat → Bool := imL [2, 3]

def hJ (N : Nat) (a0 : aG) (a1 : aI) : Option (Int) :=
 Option.bind (dX N a0) fun r1 =>
 cond (r1 != 0) (
  some r1) (
  Option.bind (eQ N a1) fun r2 =>
  cond (r2 != 0) (
   some r2) (
   Option.bind (mK N a0 a1.gS) fun r3 =>
   some r3))

theorem bO {N a0 a1 r} (h : hJ N a0 a1 = some r) : FnM Tryz.prog 18 [] [(aG.enc a0), (aI.enc a1)] (j64 r) [] := by
 unfold hJ at h
 refine At.f aCu hT hmo Tryz.func18 rfl h ?_
 refine At.b 4 (fun _ e => aK [] (aT e)) fun r1 => ?_
 refine At.c 3 ?_ ?_
 ·apply rt; exact At.r 2
 ·refine At.b 1 (fun _ e => aK [] (aZ e)) fun r2 => ?_
  refine At.c 3 ?_ ?_
  ·apply rt; exact At.r 2
  ·refine At.b 3 (fun _ e => aK [] (aBo e)) fun r3 => ?_
   apply rt; exact At.r 1

def aGu : Nat → Bool := imL [1]

def lC (N : Nat) (a0 : aI) : Option (aH) :=
 Option.bind (fU N a0) fun r1 =>
 cond (r1 != 0) (
  some (aH.mk 0 0 0)) (
  Option.bind (iI N a0.gS) fun r2 =>
  aM (I64 ((I64 (a0.gW * a0.gH)) * a0.gA5)) fun x3 =>
  aM (I64 (x3 * (I64 (a0.gA0 + 1)))) fun x4 =>
  aM (I64 ((I64 (x4 * r2.1)) * (I64 (1 + r2.2)))) fun x5 =>
  some (aH.mk ((I64 ((I64 (x4 * r2.1)) * (I64 (1 + r2.2))))) (I64 (4 * x4)) x4))

theorem iY {N a0 r} (h : lC N a0 = some r) : FnM Tryz.prog 19 [] [(aI.enc a0)] (aH.enc r) [] := by
 unfold lC at h
 refine At.f aGu hT hmo Tryz.func19 rfl h ?_
 refine At.b 3 (fun _ e => aK [] (bW e)) fun r1 => ?_
 refine At.c 1 ?_ ?_
 ·apply rt; exact At.r 2
 ·refine At.b 2 (fun _ e => aK [] (pO e)) fun r2 => ?_
  refine lx ?_; intro x3
  refine lx ?_; intro x4
  refine lx ?_; intro x5
  apply rt; exact At.r 29

def aCd : Nat → Bool := imL [1]

def fN (N : Nat) (a0 : aI) : Option (aH) :=
 Option.bind (eQ N a0) fun r1 =>
 cond (r1 != 0) (
  some (aH.mk 0 0 0)) (
  aM (I64 ((I64 (a0.gW * a0.gH)) * a0.gA5)) fun x2 =>
  aM (I64 (x2 * (I64 (a0.gA0 + 1)))) fun x3 =>
  Option.bind (cond (a0.gS == 1) (some 320) (some 80)) fun p4 =>
  Option.bind (cond (a0.gS == 2) (some 2304) (some p4)) fun p5 =>
  some (aH.mk (I64 (x3 * p5)) (I64 (4 * x3)) x3))

theorem dU {N a0 r} (h : fN N a0 = some r) : FnM Tryz.prog 20 [] [(aI.enc a0)] (aH.enc r) [] := by
 unfold fN at h
 refine At.f aCd hT hmo Tryz.func20 rfl h ?_
 refine At.b 3 (fun _ e => aK [] (aZ e)) fun r1 => ?_
 refine At.c 1 ?_ ?_
 ·apply rt; exact At.r 2
 ·refine lx ?_; intro x2
  refine lx ?_; intro x3
  refine At.J 14 1 [1, 2, 3] 1 (fun p4 => ([(4, (j64 p4))], [], [])) (fun p4 => ?_) fun p4 => ?_
  ·refine At.c 3 ?_ ?_
   ·apply rt; exact At.jn 1
   ·apply rt; exact At.jn 0
  ·refine At.J 0 1 [2, 3] 1 (fun p5 => ([(4, (j64 p5))], [], [])) (fun p5 => ?_) fun p5 => ?_
   ·refine At.c 3 ?_ ?_
    ·apply rt; exact At.jn 1
    ·apply rt; exact At.jn 0
   ·apply rt; exact At.r 8

def qX (N : Nat) : Option (aI) :=
 some (aI.mk 1 1 1 0 0 0 (bR.mk (aA.mk 0 0 0) (aA.mk 16384 0 0) (aA.mk 0 16384 0) (aA.mk 0 0 16384) 0 1) false)

theorem aBH {N r} (h : qX N = some r) : FnM Tryz.prog 30 [] [] (aI.enc r) [] := by
 unfold qX at h
 refine At.f dG hT hmo Tryz.func30 rfl h ?_
 apply rt; exact At.r 7

def zT (N : Nat) (a0 : Int) (a1 : Int) (a2 : Int) : Option (Unit) :=
 some (())

theorem aFs {N a0 a1 a2 r} (h : zT N a0 a1 a2 = some r) : FnM Tryz.prog 31 [] [(k64 a0), (j64 a1), (j64 a2)] (.ref 0 [] 0) [.var (.st 72 [cv_6, (eB true), (k64 a0), (j64 a1), (j64 a2)])] := by
 unfold zT at h
 refine At.f dG hT hmo Tryz.func31 rfl h ?_
 apply rt; exact At.r 7

def wC (N : Nat) (a0 : Int) (a1 : Int) (a2 : Int) (a3 : Int) : Option (cB) :=
 aM (U32 (iX .i64 a2 65535)) fun x1 =>
 aM (U32 (Int.tdiv (U32 (iX .i64 a3 63)) 16)) fun x2 =>
 aM (U32 ((U32 (x1 * 4)) + x2)) fun x3 =>
 some (cB.mk (U32 a0) (U32 a1) ((U32 ((U32 ((U32 (iX .i64 a2 65535)) * 4)) + (U32 (Int.tdiv (U32 (iX .i64 a3 63)) 16))))))

theorem aD6 {N a0 a1 a2 a3 r} (h : wC N a0 a1 a2 a3 = some r) : FnM Tryz.prog 145 [] [(j64 a0), (j64 a1), (j64 a2), (j64 a3)] (cB.enc r) [] := by
 unfold wC at h
 refine At.f dG hT hmo Tryz.func145 rfl h ?_
 refine lx ?_; intro x1
 refine lx ?_; intro x2
 refine lx ?_; intro x3
 apply rt; exact At.r 16

def uJ (N : Nat) (a0 : Int) : Nat → (Vector Int 32) → Int → Option ((Vector Int 32))
 | 0, _, _ => none
 | k + 1, s4, s5 =>
  cond (decide (s5 < 8)) (
   Option.bind (aD5 .u64 a0 (I64 (8 * s5))) fun x6 =>
   Option.bind (fK (I64 (24 + s5)) 32) fun _ =>
   Option.bind (s4.toList[(I64 (24 + s5)).toNat]?) fun e8 =>
   uJ N a0 k (s4.setIfInBounds ((I64 (24 + s5)).toNat) (U8 x6)) (I64 (s5 + 1))) (
   some s4)

def aAC (N : Nat) (a0 : Int) : Option ((Vector Int 32)) :=
 Option.bind (aLt 32 0 32) fun _ =>
 Option.bind (cpV (Vector.replicate 32 0) (aJP str_1) 0 32) fun v2 =>
 Option.bind (uJ N a0 N v2 0) fun p3 =>
 some p3

theorem aFe {N a0 r} (h : aAC N a0 = some r) : FnM Tryz.prog 214 [] [(k64 a0)] (eA 32 1 k8 r) [] := by
 unfold aAC at h
 refine At.f dG hT hmo Tryz.func214 rfl h ?_
 refine At.b 2 (fun _ e => aJp hT (k := 1) 1 [] 0 e (by kernel_rfl) (by kernel_rfl) (by decide)) fun s1 => ?_
 refine At.b 0 (fun v2 e => aMb hT k8 (id := 1) (path := []) (off := 0) (H' := [.var (eA 32 1 k8 (Vector.replicate 32 0)), .var (eA 32 1 k8 v2)]) e (by kernel_rfl) (by kernel_rfl) (by kernel_rfl)) fun v2 => ?_
 refine At.L 1 [2, 3] 2 (fun p3 => ([], [(1, .var (eA 32 1 k8 p3))], [])) (fun p3 J k => ∃ s4 s5, uJ N a0 k s4 s5 = some p3 ∧ J [0, 2, 3] 2 [(7, (j64 s5))] [(1, .var (eA 32 1 k8 s4))] []) N (fun _ h => ⟨_, _, h, jr⟩) (fun p3 k s hI => ?_) fun p3 => ?_
 ·obtain ⟨s4, s5, h, hj⟩ := hI
  cases k with
  | zero => cases h
  | succ k =>
   refine At.jr hj ?_ h
   refine At.c 1 ?_ ?_
   ·refine At.b 7 (fun _ e => uX hT (k' := .i64) e (by kernel_rfl) (by kernel_rfl)) fun x6 => ?_
    refine At.b 1 (fun _ e => bL hT (k := 1) 1 [] 0 e) fun u7 => ?_
    refine At.b 0 (fun _ e => mF hT k8 0 s4 e (U8 x6) (by kernel_rfl) (by kernel_rfl) (H' := [.var (eA 32 1 k8 (Vector.replicate 32 0)), .var (eA 32 1 k8 (s4.setIfInBounds ((I64 (24 + s5)).toNat) (U8 x6)))])) fun e8 => ?_
    exact fun h => At.k 2 ⟨_, _, h, jr⟩
   ·apply rt; exact At.x 0
 ·apply rt; exact At.r 2

def qS (N : Nat) (a0 : (List Int)) : Option (Int) :=
 Option.bind (idx a0 0) fun e1 =>
 Option.bind (idx a0 1) fun e2 =>
 aM (bor .u32 (U32 e1) (shl .u32 (U32 e2) 8)) fun x3 =>
 Option.bind (idx a0 2) fun e4 =>
 aM (bor .u32 x3 (shl .u32 (U32 e4) 16)) fun x5 =>
 Option.bind (idx a0 3) fun e6 =>
 aM (bor .u32 x5 (shl .u32 (U32 e6) 24)) fun x7 =>
 some x7

theorem yU {N a0 r} (h : qS N a0 = some r) : FnM Tryz.prog 268 [] [(eL 1 k8 a0)] (k32 r) [] := by
 unfold qS at h
 refine At.f dG hT hmo Tryz.func268 rfl h ?_
 refine bi fun e1 he1 => ?_
 refine bi fun e2 he2 => ?_
 refine lx ?_; intro x3
 refine bi fun e4 he4 => ?_
 refine lx ?_; intro x5
 refine bi fun e6 he6 => ?_
 refine lx ?_; intro x7
 refine At.d 1 (dE1 1 (fun _ => cC hT k8 he1) (dE1 5 (fun _ => cC hT k8 he2) (dE1 11 (fun _ => cC hT k8 he4) (dE1 17 (fun _ => cC hT k8 he6) dE0)))) dF0 ?_
 apply rt; exact At.r 0

def aE6 : Nat → Bool := imL [3, 5]

def rW (N : Nat) (a0 : (Vector Int 32)) : Nat → (Vector Int 16) → Int → Option ((Vector Int 16))
 | 0, _, _ => none
 | k + 1, s2, s3 =>
  cond (decide (s3 < 8)) (
   Option.bind (uF a0.toList (I64 (4 * s3)) 32) fun s4 =>
   Option.bind (qS N s4) fun r5 =>
   Option.bind (fK (I64 (4 + s3)) 16) fun _ =>
   Option.bind (s2.toList[(I64 (4 + s3)).toNat]?) fun e7 =>
   rW N a0 k (s2.setIfInBounds ((I64 (4 + s3)).toNat) r5) (I64 (s3 + 1))) (
   some s2)

def sK (N : Nat) (a2 : (Vector Int 12)) : Nat → (Vector Int 16) → Int → Option ((Vector Int 16))
 | 0, _, _ => none
 | k + 1, s9, s10 =>
  cond (decide (s10 < 3)) (
   Option.bind (uF a2.toList (I64 (4 * s10)) 12) fun s11 =>
   Option.bind (qS N s11) fun r12 =>
   Option.bind (fK (I64 (13 + s10)) 16) fun _ =>
   Option.bind (s9.toList[(I64 (13 + s10)).toNat]?) fun e14 =>
   sK N a2 k (s9.setIfInBounds ((I64 (13 + s10)).toNat) r12) (I64 (s10 + 1))) (
   some s9)

def wM (N : Nat) (a0 : (Vector Int 32)) (a1 : Int) (a2 : (Vector Int 12)) : Option ((Vector Int 16)) :=
 Option.bind (rW N a0 N (#v[1634760805, 857760878, 2036477234, 1797285236, 0, 0, 0, 0, 0, 0, 0, 0, a1, 0, 0, 0]) 0) fun p1 =>
 Option.bind (sK N a2 N p1 0) fun p8 =>
 some p8

theorem aDy {N a0 a1 a2 r} (h : wM N a0 a1 a2 = some r) : FnM Tryz.prog 252 [] [(eA 32 1 k8 a0), (k32 a1), (eA 12 1 k8 a2)] (eA 16 1 k32 r) [] := by
 unfold wM at h
 refine At.f aE6 hT hmo Tryz.func252 rfl h ?_
 refine At.L 8 [5, 6, 7] 2 (fun p1 => ([], [(1, .var (eA 16 1 k32 p1))], [])) (fun p1 J k => ∃ s2 s3, rW N a0 k s2 s3 = some p1 ∧ J [3, 5, 6, 7] 2 [(12, (j64 s3))] [(1, .var (eA 16 1 k32 s2))] []) N (fun _ h => ⟨_, _, h, jr⟩) (fun p1 k s hI => ?_) fun p1 => ?_
 ·obtain ⟨s2, s3, h, hj⟩ := hI
  cases k with
  | zero => cases h
  | succ k =>
   refine At.jr hj ?_ h
   refine At.c 1 ?_ ?_
   ·refine At.b 6 (fun _ e => zF hT (N := 32) (k := 1) k8 a0 e) fun s4 => ?_
    refine At.b 0 (fun _ e => aK [] (yU e)) fun r5 => ?_
    refine At.b 0 (fun _ e => bL hT (k := 1) 1 [] 0 e) fun u6 => ?_
    refine At.b 0 (fun _ e => mF hT k32 0 s2 e r5 (by kernel_rfl) (by kernel_rfl) (H' := [.var (eA 16 1 k32 (Vector.replicate 16 0)), .var (eA 16 1 k32 (s2.setIfInBounds ((I64 (4 + s3)).toNat) r5))])) fun e7 => ?_
    exact fun h => At.k 2 ⟨_, _, h, jr⟩
   ·apply rt; exact At.x 0
 ·refine At.L 1 [6, 7] 2 (fun p8 => ([], [(1, .var (eA 16 1 k32 p8))], [])) (fun p8 J k => ∃ s9 s10, sK N a2 k s9 s10 = some p8 ∧ J [5, 6, 7] 2 [(23, (j64 s10))] [(1, .var (eA 16 1 k32 s9))] []) N (fun _ h => ⟨_, _, h, jr⟩) (fun p8 k s hI => ?_) fun p8 => ?_
  ·obtain ⟨s9, s10, h, hj⟩ := hI
   cases k with
   | zero => cases h
   | succ k =>
    refine At.jr hj ?_ h
    refine At.c 1 ?_ ?_
    ·refine At.b 6 (fun _ e => zF hT (N := 12) (k := 1) k8 a2 e) fun s11 => ?_
     refine At.b 0 (fun _ e => aK [] (yU e)) fun r12 => ?_
     refine At.b 0 (fun _ e => bL hT (k := 1) 1 [] 0 e) fun u13 => ?_
     refine At.b 0 (fun _ e => mF hT k32 0 s9 e r12 (by kernel_rfl) (by kernel_rfl) (H' := [.var (eA 16 1 k32 (Vector.replicate 16 0)), .var (eA 16 1 k32 (s9.setIfInBounds ((I64 (13 + s10)).toNat) r12))])) fun e14 => ?_
     exact fun h => At.k 2 ⟨_, _, h, jr⟩
    ·apply rt; exact At.x 0
  ·apply rt; exact At.r 2

def fB (N : Nat) (a0 : Int) (a1 : Int) : Option (Int) :=
 Option.bind (aHR .u32 a0 (iX .u64 (U64 a1) 31)) fun x1 =>
 aM (U64 (32 - (iX .u64 (U64 a1) 31))) fun x2 =>
 Option.bind (aD5 .u32 a0 x2) fun x3 =>
 some (bor .u32 x1 x3)

theorem jO {N a0 a1 r} (h : fB N a0 a1 = some r) : FnM Tryz.prog 269 [] [(k32 a0), (j64 a1)] (k32 r) [] := by
 unfold fB at h
 refine At.f dG hT hmo Tryz.func269 rfl h ?_
 refine At.b 7 (fun _ e => aBA hT (k' := .u64) e (by kernel_rfl) (by kernel_rfl)) fun x1 => ?_
 refine lx ?_; intro x2
 refine At.b 3 (fun _ e => uX hT (k' := .u64) e (by kernel_rfl) (by kernel_rfl)) fun x3 => ?_
 apply rt; exact At.r 2

def aC8 : Nat → Bool := imL [1]

def tC (N : Nat) (a0 : (Vector Int 4)) : Option ((Vector Int 4)) :=
 Option.bind (idx a0.toList 0) fun e1 =>
 Option.bind (idx a0.toList 1) fun e2 =>
 Option.bind (idx a0.toList 2) fun e3 =>
 Option.bind (idx a0.toList 3) fun e4 =>
 aM (bxor .u32 e4 (U32 (e1 + e2))) fun x5 =>
 Option.bind (fB N x5 16) fun r6 =>
 aM (bxor .u32 e2 (U32 (e3 + r6))) fun x7 =>
 Option.bind (fB N x7 12) fun r8 =>
 aM (U32 ((U32 (e1 + e2)) + r8)) fun x9 =>
 Option.bind (fB N (bxor .u32 r6 x9) 8) fun r10 =>
 aM (U32 ((U32 (e3 + r6)) + r10)) fun x11 =>
 Option.bind (fB N (bxor .u32 r8 x11) 7) fun r12 =>
 some (#v[x9, r12, x11, r10])

theorem aCC {N a0 r} (h : tC N a0 = some r) : FnM Tryz.prog 253 [] [(eA 4 1 k32 a0)] (eA 4 1 k32 r) [] := by
 unfold tC at h
 refine At.f aC8 hT hmo Tryz.func253 rfl h ?_
 refine bi fun e1 he1 => ?_
 refine bi fun e2 he2 => ?_
 refine bi fun e3 he3 => ?_
 refine bi fun e4 he4 => ?_
 refine At.d 2 (dE1 0 (fun _ => cK hT (N := 4) (k := 1) k32 a0 he1) (dE1 2 (fun _ => cK hT (N := 4) (k := 1) k32 a0 he2) (dE1 4 (fun _ => cK hT (N := 4) (k := 1) k32 a0 he3) (dE1 6 (fun _ => cK hT (N := 4) (k := 1) k32 a0 he4) dE0)))) dF0 ?_
 refine lx ?_; intro x5
 refine At.b 7 (fun _ e => aK [] (jO e)) fun r6 => ?_
 refine lx ?_; intro x7
 refine At.b 8 (fun _ e => aK [] (jO e)) fun r8 => ?_
 refine lx ?_; intro x9
 refine At.b 8 (fun _ e => aK [] (jO e)) fun r10 => ?_
 refine lx ?_; intro x11
 refine At.b 8 (fun _ e => aK [] (jO e)) fun r12 => ?_
 apply rt; exact At.r 7

def aE8 : Nat → Bool := imL [3, 5]

def sL (N : Nat)  : Nat → (Vector Int 16) → Int → Option ((Vector Int 16))
 | 0, _, _ => none
 | k + 1, s6, s7 =>
  cond (decide (s7 < 8)) (
   Option.bind (idx (#v[#v[0, 4, 8, 12], #v[1, 5, 9, 13], #v[2, 6, 10, 14], #v[3, 7, 11, 15], #v[0, 5, 10, 15], #v[1, 6, 11, 12], #v[2, 7, 8, 13], #v[3, 4, 9, 14]]).toList s7) fun e8 =>
   Option.bind (fK 0 4) fun _ =>
   Option.bind (e8.toList[(Int.toNat 0)]?) fun e10 =>
   Option.bind (fK e10 16) fun _ =>
   Option.bind (s6.toList[e10.toNat]?) fun e12 =>
   Option.bind (fK 1 4) fun _ =>
   Option.bind (e8.toList[(Int.toNat 1)]?) fun e14 =>
   Option.bind (fK e14 16) fun _ =>
   Option.bind (s6.toList[e14.toNat]?) fun e16 =>
   Option.bind (fK 2 4) fun _ =>
   Option.bind (e8.toList[(Int.toNat 2)]?) fun e18 =>
   Option.bind (fK e18 16) fun _ =>
   Option.bind (s6.toList[e18.toNat]?) fun e20 =>
   Option.bind (fK 3 4) fun _ =>
   Option.bind (e8.toList[(Int.toNat 3)]?) fun e22 =>
   Option.bind (fK e22 16) fun _ =>
   Option.bind (s6.toList[e22.toNat]?) fun e24 =>
   Option.bind (tC N (#v[e12, e16, e20, e24])) fun r25 =>
   Option.bind (fK 0 4) fun _ =>
   Option.bind (e8.toList[(Int.toNat 0)]?) fun e27 =>
   Option.bind (fK 1 4) fun _ =>
   Option.bind (e8.toList[(Int.toNat 1)]?) fun e29 =>
   Option.bind (fK 2 4) fun _ =>
   Option.bind (e8.toList[(Int.toNat 2)]?) fun e31 =>
   Option.bind (fK 3 4) fun _ =>
   Option.bind (e8.toList[(Int.toNat 3)]?) fun e33 =>
   Option.bind (fK 0 4) fun _ =>
   Option.bind (r25.toList[(Int.toNat 0)]?) fun e35 =>
   Option.bind (fK 1 4) fun _ =>
   Option.bind (r25.toList[(Int.toNat 1)]?) fun e37 =>
   Option.bind (fK 2 4) fun _ =>
   Option.bind (r25.toList[(Int.toNat 2)]?) fun e39 =>
   Option.bind (fK 3 4) fun _ =>
   Option.bind (r25.toList[(Int.toNat 3)]?) fun e41 =>
   Option.bind (fK e27 16) fun _ =>
   Option.bind (s6.toList[e27.toNat]?) fun e43 =>
   Option.bind (fK e29 16) fun _ =>
   Option.bind ((s6.setIfInBounds e27.toNat e35).toList[e29.toNat]?) fun e45 =>
   Option.bind (fK e31 16) fun _ =>
   Option.bind (((s6.setIfInBounds e27.toNat e35).setIfInBounds e29.toNat e37).toList[e31.toNat]?) fun e47 =>
   Option.bind (fK e33 16) fun _ =>
   Option.bind ((((s6.setIfInBounds e27.toNat e35).setIfInBounds e29.toNat e37).setIfInBounds e31.toNat e39).toList[e33.toNat]?) fun e49 =>
   sL N k ((((s6.setIfInBounds e27.toNat e35).setIfInBounds e29.toNat e37).setIfInBounds e31.toNat e39).setIfInBounds e33.toNat e41) (I64 (s7 + 1))) (
   some s6)

def rY (N : Nat)  : Nat → (Vector Int 16) → Int → Option ((Vector Int 16))
 | 0, _, _ => none
 | k + 1, s3, s4 =>
  cond (decide (s4 < 10)) (
   Option.bind (sL N N s3 0) fun p5 =>
   rY N k p5 (I64 (s4 + 1))) (
   some s3)

def sC (N : Nat) (p2 : (Vector Int 16)) (r1 : (Vector Int 16)) : Nat → (Vector Int 64) → Int → Option ((Vector Int 64))
 | 0, _, _ => none
 | k + 1, s51, s52 =>
  cond (decide (s52 < 16)) (
   Option.bind (idx p2.toList s52) fun e53 =>
   Option.bind (fK s52 16) fun _ =>
   Option.bind (r1.toList[s52.toNat]?) fun e55 =>
   aM (I64 ((I64 (4 * s52)) + 1)) fun x56 =>
   aM (I64 ((I64 (4 * s52)) + 2)) fun x57 =>
   aM (I64 ((I64 (4 * s52)) + 3)) fun x58 =>
   aM (shr .u32 (U32 (e53 + e55)) 8) fun x59 =>
   aM (shr .u32 (U32 (e53 + e55)) 16) fun x60 =>
   aM (shr .u32 (U32 (e53 + e55)) 24) fun x61 =>
   Option.bind (fK (I64 (4 * s52)) 64) fun _ =>
   Option.bind (s51.toList[(I64 (4 * s52)).toNat]?) fun e63 =>
   Option.bind (fK x56 64) fun _ =>
   Option.bind ((s51.setIfInBounds ((I64 (4 * s52)).toNat) (U8 (U32 (e53 + e55)))).toList[x56.toNat]?) fun e65 =>
   Option.bind (fK x57 64) fun _ =>
   Option.bind (((s51.setIfInBounds ((I64 (4 * s52)).toNat) (U8 (U32 (e53 + e55)))).setIfInBounds x56.toNat (U8 x59)).toList[x57.toNat]?) fun e67 =>
   Option.bind (fK x58 64) fun _ =>
   Option.bind ((((s51.setIfInBounds ((I64 (4 * s52)).toNat) (U8 (U32 (e53 + e55)))).setIfInBounds x56.toNat (U8 x59)).setIfInBounds x57.toNat (U8 x60)).toList[x58.toNat]?) fun e69 =>
   sC N p2 r1 k ((((s51.setIfInBounds ((I64 (4 * s52)).toNat) (U8 (U32 (e53 + e55)))).setIfInBounds x56.toNat (U8 x59)).setIfInBounds x57.toNat (U8 x60)).setIfInBounds x58.toNat (U8 x61)) (I64 (s52 + 1))) (
   some s51)

def vU (N : Nat) (a0 : (Vector Int 32)) (a1 : Int) (a2 : (Vector Int 12)) : Option ((Vector Int 64)) :=
 Option.bind (wM N a0 a1 a2) fun r1 =>
 Option.bind (rY N N r1 0) fun p2 =>
 Option.bind (sC N p2 r1 N (Vector.replicate 64 0) 0) fun p50 =>
 some p50

theorem aD3 {N a0 a1 a2 r} (h : vU N a0 a1 a2 = some r) : FnM Tryz.prog 213 [] [(eA 32 1 k8 a0), (k32 a1), (eA 12 1 k8 a2)] (eA 64 1 k8 r) [] := by
 unfold vU at h
 refine At.f aE8 hT hmo Tryz.func213 rfl h ?_
 refine At.b 6 (fun _ e => aK [] (aDy e)) fun r1 => ?_
 refine At.L 17 [6, 7, 8] 4 (fun p2 => ([], [(2, .var (eA 16 1 k32 p2))], [])) (fun p2 J k => ∃ s3 s4, rY N k s3 s4 = some p2 ∧ J [6, 7, 8, 9] 4 [(30, (j64 s4))] [(2, .var (eA 16 1 k32 s3))] []) N (fun _ h => ⟨_, _, h, jr⟩) (fun p2 k s hI => ?_) fun p2 => ?_
 ·obtain ⟨s3, s4, h, hj⟩ := hI
  cases k with
  | zero => cases h
  | succ k =>
   refine At.jr hj ?_ h
   refine At.c 1 ?_ ?_
   ·refine At.L 2 [6, 7, 8, 9, 30] 4 (fun p5 => ([], [(2, .var (eA 16 1 k32 p5))], [])) (fun p5 J k => ∃ s6 s7, sL N k s6 s7 = some p5 ∧ J [6, 7, 8, 9, 30, 32] 4 [(33, (j64 s7))] [(2, .var (eA 16 1 k32 s6))] []) N (fun _ h => ⟨_, _, h, jr⟩) (fun p5 k s hI => ?_) fun p5 => ?_
    ·obtain ⟨s6, s7, h, hj⟩ := hI
     cases k with
     | zero => cases h
     | succ k =>
      refine At.jr hj ?_ h
      refine At.c 1 ?_ ?_
      ·refine At.b 0 (fun _ e => xP hT (eA 4 1 j64) (#v[#v[0, 4, 8, 12], #v[1, 5, 9, 13], #v[2, 6, 10, 14], #v[3, 7, 11, 15], #v[0, 5, 10, 15], #v[1, 6, 11, 12], #v[2, 7, 8, 13], #v[3, 4, 9, 14]]) e (by kernel_rfl) (by kernel_rfl)) fun e8 => ?_
       refine bi fun u9 hu9 => ?_
       refine bi fun e10 he10 => ?_
       refine bi fun u11 hu11 => ?_
       refine bi fun e12 he12 => ?_
       refine bi fun u13 hu13 => ?_
       refine bi fun e14 he14 => ?_
       refine bi fun u15 hu15 => ?_
       refine bi fun e16 he16 => ?_
       refine bi fun u17 hu17 => ?_
       refine bi fun e18 he18 => ?_
       refine bi fun u19 hu19 => ?_
       refine bi fun e20 he20 => ?_
       refine bi fun u21 hu21 => ?_
       refine bi fun e22 he22 => ?_
       refine bi fun u23 hu23 => ?_
       refine bi fun e24 he24 => ?_
       refine bi fun r25 hr25 => ?_
       refine At.d 2 (dE1 0 (fun _ => bL hT (k := 1) 4 [] 0 hu9) (dEL hT 1 (j64 e10) j64 0 he10 (dE1 2 (fun _ => bL hT (k := 1) 2 [] 0 hu11) (dEL hT 3 (k32 e12) k32 0 he12 (dE1 4 (fun _ => bL hT (k := 1) 4 [] 0 hu13) (dEL hT 5 (j64 e14) j64 0 he14 (dE1 6 (fun _ => bL hT (k := 1) 2 [] 0 hu15) (dEL hT 7 (k32 e16) k32 0 he16 (dE1 8 (fun _ => bL hT (k := 1) 4 [] 0 hu17) (dEL hT 9 (j64 e18) j64 0 he18 (dE1 10 (fun _ => bL hT (k := 1) 2 [] 0 hu19) (dEL hT 11 (k32 e20) k32 0 he20 (dE1 12 (fun _ => bL hT (k := 1) 4 [] 0 hu21) (dEL hT 13 (j64 e22) j64 0 he22 (dE1 14 (fun _ => bL hT (k := 1) 2 [] 0 hu23) (dEL hT 15 (k32 e24) k32 0 he24 (dE2 17 (eA 4 1 k32 r25) (fun _ => aF (aCC hr25)) dE0))))))))))))))))) dF0 ?_
       refine bi fun u26 hu26 => ?_
       refine bi fun e27 he27 => ?_
       refine bi fun u28 hu28 => ?_
       refine bi fun e29 he29 => ?_
       refine bi fun u30 hu30 => ?_
       refine bi fun e31 he31 => ?_
       refine bi fun u32 hu32 => ?_
       refine bi fun e33 he33 => ?_
       refine bi fun u34 hu34 => ?_
       refine bi fun e35 he35 => ?_
       refine bi fun u36 hu36 => ?_
       refine bi fun e37 he37 => ?_
       refine bi fun u38 hu38 => ?_
       refine bi fun e39 he39 => ?_
       refine bi fun u40 hu40 => ?_
       refine bi fun e41 he41 => ?_
       refine bi fun u42 hu42 => ?_
       refine bi fun e43 he43 => ?_
       refine bi fun u44 hu44 => ?_
       refine bi fun e45 he45 => ?_
       refine bi fun u46 hu46 => ?_
       refine bi fun e47 he47 => ?_
       refine bi fun u48 hu48 => ?_
       refine bi fun e49 he49 => ?_
       refine At.d 0 (dE1 0 (fun _ => bL hT (k := 1) 4 [] 0 hu26) (dEL hT 1 (j64 e27) j64 0 he27 (dE1 2 (fun _ => bL hT (k := 1) 4 [] 0 hu28) (dEL hT 3 (j64 e29) j64 0 he29 (dE1 4 (fun _ => bL hT (k := 1) 4 [] 0 hu30) (dEL hT 5 (j64 e31) j64 0 he31 (dE1 6 (fun _ => bL hT (k := 1) 4 [] 0 hu32) (dEL hT 7 (j64 e33) j64 0 he33 (dE1 8 (fun _ => bL hT (k := 1) 5 [] 0 hu34) (dEL hT 9 (k32 e35) k32 0 he35 (dE1 10 (fun _ => bL hT (k := 1) 5 [] 0 hu36) (dEL hT 11 (k32 e37) k32 0 he37 (dE1 12 (fun _ => bL hT (k := 1) 5 [] 0 hu38) (dEL hT 13 (k32 e39) k32 0 he39 (dE1 14 (fun _ => bL hT (k := 1) 5 [] 0 hu40) (dEL hT 15 (k32 e41) k32 0 he41 (dE1 16 (fun _ => bL hT (k := 1) 2 [] 0 hu42) (dE1 18 (fun _ => bL hT (k := 1) 2 [] 0 hu44) (dE1 20 (fun _ => bL hT (k := 1) 2 [] 0 hu46) (dE1 22 (fun _ => bL hT (k := 1) 2 [] 0 hu48) dE0)))))))))))))))))))) (dF 17 (.v (.bool false)) [(2, .var (eA 16 1 k32 (s6.setIfInBounds e27.toNat e35)))] [] (dA (mF hT k32 0 s6 he43 e35 (by kernel_rfl) (by kernel_rfl) (H' := [.var (eA 64 1 k8 (Vector.replicate 64 0)), .var (eA 16 1 k32 r1), .var (eA 16 1 k32 (s6.setIfInBounds e27.toNat e35)), .var aHf, .var (eA 4 1 j64 e8), .var (eA 4 1 k32 r25)]))) (dF 19 (.v (.bool false)) [(2, .var (eA 16 1 k32 ((s6.setIfInBounds e27.toNat e35).setIfInBounds e29.toNat e37)))] [] (dA (mF hT k32 0 (s6.setIfInBounds e27.toNat e35) he45 e37 (by kernel_rfl) (by kernel_rfl) (H' := [.var (eA 64 1 k8 (Vector.replicate 64 0)), .var (eA 16 1 k32 r1), .var (eA 16 1 k32 ((s6.setIfInBounds e27.toNat e35).setIfInBounds e29.toNat e37)), .var aHf, .var (eA 4 1 j64 e8), .var (eA 4 1 k32 r25)]))) (dF 21 (.v (.bool false)) [(2, .var (eA 16 1 k32 (((s6.setIfInBounds e27.toNat e35).setIfInBounds e29.toNat e37).setIfInBounds e31.toNat e39)))] [] (dA (mF hT k32 0 ((s6.setIfInBounds e27.toNat e35).setIfInBounds e29.toNat e37) he47 e39 (by kernel_rfl) (by kernel_rfl) (H' := [.var (eA 64 1 k8 (Vector.replicate 64 0)), .var (eA 16 1 k32 r1), .var (eA 16 1 k32 (((s6.setIfInBounds e27.toNat e35).setIfInBounds e29.toNat e37).setIfInBounds e31.toNat e39)), .var aHf, .var (eA 4 1 j64 e8), .var (eA 4 1 k32 r25)]))) (dF 23 (.v (.bool false)) [(2, .var (eA 16 1 k32 ((((s6.setIfInBounds e27.toNat e35).setIfInBounds e29.toNat e37).setIfInBounds e31.toNat e39).setIfInBounds e33.toNat e41)))] [] (dA (mF hT k32 0 (((s6.setIfInBounds e27.toNat e35).setIfInBounds e29.toNat e37).setIfInBounds e31.toNat e39) he49 e41 (by kernel_rfl) (by kernel_rfl) (H' := [.var (eA 64 1 k8 (Vector.replicate 64 0)), .var (eA 16 1 k32 r1), .var (eA 16 1 k32 ((((s6.setIfInBounds e27.toNat e35).setIfInBounds e29.toNat e37).setIfInBounds e31.toNat e39).setIfInBounds e33.toNat e41)), .var aHf, .var (eA 4 1 j64 e8), .var (eA 4 1 k32 r25)]))) dF0)))) ?_
       exact fun h => At.k 2 ⟨_, _, h, jr⟩
      ·apply rt; exact At.x 0
    ·exact fun h => At.k 2 ⟨_, _, h, jr⟩
   ·apply rt; exact At.x 0
 ·refine At.L 3 [6, 13] 5 (fun p50 => ([], [(4, .var (eA 64 1 k8 p50))], [])) (fun p50 J k => ∃ s51 s52, sC N p2 r1 k s51 s52 = some p50 ∧ J [6, 7, 13, 76] 5 [(77, (j64 s52))] [(4, .var (eA 64 1 k8 s51))] []) N (fun _ h => ⟨_, _, h, jr⟩) (fun p50 k s hI => ?_) fun p50 => ?_
  ·obtain ⟨s51, s52, h, hj⟩ := hI
   cases k with
   | zero => cases h
   | succ k =>
    refine At.jr hj ?_ h
    refine At.c 1 ?_ ?_
    ·refine At.b 1 (fun _ e => xP hT k32 p2 e (by kernel_rfl) (by kernel_rfl)) fun e53 => ?_
     refine At.b 4 (fun _ e => bL hT (k := 1) 1 [] 0 e) fun u54 => ?_
     refine At.b 0 (fun _ e => nE hT k32 0 e) fun e55 => ?_
     refine lx ?_; intro x56
     refine lx ?_; intro x57
     refine lx ?_; intro x58
     refine lx ?_; intro x59
     refine lx ?_; intro x60
     refine lx ?_; intro x61
     refine At.b 24 (fun _ e => bL hT (k := 1) 4 [] 0 e) fun u62 => ?_
     refine At.b 0 (fun _ e => mF hT k8 0 s51 e (U8 (U32 (e53 + e55))) (by kernel_rfl) (by kernel_rfl) (H' := [.var (eA 64 1 k8 (Vector.replicate 64 0)), .var (eA 16 1 k32 r1), .var (eA 16 1 k32 p2), .var aHf, .var (eA 64 1 k8 (s51.setIfInBounds ((I64 (4 * s52)).toNat) (U8 (U32 (e53 + e55)))))])) fun e63 => ?_
     refine At.b 0 (fun _ e => bL hT (k := 1) 4 [] 0 e) fun u64 => ?_
     refine At.b 0 (fun _ e => mF hT k8 0 (s51.setIfInBounds ((I64 (4 * s52)).toNat) (U8 (U32 (e53 + e55)))) e (U8 x59) (by kernel_rfl) (by kernel_rfl) (H' := [.var (eA 64 1 k8 (Vector.replicate 64 0)), .var (eA 16 1 k32 r1), .var (eA 16 1 k32 p2), .var aHf, .var (eA 64 1 k8 ((s51.setIfInBounds ((I64 (4 * s52)).toNat) (U8 (U32 (e53 + e55)))).setIfInBounds x56.toNat (U8 x59)))])) fun e65 => ?_
     refine At.b 0 (fun _ e => bL hT (k := 1) 4 [] 0 e) fun u66 => ?_
     refine At.b 0 (fun _ e => mF hT k8 0 ((s51.setIfInBounds ((I64 (4 * s52)).toNat) (U8 (U32 (e53 + e55)))).setIfInBounds x56.toNat (U8 x59)) e (U8 x60) (by kernel_rfl) (by kernel_rfl) (H' := [.var (eA 64 1 k8 (Vector.replicate 64 0)), .var (eA 16 1 k32 r1), .var (eA 16 1 k32 p2), .var aHf, .var (eA 64 1 k8 (((s51.setIfInBounds ((I64 (4 * s52)).toNat) (U8 (U32 (e53 + e55)))).setIfInBounds x56.toNat (U8 x59)).setIfInBounds x57.toNat (U8 x60)))])) fun e67 => ?_
     refine At.b 0 (fun _ e => bL hT (k := 1) 4 [] 0 e) fun u68 => ?_
     refine At.b 0 (fun _ e => mF hT k8 0 (((s51.setIfInBounds ((I64 (4 * s52)).toNat) (U8 (U32 (e53 + e55)))).setIfInBounds x56.toNat (U8 x59)).setIfInBounds x57.toNat (U8 x60)) e (U8 x61) (by kernel_rfl) (by kernel_rfl) (H' := [.var (eA 64 1 k8 (Vector.replicate 64 0)), .var (eA 16 1 k32 r1), .var (eA 16 1 k32 p2), .var aHf, .var (eA 64 1 k8 ((((s51.setIfInBounds ((I64 (4 * s52)).toNat) (U8 (U32 (e53 + e55)))).setIfInBounds x56.toNat (U8 x59)).setIfInBounds x57.toNat (U8 x60)).setIfInBounds x58.toNat (U8 x61)))])) fun e69 => ?_
     exact fun h => At.k 2 ⟨_, _, h, jr⟩
    ·apply rt; exact At.x 0
  ·apply rt; exact At.r 2

end Go.UK
