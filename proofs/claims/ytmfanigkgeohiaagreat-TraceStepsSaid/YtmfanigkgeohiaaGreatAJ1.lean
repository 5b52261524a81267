/- A part of the proof: what the functions of the program compute. -/
import Derived.Test.YtmfanigkgeohiaaGreatST
namespace Go.UK
open Go Go.Proofs
set_option maxRecDepth 20000
set_option maxHeartbeats 40000000
set_option linter.all false

attribute [local irreducible] adv aIs aIN aAE brPt aKu aFE pF aAS dX oA fC aIX aHP lPt owp awl aw FnM aFP opS Stab TOK Big
def aDe : Nat → Bool := imL [1]

def lT (N : Nat) (a0 : aE) : Nat → (List aD) → Int → Option ((List aD))
 | 0, _, _ => none
 | k + 1, s2, s3 =>
  aR ((a0.gR.length : Int)) fun x4 =>
  aR (cond (decide (s3 < x4)) (decide (s3 < 4)) false) fun x5 =>
  cond x5 (
   Option.bind (idx a0.gR s3) fun e6 =>
   aR ((e6.gO.length : Int)) fun x7 =>
   Option.bind (wG e6.gO 0 (jC x7 260)) fun s8 =>
   Option.bind (yV 32 s2 (([aD.mk e6.gF s8] : List aD))) fun z9 =>
   lT N a0 k z9 (I64 (s3 + 1))) (
   some s2)

def mL (N : Nat) (a0 : aE) : Option (aE) :=
 Option.bind (lT N a0 N [] 0) fun p1 =>
 aR ((a0.gQ.length : Int)) fun x10 =>
 Option.bind (wG a0.gQ 0 (jC x10 20)) fun s11 =>
 aR ((a0.gA3.length : Int)) fun x12 =>
 Option.bind (wG a0.gA3 0 (jC x12 8)) fun s13 =>
 aR ((a0.gL.length : Int)) fun x14 =>
 Option.bind (wG a0.gL 0 (jC x14 5)) fun s15 =>
 aR (jC ((a0.gA7.length : Int)) 20) fun x16 =>
 Option.bind (wG a0.gA7 0 x16) fun s17 =>
 aR ((a0.gA8.length : Int)) fun x18 =>
 Option.bind (wG a0.gA8 0 (jC x18 20)) fun s19 =>
 some (aE.mk s11 s13 p1 s15 s17 s19 a0.gB4 a0.gB5 a0.gTo)

theorem yX {N a0 r} (h : mL N a0 = some r) : FnM Tryz.prog 10 [] [(aE.enc a0)] (aE.enc r) [] := by
 unfold mL at h
 refine At.f aDe hT hmo Tryz.func10 rfl h ?_
 refine At.ownn 4 3 2 ?_
 refine At.L 0 [1, 2] 2 (fun p1 => ([(3, (eO 1 2 aD.enc p1))], [(1, .tail (p1.length * 2))], [])) (fun p1 J k => ∃ s2 s3, lT N a0 k s2 s3 = some p1 ∧ J [1, 2] 2 [(3, (eO 1 2 aD.enc s2)), (4, (j64 s3))] [(1, .tail (s2.length * 2))] []) N (fun _ h => ⟨_, _, h, jr⟩) (fun p1 k s hI => ?_) fun p1 => ?_
 ·obtain ⟨s2, s3, h, hj⟩ := hI
  cases k with
  | zero => cases h
  | succ k =>
   refine At.jr hj ?_ h
   refine lx ?_; intro x4
   refine lx ?_; intro x5
   refine At.c 9 ?_ ?_
   ·refine At.b 3 (fun _ e => cA hT aD.enc e) fun e6 => ?_
    refine lx ?_; intro x7
    refine bi fun s8 hs8 => ?_
    refine bi fun z9 hz9 => ?_
    refine At.d 3 (dE1 9 (fun _ => zL hT (k := 3) (eA 3 1 j64) hs8) (dE1 11 (fun _ => cM hT (x := (.sl 2 1 [(.st 2 [(j64 e6.gF), (eL 3 (eA 3 1 j64) s8)])]))) dE0)) (dF 12 (eO 1 2 aD.enc z9) [(1, .tail (z9.length * 2))] [] (bO (sB hT aD.enc (id := 1) (k := 2) hz9)) dF0) ?_
    exact fun h => At.k 3 ⟨_, _, h, jr⟩
   ·apply rt; exact At.x 0
 ·refine lx ?_; intro x10
  refine bi fun s11 hs11 => ?_
  refine lx ?_; intro x12
  refine bi fun s13 hs13 => ?_
  refine lx ?_; intro x14
  refine bi fun s15 hs15 => ?_
  refine lx ?_; intro x16
  refine bi fun s17 hs17 => ?_
  refine lx ?_; intro x18
  refine bi fun s19 hs19 => ?_
  refine At.d 0 (dE1 6 (fun _ => zL hT (k := 19) aG.enc hs11) (dE1 13 (fun _ => zL hT (k := 5) aQ.enc hs13) (dE1 21 (fun _ => zL hT (k := 13) aP.enc hs15) (dE1 28 (fun _ => zL hT (k := 1) k64 hs17) (dE1 35 (fun _ => zL hT (k := 1) k32 hs19) dE0))))) dF0 ?_
  apply rt; exact At.r 0

def aHM : Nat → Bool := imL [2]

def pU (N : Nat) (a0 : aC) (a1 : Int) : Option (Bool) :=
 Option.bind (aR (decide ((iN (iN a0.gX a0.gY) a0.gZ) ≤ a1)) fun x2 =>
 cond x2 (
  aR (decide ((jC (jC a0.gX a0.gY) a0.gZ) ≥ (I64 (0 - a1)))) fun x3 =>
  some x3) (
  some false)) fun p1 =>
 some p1

theorem aAD {N a0 a1 r} (h : pU N a0 a1 = some r) : FnM Tryz.prog 176 [] [(aC.enc a0), (j64 a1)] (eB r) [] := by
 unfold pU at h
 refine At.f aHM hT hmo Tryz.func176 rfl h ?_
 refine At.J 2 0 [] 0 (fun p1 => ([(4, (eB p1))], [], [])) (fun p1 => ?_) fun p1 => ?_
 ·refine At.o 6 (yC (k := .i64) (i := a0.gX) (j := a0.gY) (l := a0.gZ) (by kernel_rfl) (by kernel_rfl)) ?_
  refine lx ?_; intro x2
  refine At.s 14 3 ?_ ?_
  ·refine At.g [14] 6 ?_
   refine At.o 0 (yF (k := .i64) (i := a0.gX) (j := a0.gY) (l := a0.gZ) (by kernel_rfl) (by kernel_rfl)) ?_
   refine lx ?_; intro x3
   refine At.g [14] 5 ?_
   apply rt; exact At.jn 0
  ·refine At.g [14] 12 ?_
   apply rt; exact At.jn 0
 ·apply rt; exact At.r 0

def aLo : Nat → Bool := imL [2, 3]

def sE (N : Nat) (a0 : aC) (a1 : aC) : Option (Bool) :=
 Option.bind (Option.bind (pU N a0 65536) fun r2 =>
 cond r2 (
  Option.bind (pU N a1 131072) fun r3 =>
  cond r3 (
   aR (!(aC.eq a1 (aC.mk 0 0 0))) fun x4 =>
   some x4) (
   some false)) (
  some false)) fun p1 =>
 some p1

theorem xY {N a0 a1 r} (h : sE N a0 a1 = some r) : FnM Tryz.prog 92 [] [(aC.enc a0), (aC.enc a1)] (eB r) [] := by
 unfold sE at h
 refine At.f aLo hT hmo Tryz.func92 rfl h ?_
 refine At.J 3 0 [] 0 (fun p1 => ([(4, (eB p1))], [], [])) (fun p1 => ?_) fun p1 => ?_
 ·refine At.b 1 (fun _ e => aL [] (aAD e)) fun r2 => ?_
  refine At.s 7 1 ?_ ?_
  ·refine At.g [7] 1 ?_
   refine At.b 0 (fun _ e => aL [] (aAD e)) fun r3 => ?_
   refine At.g [7] 2 ?_
   refine At.s 11 0 ?_ ?_
   ·refine At.g [11] 2 ?_
    refine At.o 0 (uQ aAd (a1 : aC) (aC.mk 0 0 0 : aC) (by kernel_rfl) (by kernel_rfl) (fun _ => rfl) (fun _ => rfl) (by kernel_rfl) (by kernel_rfl)) ?_
    refine lx ?_; intro x4
    refine At.g [11] 2 ?_
    apply rt; exact At.jn 0
   ·refine At.g [11] 5 ?_
    apply rt; exact At.jn 0
  ·refine At.g [7, 11] 9 ?_
   apply rt; exact At.jn 0
 ·apply rt; exact At.r 0

def aDm : Nat → Bool := imL [2, 3]

def jQ (N : Nat) (a1 : aG) : Nat → Int → Option (Sum (Unit) (Int))
 | 0, _ => none
 | k + 1, s9 =>
  cond (decide (s9 < 3)) (
   Option.bind (idx a1.gUv.toList s9) fun e10 =>
   Option.bind (Option.bind (eK 0 2) fun _ =>
   Option.bind (e10.toList[(Int.toNat 0)]?) fun e13 =>
   Option.bind (eK 1 2) fun _ =>
   Option.bind (e10.toList[(Int.toNat 1)]?) fun e15 =>
   aR (decide ((jC e13 e15) < 0)) fun x16 =>
   cond x16 (
    some true) (
    Option.bind (eK 0 2) fun _ =>
    Option.bind (e10.toList[(Int.toNat 0)]?) fun e18 =>
    Option.bind (eK 1 2) fun _ =>
    Option.bind (e10.toList[(Int.toNat 1)]?) fun e20 =>
    aR (decide ((iN e18 e20) > 65535)) fun x21 =>
    some x21)) fun p11 =>
   cond p11 (some (Sum.inr 5)) (jQ N a1 k (I64 (s9 + 1)))) (
   some (Sum.inl (())))

def jP (N : Nat) (a1 : aG) : Nat → Int → Option (Sum (Unit) (Int))
 | 0, _ => none
 | k + 1, s23 =>
  cond (decide (s23 < 3)) (
   Option.bind (idx a1.gP.toList s23) fun e24 =>
   Option.bind (sE N e24 (aC.mk 1 0 0)) fun r25 =>
   cond (!r25) (some (Sum.inr 8)) (jP N a1 k (I64 (s23 + 1)))) (
   some (Sum.inl (())))

def oY (N : Nat) (a0 : aE) (a1 : aG) : Option (Int) :=
 aR ((a0.gA3.length : Int)) fun x1 =>
 aR (cond (decide (a1.gC1 < 0)) true (decide (a1.gC1 ≥ x1))) fun x2 =>
 aR (decide (a1.gB2 < (-1))) fun x3 =>
 aR ((a0.gR.length : Int)) fun x4 =>
 aR (cond (cond x2 true x3) true (decide (a1.gB2 ≥ x4))) fun x5 =>
 aR (cond x5 true (decide (a1.gB3 < 0))) fun x6 =>
 aR (decide (a1.gB3 ≥ ((a0.gA7.length : Int)))) fun x7 =>
 cond (cond x6 true x7) (
  some 5) (
  Option.bind (jQ N a1 N 0) fun o => jU o (fun p8 =>
   Option.bind (jP N a1 N 0) fun o => jU o (fun p22 =>
    some 0) (fun r => some r)) (fun r => some r))

theorem aDB {N a0 a1 r} (h : oY N a0 a1 = some r) : FnM Tryz.prog 37 [] [(aE.enc a0), (aG.enc a1)] (j64 r) [] := by
 unfold oY at h
 refine At.f aDm hT hmo Tryz.func37 rfl h ?_
 refine lx ?_; intro x1
 refine lx ?_; intro x2
 refine lx ?_; intro x3
 refine lx ?_; intro x4
 refine lx ?_; intro x5
 refine lx ?_; intro x6
 refine lx ?_; intro x7
 refine At.c 40 ?_ ?_
 ·apply rt; exact At.r 1
 ·refine At.LS 3 [3] 0 (fun p8 => ([], [], [])) (fun op8 J k => ∃ s9, jQ N a1 k s9 = some op8 ∧ J [3, 47] 0 [(48, (j64 s9))] [] []) N (fun _ h => ⟨_, h, jr⟩) (fun op8 g8 k s hI => ?_) fun p8 => ?_
  ·obtain ⟨s9, h, hj⟩ := hI
   cases k with
   | zero => cases h
   | succ k =>
    refine At.jr hj ?_ h
    refine At.c 1 ?_ ?_
    ·refine At.b 0 (fun _ e => zD hT (eA 2 1 j64) a1.gUv e (by kernel_rfl) (by kernel_rfl)) fun e10 => ?_
     refine At.J 2 0 [3, 47, 48] 1 (fun p11 => ([(64, (eB p11))], [], [])) (fun p11 => ?_) fun p11 => ?_
     ·refine At.b 0 (fun _ e => bD hT (k := 1) 0 [] 0 e) fun u12 => ?_
      refine At.b 0 (fun _ e => oR hT j64 0 e) fun e13 => ?_
      refine At.b 0 (fun _ e => bD hT (k := 1) 0 [] 0 e) fun u14 => ?_
      refine At.b 0 (fun _ e => oR hT j64 0 e) fun e15 => ?_
      refine lx ?_; intro x16
      refine At.s 57 3 ?_ ?_
      ·refine At.g [57] 7 ?_
       apply rt; exact At.jn 0
      ·refine At.b 0 (fun _ e => bD hT (k := 1) 0 [] 0 e) fun u17 => ?_
       refine At.b 0 (fun _ e => oR hT j64 0 e) fun e18 => ?_
       refine At.b 0 (fun _ e => bD hT (k := 1) 0 [] 0 e) fun u19 => ?_
       refine At.b 0 (fun _ e => oR hT j64 0 e) fun e20 => ?_
       refine lx ?_; intro x21
       refine At.g [57] 3 ?_
       apply rt; exact At.jn 0
     ·refine At.c 0 ?_ ?_
      ·intro e; apply aBi g8 e; exact At.r 1
      ·exact fun h => At.k 2 ⟨_, h, jr⟩
    ·apply rt; exact At.xs 0
  ·refine At.LS 3 [] 0 (fun p22 => ([], [], [])) (fun op22 J k => ∃ s23, jP N a1 k s23 = some op22 ∧ J [67] 0 [(68, (j64 s23))] [] []) N (fun _ h => ⟨_, h, jr⟩) (fun op22 g22 k s hI => ?_) fun p22 => ?_
   ·obtain ⟨s23, h, hj⟩ := hI
    cases k with
    | zero => cases h
    | succ k =>
     refine At.jr hj ?_ h
     refine At.c 1 ?_ ?_
     ·refine At.b 0 (fun _ e => zD hT aC.enc a1.gP e (by kernel_rfl) (by kernel_rfl)) fun e24 => ?_
      refine At.b 4 (fun _ e => aL [] (xY e)) fun r25 => ?_
      refine At.c 1 ?_ ?_
      ·intro e; apply aBi g22 e; exact At.r 1
      ·exact fun h => At.k 2 ⟨_, h, jr⟩
     ·apply rt; exact At.xs 0
   ·apply rt; exact At.r 1

def aCS : Nat → Bool := imL [2]

def mZ (N : Nat) (a0 : aG) (a1 : aE) : Option (Int) :=
 Option.bind (oY N a1 a0) fun r1 =>
 some r1

theorem aB4 {N a0 a1 r} (h : mZ N a0 a1 = some r) : FnM Tryz.prog 36 [] [(aG.enc a0), (.im (aE.enc a1))] (j64 r) [] := by
 unfold mZ at h
 refine At.f aCS hT hmo Tryz.func36 rfl h ?_
 refine At.b 4 (fun _ e => aL [] (aDB e)) fun r1 => ?_
 apply rt; exact At.r 1

def fJ (N : Nat) (a0 : (List aG)) (a1 : aE) : Nat → Int → Option (Sum (Unit) (Int))
 | 0, _ => none
 | k + 1, s2 =>
  aR (decide (s2 < ((a0.length : Int)))) fun x3 =>
  cond x3 (
   Option.bind (idx a0 s2) fun e4 =>
   Option.bind (mZ N e4 a1) fun r5 =>
   cond (r5 != 0) (
    some (Sum.inr r5)) (
    fJ N a0 a1 k (I64 (s2 + 1)))) (
   some (Sum.inl (())))

def eN (N : Nat) (a0 : (List aG)) (a1 : aE) : Option (Int) :=
 Option.bind (fJ N a0 a1 N 0) fun o => jU o (fun p1 =>
  some 0) (fun r => some r)

theorem vN {N a0 a1 r} (h : eN N a0 a1 = some r) : FnM Tryz.prog 35 [] [(eL 19 aG.enc a0), (.fn (.func 36) [] [(.im (aE.enc a1))])] (j64 r) [] := by
 unfold eN at h
 refine At.f cU hT hmo Tryz.func35 rfl h ?_
 refine At.LS 4 [] 0 (fun p1 => ([], [], [])) (fun op1 J k => ∃ s2, fJ N a0 a1 k s2 = some op1 ∧ J [1, 8, 9] 0 [(10, (j64 s2))] [] []) N (fun _ h => ⟨_, h, jr⟩) (fun op1 g1 k s hI => ?_) fun p1 => ?_
 ·obtain ⟨s2, h, hj⟩ := hI
  cases k with
  | zero => cases h
  | succ k =>
   refine At.jr hj ?_ h
   refine lx ?_; intro x3
   refine At.c 1 ?_ ?_
   ·refine At.b 0 (fun _ e => cA hT aG.enc e) fun e4 => ?_
    refine At.b 5 (fun _ e => aL [] (aB4 e)) fun r5 => ?_
    refine At.c 3 ?_ ?_
    ·intro e; apply aBi g1 e; exact At.r 2
    ·exact fun h => At.k 2 ⟨_, h, jr⟩
   ·apply rt; exact At.xs 0
 ·apply rt; exact At.r 1

def kW (N : Nat) (a0 : Int) (a1 : Int) : Option (Bool) :=
 aR (cond (decide (a0 < 0)) true (decide (a0 > a1))) fun x1 =>
 some x1

theorem aA4 {N a0 a1 r} (h : kW N a0 a1 = some r) : FnM Tryz.prog 178 [] [(j64 a0), (.im (j64 a1))] (eB r) [] := by
 unfold kW at h
 refine At.f cU hT hmo Tryz.func178 rfl h ?_
 refine lx ?_; intro x1
 apply rt; exact At.r 9

def dO (N : Nat) (a0 : (List Int)) (a1 : Int) : Nat → Int → Option (Sum (Unit) (Int))
 | 0, _ => none
 | k + 1, s2 =>
  aR (decide (s2 < ((a0.length : Int)))) fun x3 =>
  cond x3 (
   Option.bind (idx a0 s2) fun e4 =>
   Option.bind (kW N e4 a1) fun r5 =>
   cond r5 (
    some (Sum.inr s2)) (
    dO N a0 a1 k (I64 (s2 + 1)))) (
   some (Sum.inl (())))

def eD (N : Nat) (a0 : (List Int)) (a1 : Int) : Option (Int) :=
 Option.bind (dO N a0 a1 N 0) fun o => jU o (fun p1 =>
  some (-1)) (fun r => some r)

theorem sK {N a0 a1 r} (h : eD N a0 a1 = some r) : FnM Tryz.prog 212 [] [(eL 1 j64 a0), (.fn (.func 178) [] [(.im (j64 a1))])] (j64 r) [] := by
 unfold eD at h
 refine At.f cU hT hmo Tryz.func212 rfl h ?_
 refine At.LS 4 [] 0 (fun p1 => ([], [], [])) (fun op1 J k => ∃ s2, dO N a0 a1 k s2 = some op1 ∧ J [0, 1, 7] 0 [(8, (j64 s2))] [] []) N (fun _ h => ⟨_, h, jr⟩) (fun op1 g1 k s hI => ?_) fun p1 => ?_
 ·obtain ⟨s2, h, hj⟩ := hI
  cases k with
  | zero => cases h
  | succ k =>
   refine At.jr hj ?_ h
   refine lx ?_; intro x3
   refine At.c 1 ?_ ?_
   ·refine At.b 5 (fun _ e => cA hT j64 e) fun e4 => ?_
    refine At.b 1 (fun _ e => aL [] (aA4 e)) fun r5 => ?_
    refine At.c 0 ?_ ?_
    ·intro e; apply aBi g1 e; exact At.r 2
    ·exact fun h => At.k 2 ⟨_, h, jr⟩
   ·apply rt; exact At.xs 0
 ·apply rt; exact At.r 1

def dP (N : Nat) (a0 : (List Int)) (a1 : Int) : Option (Bool) :=
 Option.bind (eD N a0 a1) fun r1 =>
 some (decide (r1 ≥ 0))

theorem qQ {N a0 a1 r} (h : dP N a0 a1 = some r) : FnM Tryz.prog 177 [] [(eL 1 j64 a0), (.fn (.func 178) [] [(.im (j64 a1))])] (eB r) [] := by
 unfold dP at h
 refine At.f cU hT hmo Tryz.func177 rfl h ?_
 refine At.b 3 (fun _ e => aL [] (sK e)) fun r1 => ?_
 apply rt; exact At.r 2

def aEf : Nat → Bool := imL [2]

def jS (N : Nat) (a0 : Int) (a1 : (List Int)) : Option (Bool) :=
 Option.bind (dP N a1 a0) fun r1 =>
 some r1

theorem sI {N a0 a1 r} (h : jS N a0 a1 = some r) : FnM Tryz.prog 93 [] [(j64 a0), (eL 1 j64 a1)] (eB r) [] := by
 unfold jS at h
 refine At.f aEf hT hmo Tryz.func93 rfl h ?_
 refine At.o 3 (pX (x := (.fn (.func 178) [] [(.im (j64 a0))])) (by kernel_rfl) (by kernel_rfl)) ?_
 refine At.b 0 (fun _ e => aL [] (qQ e)) fun r1 => ?_
 apply rt; exact At.r 1

def aDZ : Nat → Bool := imL [1]

def mK (N : Nat) (a0 : aQ) : Option (Int) :=
 Option.bind (Option.bind (jS N 4 ([a0.gA0])) fun r2 =>
 cond r2 (
  some true) (
  Option.bind (idx a0.gA2.toList 0) fun e3 =>
  Option.bind (idx a0.gA2.toList 1) fun e4 =>
  Option.bind (idx a0.gA2.toList 2) fun e5 =>
  Option.bind (jS N 65535 ([e3, e4, e5, a0.gC6])) fun r6 =>
  some r6)) fun p1 =>
 cond p1 (some 5) (some 0)

theorem aDK {N a0 r} (h : mK N a0 = some r) : FnM Tryz.prog 39 [] [(aQ.enc a0)] (j64 r) [] := by
 unfold mK at h
 refine At.f aDZ hT hmo Tryz.func39 rfl h ?_
 refine At.J 2 0 [] 0 (fun p1 => ([(21, (eB p1))], [], [])) (fun p1 => ?_) fun p1 => ?_
 ·refine At.o 2 (cM hT (x := (.sl 1 1 [(j64 a0.gA0)]))) ?_
  refine At.b 0 (fun _ e => aL [] (sI e)) fun r2 => ?_
  refine At.s 7 1 ?_ ?_
  ·refine At.g [7] 14 ?_
   apply rt; exact At.jn 0
  ·refine At.g [7] 1 ?_
   refine At.b 0 (fun _ e => dK hT (N := 3) (k := 1) j64 a0.gA2 e) fun e3 => ?_
   refine At.g [7] 2 ?_
   refine At.b 0 (fun _ e => dK hT (N := 3) (k := 1) j64 a0.gA2 e) fun e4 => ?_
   refine At.g [7] 2 ?_
   refine At.b 0 (fun _ e => dK hT (N := 3) (k := 1) j64 a0.gA2 e) fun e5 => ?_
   refine At.g [7] 3 ?_
   refine At.o 0 (cM hT (x := (.sl 1 4 [(j64 e3), (j64 e4), (j64 e5), (j64 a0.gC6)]))) ?_
   refine At.b 0 (fun _ e => aL [] (sI e)) fun r6 => ?_
   refine At.g [7] 1 ?_
   apply rt; exact At.jn 0
 ·refine At.c 0 ?_ ?_
  ·apply rt; exact At.r 1
  ·apply rt; exact At.r 1

def dU (N : Nat) (a0 : (List aQ)) : Nat → Int → Option (Sum (Unit) (Int))
 | 0, _ => none
 | k + 1, s2 =>
  aR (decide (s2 < ((a0.length : Int)))) fun x3 =>
  cond x3 (
   Option.bind (idx a0 s2) fun e4 =>
   Option.bind (mK N e4) fun r5 =>
   cond (r5 != 0) (
    some (Sum.inr r5)) (
    dU N a0 k (I64 (s2 + 1)))) (
   some (Sum.inl (())))

def dE (N : Nat) (a0 : (List aQ)) : Option (Int) :=
 Option.bind (dU N a0 N 0) fun o => jU o (fun p1 =>
  some 0) (fun r => some r)

theorem sU {N a0 r} (h : dE N a0 = some r) : FnM Tryz.prog 38 [] [(eL 5 aQ.enc a0), (.fn (.func 39) [] [])] (j64 r) [] := by
 unfold dE at h
 refine At.f cU hT hmo Tryz.func38 rfl h ?_
 refine At.LS 4 [] 0 (fun p1 => ([], [], [])) (fun op1 J k => ∃ s2, dU N a0 k s2 = some op1 ∧ J [1, 8, 9] 0 [(10, (j64 s2))] [] []) N (fun _ h => ⟨_, h, jr⟩) (fun op1 g1 k s hI => ?_) fun p1 => ?_
 ·obtain ⟨s2, h, hj⟩ := hI
  cases k with
  | zero => cases h
  | succ k =>
   refine At.jr hj ?_ h
   refine lx ?_; intro x3
   refine At.c 1 ?_ ?_
   ·refine At.b 0 (fun _ e => cA hT aQ.enc e) fun e4 => ?_
    refine At.b 5 (fun _ e => aL [] (aDK e)) fun r5 => ?_
    refine At.c 3 ?_ ?_
    ·intro e; apply aBi g1 e; exact At.r 2
    ·exact fun h => At.k 2 ⟨_, h, jr⟩
   ·apply rt; exact At.xs 0
 ·apply rt; exact At.r 1

def eQ (N : Nat) (a0 : (List Int)) (a1 : Int) : Nat → Int → Option (Sum (Unit) (Int))
 | 0, _ => none
 | k + 1, s2 =>
  aR (decide (s2 < ((a0.length : Int)))) fun x3 =>
  cond x3 (
   Option.bind (idx a0 s2) fun e4 =>
   cond (a1 == e4) (
    some (Sum.inr s2)) (
    eQ N a0 a1 k (I64 (s2 + 1)))) (
   some (Sum.inl (())))

def lZ (N : Nat) (a0 : (List Int)) (a1 : Int) : Option (Int) :=
 Option.bind (eQ N a0 a1 N 0) fun o => jU o (fun p1 =>
  some (-1)) (fun r => some r)

theorem aAF {N a0 a1 r} (h : lZ N a0 a1 = some r) : FnM Tryz.prog 179 [] [(eL 1 j64 a0), (j64 a1)] (j64 r) [] := by
 unfold lZ at h
 refine At.f cU hT hmo Tryz.func179 rfl h ?_
 refine At.LS 4 [] 0 (fun p1 => ([], [], [])) (fun op1 J k => ∃ s2, eQ N a0 a1 k s2 = some op1 ∧ J [0, 1, 7] 0 [(8, (j64 s2))] [] []) N (fun _ h => ⟨_, h, jr⟩) (fun op1 g1 k s hI => ?_) fun p1 => ?_
 ·obtain ⟨s2, h, hj⟩ := hI
  cases k with
  | zero => cases h
  | succ k =>
   refine At.jr hj ?_ h
   refine lx ?_; intro x3
   refine At.c 1 ?_ ?_
   ·refine At.b 5 (fun _ e => cA hT j64 e) fun e4 => ?_
    refine At.c 2 ?_ ?_
    ·intro e; apply aBi g1 e; exact At.r 2
    ·exact fun h => At.k 2 ⟨_, h, jr⟩
   ·apply rt; exact At.xs 0
 ·apply rt; exact At.r 1

def hK (N : Nat) (a0 : (List Int)) (a1 : Int) : Option (Bool) :=
 Option.bind (lZ N a0 a1) fun r1 =>
 some (decide (r1 ≥ 0))

theorem yO {N a0 a1 r} (h : hK N a0 a1 = some r) : FnM Tryz.prog 94 [] [(eL 1 j64 a0), (j64 a1)] (eB r) [] := by
 unfold hK at h
 refine At.f cU hT hmo Tryz.func94 rfl h ?_
 refine At.b 3 (fun _ e => aL [] (aAF e)) fun r1 => ?_
 apply rt; exact At.r 2

def aEZ : Nat → Bool := imL [1]

def kG (N : Nat) (x5 : Int) (a0 : aD) : Nat → Int → Option (Sum (Unit) (Int))
 | 0, _ => none
 | k + 1, s7 =>
  cond (decide (s7 < x5)) (
   Option.bind (idx a0.gO s7) fun e8 =>
   Option.bind (Option.bind (eK 0 3) fun _ =>
   Option.bind (e8.toList[(Int.toNat 0)]?) fun e11 =>
   Option.bind (eK 1 3) fun _ =>
   Option.bind (e8.toList[(Int.toNat 1)]?) fun e13 =>
   Option.bind (eK 2 3) fun _ =>
   Option.bind (e8.toList[(Int.toNat 2)]?) fun e15 =>
   aR (decide ((jC (jC e11 e13) e15) < 0)) fun x16 =>
   cond x16 (
    some true) (
    Option.bind (eK 0 3) fun _ =>
    Option.bind (e8.toList[(Int.toNat 0)]?) fun e18 =>
    Option.bind (eK 1 3) fun _ =>
    Option.bind (e8.toList[(Int.toNat 1)]?) fun e20 =>
    Option.bind (eK 2 3) fun _ =>
    Option.bind (e8.toList[(Int.toNat 2)]?) fun e22 =>
    aR (decide ((iN (iN e18 e20) e22) > 255)) fun x23 =>
    some x23)) fun p9 =>
   cond p9 (some (Sum.inr 5)) (kG N x5 a0 k (I64 (s7 + 1)))) (
   some (Sum.inl (())))

def iJ (N : Nat) (a0 : aD) : Option (Int) :=
 Option.bind (hK N ([1, 2, 4, 8, 16]) a0.gF) fun r1 =>
 aR ((a0.gO.length : Int)) fun x2 =>
 aR (I64 (a0.gF * a0.gF)) fun x3 =>
 aR (cond (!r1) true (x2 != x3)) fun x4 =>
 cond x4 (
  some 5) (
  aR ((a0.gO.length : Int)) fun x5 =>
  Option.bind (kG N x5 a0 N 0) fun o => jU o (fun p6 =>
   some 0) (fun r => some r))

theorem sD {N a0 r} (h : iJ N a0 = some r) : FnM Tryz.prog 41 [] [(aD.enc a0)] (j64 r) [] := by
 unfold iJ at h
 refine At.f aEZ hT hmo Tryz.func41 rfl h ?_
 refine At.o 2 (cM hT (x := (.sl 1 5 [(j64 1), (j64 2), (j64 4), (j64 8), (j64 16)]))) ?_
 refine At.b 2 (fun _ e => aL [] (yO e)) fun r1 => ?_
 refine lx ?_; intro x2
 refine lx ?_; intro x3
 refine lx ?_; intro x4
 refine At.c 12 ?_ ?_
 ·apply rt; exact At.r 1
 ·refine lx ?_; intro x5
  refine At.LS 4 [] 0 (fun p6 => ([], [], [])) (fun op6 J k => ∃ s7, kG N x5 a0 k s7 = some op6 ∧ J [22, 23] 0 [(24, (j64 s7))] [] []) N (fun _ h => ⟨_, h, jr⟩) (fun op6 g6 k s hI => ?_) fun p6 => ?_
  ·obtain ⟨s7, h, hj⟩ := hI
   cases k with
   | zero => cases h
   | succ k =>
    refine At.jr hj ?_ h
    refine At.c 1 ?_ ?_
    ·refine At.b 0 (fun _ e => cA hT (eA 3 1 j64) e) fun e8 => ?_
     refine At.J 3 0 [22, 23, 24] 1 (fun p9 => ([(45, (eB p9))], [], [])) (fun p9 => ?_) fun p9 => ?_
     ·refine At.b 0 (fun _ e => bD hT (k := 1) 0 [] 0 e) fun u10 => ?_
      refine At.b 0 (fun _ e => oR hT j64 0 e) fun e11 => ?_
      refine At.b 0 (fun _ e => bD hT (k := 1) 0 [] 0 e) fun u12 => ?_
      refine At.b 0 (fun _ e => oR hT j64 0 e) fun e13 => ?_
      refine At.b 0 (fun _ e => bD hT (k := 1) 0 [] 0 e) fun u14 => ?_
      refine At.b 0 (fun _ e => oR hT j64 0 e) fun e15 => ?_
      refine At.o 0 (yF (k := .i64) (i := e11) (j := e13) (l := e15) (by kernel_rfl) (by kernel_rfl)) ?_
      refine lx ?_; intro x16
      refine At.s 36 2 ?_ ?_
      ·refine At.g [36] 9 ?_
       apply rt; exact At.jn 0
      ·refine At.b 0 (fun _ e => bD hT (k := 1) 0 [] 0 e) fun u17 => ?_
       refine At.b 0 (fun _ e => oR hT j64 0 e) fun e18 => ?_
       refine At.b 0 (fun _ e => bD hT (k := 1) 0 [] 0 e) fun u19 => ?_
       refine At.b 0 (fun _ e => oR hT j64 0 e) fun e20 => ?_
       refine At.b 0 (fun _ e => bD hT (k := 1) 0 [] 0 e) fun u21 => ?_
       refine At.b 0 (fun _ e => oR hT j64 0 e) fun e22 => ?_
       refine At.o 0 (yC (k := .i64) (i := e18) (j := e20) (l := e22) (by kernel_rfl) (by kernel_rfl)) ?_
       refine lx ?_; intro x23
       refine At.g [36] 2 ?_
       apply rt; exact At.jn 0
     ·refine At.c 0 ?_ ?_
      ·intro e; apply aBi g6 e; exact At.r 1
      ·exact fun h => At.k 2 ⟨_, h, jr⟩
    ·apply rt; exact At.xs 0
  ·apply rt; exact At.r 1

def eS (N : Nat) (a0 : (List aD)) : Nat → Int → Option (Sum (Unit) (Int))
 | 0, _ => none
 | k + 1, s2 =>
  aR (decide (s2 < ((a0.length : Int)))) fun x3 =>
  cond x3 (
   Option.bind (idx a0 s2) fun e4 =>
   Option.bind (iJ N e4) fun r5 =>
   cond (r5 != 0) (
    some (Sum.inr r5)) (
    eS N a0 k (I64 (s2 + 1)))) (
   some (Sum.inl (())))

def dZ (N : Nat) (a0 : (List aD)) : Option (Int) :=
 Option.bind (eS N a0 N 0) fun o => jU o (fun p1 =>
  some 0) (fun r => some r)

theorem uS {N a0 r} (h : dZ N a0 = some r) : FnM Tryz.prog 40 [] [(eL 2 aD.enc a0), (.fn (.func 41) [] [])] (j64 r) [] := by
 unfold dZ at h
 refine At.f cU hT hmo Tryz.func40 rfl h ?_
 refine At.LS 4 [] 0 (fun p1 => ([], [], [])) (fun op1 J k => ∃ s2, eS N a0 k s2 = some op1 ∧ J [1, 8, 9] 0 [(10, (j64 s2))] [] []) N (fun _ h => ⟨_, h, jr⟩) (fun op1 g1 k s hI => ?_) fun p1 => ?_
 ·obtain ⟨s2, h, hj⟩ := hI
  cases k with
  | zero => cases h
  | succ k =>
   refine At.jr hj ?_ h
   refine lx ?_; intro x3
   refine At.c 1 ?_ ?_
   ·refine At.b 0 (fun _ e => cA hT aD.enc e) fun e4 => ?_
    refine At.b 5 (fun _ e => aL [] (sD e)) fun r5 => ?_
    refine At.c 3 ?_ ?_
    ·intro e; apply aBi g1 e; exact At.r 2
    ·exact fun h => At.k 2 ⟨_, h, jr⟩
   ·apply rt; exact At.xs 0
 ·apply rt; exact At.r 1

def aEd : Nat → Bool := imL [1]

def lP (N : Nat) (a0 : aC) : Option (Bool) :=
 Option.bind (aR (decide ((iN (iN a0.gX a0.gY) a0.gZ) > 4096)) fun x2 =>
 cond x2 (
  some true) (
  aR (decide ((jC (jC a0.gX a0.gY) a0.gZ) < (-4096))) fun x3 =>
  some x3)) fun p1 =>
 some p1

theorem vX {N a0 r} (h : lP N a0 = some r) : FnM Tryz.prog 95 [] [(aC.enc a0)] (eB r) [] := by
 unfold lP at h
 refine At.f aEd hT hmo Tryz.func95 rfl h ?_
 refine At.J 2 0 [] 0 (fun p1 => ([(2, (eB p1))], [], [])) (fun p1 => ?_) fun p1 => ?_
 ·refine At.o 6 (yC (k := .i64) (i := a0.gX) (j := a0.gY) (l := a0.gZ) (by kernel_rfl) (by kernel_rfl)) ?_
  refine lx ?_; intro x2
  refine At.s 11 2 ?_ ?_
  ·refine At.g [11] 10 ?_
   apply rt; exact At.jn 0
  ·refine At.g [11] 6 ?_
   refine At.o 0 (yF (k := .i64) (i := a0.gX) (j := a0.gY) (l := a0.gZ) (by kernel_rfl) (by kernel_rfl)) ?_
   refine lx ?_; intro x3
   refine At.g [11] 3 ?_
   apply rt; exact At.jn 0
 ·apply rt; exact At.r 0

def aGW : Nat → Bool := imL [1]

def oM (N : Nat) (a0 : aP) : Option (Int) :=
 Option.bind (Option.bind (jS N 2 ([a0.gA0])) fun r2 =>
 cond r2 (
  some true) (
  Option.bind (wG a0.gA2.toList 0 3) fun s3 =>
  Option.bind (jS N 1048576 s3) fun r4 =>
  some r4)) fun p1 =>
 cond p1 (
  some 5) (
  Option.bind (Option.bind (lP N a0.gAt) fun r6 =>
  cond r6 (
   some true) (
   Option.bind (lP N a0.gU) fun r7 =>
   cond r7 (
    some true) (
    Option.bind (lP N a0.gV) fun r8 =>
    some r8))) fun p5 =>
  cond p5 (
   some 8) (
   Option.bind (cond (a0.gA0 == 2) (
    cond (!(aC.eq a0.gAt (aC.mk 0 0 0))) (
     some (Sum.inr 5)) (
     Option.bind (aR (!(aC.eq a0.gU (aC.mk 0 0 0))) fun x11 =>
     cond x11 (
      some true) (
      some (!(aC.eq a0.gV (aC.mk 0 0 0))))) fun p10 =>
     cond p10 (some (Sum.inr 5)) (some (Sum.inl (()))))) (
    cond (a0.gA0 == 0) (
     Option.bind (aR (!(aC.eq a0.gU (aC.mk 0 0 0))) fun x13 =>
     cond x13 (
      some true) (
      some (!(aC.eq a0.gV (aC.mk 0 0 0))))) fun p12 =>
     cond p12 (some (Sum.inr 5)) (some (Sum.inl (())))) (
     some (Sum.inl (()))))) fun o => jU o (fun p9 =>
    some 0) (fun r => some r)))

theorem aBI {N a0 r} (h : oM N a0 = some r) : FnM Tryz.prog 43 [] [(aP.enc a0)] (j64 r) [] := by
 unfold oM at h
 refine At.f aGW hT hmo Tryz.func43 rfl h ?_
 refine At.J 6 0 [1, 3, 4] 1 (fun p1 => ([(6, (eB p1))], [], [])) (fun p1 => ?_) fun p1 => ?_
 ·refine At.o 2 (cM hT (x := (.sl 1 1 [(j64 a0.gA0)]))) ?_
  refine At.b 0 (fun _ e => aL [] (sI e)) fun r2 => ?_
  refine At.s 11 1 ?_ ?_
  ·refine At.g [11] 5 ?_
   apply rt; exact At.jn 0
  ·refine At.g [11] 1 ?_
   refine At.b 0 (fun _ e => aAY hT (N := 3) (k := 1) j64 a0.gA2 e) fun s3 => ?_
   refine At.b 0 (fun _ e => aL [] (sI e)) fun r4 => ?_
   refine At.g [11] 2 ?_
   apply rt; exact At.jn 0
 ·refine At.c 0 ?_ ?_
  ·apply rt; exact At.r 1
  ·refine At.J 0 0 [1, 4] 1 (fun p5 => ([(16, (eB p5))], [], [])) (fun p5 => ?_) fun p5 => ?_
   ·refine At.b 3 (fun _ e => aL [] (vX e)) fun r6 => ?_
    refine At.s 21 1 ?_ ?_
    ·refine At.g [21, 27] 12 ?_
     apply rt; exact At.jn 0
    ·refine At.g [21] 3 ?_
     refine At.b 0 (fun _ e => aL [] (vX e)) fun r7 => ?_
     refine At.g [21] 2 ?_
     refine At.s 27 0 ?_ ?_
     ·refine At.g [27] 6 ?_
      apply rt; exact At.jn 0
     ·refine At.g [27] 3 ?_
      refine At.b 0 (fun _ e => aL [] (vX e)) fun r8 => ?_
      refine At.g [27] 2 ?_
      apply rt; exact At.jn 0
   ·refine At.c 0 ?_ ?_
    ·apply rt; exact At.r 1
    ·refine At.JS 0 1 [] 1 (fun p9 => ([], [], [])) (fun op9 g9 => ?_) fun p9 => ?_
     ·refine At.c 4 ?_ ?_
      ·refine At.o 3 (uQ aAd (a0.gAt : aC) (aC.mk 0 0 0 : aC) (by kernel_rfl) (by kernel_rfl) (fun _ => rfl) (fun _ => rfl) (by kernel_rfl) (by kernel_rfl)) ?_
       refine At.c 0 ?_ ?_
       ·intro e; apply aBi g9 e; exact At.r 1
       ·refine At.J 0 0 [] 1 (fun p10 => ([(52, (eB p10))], [], [])) (fun p10 => ?_) fun p10 => ?_
        ·refine At.o 3 (uQ aAd (a0.gU : aC) (aC.mk 0 0 0 : aC) (by kernel_rfl) (by kernel_rfl) (fun _ => rfl) (fun _ => rfl) (by kernel_rfl) (by kernel_rfl)) ?_
         refine lx ?_; intro x11
         refine At.s 47 1 ?_ ?_
         ·refine At.g [47] 5 ?_
          apply rt; exact At.jn 0
         ·refine At.g [47] 3 ?_
          refine At.o 0 (uQ aAd (a0.gV : aC) (aC.mk 0 0 0 : aC) (by kernel_rfl) (by kernel_rfl) (fun _ => rfl) (fun _ => rfl) (by kernel_rfl) (by kernel_rfl)) ?_
          refine At.g [47] 1 ?_
          apply rt; exact At.jn 0
        ·refine At.c 0 ?_ ?_
         ·intro e; apply aBi g9 e; exact At.r 1
         ·apply rt; exact At.jsn 0
      ·refine At.c 2 ?_ ?_
       ·refine At.J 0 0 [] 1 (fun p12 => ([(52, (eB p12))], [], [])) (fun p12 => ?_) fun p12 => ?_
        ·refine At.o 3 (uQ aAd (a0.gU : aC) (aC.mk 0 0 0 : aC) (by kernel_rfl) (by kernel_rfl) (fun _ => rfl) (fun _ => rfl) (by kernel_rfl) (by kernel_rfl)) ?_
         refine lx ?_; intro x13
         refine At.s 47 1 ?_ ?_
         ·refine At.g [47] 5 ?_
          apply rt; exact At.jn 0
         ·refine At.g [47] 3 ?_
          refine At.o 0 (uQ aAd (a0.gV : aC) (aC.mk 0 0 0 : aC) (by kernel_rfl) (by kernel_rfl) (fun _ => rfl) (fun _ => rfl) (by kernel_rfl) (by kernel_rfl)) ?_
          refine At.g [47] 1 ?_
          apply rt; exact At.jn 0
        ·refine At.c 0 ?_ ?_
         ·intro e; apply aBi g9 e; exact At.r 1
         ·apply rt; exact At.jsn 0
       ·apply rt; exact At.jsn 0
     ·apply rt; exact At.r 1

def fK (N : Nat) (a0 : (List aP)) : Nat → Int → Option (Sum (Unit) (Int))
 | 0, _ => none
 | k + 1, s2 =>
  aR (decide (s2 < ((a0.length : Int)))) fun x3 =>
  cond x3 (
   Option.bind (idx a0 s2) fun e4 =>
   Option.bind (oM N e4) fun r5 =>
   cond (r5 != 0) (
    some (Sum.inr r5)) (
    fK N a0 k (I64 (s2 + 1)))) (
   some (Sum.inl (())))

def eJ (N : Nat) (a0 : (List aP)) : Option (Int) :=
 Option.bind (fK N a0 N 0) fun o => jU o (fun p1 =>
  some 0) (fun r => some r)

theorem vZ {N a0 r} (h : eJ N a0 = some r) : FnM Tryz.prog 42 [] [(eL 13 aP.enc a0), (.fn (.func 43) [] [])] (j64 r) [] := by
 unfold eJ at h
 refine At.f cU hT hmo Tryz.func42 rfl h ?_
 refine At.LS 4 [] 0 (fun p1 => ([], [], [])) (fun op1 J k => ∃ s2, fK N a0 k s2 = some op1 ∧ J [1, 8, 9] 0 [(10, (j64 s2))] [] []) N (fun _ h => ⟨_, h, jr⟩) (fun op1 g1 k s hI => ?_) fun p1 => ?_
 ·obtain ⟨s2, h, hj⟩ := hI
  cases k with
  | zero => cases h
  | succ k =>
   refine At.jr hj ?_ h
   refine lx ?_; intro x3
   refine At.c 1 ?_ ?_
   ·refine At.b 0 (fun _ e => cA hT aP.enc e) fun e4 => ?_
    refine At.b 5 (fun _ e => aL [] (aBI e)) fun r5 => ?_
    refine At.c 3 ?_ ?_
    ·intro e; apply aBi g1 e; exact At.r 2
    ·exact fun h => At.k 2 ⟨_, h, jr⟩
   ·apply rt; exact At.xs 0
 ·apply rt; exact At.r 1

def aGX : Nat → Bool := imL [1]

def mI (N : Nat) (a0 : aE) : Option (Int) :=
 aR ((a0.gA8.length : Int)) fun x1 =>
 aR (x1 != ((a0.gA7.length : Int))) fun x2 =>
 cond x2 (
  some 5) (
  Option.bind (eN N a0.gQ a0) fun r3 =>
  cond (r3 != 0) (
   some r3) (
   Option.bind (dE N a0.gA3) fun r4 =>
   cond (r4 != 0) (
    some r4) (
    Option.bind (dZ N a0.gR) fun r5 =>
    cond (r5 != 0) (
     some r5) (
     Option.bind (eJ N a0.gL) fun r6 =>
     some r6))))

theorem aE6 {N a0 r} (h : mI N a0 = some r) : FnM Tryz.prog 14 [] [(aE.enc a0)] (j64 r) [] := by
 unfold mI at h
 refine At.f aGX hT hmo Tryz.func14 rfl h ?_
 refine lx ?_; intro x1
 refine lx ?_; intro x2
 refine At.c 9 ?_ ?_
 ·apply rt; exact At.r 1
 ·refine At.o 2 (pX (x := (.fn (.func 36) [] [(.im (aE.enc a0))])) (by kernel_rfl) (by kernel_rfl)) ?_
  refine At.b 0 (fun _ e => aL [] (vN e)) fun r3 => ?_
  refine At.c 3 ?_ ?_
  ·apply rt; exact At.r 2
  ·refine At.b 2 (fun _ e => aL [] (sU e)) fun r4 => ?_
   refine At.c 3 ?_ ?_
   ·apply rt; exact At.r 2
   ·refine At.b 2 (fun _ e => aL [] (uS e)) fun r5 => ?_
    refine At.c 3 ?_ ?_
    ·apply rt; exact At.r 2
    ·refine At.b 2 (fun _ e => aL [] (vZ e)) fun r6 => ?_
     apply rt; exact At.r 1


def aJn : Nat → Bool := imL [1]

def tW (N : Nat) (a0 : aC) : Option (Bool) :=
 Option.bind (aR (!(aC.eq a0 (aC.mk 0 0 0))) fun x2 =>
 cond x2 (
  aR (decide ((iN (iN a0.gX a0.gY) a0.gZ) ≤ 16384)) fun x3 =>
  cond x3 (
   aR (decide ((jC (jC a0.gX a0.gY) a0.gZ) ≥ (-16384))) fun x4 =>
   some x4) (
   some false)) (
  some false)) fun p1 =>
 some p1

theorem aBN {N a0 r} (h : tW N a0 = some r) : FnM Tryz.prog 98 [] [(aC.enc a0)] (eB r) [] := by
 unfold tW at h
 refine At.f aJn hT hmo Tryz.func98 rfl h ?_
 refine At.J 2 0 [] 0 (fun p1 => ([(2, (eB p1))], [], [])) (fun p1 => ?_) fun p1 => ?_
 ·refine At.o 2 (uQ aAd (a0 : aC) (aC.mk 0 0 0 : aC) (by kernel_rfl) (by kernel_rfl) (fun _ => rfl) (fun _ => rfl) (by kernel_rfl) (by kernel_rfl)) ?_
  refine lx ?_; intro x2
  refine At.s 6 1 ?_ ?_
  ·refine At.g [6] 6 ?_
   refine At.o 0 (yC (k := .i64) (i := a0.gX) (j := a0.gY) (l := a0.gZ) (by kernel_rfl) (by kernel_rfl)) ?_
   refine lx ?_; intro x3
   refine At.g [6] 3 ?_
   refine At.s 16 0 ?_ ?_
   ·refine At.g [16] 6 ?_
    refine At.o 0 (yF (k := .i64) (i := a0.gX) (j := a0.gY) (l := a0.gZ) (by kernel_rfl) (by kernel_rfl)) ?_
    refine lx ?_; intro x4
    refine At.g [16] 3 ?_
    apply rt; exact At.jn 0
   ·refine At.g [16] 10 ?_
    apply rt; exact At.jn 0
  ·refine At.g [6, 16] 20 ?_
   apply rt; exact At.jn 0
 ·apply rt; exact At.r 0

def kZ (N : Nat) (a0 : Int) (a1 : Int) (a2 : Int) : Option (Bool) :=
 aR (cond (decide (a0 ≥ a1)) (decide (a0 ≤ a2)) false) fun x1 =>
 some x1

theorem tG {N a0 a1 a2 r} (h : kZ N a0 a1 a2 = some r) : FnM Tryz.prog 97 [] [(j64 a0), (j64 a1), (j64 a2)] (eB r) [] := by
 unfold kZ at h
 refine At.f cU hT hmo Tryz.func97 rfl h ?_
 refine lx ?_; intro x1
 apply rt; exact At.r 10

def aHy : Nat → Bool := imL [3]

def nS (N : Nat) (a0 : bK) (a1 : Int) (a2 : Int) : Option (Int) :=
 Option.bind (aR (decide ((iN (iN a0.gN.gX a0.gN.gY) a0.gN.gZ) > 32768)) fun x2 =>
 cond x2 (
  some true) (
  aR (decide ((jC (jC a0.gN.gX a0.gN.gY) a0.gN.gZ) < (-32768))) fun x3 =>
  some x3)) fun p1 =>
 cond p1 (
  some 8) (
  Option.bind (Option.bind (tW N a0.gB6) fun r5 =>
  cond (!r5) (
   some true) (
   Option.bind (tW N a0.gUp) fun r6 =>
   cond (!r6) (
    some true) (
    Option.bind (tW N a0.gD3) fun r7 =>
    some (!r7)))) fun p4 =>
  cond p4 (
   some 2) (
   Option.bind (Option.bind (kZ N a0.gC2 0 1024) fun r9 =>
   cond (!r9) (
    some true) (
    Option.bind (kZ N a0.gC3 1 32768) fun r10 =>
    cond (!r10) (
     some true) (
     Option.bind (kZ N a1 1 64) fun r11 =>
     cond (!r11) (
      some true) (
      Option.bind (kZ N a2 1 64) fun r12 =>
      some (!r12))))) fun p8 =>
   cond p8 (some 2) (some 0)))

theorem aCD {N a0 a1 a2 r} (h : nS N a0 a1 a2 = some r) : FnM Tryz.prog 48 [] [(bK.enc a0), (j64 a1), (j64 a2)] (j64 r) [] := by
 unfold nS at h
 refine At.f aHy hT hmo Tryz.func48 rfl h ?_
 refine At.J 7 0 [1, 2, 3, 8] 1 (fun p1 => ([(11, (eB p1))], [], [])) (fun p1 => ?_) fun p1 => ?_
 ·refine At.o 6 (yC (k := .i64) (i := a0.gN.gX) (j := a0.gN.gY) (l := a0.gN.gZ) (by kernel_rfl) (by kernel_rfl)) ?_
  refine lx ?_; intro x2
  refine At.s 20 2 ?_ ?_
  ·refine At.g [20] 10 ?_
   apply rt; exact At.jn 0
  ·refine At.g [20] 6 ?_
   refine At.o 0 (yF (k := .i64) (i := a0.gN.gX) (j := a0.gN.gY) (l := a0.gN.gZ) (by kernel_rfl) (by kernel_rfl)) ?_
   refine lx ?_; intro x3
   refine At.g [20] 3 ?_
   apply rt; exact At.jn 0
 ·refine At.c 0 ?_ ?_
  ·apply rt; exact At.r 1
  ·refine At.J 0 0 [1, 2, 3, 8] 1 (fun p4 => ([(30, (eB p4))], [], [])) (fun p4 => ?_) fun p4 => ?_
   ·refine At.b 2 (fun _ e => aL [] (aBN e)) fun r5 => ?_
    refine At.s 35 2 ?_ ?_
    ·refine At.g [35, 41] 12 ?_
     apply rt; exact At.jn 0
    ·refine At.g [35] 2 ?_
     refine At.b 0 (fun _ e => aL [] (aBN e)) fun r6 => ?_
     refine At.g [35] 3 ?_
     refine At.s 41 0 ?_ ?_
     ·refine At.g [41] 6 ?_
      apply rt; exact At.jn 0
     ·refine At.g [41] 2 ?_
      refine At.b 0 (fun _ e => aL [] (aBN e)) fun r7 => ?_
      refine At.g [41] 3 ?_
      apply rt; exact At.jn 0
   ·refine At.c 0 ?_ ?_
    ·apply rt; exact At.r 1
    ·refine At.J 0 0 [] 1 (fun p8 => ([(47, (eB p8))], [], [])) (fun p8 => ?_) fun p8 => ?_
     ·refine At.b 3 (fun _ e => aL [] (tG e)) fun r9 => ?_
      refine At.s 53 2 ?_ ?_
      ·refine At.g [53, 60, 66] 19 ?_
       apply rt; exact At.jn 0
      ·refine At.g [53] 3 ?_
       refine At.b 0 (fun _ e => aL [] (tG e)) fun r10 => ?_
       refine At.g [53] 3 ?_
       refine At.s 60 0 ?_ ?_
       ·refine At.g [60, 66] 12 ?_
        apply rt; exact At.jn 0
       ·refine At.g [60] 2 ?_
        refine At.b 0 (fun _ e => aL [] (tG e)) fun r11 => ?_
        refine At.g [60] 3 ?_
        refine At.s 66 0 ?_ ?_
        ·refine At.g [66] 6 ?_
         apply rt; exact At.jn 0
        ·refine At.g [66] 2 ?_
         refine At.b 0 (fun _ e => aL [] (tG e)) fun r12 => ?_
         refine At.g [66] 3 ?_
         apply rt; exact At.jn 0
     ·refine At.c 0 ?_ ?_
      ·apply rt; exact At.r 1
      ·apply rt; exact At.r 1

def aJA : Nat → Bool := imL [1]

def nZ (N : Nat) (a0 : aI) : Option (Int) :=
 Option.bind (nS N a0.gA5 a0.gW a0.gH) fun r1 =>
 cond (r1 != 0) (
  some r1) (
  aR (decide (a0.gS < 1)) fun x2 =>
  aR (decide (a0.gS > 16)) fun x3 =>
  aR (cond (cond x2 true x3) true (decide (a0.gJ < 0))) fun x4 =>
  aR (cond x4 true (decide (a0.gJ > 8))) fun x5 =>
  aR (cond x5 true (decide (a0.gI < 0))) fun x6 =>
  aR (cond x6 true (decide (a0.gI > 2))) fun x7 =>
  cond x7 (some 2) (some 0))

theorem aDH {N a0 r} (h : nZ N a0 = some r) : FnM Tryz.prog 16 [] [(aI.enc a0)] (j64 r) [] := by
 unfold nZ at h
 refine At.f aJA hT hmo Tryz.func16 rfl h ?_
 refine At.b 8 (fun _ e => aL [] (aCD e)) fun r1 => ?_
 refine At.c 3 ?_ ?_
 ·apply rt; exact At.r 2
 ·refine lx ?_; intro x2
  refine lx ?_; intro x3
  refine lx ?_; intro x4
  refine lx ?_; intro x5
  refine lx ?_; intro x6
  refine lx ?_; intro x7
  refine At.c 28 ?_ ?_
  ·apply rt; exact At.r 1
  ·apply rt; exact At.r 1

def fX (N : Nat) (a0 : Int) : Option (Int × Int) :=
 cond (a0 == 0) (
  some ((16, 4))) (
  cond (a0 == 1) (
   some ((64, 4))) (
   cond (a0 == 2) (some ((256, 8))) (some ((0, 0)))))

theorem pI {N a0 r} (h : fX N a0 = some r) : FnM Tryz.prog 27 [] [(j64 a0)] (.tup [(j64 r.1), (j64 r.2)]) [] := by
 unfold fX at h
 refine At.f cU hT hmo Tryz.func27 rfl h ?_
 refine At.c 5 ?_ ?_
 ·apply rt; exact At.r 2
 ·refine At.c 2 ?_ ?_
  ·apply rt; exact At.r 2
  ·refine At.c 2 ?_ ?_
   ·apply rt; exact At.r 2
   ·apply rt; exact At.r 2

def aF6 : Nat → Bool := imL [2]

def pB (N : Nat) (a0 : aE) (a1 : Int) : Option (Int) :=
 Option.bind (fX N a1) fun r1 =>
 aR ((a0.gQ.length : Int)) fun x2 =>
 aR ((a0.gL.length : Int)) fun x3 =>
 aR (cond (decide (x2 > r1.1)) true (decide (x3 > r1.2))) fun x4 =>
 cond x4 (some 15) (some 0)

theorem aES {N a0 a1 r} (h : pB N a0 a1 = some r) : FnM Tryz.prog 24 [] [(aE.enc a0), (j64 a1)] (j64 r) [] := by
 unfold pB at h
 refine At.f aF6 hT hmo Tryz.func24 rfl h ?_
 refine At.b 3 (fun _ e => aL [] (pI e)) fun r1 => ?_
 refine lx ?_; intro x2
 refine lx ?_; intro x3
 refine lx ?_; intro x4
 refine At.c 17 ?_ ?_
 ·apply rt; exact At.r 1
 ·apply rt; exact At.r 1

def rP (N : Nat) (a0 : Int) : Option (Int × Bool) :=
 cond (decide (a0 < 0)) (some ((U64 (0 - (U64 a0)), true))) (some ((U64 a0, false)))

theorem aAh {N a0 r} (h : rP N a0 = some r) : FnM Tryz.prog 216 [] [(j64 a0)] (.tup [(k64 r.1), (eB r.2)]) [] := by
 unfold rP at h
 refine At.f cU hT hmo Tryz.func216 rfl h ?_
 refine At.c 4 ?_ ?_
 ·apply rt; exact At.r 5
 ·apply rt; exact At.r 4

def iX (N : Nat) (a0 : Int) (a1 : Int) : Option (Int × Int) :=
 aR (iA .u64 a0 4294967295) fun x1 =>
 aR (iA .u64 a1 4294967295) fun x2 =>
 aR (U64 ((shr .u64 a0 32) * x2)) fun x3 =>
 aR (shr .u64 (U64 (x1 * x2)) 32) fun x4 =>
 aR (iA .u64 (U64 (x3 + x4)) 4294967295) fun x5 =>
 aR (shr .u64 (U64 (x3 + x4)) 32) fun x6 =>
 aR (U64 (x1 * (shr .u64 a1 32))) fun x7 =>
 aR (U64 ((shr .u64 a0 32) * (shr .u64 a1 32))) fun x8 =>
 aR (shr .u64 (U64 (x5 + x7)) 32) fun x9 =>
 aR (U64 ((U64 (x8 + x6)) + x9)) fun x10 =>
 some ((x10, U64 (a0 * a1)))

theorem xZ {N a0 a1 r} (h : iX N a0 a1 = some r) : FnM Tryz.prog 183 [] [(k64 a0), (k64 a1)] (.tup [(k64 r.1), (k64 r.2)]) [] := by
 unfold iX at h
 refine At.f cU hT hmo Tryz.func183 rfl h ?_
 refine lx ?_; intro x1
 refine lx ?_; intro x2
 refine lx ?_; intro x3
 refine lx ?_; intro x4
 refine lx ?_; intro x5
 refine lx ?_; intro x6
 refine lx ?_; intro x7
 refine lx ?_; intro x8
 refine lx ?_; intro x9
 refine lx ?_; intro x10
 apply rt; exact At.r 50

theorem aKt {x y c : Int} {r : Int × Int} (h : aBz x y c = some r) : aFP Tryz.prog 254 [.int .u64 x, .int .u64 y, .int .u64 c] (.tuple #[.int .u64 r.1, .int .u64 r.2]) :=
 aLu Tryz.func254 (by kernel_rfl) (by kernel_rfl) (by kernel_rfl) (by kernel_rfl) h

def oH (N : Nat) (a0 : Int) (a1 : Int) : Option (Int × Int) :=
 Option.bind (aBz 0 a1 0) fun r1 =>
 Option.bind (aBz 0 a0 r1.2) fun r2 =>
 some ((r2.1, r1.1))

theorem aBA {N a0 a1 r} (h : oH N a0 a1 = some r) : FnM Tryz.prog 215 [] [(k64 a0), (k64 a1)] (.tup [(k64 r.1), (k64 r.2)]) [] := by
 unfold oH at h
 refine At.f cU hT hmo Tryz.func215 rfl h ?_
 refine At.b 3 (fun _ e => aC1 (aKt e) (fun _ => aCx)) fun r1 => ?_
 refine At.b 7 (fun _ e => aC1 (aKt e) (fun _ => aCx)) fun r2 => ?_
 apply rt; exact At.r 8

def iV (N : Nat) (a0 : Int) (a1 : Int) (a2 : Bool) : Option (aO × Bool) :=
 Option.bind (cond a2 (
  Option.bind (oH N a0 a1) fun r2 =>
  some ((r2.1, r2.2))) (
  some ((a0, a1)))) fun p1 =>
 aR (decide ((I64 p1.1) < 0)) fun x3 =>
 aR ((bor .u64 p1.1 p1.2) == 0) fun x4 =>
 aR (cond (x3 == a2) true x4) fun x5 =>
 some ((aO.mk (I64 p1.1) p1.2, x5))

theorem aBW {N a0 a1 a2 r} (h : iV N a0 a1 a2 = some r) : FnM Tryz.prog 217 [] [(k64 a0), (k64 a1), (eB a2)] (.tup [(aO.enc r.1), (eB r.2)]) [] := by
 unfold iV at h
 refine At.f cU hT hmo Tryz.func217 rfl h ?_
 refine At.J 2 1 [2, 6] 1 (fun p1 => ([(0, (k64 p1.1)), (1, (k64 p1.2))], [], [])) (fun p1 => ?_) fun p1 => ?_
 ·refine At.c 1 ?_ ?_
  ·refine At.b 2 (fun _ e => aL [] (aBA e)) fun r2 => ?_
   apply rt; exact At.jn 5
  ·apply rt; exact At.jn 0
 ·refine lx ?_; intro x3
  refine lx ?_; intro x4
  refine lx ?_; intro x5
  apply rt; exact At.r 20

def fS (N : Nat) (a0 : Int) (a1 : Int) : Option (aO) :=
 Option.bind (rP N a0) fun r1 =>
 Option.bind (rP N a1) fun r2 =>
 Option.bind (iX N r1.1 r2.1) fun r3 =>
 Option.bind (iV N r3.1 r3.2 (!(r1.2 == r2.2))) fun r4 =>
 some r4.1

theorem jT {N a0 a1 r} (h : fS N a0 a1 = some r) : FnM Tryz.prog 154 [] [(j64 a0), (j64 a1)] (aO.enc r) [] := by
 unfold fS at h
 refine At.f cU hT hmo Tryz.func154 rfl h ?_
 refine At.b 2 (fun _ e => aL [] (aAh e)) fun r1 => ?_
 refine At.b 6 (fun _ e => aL [] (aAh e)) fun r2 => ?_
 refine At.b 7 (fun _ e => aL [] (xZ e)) fun r3 => ?_
 refine At.b 10 (fun _ e => aL [] (aBW e)) fun r4 => ?_
 apply rt; exact At.r 8

def aJz : Nat → Bool := imL [1]

def oE (N : Nat) (a0 : aO) : Option (Int × Bool) :=
 aR (shr .i64 (I64 a0.gLo) 63) fun x1 =>
 cond (a0.gHi != x1) (some ((0, false))) (some ((I64 a0.gLo, true)))

theorem wM {N a0 r} (h : oE N a0 = some r) : FnM Tryz.prog 218 [] [(aO.enc a0)] (.tup [(j64 r.1), (eB r.2)]) [] := by
 unfold oE at h
 refine At.f aJz hT hmo Tryz.func218 rfl h ?_
 refine lx ?_; intro x1
 refine At.c 12 ?_ ?_
 ·apply rt; exact At.r 2
 ·apply rt; exact At.r 3

def aKG : Nat → Bool := imL [1]

def rN (N : Nat) (a0 : aO) : Option (Int) :=
 Option.bind (oE N a0) fun r1 =>
 cond r1.2 (
  some r1.1) (
  cond (decide (a0.gHi < 0)) (some (-9223372036854775808)) (some 9223372036854775807))

theorem aBP {N a0 r} (h : rN N a0 = some r) : FnM Tryz.prog 155 [] [(aO.enc a0)] (j64 r) [] := by
 unfold rN at h
 refine At.f aKG hT hmo Tryz.func155 rfl h ?_
 refine At.b 3 (fun _ e => aL [] (wM e)) fun r1 => ?_
 refine At.c 6 ?_ ?_
 ·apply rt; exact At.r 2
 ·refine At.c 3 ?_ ?_
  ·apply rt; exact At.r 1
  ·apply rt; exact At.r 1

def jG (N : Nat) (a0 : Int) : Option (Int) :=
 Option.bind (fS N a0 4294967296) fun r1 =>
 Option.bind (rN N r1) fun r2 =>
 some r2

theorem kK {N a0 r} (h : jG N a0 = some r) : FnM Tryz.prog 82 [] [(j64 a0)] (j64 r) [] := by
 unfold jG at h
 refine At.f cU hT hmo Tryz.func82 rfl h ?_
 refine At.b 2 (fun _ e => aL [] (jT e)) fun r1 => ?_
 refine At.b 0 (fun _ e => aL [] (aBP e)) fun r2 => ?_
 apply rt; exact At.r 1

def nW (N : Nat) (a0 : Int) : Option (Int) :=
 Option.bind (aR (decide (a0 ≥ 4294967296)) fun x2 =>
 cond x2 (some ((shr .u64 a0 32, 32))) (some ((a0, 0)))) fun p1 =>
 Option.bind (cond (decide (p1.1 ≥ 65536)) (
  some ((shr .u64 p1.1 16, I64 (p1.2 + 16)))) (
  some ((p1.1, p1.2)))) fun p3 =>
 Option.bind (cond (decide (p3.1 ≥ 256)) (some ((shr .u64 p3.1 8, I64 (p3.2 + 8)))) (some ((p3.1, p3.2)))) fun p4 =>
 Option.bind (idx aKp.data.toList (U8 p4.1)) fun c5 =>
 aR (I64 ((UInt8.toNat c5 : Int))) fun x6 =>
 some (I64 (p4.2 + x6))

theorem aCH {N a0 r} (h : nW N a0 = some r) : FnM Tryz.prog 236 [] [(k64 a0)] (j64 r) [] := by
 unfold nW at h
 refine At.f cU hT hmo Tryz.func236 rfl h ?_
 refine At.J 1 1 [] 0 (fun p1 => ([(0, (k64 p1.1)), (2, (j64 p1.2))], [], [])) (fun p1 => ?_) fun p1 => ?_
 ·refine lx ?_; intro x2
  refine At.c 2 ?_ ?_
  ·apply rt; exact At.jn 4
  ·apply rt; exact At.jn 0
 ·refine At.J 0 1 [] 0 (fun p3 => ([(0, (k64 p3.1)), (2, (j64 p3.2))], [], [])) (fun p3 => ?_) fun p3 => ?_
  ·refine At.c 2 ?_ ?_
   ·apply rt; exact At.jn 6
   ·apply rt; exact At.jn 0
  ·refine At.J 0 1 [] 0 (fun p4 => ([(0, (k64 p4.1)), (2, (j64 p4.2))], [], [])) (fun p4 => ?_) fun p4 => ?_
   ·refine At.c 2 ?_ ?_
    ·apply rt; exact At.jn 6
    ·apply rt; exact At.jn 0
   ·refine At.b 3 (fun _ e => aPP hT e (by kernel_rfl) (by kernel_rfl)) fun c5 => ?_
    refine lx ?_; intro x6
    apply rt; exact At.r 3

def iZ (N : Nat) (a0 : Int) : Option (Int) :=
 Option.bind (nW N a0) fun r1 =>
 some (I64 (64 - r1))

theorem xK {N a0 r} (h : iZ N a0 = some r) : FnM Tryz.prog 188 [] [(k64 a0)] (j64 r) [] := by
 unfold iZ at h
 refine At.f cU hT hmo Tryz.func188 rfl h ?_
 refine At.b 2 (fun _ e => aL [] (aCH e)) fun r1 => ?_
 apply rt; exact At.r 2

def kT (N : Nat) (x5 : Int) : Nat → Int → Int → Int → Int → Int → Option (Int × Int × Int × Int)
 | 0, _, _, _, _, _ => none
 | k + 1, s14, s15, s16, s17, s18 =>
  aR (decide (s17 ≥ 4294967296)) fun x19 =>
  aR (U64 ((U64 (4294967296 * s18)) + s16)) fun x20 =>
  aR (decide ((U64 (s17 * x5)) > x20)) fun x21 =>
  cond (cond x19 true x21) (
   aR (decide ((U64 (s18 + s14)) ≥ 4294967296)) fun x22 =>
   cond x22 (
    some ((s14, s15, s16, U64 (s17 - 1)))) (
    kT N x5 k s14 s15 s16 (U64 (s17 - 1)) (U64 (s18 + s14)))) (
   some ((s14, s15, s16, s17)))

def kY (N : Nat) (x9 : Int) (x5 : Int) (p13 : Int × Int × Int × Int) : Nat → Int → Int → Option (Int)
 | 0, _, _ => none
 | k + 1, s28, s29 =>
  aR (decide (s29 ≥ 4294967296)) fun x30 =>
  aR (U64 ((U64 (4294967296 * s28)) + x9)) fun x31 =>
  aR (decide ((U64 (s29 * x5)) > x31)) fun x32 =>
  cond (cond x30 true x32) (
   aR (decide ((U64 (s28 + p13.1)) ≥ 4294967296)) fun x33 =>
   cond x33 (
    some (U64 (s29 - 1))) (
    kY N x9 x5 p13 k (U64 (s28 + p13.1)) (U64 (s29 - 1)))) (
   some s29)

def iB (N : Nat) (a0 : Int) (a1 : Int) (a2 : Int) : Option (Int × Int) :=
 cond (a2 == 0) (
  none) (
  cond (decide (a2 ≤ a0)) (
   none) (
   cond (a0 == 0) (
    Option.bind (aHz .u64 a1 a2) fun x1 =>
    Option.bind (aDs .u64 a1 a2) fun x2 =>
    some ((x1, x2))) (
    Option.bind (iZ N a2) fun r3 =>
    Option.bind (aHk .u64 a2 (U64 r3)) fun x4 =>
    aR (iA .u64 x4 4294967295) fun x5 =>
    Option.bind (aHk .u64 a0 (U64 r3)) fun x6 =>
    Option.bind (aEe .u64 a1 (U64 (64 - (U64 r3)))) fun x7 =>
    Option.bind (aHk .u64 a1 (U64 r3)) fun x8 =>
    aR (iA .u64 x8 4294967295) fun x9 =>
    Option.bind (aHz .u64 (bor .u64 x6 x7) (shr .u64 x4 32)) fun x10 =>
    aR (U64 (x10 * (shr .u64 x4 32))) fun x11 =>
    aR (U64 ((bor .u64 x6 x7) - x11)) fun x12 =>
    Option.bind (kT N x5 N (shr .u64 x4 32) (bor .u64 x6 x7) (shr .u64 x8 32) x10 x12) fun p13 =>
    aR (U64 (p13.2.1 * 4294967296)) fun x23 =>
    aR (U64 ((U64 (x23 + p13.2.2.1)) - (U64 (p13.2.2.2 * x4)))) fun x24 =>
    Option.bind (aHz .u64 x24 p13.1) fun x25 =>
    aR (U64 (x24 - (U64 (x25 * p13.1)))) fun x26 =>
    Option.bind (kY N x9 x5 p13 N x26 x25) fun p27 =>
    aR (U64 (p13.2.2.2 * 4294967296)) fun x34 =>
    aR (U64 ((U64 (x24 * 4294967296)) + x9)) fun x35 =>
    aR (U64 (x35 - (U64 (p27 * x4)))) fun x36 =>
    Option.bind (aEe .u64 x36 (U64 r3)) fun x37 =>
    some ((U64 (x34 + p27), x37)))))

theorem yJ {N a0 a1 a2 r} (h : iB N a0 a1 a2 = some r) : FnM Tryz.prog 119 [] [(k64 a0), (k64 a1), (k64 a2)] (.tup [(k64 r.1), (k64 r.2)]) [] := by
 unfold iB at h
 refine At.f cU hT hmo Tryz.func119 rfl h ?_
 refine At.c 4 ?_ ?_
 ·exact nn
 ·refine At.c 3 ?_ ?_
  ·exact nn
  ·refine At.c 2 ?_ ?_
   ·refine bi fun x1 hx1 => ?_
    refine bi fun x2 hx2 => ?_
    refine At.d 0 (dE1 2 (fun _ => aCm hT hx1 (by kernel_rfl) (by kernel_rfl)) (dE1 5 (fun _ => aEs hT hx2 (by kernel_rfl) (by kernel_rfl)) dE0)) dF0 ?_
    apply rt; exact At.r 0
   ·refine At.b 1 (fun _ e => aL [] (xK e)) fun r3 => ?_
    refine At.b 4 (fun _ e => aBv hT (k' := .u64) e (by kernel_rfl) (by kernel_rfl)) fun x4 => ?_
    refine lx ?_; intro x5
    refine At.b 9 (fun _ e => aBv hT (k' := .u64) e (by kernel_rfl) (by kernel_rfl)) fun x6 => ?_
    refine At.b 3 (fun _ e => xH hT (k' := .u64) e (by kernel_rfl) (by kernel_rfl)) fun x7 => ?_
    refine At.b 4 (fun _ e => aBv hT (k' := .u64) e (by kernel_rfl) (by kernel_rfl)) fun x8 => ?_
    refine lx ?_; intro x9
    refine At.b 9 (fun _ e => aCm hT e (by kernel_rfl) (by kernel_rfl)) fun x10 => ?_
    refine lx ?_; intro x11
    refine lx ?_; intro x12
    refine At.L 7 [2, 8, 10, 14] 0 (fun p13 => ([(9, (k64 p13.1)), (11, (k64 p13.2.1)), (13, (k64 p13.2.2.1)), (15, (k64 p13.2.2.2))], [], [])) (fun p13 J k => ∃ s14 s15 s16 s17 s18, kT N x5 k s14 s15 s16 s17 s18 = some p13 ∧ J [2, 8, 10, 14] 0 [(9, (k64 s14)), (11, (k64 s15)), (13, (k64 s16)), (15, (k64 s17)), (16, (k64 s18))] [] []) N (fun _ h => ⟨_, _, _, _, _, h, jr⟩) (fun p13 k s hI => ?_) fun p13 => ?_
    ·obtain ⟨s14, s15, s16, s17, s18, h, hj⟩ := hI
     cases k with
     | zero => cases h
     | succ k =>
      refine At.jr hj ?_ h
      refine lx ?_; intro x19
      refine lx ?_; intro x20
      refine lx ?_; intro x21
      refine At.c 12 ?_ ?_
      ·refine lx ?_; intro x22
       refine At.c 9 ?_ ?_
       ·apply rt; exact At.x 0
       ·exact fun h => At.k 0 ⟨_, _, _, _, _, h, jr⟩
      ·apply rt; exact At.x 0
    ·refine lx ?_; intro x23
     refine lx ?_; intro x24
     refine At.b 11 (fun _ e => aCm hT e (by kernel_rfl) (by kernel_rfl)) fun x25 => ?_
     refine lx ?_; intro x26
     refine At.L 7 [2, 8, 14, 15, 17] 0 (fun p27 => ([(18, (k64 p27))], [], [])) (fun p27 J k => ∃ s28 s29, kY N x9 x5 p13 k s28 s29 = some p27 ∧ J [2, 8, 9, 10, 14, 15, 17] 0 [(16, (k64 s28)), (18, (k64 s29))] [] []) N (fun _ h => ⟨_, _, h, jr⟩) (fun p27 k s hI => ?_) fun p27 => ?_
     ·obtain ⟨s28, s29, h, hj⟩ := hI
      cases k with
      | zero => cases h
      | succ k =>
       refine At.jr hj ?_ h
       refine lx ?_; intro x30
       refine lx ?_; intro x31
       refine lx ?_; intro x32
       refine At.c 12 ?_ ?_
       ·refine lx ?_; intro x33
        refine At.c 9 ?_ ?_
        ·apply rt; exact At.x 0
        ·exact fun h => At.k 0 ⟨_, _, h, jr⟩
       ·apply rt; exact At.x 0
     ·refine lx ?_; intro x34
      refine lx ?_; intro x35
      refine lx ?_; intro x36
      refine At.b 13 (fun _ e => xH hT (k' := .u64) e (by kernel_rfl) (by kernel_rfl)) fun x37 => ?_
      apply rt; exact At.r 2

theorem aIP {x y c : Int} {r : Int × Int} (h : xO x y c = some r) : aFP Tryz.prog 189 [.int .u64 x, .int .u64 y, .int .u64 c] (.tuple #[.int .u64 r.1, .int .u64 r.2]) :=
 aMT Tryz.func189 (by kernel_rfl) (by kernel_rfl) (by kernel_rfl) (by kernel_rfl) h

def aKe : Nat → Bool := imL [2]

def oG (N : Nat) (a0 : aO) (a1 : Int) : Option (aO × Int × Bool) :=
 cond (a1 == 0) (
  some ((aO.mk 0 0, 0, false))) (
  Option.bind (cond (decide (a0.gHi < 0)) (
   Option.bind (oH N (U64 a0.gHi) a0.gLo) fun r2 =>
   some ((r2.1, r2.2))) (
   some ((U64 a0.gHi, a0.gLo)))) fun p1 =>
  Option.bind (rP N a1) fun r3 =>
  Option.bind (iB N 0 p1.1 r3.1) fun r4 =>
  Option.bind (iB N r4.2 p1.2 r3.1) fun r5 =>
  Option.bind (aR (!((decide (a0.gHi < 0)) == r3.2)) fun x7 =>
  aR (cond x7 (decide (r5.2 > 0)) false) fun x8 =>
  cond x8 (
   Option.bind (xO r5.1 1 0) fun r9 =>
   some ((U64 (r4.1 + r9.2), r9.1, U64 (r3.1 - r5.2)))) (
   some ((r4.1, r5.1, r5.2)))) fun p6 =>
  aR (!((decide (a0.gHi < 0)) == r3.2)) fun x10 =>
  Option.bind (iV N p6.1 p6.2.1 x10) fun r11 =>
  cond (!r11.2) (
   some ((aO.mk 0 0, 0, false))) (
   Option.bind (cond r3.2 (some (U64 (0 - p6.2.2))) (some p6.2.2)) fun p12 =>
   some ((r11.1, I64 p12, true))))

theorem zK {N a0 a1 r} (h : oG N a0 a1 = some r) : FnM Tryz.prog 153 [] [(aO.enc a0), (j64 a1)] (.tup [(aO.enc r.1), (j64 r.2.1), (eB r.2.2)]) [] := by
 unfold oG at h
 refine At.f aKe hT hmo Tryz.func153 rfl h ?_
 refine At.c 6 ?_ ?_
 ·apply rt; exact At.r 4
 ·refine At.d 0 dE0 dF0 ?_
  refine At.J 0 1 [1, 2, 4] 1 (fun p1 => ([(7, (k64 p1.1)), (8, (k64 p1.2))], [], [])) (fun p1 => ?_) fun p1 => ?_
  ·refine At.c 3 ?_ ?_
   ·refine At.b 2 (fun _ e => aL [] (aBA e)) fun r2 => ?_
    apply rt; exact At.jn 5
   ·apply rt; exact At.jn 0
  ·refine At.b 1 (fun _ e => aL [] (aAh e)) fun r3 => ?_
   refine At.b 7 (fun _ e => aL [] (yJ e)) fun r4 => ?_
   refine At.b 8 (fun _ e => aL [] (yJ e)) fun r5 => ?_
   refine At.J 5 1 [2, 4, 10] 1 (fun p6 => ([(11, (k64 p6.1)), (13, (k64 p6.2.1)), (14, (k64 p6.2.2))], [], [])) (fun p6 => ?_) fun p6 => ?_
   ·refine lx ?_; intro x7
    refine lx ?_; intro x8
    refine At.c 9 ?_ ?_
    ·refine At.b 1 (fun _ e => aC1 (aIP e) (fun _ => aCx)) fun r9 => ?_
     apply rt; exact At.jn 15
    ·apply rt; exact At.jn 0
   ·refine lx ?_; intro x10
    refine At.b 7 (fun _ e => aL [] (aBW e)) fun r11 => ?_
    refine At.c 7 ?_ ?_
    ·apply rt; exact At.r 4
    ·refine At.J 0 1 [4] 1 (fun p12 => ([(14, (k64 p12))], [], [])) (fun p12 => ?_) fun p12 => ?_
     ·refine At.c 1 ?_ ?_
      ·apply rt; exact At.jn 3
      ·apply rt; exact At.jn 0
     ·apply rt; exact At.r 6

def pH (N : Nat) (a0 : Int) (a1 : Int) : Option (Int) :=
 cond (a1 == 0) (
  cond (decide (a0 > 0)) (
   some 9223372036854775807) (
   cond (decide (a0 < 0)) (some (-9223372036854775808)) (some 0))) (
  Option.bind (fS N a0 4294967296) fun r1 =>
  Option.bind (oG N r1 a1) fun r2 =>
  Option.bind (rN N r2.1) fun r3 =>
  some r3)

theorem tL {N a0 a1 r} (h : pH N a0 a1 = some r) : FnM Tryz.prog 81 [] [(j64 a0), (j64 a1)] (j64 r) [] := by
 unfold pH at h
 refine At.f cU hT hmo Tryz.func81 rfl h ?_
 refine At.c 3 ?_ ?_
 ·refine At.c 3 ?_ ?_
  ·apply rt; exact At.r 1
  ·refine At.c 3 ?_ ?_
   ·apply rt; exact At.r 1
   ·apply rt; exact At.r 1
 ·refine At.b 1 (fun _ e => aL [] (jT e)) fun r1 => ?_
  refine At.b 1 (fun _ e => aL [] (zK e)) fun r2 => ?_
  refine At.b 9 (fun _ e => aL [] (aBP e)) fun r3 => ?_
  apply rt; exact At.r 1

def iM (N : Nat) (a0 : Int) (a1 : Int) : Option (Int) :=
 Option.bind (jG N a0) fun r1 =>
 Option.bind (jG N a1) fun r2 =>
 Option.bind (pH N r1 r2) fun r3 =>
 some r3

theorem sW {N a0 a1 r} (h : iM N a0 a1 = some r) : FnM Tryz.prog 202 [] [(j64 a0), (.im (j64 a1))] (j64 r) [] := by
 unfold iM at h
 refine At.f cU hT hmo Tryz.func202 rfl h ?_
 refine bi fun r1 hr1 => ?_
 refine bi fun r2 hr2 => ?_
 refine bi fun r3 hr3 => ?_
 refine At.d 1 (dE2 1 (j64 r1) (fun _ => aN (kK hr1)) (dE2 3 (j64 r2) (fun _ => aN (kK hr2)) (dE2 4 (j64 r3) (fun _ => aN (tL hr3)) dE0))) dF0 ?_
 apply rt; exact At.r 0

def aGT : Nat → Bool := imL [2, 3]

def qL (N : Nat) (a0 : (Vector Int 3)) (a1 : Int) : Option (aB) :=
 Option.bind (idx a0.toList 0) fun e1 =>
 Option.bind (iM N e1 a1) fun r2 =>
 Option.bind (idx a0.toList 1) fun e3 =>
 Option.bind (iM N e3 a1) fun r4 =>
 Option.bind (idx a0.toList 2) fun e5 =>
 Option.bind (iM N e5 a1) fun r6 =>
 some (aB.mk r2 r4 r6)

theorem aBl {N a0 a1 r} (h : qL N a0 a1 = some r) : FnM Tryz.prog 136 [] [(eA 3 1 j64 a0), (j64 a1)] (aB.enc r) [] := by
 unfold qL at h
 refine At.f aGT hT hmo Tryz.func136 rfl h ?_
 refine At.o 3 (pX (x := (.fn (.func 202) [] [(.im (j64 a1))])) (by kernel_rfl) (by kernel_rfl)) ?_
 refine bi fun e1 he1 => ?_
 refine bi fun r2 hr2 => ?_
 refine bi fun e3 he3 => ?_
 refine bi fun r4 hr4 => ?_
 refine bi fun e5 he5 => ?_
 refine bi fun r6 hr6 => ?_
 refine At.d 1 (dE1 1 (fun _ => dK hT (N := 3) (k := 1) j64 a0 he1) (dE2 3 (j64 r2) (fun _ => aN (sW hr2)) (dE1 5 (fun _ => dK hT (N := 3) (k := 1) j64 a0 he3) (dE2 7 (j64 r4) (fun _ => aN (sW hr4)) (dE1 9 (fun _ => dK hT (N := 3) (k := 1) j64 a0 he5) (dE2 11 (j64 r6) (fun _ => aN (sW hr6)) dE0)))))) dF0 ?_
 apply rt; exact At.r 0

def aGc : Nat → Bool := imL [1]

def oF (N : Nat) (a0 : aP) : Option (aB) :=
 Option.bind (qL N a0.gA2 65536) fun r1 =>
 some r1

theorem yD {N a0 r} (h : oF N a0 = some r) : FnM Tryz.prog 70 [] [(aP.enc a0)] (aB.enc r) [] := by
 unfold oF at h
 refine At.f aGc hT hmo Tryz.func70 rfl h ?_
 refine At.b 4 (fun _ e => aL [] (aBl e)) fun r1 => ?_
 apply rt; exact At.r 1

def lW (N : Nat) (a0 : (List Int)) : Nat → Int → Int → Option (Int)
 | 0, _, _ => none
 | k + 1, s2, s3 =>
  aR (decide (s3 < ((a0.length : Int)))) fun x4 =>
  cond x4 (
   Option.bind (idx a0 s3) fun e5 =>
   Option.bind (aR (cond (decide (s2 > 0)) (decide (e5 > 0)) false) fun x7 =>
   aR (decide ((I64 (s2 + e5)) < 0)) fun x8 =>
   cond (cond x7 x8 false) (
    some 9223372036854775807) (
    aR (cond (decide (s2 < 0)) (decide (e5 < 0)) false) fun x9 =>
    aR (decide ((I64 (s2 + e5)) ≥ 0)) fun x10 =>
    cond (cond x9 x10 false) (some (-9223372036854775808)) (some (I64 (s2 + e5))))) fun p6 =>
   lW N a0 k p6 (I64 (s3 + 1))) (
   some s2)

def lF (N : Nat) (a0 : (List Int)) : Option (Int) :=
 Option.bind (lW N a0 N 0 0) fun p1 =>
 some p1

theorem tQ {N a0 r} (h : lF N a0 = some r) : FnM Tryz.prog 139 [] [(eL 1 j64 a0)] (j64 r) [] := by
 unfold lF at h
 refine At.f cU hT hmo Tryz.func139 rfl h ?_
 refine At.L 5 [] 0 (fun p1 => ([(3, (j64 p1))], [], [])) (fun p1 J k => ∃ s2 s3, lW N a0 k s2 s3 = some p1 ∧ J [7, 8] 0 [(3, (j64 s2)), (9, (j64 s3))] [] []) N (fun _ h => ⟨_, _, h, jr⟩) (fun p1 k s hI => ?_) fun p1 => ?_
 ·obtain ⟨s2, s3, h, hj⟩ := hI
  cases k with
  | zero => cases h
  | succ k =>
   refine At.jr hj ?_ h
   refine lx ?_; intro x4
   refine At.c 1 ?_ ?_
   ·refine At.b 0 (fun _ e => cA hT j64 e) fun e5 => ?_
    refine At.J 6 2 [7, 8, 9] 0 (fun p6 => ([(6, (j64 p6))], [], [])) (fun p6 => ?_) fun p6 => ?_
    ·refine lx ?_; intro x7
     refine lx ?_; intro x8
     refine At.c 11 ?_ ?_
     ·apply rt; exact At.jn 1
     ·refine lx ?_; intro x9
      refine lx ?_; intro x10
      refine At.c 11 ?_ ?_
      ·apply rt; exact At.jn 1
      ·apply rt; exact At.jn 0
    ·exact fun h => At.k 4 ⟨_, _, h, jr⟩
   ·apply rt; exact At.x 0
 ·apply rt; exact At.r 2

def uG (N : Nat) (a0 : Int) (a1 : Int) : Option (Int) :=
 Option.bind (lF N ([a0, a1])) fun r1 =>
 some r1

theorem aAc {N a0 a1 r} (h : uG N a0 a1 = some r) : FnM Tryz.prog 138 [] [(j64 a0), (j64 a1)] (j64 r) [] := by
 unfold uG at h
 refine At.f cU hT hmo Tryz.func138 rfl h ?_
 refine At.o 3 (cM hT (x := (.sl 1 2 [(j64 a0), (j64 a1)]))) ?_
 refine At.b 0 (fun _ e => aL [] (tQ e)) fun r1 => ?_
 apply rt; exact At.r 1

def aDq : Nat → Bool := imL [3, 4]

def oX (N : Nat) (a0 : aB) (a1 : aB) : Option (aB) :=
 Option.bind (uG N a0.gX a1.gX) fun r1 =>
 Option.bind (uG N a0.gY a1.gY) fun r2 =>
 Option.bind (uG N a0.gZ a1.gZ) fun r3 =>
 some (aB.mk r1 r2 r3)

theorem aDP {N a0 a1 r} (h : oX N a0 a1 = some r) : FnM Tryz.prog 137 [] [(aB.enc a0), (aB.enc a1), (.fn (.func 138) [] [])] (aB.enc r) [] := by
 unfold oX at h
 refine At.f aDq hT hmo Tryz.func137 rfl h ?_
 refine bi fun r1 hr1 => ?_
 refine bi fun r2 hr2 => ?_
 refine bi fun r3 hr3 => ?_
 refine At.d 3 (dE2 5 (j64 r1) (fun _ => aN (aAc hr1)) (dE2 11 (j64 r2) (fun _ => aN (aAc hr2)) (dE2 17 (j64 r3) (fun _ => aN (aAc hr3)) dE0))) dF0 ?_
 apply rt; exact At.r 0

def oB (N : Nat) (a0 : (List aB)) : Nat → aB → Int → Option (aB)
 | 0, _, _ => none
 | k + 1, s2, s3 =>
  aR (decide (s3 < ((a0.length : Int)))) fun x4 =>
  cond x4 (
   Option.bind (idx a0 s3) fun e5 =>
   Option.bind (oX N s2 e5) fun r6 =>
   oB N a0 k r6 (I64 (s3 + 1))) (
   some s2)

def lI (N : Nat) (a0 : (List aB)) : Option (aB) :=
 Option.bind (oB N a0 N (aB.mk 0 0 0) 0) fun p1 =>
 some p1

theorem wA {N a0 r} (h : lI N a0 = some r) : FnM Tryz.prog 71 [] [(eL 3 aB.enc a0)] (aB.enc r) [] := by
 unfold lI at h
 refine At.f cU hT hmo Tryz.func71 rfl h ?_
 refine At.L 5 [2, 3] 2 (fun p1 => ([], [(1, .var (aB.enc p1))], [])) (fun p1 J k => ∃ s2 s3, oB N a0 k s2 s3 = some p1 ∧ J [2, 3, 6, 7] 2 [(8, (j64 s3))] [(1, .var (aB.enc s2))] []) N (fun _ h => ⟨_, _, h, jr⟩) (fun p1 k s hI => ?_) fun p1 => ?_
 ·obtain ⟨s2, s3, h, hj⟩ := hI
  cases k with
  | zero => cases h
  | succ k =>
   refine At.jr hj ?_ h
   refine lx ?_; intro x4
   refine At.c 1 ?_ ?_
   ·refine At.b 0 (fun _ e => cA hT aB.enc e) fun e5 => ?_
    refine At.b 5 (fun _ e => aL [] (aDP e)) fun r6 => ?_
    exact fun h => At.k 3 ⟨_, _, h, jr⟩
   ·apply rt; exact At.x 0
 ·apply rt; exact At.r 2

def qM (N : Nat) (a0 : (List aP)) : Nat → (List aB) → Int → Option ((List aB))
 | 0, _, _ => none
 | k + 1, s2, s3 =>
  aR (decide (s3 < ((a0.length : Int)))) fun x4 =>
  cond x4 (
   Option.bind (Option.bind (idx a0 s3) fun e6 =>
   cond (e6.gA0 == 2) (
    Option.bind (oF N e6) fun r7 =>
    Option.bind (yV 24 s2 (([r7] : List aB))) fun z8 =>
    some ((z8, e6))) (
    some ((s2, e6)))) fun p5 =>
   qM N a0 k p5.1 (I64 (s3 + 1))) (
   some s2)

def yS (N : Nat) (a0 : (List aP)) : Option (aB) :=
 Option.bind (qM N a0 N [] 0) fun p1 =>
 Option.bind (lI N p1) fun r9 =>
 some r9

theorem aIh {N a0 r} (h : yS N a0 = some r) : FnM Tryz.prog 25 [] [(eL 13 aP.enc a0)] (aB.enc r) [] := by
 unfold yS at h
 refine At.f cU hT hmo Tryz.func25 rfl h ?_
 refine At.ownn 5 3 3 ?_
 refine At.L 0 [2] 2 (fun p1 => ([(3, (eO 1 3 aB.enc p1))], [(1, .tail (p1.length * 3))], [])) (fun p1 J k => ∃ s2 s3, qM N a0 k s2 s3 = some p1 ∧ J [2, 6, 7] 2 [(3, (eO 1 3 aB.enc s2)), (8, (j64 s3))] [(1, .tail (s2.length * 3))] []) N (fun _ h => ⟨_, _, h, jr⟩) (fun p1 k s hI => ?_) fun p1 => ?_
 ·obtain ⟨s2, s3, h, hj⟩ := hI
  cases k with
  | zero => cases h
  | succ k =>
   refine At.jr hj ?_ h
   refine lx ?_; intro x4
   refine At.c 1 ?_ ?_
   ·refine At.J 0 2 [2, 6, 7, 8] 2 (fun p5 => ([(3, (eO 1 3 aB.enc p5.1))], [(1, .tail (p5.1.length * 3))], [.var (aP.enc p5.2)])) (fun p5 => ?_) fun p5 => ?_
    ·refine At.b 0 (fun _ e => cA hT aP.enc e) fun e6 => ?_
     refine At.c 6 ?_ ?_
     ·refine At.b 2 (fun _ e => aL [] (yD e)) fun r7 => ?_
      refine At.o 0 (cM hT (x := (.sl 3 1 [(aB.enc r7)]))) ?_
      refine At.b 0 (fun _ e => sB hT aB.enc (id := 1) (k := 3) e) fun z8 => ?_
      apply rt; exact At.jn 1
     ·apply rt; exact At.jn 0
    ·exact fun h => At.k 2 ⟨_, _, h, jr⟩
   ·apply rt; exact At.x 0
 ·refine At.b 1 (fun _ e => aL [] (wA e)) fun r9 => ?_
  apply rt; exact At.r 1

def fT (N : Nat) (a0 : (List (Vector Int 3))) : Option ((List (Vector Int 3))) :=
 Option.bind (yV 24 (([] : List (Vector Int 3))) a0) fun z1 =>
 some z1

theorem xD {N a0 r} (h : fT N a0 = some r) : FnM Tryz.prog 73 [] [(eL 3 (eA 3 1 j64) a0)] (eL 3 (eA 3 1 j64) r) [] := by
 unfold fT at h
 refine At.f cU hT hmo Tryz.func73 rfl h ?_
 refine At.q hT 2 (d := 4) (t := 62) (e := 38) (z := 3) (x := (eL 3 (eA 3 1 j64) a0)) (es := List.map (eA 3 1 j64) a0) rfl ?_ (fun he => ?_)
 ·refine At.o 1 (yN hT (eA 3 1 j64) (k := 3) ([] : List (Vector Int 3)) (by kernel_rfl) (by kernel_rfl)) ?_
  refine At.b 1 (fun _ e => sB hT (eA 3 1 j64) (id := 0) (k := 3) e) fun z1 => ?_
  apply rt; exact At.r 1
 ·have h0 : a0 = [] := List.map_eq_nil_iff.1 he
  subst h0
  change some [] = _ → _
  apply rt; exact At.r 2

def sH (N : Nat) (a0 : aD) : Option (Unit) :=
 some (())

theorem aC9 {N a0 r} (h : sH N a0 = some r) : FnM Tryz.prog 72 [] [(aD.enc a0)] (.fn (.func 140) [] [(.ref 0 [] 0)]) [.var (aD.enc a0)] := by
 unfold sH at h
 refine At.f cU hT hmo Tryz.func72 rfl h ?_
 refine At.o 2 (pX (x := (.fn (.func 140) [] [(.ref 0 [] 0)])) (by kernel_rfl) (by kernel_rfl)) ?_
 apply rt; exact At.r 1

def aB5 : Nat → Bool := imL [1]

def lS (N : Nat) (b2 : (List aD)) (a1 : aD) (a2 : aD) : Option ((List aD)) :=
 Option.bind (yV 32 b2 (([a2] : List aD))) fun z1 =>
 some z1

theorem aBR {N : Nat} {b2 : (List aD)} {a1 : aD} {a2 : aD} {r : (List aD)} (h : lS N b2 a1 a2 = some r) : YldM Tryz.prog (aMn 25 Tryz.f26.body [1, 1, 1, 0, 1, 0]) [en 5 (.ref 0 [] 0)] [.var (eO 2 2 aD.enc b2), .var (aD.enc a1), .tail (b2.length * 2)] [(aD.enc a2)] [.var (eO 2 2 aD.enc r), .var (aD.enc a1), .tail (r.length * 2)] none := by
 unfold lS at h
 refine aKd (lo := 4) (by kernel_rfl) (fun bk rl => At.of aB5 hT hmo h ?_)
 refine At.to 0 ⟨[en 5 (.ref 0 [] 0), en 19 (aD.enc a2)], [.var (eO 2 2 aD.enc b2), .var (aD.enc a1), .tail (b2.length * 2), .loop rl]⟩ ?_
 refine At.mid 2 (fun rl2 => ?_)
 refine At.o 2 (cM hT (x := (.sl 2 1 [(aD.enc a2)]))) ?_
 refine At.b 0 (fun _ e => sB hT aD.enc (id := 2) (k := 2) e) fun z1 => ?_
 apply rt; exact At.rnd 1


def aIV : Nat → Bool := imL [3]

def mA (N : Nat) (a0 : aD) (a1 : Int) (a2 : Int) : Option ((Vector Int 3)) :=
 aR (iA .i64 a2 (I64 (a0.gF - 1))) fun x1 =>
 aR (iA .i64 a1 (I64 (a0.gF - 1))) fun x2 =>
 aR (I64 ((I64 (x1 * a0.gF)) + x2)) fun x3 =>
 Option.bind (idx a0.gO x3) fun e4 =>
 some e4

theorem tD {N a0 a1 a2 r} (h : mA N a0 a1 a2 = some r) : FnM Tryz.prog 203 [] [(aD.enc a0), (j64 a1), (j64 a2)] (eA 3 1 j64 r) [] := by
 unfold mA at h
 refine At.f aIV hT hmo Tryz.func203 rfl h ?_
 refine lx ?_; intro x1
 refine lx ?_; intro x2
 refine lx ?_; intro x3
 refine At.b 18 (fun _ e => cA hT (eA 3 1 j64) e) fun e4 => ?_
 apply rt; exact At.r 2

def aFd : Nat → Bool := imL [1]

def jM (N : Nat) (r12 : (Vector Int 3)) (r14 : (Vector Int 3)) (r16 : (Vector Int 3)) (r19 : (Vector Int 3)) : Nat → (Vector Int 3) → Int → Option ((Vector Int 3))
 | 0, _, _ => none
 | k + 1, s21, s22 =>
  cond (decide (s22 < 3)) (
   Option.bind (eK s22 3) fun _ =>
   Option.bind (r12.toList[s22.toNat]?) fun e24 =>
   Option.bind (eK s22 3) fun _ =>
   Option.bind (r14.toList[s22.toNat]?) fun e26 =>
   Option.bind (eK s22 3) fun _ =>
   Option.bind (r16.toList[s22.toNat]?) fun e28 =>
   aR (I64 ((I64 (e24 + e26)) + e28)) fun x29 =>
   Option.bind (eK s22 3) fun _ =>
   Option.bind (r19.toList[s22.toNat]?) fun e31 =>
   aR (I64 ((I64 (x29 + e31)) + 2)) fun x32 =>
   Option.bind (eK s22 3) fun _ =>
   Option.bind (s21.toList[s22.toNat]?) fun e34 =>
   jM N r12 r14 r16 r19 k (s21.setIfInBounds s22.toNat (I64 (Int.tdiv x32 4))) (I64 (s22 + 1))) (
   some s21)

def lM (N : Nat) (x2 : Int) (x3 : Int) (a0 : aD) : Nat → (List (Vector Int 3)) → Int → Option ((List (Vector Int 3)))
 | 0, _, _ => none
 | k + 1, s5, s6 =>
  aR (decide (s6 < (I64 (x2 * x3)))) fun x7 =>
  cond x7 (
   aR ((I64 (Int.tdiv a0.gF 2))) fun x8 =>
   Option.bind (aDs .i64 s6 x8) fun x9 =>
   aR ((I64 (Int.tdiv a0.gF 2))) fun x10 =>
   Option.bind (aHz .i64 s6 x10) fun x11 =>
   Option.bind (mA N a0 (I64 (2 * x9)) (I64 (2 * x11))) fun r12 =>
   aR (I64 ((I64 (2 * x9)) + 1)) fun x13 =>
   Option.bind (mA N a0 x13 (I64 (2 * x11))) fun r14 =>
   aR (I64 ((I64 (2 * x11)) + 1)) fun x15 =>
   Option.bind (mA N a0 (I64 (2 * x9)) x15) fun r16 =>
   aR (I64 ((I64 (2 * x9)) + 1)) fun x17 =>
   aR (I64 ((I64 (2 * x11)) + 1)) fun x18 =>
   Option.bind (mA N a0 x17 x18) fun r19 =>
   Option.bind (jM N r12 r14 r16 r19 N (#v[0, 0, 0]) 0) fun p20 =>
   Option.bind (yV 24 s5 (([p20] : List (Vector Int 3)))) fun z35 =>
   lM N x2 x3 a0 k z35 (I64 (s6 + 1))) (
   some s5)

def rU (N : Nat) (a0 : aD) : Option (aD) :=
 aR (I64 (Int.tdiv a0.gF 2)) fun x1 =>
 aR ((I64 (Int.tdiv a0.gF 2))) fun x2 =>
 aR ((I64 (Int.tdiv a0.gF 2))) fun x3 =>
 Option.bind (lM N x2 x3 a0 N [] 0) fun p4 =>
 some (aD.mk ((I64 (Int.tdiv a0.gF 2))) p4)

theorem aEY {N a0 r} (h : rU N a0 = some r) : FnM Tryz.prog 141 [] [(aD.enc a0)] (aD.enc r) [] := by
 unfold rU at h
 refine At.f aFd hT hmo Tryz.func141 rfl h ?_
 refine lx ?_; intro x1
 refine lx ?_; intro x2
 refine lx ?_; intro x3
 refine At.ownb 14 1 3 [1] ?_
 refine At.L 0 [2, 3] 3 (fun p4 => ([], [(1, .var (.st 2 [(j64 ((I64 (Int.tdiv a0.gF 2)))), (eO 2 3 (eA 3 1 j64) p4)])), (2, .tail (p4.length * 3))], [])) (fun p4 J k => ∃ s5 s6, lM N x2 x3 a0 k s5 s6 = some p4 ∧ J [1, 2, 3, 21] 3 [(22, (j64 s6))] [(1, .var (.st 2 [(j64 ((I64 (Int.tdiv a0.gF 2)))), (eO 2 3 (eA 3 1 j64) s5)])), (2, .tail (s5.length * 3))] []) N (fun _ h => ⟨_, _, h, jr⟩) (fun p4 k s hI => ?_) fun p4 => ?_
 ·obtain ⟨s5, s6, h, hj⟩ := hI
  cases k with
  | zero => cases h
  | succ k =>
   refine At.jr hj ?_ h
   refine lx ?_; intro x7
   refine At.c 1 ?_ ?_
   ·refine lx ?_; intro x8
    refine bi fun x9 hx9 => ?_
    refine lx ?_; intro x10
    refine bi fun x11 hx11 => ?_
    refine At.d 2 (dE1 3 (fun _ => aEs hT hx9 (by kernel_rfl) (by kernel_rfl)) (dE1 8 (fun _ => aCm hT hx11 (by kernel_rfl) (by kernel_rfl)) dE0)) dF0 ?_
    refine bi fun r12 hr12 => ?_
    refine lx ?_; intro x13
    refine bi fun r14 hr14 => ?_
    refine lx ?_; intro x15
    refine bi fun r16 hr16 => ?_
    refine lx ?_; intro x17
    refine lx ?_; intro x18
    refine bi fun r19 hr19 => ?_
    refine At.d2 0 [false, false, false, false] (dC2 3 (eA 3 1 j64 r12) (fun _ => aN (tD hr12)) (dC2 8 (eA 3 1 j64 r14) (fun _ => aN (tD hr14)) (dC2 13 (eA 3 1 j64 r16) (fun _ => aN (tD hr16)) (dC2 19 (eA 3 1 j64 r19) (fun _ => aN (tD hr19)) dC0)))) (dS1 20 ⟨(.ref 3 [] 0), 3, .var (.arr 3 1 [(j64 0), (j64 0), (j64 0)]), .dead⟩ [[.var (.st 2 [(j64 0), (.v (.slice none 0 0))]), .var (.st 2 [(j64 ((I64 (Int.tdiv a0.gF 2)))), (eO 2 3 (eA 3 1 j64) s5)]), .tail (s5.length * 3), .dead, .dead, .dead, .dead], [.var (.st 2 [(j64 0), (.v (.slice none 0 0))]), .var (.st 2 [(j64 ((I64 (Int.tdiv a0.gF 2)))), (eO 2 3 (eA 3 1 j64) s5)]), .tail (s5.length * 3), .dead, .dead, .dead, .var (.arr 3 1 [(j64 0), (j64 0), (j64 0)])], [.var (.st 2 [(j64 0), (.v (.slice none 0 0))]), .var (.st 2 [(j64 ((I64 (Int.tdiv a0.gF 2)))), (eO 2 3 (eA 3 1 j64) s5)]), .tail (s5.length * 3), .dead, .dead, .var (.arr 3 1 [(j64 0), (j64 0), (j64 0)]), .dead], [.var (.st 2 [(j64 0), (.v (.slice none 0 0))]), .var (.st 2 [(j64 ((I64 (Int.tdiv a0.gF 2)))), (eO 2 3 (eA 3 1 j64) s5)]), .tail (s5.length * 3), .dead, .dead, .var (.arr 3 1 [(j64 0), (j64 0), (j64 0)]), .var (.arr 3 1 [(j64 0), (j64 0), (j64 0)])], [.var (.st 2 [(j64 0), (.v (.slice none 0 0))]), .var (.st 2 [(j64 ((I64 (Int.tdiv a0.gF 2)))), (eO 2 3 (eA 3 1 j64) s5)]), .tail (s5.length * 3), .dead, .var (.arr 3 1 [(j64 0), (j64 0), (j64 0)]), .dead, .dead], [.var (.st 2 [(j64 0), (.v (.slice none 0 0))]), .var (.st 2 [(j64 ((I64 (Int.tdiv a0.gF 2)))), (eO 2 3 (eA 3 1 j64) s5)]), .tail (s5.length * 3), .dead, .var (.arr 3 1 [(j64 0), (j64 0), (j64 0)]), .dead, .var (.arr 3 1 [(j64 0), (j64 0), (j64 0)])], [.var (.st 2 [(j64 0), (.v (.slice none 0 0))]), .var (.st 2 [(j64 ((I64 (Int.tdiv a0.gF 2)))), (eO 2 3 (eA 3 1 j64) s5)]), .tail (s5.length * 3), .dead, .var (.arr 3 1 [(j64 0), (j64 0), (j64 0)]), .var (.arr 3 1 [(j64 0), (j64 0), (j64 0)]), .dead], [.var (.st 2 [(j64 0), (.v (.slice none 0 0))]), .var (.st 2 [(j64 ((I64 (Int.tdiv a0.gF 2)))), (eO 2 3 (eA 3 1 j64) s5)]), .tail (s5.length * 3), .dead, .var (.arr 3 1 [(j64 0), (j64 0), (j64 0)]), .var (.arr 3 1 [(j64 0), (j64 0), (j64 0)]), .var (.arr 3 1 [(j64 0), (j64 0), (j64 0)])]] ⟨aW hT 3 (by kernel_rfl) (by kernel_rfl) (by kernel_rfl), aW hT 3 (by kernel_rfl) (by kernel_rfl) (by kernel_rfl), aW hT 3 (by kernel_rfl) (by kernel_rfl) (by kernel_rfl), aW hT 3 (by kernel_rfl) (by kernel_rfl) (by kernel_rfl), aW hT 3 (by kernel_rfl) (by kernel_rfl) (by kernel_rfl), aW hT 3 (by kernel_rfl) (by kernel_rfl) (by kernel_rfl), aW hT 3 (by kernel_rfl) (by kernel_rfl) (by kernel_rfl), aW hT 3 (by kernel_rfl) (by kernel_rfl) (by kernel_rfl), trivial⟩ (dS1 21 ⟨(.ref 4 [] 0), 4, .var (.arr 3 1 [(j64 0), (j64 0), (j64 0)]), .dead⟩ [[.var (.st 2 [(j64 0), (.v (.slice none 0 0))]), .var (.st 2 [(j64 ((I64 (Int.tdiv a0.gF 2)))), (eO 2 3 (eA 3 1 j64) s5)]), .tail (s5.length * 3), .dead, .dead, .dead, .dead], [.var (.st 2 [(j64 0), (.v (.slice none 0 0))]), .var (.st 2 [(j64 ((I64 (Int.tdiv a0.gF 2)))), (eO 2 3 (eA 3 1 j64) s5)]), .tail (s5.length * 3), .dead, .dead, .dead, .var (.arr 3 1 [(j64 0), (j64 0), (j64 0)])], [.var (.st 2 [(j64 0), (.v (.slice none 0 0))]), .var (.st 2 [(j64 ((I64 (Int.tdiv a0.gF 2)))), (eO 2 3 (eA 3 1 j64) s5)]), .tail (s5.length * 3), .dead, .dead, .var (.arr 3 1 [(j64 0), (j64 0), (j64 0)]), .dead], [.var (.st 2 [(j64 0), (.v (.slice none 0 0))]), .var (.st 2 [(j64 ((I64 (Int.tdiv a0.gF 2)))), (eO 2 3 (eA 3 1 j64) s5)]), .tail (s5.length * 3), .dead, .dead, .var (.arr 3 1 [(j64 0), (j64 0), (j64 0)]), .var (.arr 3 1 [(j64 0), (j64 0), (j64 0)])], [.var (.st 2 [(j64 0), (.v (.slice none 0 0))]), .var (.st 2 [(j64 ((I64 (Int.tdiv a0.gF 2)))), (eO 2 3 (eA 3 1 j64) s5)]), .tail (s5.length * 3), .var (.arr 3 1 [(j64 0), (j64 0), (j64 0)]), .dead, .dead, .dead], [.var (.st 2 [(j64 0), (.v (.slice none 0 0))]), .var (.st 2 [(j64 ((I64 (Int.tdiv a0.gF 2)))), (eO 2 3 (eA 3 1 j64) s5)]), .tail (s5.length * 3), .var (.arr 3 1 [(j64 0), (j64 0), (j64 0)]), .dead, .dead, .var (.arr 3 1 [(j64 0), (j64 0), (j64 0)])], [.var (.st 2 [(j64 0), (.v (.slice none 0 0))]), .var (.st 2 [(j64 ((I64 (Int.tdiv a0.gF 2)))), (eO 2 3 (eA 3 1 j64) s5)]), .tail (s5.length * 3), .var (.arr 3 1 [(j64 0), (j64 0), (j64 0)]), .dead, .var (.arr 3 1 [(j64 0), (j64 0), (j64 0)]), .dead], [.var (.st 2 [(j64 0), (.v (.slice none 0 0))]), .var (.st 2 [(j64 ((I64 (Int.tdiv a0.gF 2)))), (eO 2 3 (eA 3 1 j64) s5)]), .tail (s5.length * 3), .var (.arr 3 1 [(j64 0), (j64 0), (j64 0)]), .dead, .var (.arr 3 1 [(j64 0), (j64 0), (j64 0)]), .var (.arr 3 1 [(j64 0), (j64 0), (j64 0)])]] ⟨aW hT 4 (by kernel_rfl) (by kernel_rfl) (by kernel_rfl), aW hT 4 (by kernel_rfl) (by kernel_rfl) (by kernel_rfl), aW hT 4 (by kernel_rfl) (by kernel_rfl) (by kernel_rfl), aW hT 4 (by kernel_rfl) (by kernel_rfl) (by kernel_rfl), aW hT 4 (by kernel_rfl) (by kernel_rfl) (by kernel_rfl), aW hT 4 (by kernel_rfl) (by kernel_rfl) (by kernel_rfl), aW hT 4 (by kernel_rfl) (by kernel_rfl) (by kernel_rfl), aW hT 4 (by kernel_rfl) (by kernel_rfl) (by kernel_rfl), trivial⟩ (dS1 22 ⟨(.ref 5 [] 0), 5, .var (.arr 3 1 [(j64 0), (j64 0), (j64 0)]), .dead⟩ [[.var (.st 2 [(j64 0), (.v (.slice none 0 0))]), .var (.st 2 [(j64 ((I64 (Int.tdiv a0.gF 2)))), (eO 2 3 (eA 3 1 j64) s5)]), .tail (s5.length * 3), .dead, .dead, .dead, .dead], [.var (.st 2 [(j64 0), (.v (.slice none 0 0))]), .var (.st 2 [(j64 ((I64 (Int.tdiv a0.gF 2)))), (eO 2 3 (eA 3 1 j64) s5)]), .tail (s5.length * 3), .dead, .dead, .dead, .var (.arr 3 1 [(j64 0), (j64 0), (j64 0)])], [.var (.st 2 [(j64 0), (.v (.slice none 0 0))]), .var (.st 2 [(j64 ((I64 (Int.tdiv a0.gF 2)))), (eO 2 3 (eA 3 1 j64) s5)]), .tail (s5.length * 3), .dead, .var (.arr 3 1 [(j64 0), (j64 0), (j64 0)]), .dead, .dead], [.var (.st 2 [(j64 0), (.v (.slice none 0 0))]), .var (.st 2 [(j64 ((I64 (Int.tdiv a0.gF 2)))), (eO 2 3 (eA 3 1 j64) s5)]), .tail (s5.length * 3), .dead, .var (.arr 3 1 [(j64 0), (j64 0), (j64 0)]), .dead, .var (.arr 3 1 [(j64 0), (j64 0), (j64 0)])], [.var (.st 2 [(j64 0), (.v (.slice none 0 0))]), .var (.st 2 [(j64 ((I64 (Int.tdiv a0.gF 2)))), (eO 2 3 (eA 3 1 j64) s5)]), .tail (s5.length * 3), .var (.arr 3 1 [(j64 0), (j64 0), (j64 0)]), .dead, .dead, .dead], [.var (.st 2 [(j64 0), (.v (.slice none 0 0))]), .var (.st 2 [(j64 ((I64 (Int.tdiv a0.gF 2)))), (eO 2 3 (eA 3 1 j64) s5)]), .tail (s5.length * 3), .var (.arr 3 1 [(j64 0), (j64 0), (j64 0)]), .dead, .dead, .var (.arr 3 1 [(j64 0), (j64 0), (j64 0)])], [.var (.st 2 [(j64 0), (.v (.slice none 0 0))]), .var (.st 2 [(j64 ((I64 (Int.tdiv a0.gF 2)))), (eO 2 3 (eA 3 1 j64) s5)]), .tail (s5.length * 3), .var (.arr 3 1 [(j64 0), (j64 0), (j64 0)]), .var (.arr 3 1 [(j64 0), (j64 0), (j64 0)]), .dead, .dead], [.var (.st 2 [(j64 0), (.v (.slice none 0 0))]), .var (.st 2 [(j64 ((I64 (Int.tdiv a0.gF 2)))), (eO 2 3 (eA 3 1 j64) s5)]), .tail (s5.length * 3), .var (.arr 3 1 [(j64 0), (j64 0), (j64 0)]), .var (.arr 3 1 [(j64 0), (j64 0), (j64 0)]), .dead, .var (.arr 3 1 [(j64 0), (j64 0), (j64 0)])]] ⟨aW hT 5 (by kernel_rfl) (by kernel_rfl) (by kernel_rfl), aW hT 5 (by kernel_rfl) (by kernel_rfl) (by kernel_rfl), aW hT 5 (by kernel_rfl) (by kernel_rfl) (by kernel_rfl), aW hT 5 (by kernel_rfl) (by kernel_rfl) (by kernel_rfl), aW hT 5 (by kernel_rfl) (by kernel_rfl) (by kernel_rfl), aW hT 5 (by kernel_rfl) (by kernel_rfl) (by kernel_rfl), aW hT 5 (by kernel_rfl) (by kernel_rfl) (by kernel_rfl), aW hT 5 (by kernel_rfl) (by kernel_rfl) (by kernel_rfl), trivial⟩ (dS1 23 ⟨(.ref 6 [] 0), 6, .var (.arr 3 1 [(j64 0), (j64 0), (j64 0)]), .dead⟩ [[.var (.st 2 [(j64 0), (.v (.slice none 0 0))]), .var (.st 2 [(j64 ((I64 (Int.tdiv a0.gF 2)))), (eO 2 3 (eA 3 1 j64) s5)]), .tail (s5.length * 3), .dead, .dead, .dead, .dead], [.var (.st 2 [(j64 0), (.v (.slice none 0 0))]), .var (.st 2 [(j64 ((I64 (Int.tdiv a0.gF 2)))), (eO 2 3 (eA 3 1 j64) s5)]), .tail (s5.length * 3), .dead, .dead, .var (.arr 3 1 [(j64 0), (j64 0), (j64 0)]), .dead], [.var (.st 2 [(j64 0), (.v (.slice none 0 0))]), .var (.st 2 [(j64 ((I64 (Int.tdiv a0.gF 2)))), (eO 2 3 (eA 3 1 j64) s5)]), .tail (s5.length * 3), .dead, .var (.arr 3 1 [(j64 0), (j64 0), (j64 0)]), .dead, .dead], [.var (.st 2 [(j64 0), (.v (.slice none 0 0))]), .var (.st 2 [(j64 ((I64 (Int.tdiv a0.gF 2)))), (eO 2 3 (eA 3 1 j64) s5)]), .tail (s5.length * 3), .dead, .var (.arr 3 1 [(j64 0), (j64 0), (j64 0)]), .var (.arr 3 1 [(j64 0), (j64 0), (j64 0)]), .dead], [.var (.st 2 [(j64 0), (.v (.slice none 0 0))]), .var (.st 2 [(j64 ((I64 (Int.tdiv a0.gF 2)))), (eO 2 3 (eA 3 1 j64) s5)]), .tail (s5.length * 3), .var (.arr 3 1 [(j64 0), (j64 0), (j64 0)]), .dead, .dead, .dead], [.var (.st 2 [(j64 0), (.v (.slice none 0 0))]), .var (.st 2 [(j64 ((I64 (Int.tdiv a0.gF 2)))), (eO 2 3 (eA 3 1 j64) s5)]), .tail (s5.length * 3), .var (.arr 3 1 [(j64 0), (j64 0), (j64 0)]), .dead, .var (.arr 3 1 [(j64 0), (j64 0), (j64 0)]), .dead], [.var (.st 2 [(j64 0), (.v (.slice none 0 0))]), .var (.st 2 [(j64 ((I64 (Int.tdiv a0.gF 2)))), (eO 2 3 (eA 3 1 j64) s5)]), .tail (s5.length * 3), .var (.arr 3 1 [(j64 0), (j64 0), (j64 0)]), .var (.arr 3 1 [(j64 0), (j64 0), (j64 0)]), .dead, .dead], [.var (.st 2 [(j64 0), (.v (.slice none 0 0))]), .var (.st 2 [(j64 ((I64 (Int.tdiv a0.gF 2)))), (eO 2 3 (eA 3 1 j64) s5)]), .tail (s5.length * 3), .var (.arr 3 1 [(j64 0), (j64 0), (j64 0)]), .var (.arr 3 1 [(j64 0), (j64 0), (j64 0)]), .var (.arr 3 1 [(j64 0), (j64 0), (j64 0)]), .dead]] ⟨aW hT 6 (by kernel_rfl) (by kernel_rfl) (by kernel_rfl), aW hT 6 (by kernel_rfl) (by kernel_rfl) (by kernel_rfl), aW hT 6 (by kernel_rfl) (by kernel_rfl) (by kernel_rfl), aW hT 6 (by kernel_rfl) (by kernel_rfl) (by kernel_rfl), aW hT 6 (by kernel_rfl) (by kernel_rfl) (by kernel_rfl), aW hT 6 (by kernel_rfl) (by kernel_rfl) (by kernel_rfl), aW hT 6 (by kernel_rfl) (by kernel_rfl) (by kernel_rfl), aW hT 6 (by kernel_rfl) (by kernel_rfl) (by kernel_rfl), trivial⟩ dS0)))) ?_
    refine At.L 2 [1, 2, 3, 11, 21, 22] 8 (fun p20 => ([], [(7, .var (eA 3 1 j64 p20))], [])) (fun p20 J k => ∃ s21 s22, jM N r12 r14 r16 r19 k s21 s22 = some p20 ∧ J [1, 2, 3, 7, 8, 9, 10, 11, 21, 22] 8 [(55, (j64 s22))] [(7, .var (eA 3 1 j64 s21))] []) N (fun _ h => ⟨_, _, h, jr⟩) (fun p20 k s hI => ?_) fun p20 => ?_
    ·obtain ⟨s21, s22, h, hj⟩ := hI
     cases k with
     | zero => cases h
     | succ k =>
      refine At.jr hj ?_ h
      refine At.c 1 ?_ ?_
      ·refine bi fun u23 hu23 => ?_
       refine bi fun e24 he24 => ?_
       refine bi fun u25 hu25 => ?_
       refine bi fun e26 he26 => ?_
       refine bi fun u27 hu27 => ?_
       refine bi fun e28 he28 => ?_
       refine lx ?_; intro x29
       refine bi fun u30 hu30 => ?_
       refine bi fun e31 he31 => ?_
       refine lx ?_; intro x32
       refine bi fun u33 hu33 => ?_
       refine bi fun e34 he34 => ?_
       refine At.d 2 (dE1 2 (fun _ => bD hT (k := 1) 3 [] 0 hu23) (dEL hT 3 (j64 e24) j64 0 he24 (dE1 5 (fun _ => bD hT (k := 1) 4 [] 0 hu25) (dEL hT 6 (j64 e26) j64 0 he26 (dE1 9 (fun _ => bD hT (k := 1) 5 [] 0 hu27) (dEL hT 10 (j64 e28) j64 0 he28 (dE1 13 (fun _ => bD hT (k := 1) 6 [] 0 hu30) (dEL hT 14 (j64 e31) j64 0 he31 (dE1 18 (fun _ => bD hT (k := 1) 7 [] 0 hu33) dE0))))))))) (dF 19 (.v (.bool false)) [(7, .var (eA 3 1 j64 (s21.setIfInBounds s22.toNat (I64 (Int.tdiv x32 4)))))] [] (bO (nB hT j64 0 s21 he34 (I64 (Int.tdiv x32 4)) (by kernel_rfl) (by kernel_rfl) (H' := [.var (.st 2 [(j64 0), (.v (.slice none 0 0))]), .var (.st 2 [(j64 ((I64 (Int.tdiv a0.gF 2)))), (eO 2 3 (eA 3 1 j64) s5)]), .tail (s5.length * 3), .var (eA 3 1 j64 r12), .var (eA 3 1 j64 r14), .var (eA 3 1 j64 r16), .var (eA 3 1 j64 r19), .var (eA 3 1 j64 (s21.setIfInBounds s22.toNat (I64 (Int.tdiv x32 4))))]))) dF0) ?_
       exact fun h => At.k 2 ⟨_, _, h, jr⟩
      ·apply rt; exact At.x 0
    ·refine At.o 3 (cM hT (x := (.sl 3 1 [(eA 3 1 j64 p20)]))) ?_
     refine At.b 0 (fun _ e => sB hT (eA 3 1 j64) (id := 2) (k := 3) e) fun z35 => ?_
     exact fun h => At.k 4 ⟨_, _, h, jr⟩
   ·apply rt; exact At.x 0
 ·apply rt; exact At.r 2

def bT (N : Nat)  : Nat → (List aD) → aD → Option ((List aD) × aD)
 | 0, _, _ => none
 | k + 1, s2, s3 =>
  Option.bind (lS N s2 s3 s3) fun r4 =>
  cond (decide (s3.gF > 1)) (
   Option.bind (rU N s3) fun r5 =>
   bT N k r4 r5) (
   some ((r4, s3)))

def dM (N : Nat) (b2 : (List aD)) (a1 : aD) : Option ((List aD) × aD) :=
 Option.bind (bT N N b2 a1) fun p1 =>
 some ((p1.1, p1.2))

theorem qA {N : Nat} {b2 : (List aD)} {a1 : aD} {r : (List aD) × aD} (h : dM N b2 a1 = some r) : ItM Tryz.prog 140 (aMn 25 Tryz.f26.body [1, 1, 1, 0, 1, 0]) [en 5 (.ref 0 [] 0)] [.var (eO 2 2 aD.enc b2), .var (aD.enc a1), .tail (b2.length * 2)] [(.yld 3), (.ref 1 [] 0)] (.tup []) [.var (eO 2 2 aD.enc r.1), .var (aD.enc r.2), .tail (r.1.length * 2)] none := by
 unfold dM at h
 refine aLy (m := 13) (lo := 4) (rs := []) hT Tryz.func140 rfl (by kernel_rfl) rfl (fun fn tmps D hsz => At.of cU hT hmo h ?_)
 refine At.L 0 [] 4 (fun p1 => ([], [(0, .var (eO 2 2 aD.enc p1.1)), (1, .var (aD.enc p1.2)), (2, .tail (p1.1.length * 2))], [])) (fun p1 J k => ∃ s2 s3, bT N k s2 s3 = some p1 ∧ J [0, 1] 4 [] [(0, .var (eO 2 2 aD.enc s2)), (1, .var (aD.enc s3)), (2, .tail (s2.length * 2))] []) N (fun _ h => ⟨_, _, h, jr⟩) (fun p1 k s hI => ?_) fun p1 => ?_
 ·obtain ⟨s2, s3, h, hj⟩ := hI
  cases k with
  | zero => cases h
  | succ k =>
   refine At.jr hj ?_ h
   refine At.b 2 (fun _ e => aPG (aBR e) (fn := fn) (D := D) hsz rfl (List.mem_singleton.2 rfl) (by kernel_rfl) (by kernel_rfl)) fun r4 => ?_
   refine At.g [6] 5 ?_
   refine At.c 0 ?_ ?_
   ·refine At.b 1 (fun _ e => aL [] (aEY e)) fun r5 => ?_
    exact fun h => At.k 1 ⟨_, _, h, jr⟩
   ·apply rt; exact At.x 0
 ·apply rt; exact At.z 0

theorem pP : uX Tryz.prog 140 := yH (show aAQ Tryz.prog 140 = true by kernel_rfl)

def aDy : Nat → Bool := imL [1]

def oV (N : Nat) (a0 : aD) : Option ((List aD) × Int) :=
 Option.bind (iJ N a0) fun r1 =>
 cond (r1 != 0) (
  some (([], r1))) (
  Option.bind (fT N a0.gO) fun r2 =>
  Option.bind (sH N (aD.mk a0.gF r2)) fun r3 =>
  Option.bind (dM N [] ((aD.mk a0.gF r2))) fun r4 =>
  some ((r4.1, 0)))

theorem aDF {N a0 r} (h : oV N a0 = some r) : FnM Tryz.prog 26 [] [(aD.enc a0)] (.tup [(eL 2 aD.enc r.1), (j64 r.2)]) [] := by
 unfold oV at h
 refine At.fR aDy hT hmo Tryz.func26 rfl h ?_
 refine At.b 4 (fun _ e => aL [] (sD e)) fun r1 => ?_
 refine At.c 3 ?_ ?_
 ·apply rt; exact At.r 3
 ·refine bi fun r2 hr2 => ?_
  refine bi fun r3 hr3 => ?_
  refine At.d 1 (dE2 4 (eL 3 (eA 3 1 j64) r2) (fun _ => aN (xD hr2)) dE0) (dF 6 (.fn (.func 140) [] [(.ref 1 [] 0)]) [] [.var (aD.enc ((aD.mk a0.gF r2)))] (bO (aL [] (aC9 hr3))) dF0) ?_
  refine At.ownb 0 0 2 [] ?_
  refine bi fun r4 hr4 => ?_
  refine At.rg 0 (qA hr4) pP (.tmp 18) [0, 1, 2] ⟨[en 5 (.ref 0 [] 0)], [.var (eO 2 2 aD.enc r4.1), .var (aD.enc r4.2), .tail (r4.1.length * 2)]⟩ [(.ref 1 [] 0)] ?_
  apply rt; exact At.r 3

def rF (N : Nat) (a0 : (List aG)) (a1 : Int) : Option (Sum (Int) ((List aG) × Int)) :=
 aR (cond (decide (a1 < 0)) true (decide (a1 > 4096))) fun x1 =>
 cond x1 (
  some (Sum.inl 2)) (
  aR (decide (((a0.length : Int)) > a1)) fun x2 =>
  cond x2 (
   some (Sum.inl 15)) (
   Option.bind (mkO 152 a1) fun _ =>
   Option.bind (cpD (List.replicate a1.toNat (aG.mk (#v[aC.mk 0 0 0, aC.mk 0 0 0, aC.mk 0 0 0]) (#v[#v[0, 0], #v[0, 0], #v[0, 0]]) 0 0 0 0 : aG)) a0 a1.toNat) fun v4 =>
   Option.bind (aAL v4 a1.toNat) fun _ =>
   some (Sum.inr ((v4, 0)))))

theorem aCn {N a0 a1 r} (h : rF N a0 a1 = some r) : FnM Tryz.prog 28 [] [(eL 19 aG.enc a0), (j64 a1)] (aEQ r (fun r => (.tup [(.v (.pointer none)), (j64 r)])) (fun r => (.tup [(.ref 1 [] 0), (j64 r.2)]))) (aEQ r (fun r => []) (fun r => [.dead, .var (.st 3 [(.st 1 [(j64 0)]), (eB true), (eL 19 aG.enc r.1)])])) := by
 unfold rF at h
 refine At.f cU hT hmo Tryz.func28 rfl h ?_
 refine lx ?_; intro x1
 refine At.c 9 ?_ ?_
 ·apply rt; exact At.r 2
 ·refine lx ?_; intro x2
  refine At.c 5 ?_ ?_
  ·apply rt; exact At.r 2
  ·refine At.b 1 (fun _ e => aQi hT aG.enc ((aG.mk (#v[aC.mk 0 0 0, aC.mk 0 0 0, aC.mk 0 0 0]) (#v[#v[0, 0], #v[0, 0], #v[0, 0]]) 0 0 0 0 : aG)) (k := 19) (kd := .st [(0, 57), (9, 59), (15, 3), (16, 3), (17, 3), (18, 5)]) e (by kernel_rfl) (by kernel_rfl) rfl) fun u3 => ?_
   refine At.b 8 (fun v4 e => aNy hT aG.enc (id := 0) (k := 19) (N := a1.toNat * 19) (H' := [.var (.arr (a1.toNat * 19) 19 (List.map aG.enc v4)), .var (.st 3 [(.st 1 [(j64 0)]), (eB true), (.bsl 0 [] 0 19 0 a1.toNat)])]) e (by kernel_rfl) (by kernel_rfl) (by kernel_rfl)) fun v4 => ?_
   refine bi fun u5 hu5 => ?_
   refine At.fz 3 0 19 a1.toNat _ (List.map aG.enc v4) (List.length_map _) (lenM aG.enc hu5) ?_
   apply rt; exact At.r 0

theorem aE4 {N a0 a1 r} (h : rF N a0 a1 = some (Sum.inl r)) : FnM Tryz.prog 28 [] [(eL 19 aG.enc a0), (j64 a1)] (.tup [(.v (.pointer none)), (j64 r)]) [] := aCn h

theorem aFq {N a0 a1 r} (h : rF N a0 a1 = some (Sum.inr r)) : FnM Tryz.prog 28 [] [(eL 19 aG.enc a0), (j64 a1)] (.tup [(.ref 1 [] 0), (j64 r.2)]) [.dead, .var (.st 3 [(.st 1 [(j64 0)]), (eB true), (eL 19 aG.enc r.1)])] := aCn h

def oZ (N : Nat) (a0 : aG) : Nat → aC → aC → Int → Option (aC × aC)
 | 0, _, _, _ => none
 | k + 1, s2, s3, s4 =>
  aR (decide (s4 < ((3 : Int)))) fun x5 =>
  cond x5 (
   Option.bind (eK s4 3) fun _ =>
   Option.bind (a0.gP.toList[s4.toNat]?) fun e7 =>
   Option.bind (cond (s4 == 0) (some ((e7, e7))) (some ((s2, s3)))) fun p8 =>
   oZ N a0 k (aC.mk (jC p8.1.gX e7.gX) (jC p8.1.gY e7.gY) (jC p8.1.gZ e7.gZ)) (aC.mk (iN p8.2.gX e7.gX) (iN p8.2.gY e7.gY) (iN p8.2.gZ e7.gZ)) (I64 (s4 + 1))) (
   some ((s2, s3)))

def wL (N : Nat) (a0 : aG) : Option (aC × aC) :=
 Option.bind (oZ N a0 N (aC.mk 0 0 0) (aC.mk 0 0 0) 0) fun p1 =>
 some ((p1.1, p1.2))

theorem aH5 {N a0 r} (h : wL N a0 = some r) : FnM Tryz.prog 142 [.var (aG.enc a0)] [(.bsl 0 [0] 0 3 0 3)] (.tup [(aC.enc r.1), (aC.enc r.2)]) [.var (aG.enc a0)] := by
 unfold wL at h
 refine At.f cU hT hmo Tryz.func142 rfl h ?_
 refine At.L 5 [2, 3] 3 (fun p1 => ([], [(1, .var (aC.enc p1.1)), (2, .var (aC.enc p1.2))], [])) (fun p1 J k => ∃ s2 s3 s4, oZ N a0 k s2 s3 s4 = some p1 ∧ J [2, 3, 6, 7] 3 [(8, (j64 s4))] [(1, .var (aC.enc s2)), (2, .var (aC.enc s3))] []) N (fun _ h => ⟨_, _, _, h, jr⟩) (fun p1 k s hI => ?_) fun p1 => ?_
 ·obtain ⟨s2, s3, s4, h, hj⟩ := hI
  cases k with
  | zero => cases h
  | succ k =>
   refine At.jr hj ?_ h
   refine lx ?_; intro x5
   refine At.c 1 ?_ ?_
   ·refine At.b 1 (fun _ e => aPW hT 0 [0] 0 0 3 (k := 3) e (by kernel_rfl) (by kernel_rfl)) fun u6 => ?_
    refine At.b 0 (fun _ e => oR hT aC.enc 1 e) fun e7 => ?_
    refine At.J 3 1 [2, 3, 5, 6, 7, 8] 4 (fun p8 => ([], [(1, .var (aC.enc p8.1)), (2, .var (aC.enc p8.2))], [])) (fun p8 => ?_) fun p8 => ?_
    ·refine At.c 2 ?_ ?_
     ·refine At.d 0 dE0 dF0 ?_
      apply rt; exact At.jn 0
     ·apply rt; exact At.jn 0
    ·exact fun h => At.k 36 ⟨_, _, _, h, jr⟩
   ·apply rt; exact At.x 0
 ·refine At.d 0 dE0 dF0 ?_
  apply rt; exact At.r 0

def rZ (N : Nat) (a0 : (List aC)) : Nat → aC → aC → Int → Option (aC × aC)
 | 0, _, _, _ => none
 | k + 1, s2, s3, s4 =>
  aR (decide (s4 < ((a0.length : Int)))) fun x5 =>
  cond x5 (
   Option.bind (idx a0 s4) fun e6 =>
   Option.bind (cond (s4 == 0) (some ((e6, e6))) (some ((s2, s3)))) fun p7 =>
   rZ N a0 k (aC.mk (jC p7.1.gX e6.gX) (jC p7.1.gY e6.gY) (jC p7.1.gZ e6.gZ)) (aC.mk (iN p7.2.gX e6.gX) (iN p7.2.gY e6.gY) (iN p7.2.gZ e6.gZ)) (I64 (s4 + 1))) (
   some ((s2, s3)))

def mJ (N : Nat) (a0 : (List aC)) : Option (aC × aC) :=
 Option.bind (rZ N a0 N (aC.mk 0 0 0) (aC.mk 0 0 0) 0) fun p1 =>
 some ((p1.1, p1.2))

theorem rR {N a0 r} (h : mJ N a0 = some r) : FnM Tryz.prog 142 [] [(eL 3 aC.enc a0)] (.tup [(aC.enc r.1), (aC.enc r.2)]) [] := by
 unfold mJ at h
 refine At.f cU hT hmo Tryz.func142 rfl h ?_
 refine At.L 5 [2, 3] 2 (fun p1 => ([], [(0, .var (aC.enc p1.1)), (1, .var (aC.enc p1.2))], [])) (fun p1 J k => ∃ s2 s3 s4, rZ N a0 k s2 s3 s4 = some p1 ∧ J [2, 3, 6, 7] 2 [(8, (j64 s4))] [(0, .var (aC.enc s2)), (1, .var (aC.enc s3))] []) N (fun _ h => ⟨_, _, _, h, jr⟩) (fun p1 k s hI => ?_) fun p1 => ?_
 ·obtain ⟨s2, s3, s4, h, hj⟩ := hI
  cases k with
  | zero => cases h
  | succ k =>
   refine At.jr hj ?_ h
   refine lx ?_; intro x5
   refine At.c 1 ?_ ?_
   ·refine At.b 1 (fun _ e => cA hT aC.enc e) fun e6 => ?_
    refine At.J 4 1 [2, 3, 5, 6, 7, 8] 3 (fun p7 => ([], [(0, .var (aC.enc p7.1)), (1, .var (aC.enc p7.2))], [])) (fun p7 => ?_) fun p7 => ?_
    ·refine At.c 2 ?_ ?_
     ·refine At.d 0 dE0 dF0 ?_
      apply rt; exact At.jn 0
     ·apply rt; exact At.jn 0
    ·exact fun h => At.k 36 ⟨_, _, _, h, jr⟩
   ·apply rt; exact At.x 0
 ·refine At.d 0 dE0 dF0 ?_
  apply rt; exact At.r 0

def nK (N : Nat) (a3 : Nat) (b0 : (List Int)) (a2 : Nat) (a1 : (List aG)) : Nat → aC → aC → Int → Option (aC × aC)
 | 0, _, _, _ => none
 | k + 1, s2, s3, s4 =>
  aR (decide (s4 < ((a3 : Int)))) fun x5 =>
  cond x5 (
   Option.bind (Option.bind (wV b0.length a2 a3 s4) fun _ =>
   Option.bind (b0[(xQ a2 s4.toNat)]?) fun e8 =>
   Option.bind (idx a1 e8) fun e9 =>
   Option.bind (wG e9.gP.toList 0 3) fun s10 =>
   Option.bind (mJ N s10) fun r11 =>
   cond (s4 == 0) (
    some ((r11.1, r11.2, r11.1, r11.2))) (
    Option.bind (mJ N ([s2, r11.1])) fun r12 =>
    Option.bind (mJ N ([s3, r11.2])) fun r13 =>
    some ((r12.1, r13.2, r11.1, r11.2)))) fun p6 =>
   nK N a3 b0 a2 a1 k p6.1 p6.2.1 (I64 (s4 + 1))) (
   some ((s2, s3)))

def uN (N : Nat) (b0 : (List Int)) (a1 : (List aG)) (a2 : Nat) (a3 : Nat) : Option (aC × aC) :=
 Option.bind (nK N a3 b0 a2 a1 N (aC.mk 0 0 0) (aC.mk 0 0 0) 0) fun p1 =>
 some ((p1.1, p1.2))

theorem aGA {N b0 a1 a2 a3 r} (h : uN N b0 a1 a2 a3 = some r) : FnM Tryz.prog 143 [.gro 1 (List.map j64 b0)] [(eL 19 aG.enc a1), (.gro 0 1 b0.length (.sub a2 a3))] (.tup [(aC.enc r.1), (aC.enc r.2)]) [.gro 1 (List.map j64 b0)] := by
 unfold uN at h
 refine At.f cU hT hmo Tryz.func143 rfl h ?_
 refine At.L 5 [4, 5] 3 (fun p1 => ([], [(1, .var (aC.enc p1.1)), (2, .var (aC.enc p1.2))], [])) (fun p1 J k => ∃ s2 s3 s4, nK N a3 b0 a2 a1 k s2 s3 s4 = some p1 ∧ J [0, 4, 5, 10, 11] 3 [(12, (j64 s4))] [(1, .var (aC.enc s2)), (2, .var (aC.enc s3))] []) N (fun _ h => ⟨_, _, _, h, jr⟩) (fun p1 k s hI => ?_) fun p1 => ?_
 ·obtain ⟨s2, s3, s4, h, hj⟩ := hI
  cases k with
  | zero => cases h
  | succ k =>
   refine At.jr hj ?_ h
   refine lx ?_; intro x5
   refine At.c 1 ?_ ?_
   ·refine At.J 0 2 [0, 4, 5, 10, 11, 12] 3 (fun p6 => ([], [(1, .var (aC.enc p6.1)), (2, .var (aC.enc p6.2.1))], [.var (aC.enc p6.2.2.1), .var (aC.enc p6.2.2.2)])) (fun p6 => ?_) fun p6 => ?_
    ·refine At.b 1 (fun _ e => jK hT (id := 0) (k := 1) e (by kernel_rfl) (by kernel_rfl)) fun u7 => ?_
     refine At.b 0 (fun _ e => nV hT j64 [] e rfl (by kernel_rfl) (by kernel_rfl)) fun e8 => ?_
     refine At.b 4 (fun _ e => cA hT aG.enc e) fun e9 => ?_
     refine At.b 1 (fun _ e => aAY hT (N := 9) (k := 3) aC.enc e9.gP e) fun s10 => ?_
     refine At.b 0 (fun _ e => aL [] (rR e)) fun r11 => ?_
     refine At.c 9 ?_ ?_
     ·refine At.d 0 dE0 dF0 ?_
      apply rt; exact At.jn 0
     ·refine At.o 2 (cM hT (x := (.sl 3 2 [(aC.enc s2), (aC.enc r11.1)]))) ?_
      refine At.b 0 (fun _ e => aL [] (rR e)) fun r12 => ?_
      refine At.o 6 (cM hT (x := (.sl 3 2 [(aC.enc s3), (aC.enc r11.2)]))) ?_
      refine At.b 0 (fun _ e => aL [] (rR e)) fun r13 => ?_
      apply rt; exact At.jn 4
    ·exact fun h => At.k 2 ⟨_, _, _, h, jr⟩
   ·apply rt; exact At.x 0
 ·refine At.d 0 dE0 dF0 ?_
  apply rt; exact At.r 0

def aG7 : Nat → Bool := imL [1]

def iI (N : Nat) (a0 : aG) : Option (aC) :=
 Option.bind (wG a0.gP.toList 0 3) fun s1 =>
 Option.bind (mJ N s1) fun r2 =>
 aR (I64 (r2.1.gX + r2.2.gX)) fun x3 =>
 aR (I64 (r2.1.gY + r2.2.gY)) fun x4 =>
 aR (I64 (r2.1.gZ + r2.2.gZ)) fun x5 =>
 some (aC.mk ((I64 (r2.1.gX + r2.2.gX))) ((I64 (r2.1.gY + r2.2.gY))) ((I64 (r2.1.gZ + r2.2.gZ))))

theorem tE {N a0 r} (h : iI N a0 = some r) : FnM Tryz.prog 204 [] [(aG.enc a0)] (aC.enc r) [] := by
 unfold iI at h
 refine At.f aG7 hT hmo Tryz.func204 rfl h ?_
 refine At.b 3 (fun _ e => aAY hT (N := 9) (k := 3) aC.enc a0.gP e) fun s1 => ?_
 refine At.b 0 (fun _ e => aL [] (rR e)) fun r2 => ?_
 refine lx ?_; intro x3
 refine lx ?_; intro x4
 refine lx ?_; intro x5
 apply rt; exact At.r 24

def aJ3 : Nat → Bool := imL [2]

def kF (N : Nat) (a0 : aC) (a1 : Int) : Option (Int) :=
 Option.bind (idx (#v[a0.gX, a0.gY, a0.gZ]).toList a1) fun e1 =>
 some e1

theorem mE {N a0 a1 r} (h : kF N a0 a1 = some r) : FnM Tryz.prog 205 [] [(aC.enc a0), (j64 a1)] (j64 r) [] := by
 unfold kF at h
 refine At.f aJ3 hT hmo Tryz.func205 rfl h ?_
 refine At.b 10 (fun _ e => zD hT j64 (#v[a0.gX, a0.gY, a0.gZ]) e (by kernel_rfl) (by kernel_rfl)) fun e1 => ?_
 apply rt; exact At.r 1

def nY (N : Nat) (a0 : Int) (a1 : Int) (a2 : (List aG)) (a3 : Int) : Option (Int) :=
 Option.bind (idx a2 a0) fun e1 =>
 Option.bind (iI N e1) fun r2 =>
 Option.bind (kF N r2 a3) fun r3 =>
 Option.bind (idx a2 a1) fun e4 =>
 Option.bind (iI N e4) fun r5 =>
 Option.bind (kF N r5 a3) fun r6 =>
 some (I64 (r3 - r6))

theorem aCb {N a0 a1 a2 a3 r} (h : nY N a0 a1 a2 a3 = some r) : FnM Tryz.prog 207 [.var (j64 a3)] [(j64 a0), (j64 a1), (.im (eL 19 aG.enc a2)), (.ref 0 [] 0)] (j64 r) [.var (j64 a3)] := by
 unfold nY at h
 refine At.f cU hT hmo Tryz.func207 rfl h ?_
 refine bi fun e1 he1 => ?_
 refine bi fun r2 hr2 => ?_
 refine bi fun r3 hr3 => ?_
 refine bi fun e4 he4 => ?_
 refine bi fun r5 hr5 => ?_
 refine bi fun r6 hr6 => ?_
 refine At.d 1 (dE1 2 (fun _ => cA hT aG.enc he1) (dE2 4 (aC.enc r2) (fun _ => aN (tE hr2)) (dE2 6 (j64 r3) (fun _ => aN (mE hr3)) (dE1 9 (fun _ => cA hT aG.enc he4) (dE2 11 (aC.enc r5) (fun _ => aN (tE hr5)) (dE2 13 (j64 r6) (fun _ => aN (mE hr6)) dE0)))))) dF0 ?_
 apply rt; exact At.r 0

def bJ (N : Nat) (a3 : Int) (a1 : Nat) (a5 : (List aG)) (a6 : Int) : Nat → (List Int) → Nat → Int → Option ((List Int) × Nat)
 | 0, _, _, _ => none
 | k + 1, s6, s7, s8 =>
  Option.bind (cond (decide (s8 > a3)) (
   Option.bind (wV s6.length a1 s7 s8) fun _ =>
   Option.bind (s6[(xQ a1 s8.toNat)]?) fun e11 =>
   Option.bind (wV s6.length a1 s7 (I64 (s8 - 1))) fun _ =>
   Option.bind (s6[(xQ a1 ((I64 (s8 - 1)).toNat))]?) fun e13 =>
   Option.bind (nY N e11 e13 a5 a6) fun r14 =>
   some (decide (r14 < 0))) (
   some false)) fun p9 =>
  cond p9 (
   Option.bind (wV s6.length a1 s7 (I64 (s8 - 1))) fun _ =>
   Option.bind (s6[(xQ a1 ((I64 (s8 - 1)).toNat))]?) fun e16 =>
   Option.bind (wV s6.length a1 s7 s8) fun _ =>
   Option.bind (s6[(xQ a1 s8.toNat)]?) fun e18 =>
   Option.bind (wV s6.length a1 s7 s8) fun _ =>
   Option.bind (aFS s6 ((xQ a1 s8.toNat)) e16) fun z20 =>
   Option.bind (wV s6.length a1 s7 (I64 (s8 - 1))) fun _ =>
   Option.bind (aFS z20 ((xQ a1 ((I64 (s8 - 1)).toNat))) e18) fun z22 =>
   bJ N a3 a1 a5 a6 k z22 s7 (I64 (s8 - 1))) (
   some ((s6, s7)))

def bU (N : Nat) (a4 : Int) (a3 : Int) (a1 : Nat) (a5 : (List aG)) (a6 : Int) : Nat → (List Int) → Nat → Int → Option ((List Int))
 | 0, _, _, _ => none
 | k + 1, s2, s3, s4 =>
  cond (decide (s4 < a4)) (
   Option.bind (bJ N a3 a1 a5 a6 N s2 s3 s4) fun p5 =>
   bU N a4 a3 a1 a5 a6 k p5.1 p5.2 (I64 (s4 + 1))) (
   some s2)

def bF (N : Nat) (b0 : (List Int)) (a1 : Nat) (a2 : Nat) (a3 : Int) (a4 : Int) (a5 : (List aG)) (a6 : Int) : Option ((List Int)) :=
 Option.bind (bU N a4 a3 a1 a5 a6 N b0 a2 (I64 (a3 + 1))) fun p1 =>
 some p1

theorem iH {N b0 a1 a2 a3 a4 a5 a6 r} (h : bF N b0 a1 a2 a3 a4 a5 a6 = some r) : FnM Tryz.prog 265 [.gro 1 (List.map j64 b0), .var (j64 a6)] [(.gro 0 1 b0.length (.sub a1 a2)), (j64 a3), (j64 a4), (.fn (.func 207) [] [(.im (eL 19 aG.enc a5)), (.ref 1 [] 0)])] (.tup []) [.gro 1 (List.map j64 r), .var (j64 a6)] := by
 unfold bF at h
 refine At.f cU hT hmo Tryz.func265 rfl h ?_
 refine At.L 3 [] 2 (fun p1 => ([], [(0, .gro 1 (List.map j64 p1))], [])) (fun p1 J k => ∃ s2 s3 s4, bU N a4 a3 a1 a5 a6 k s2 s3 s4 = some p1 ∧ J [1, 2, 3] 2 [(0, (.gro 0 1 s2.length (.sub a1 s3))), (8, (j64 s4))] [(0, .gro 1 (List.map j64 s2))] []) N (fun _ h => ⟨_, _, _, h, jr⟩) (fun p1 k s hI => ?_) fun p1 => ?_
 ·obtain ⟨s2, s3, s4, h, hj⟩ := hI
  cases k with
  | zero => cases h
  | succ k =>
   refine At.jr hj ?_ h
   refine At.c 3 ?_ ?_
   ·refine At.L 2 [1, 2, 3, 8] 2 (fun p5 => ([(0, (.gro 0 1 p5.1.length (.sub a1 p5.2)))], [(0, .gro 1 (List.map j64 p5.1))], [])) (fun p5 J k => ∃ s6 s7 s8, bJ N a3 a1 a5 a6 k s6 s7 s8 = some p5 ∧ J [1, 2, 3, 8] 2 [(0, (.gro 0 1 s6.length (.sub a1 s7))), (9, (j64 s8))] [(0, .gro 1 (List.map j64 s6))] []) N (fun _ h => ⟨_, _, _, h, jr⟩) (fun p5 k s hI => ?_) fun p5 => ?_
    ·obtain ⟨s6, s7, s8, h, hj⟩ := hI
     cases k with
     | zero => cases h
     | succ k =>
      refine At.jr hj ?_ h
      refine At.J 0 0 [0, 1, 2, 3, 8, 9] 2 (fun p9 => ([(34, (eB p9))], [], [])) (fun p9 => ?_) fun p9 => ?_
      ·refine boI (fun hc3 => ?_) (fun hc3 => ?_)
       ·refine bi fun u10 hu10 => ?_
        refine bi fun e11 he11 => ?_
        refine bi fun u12 hu12 => ?_
        refine bi fun e13 he13 => ?_
        refine bi fun r14 hr14 => ?_
        refine At.d 0 (dE1 3 (fun _ => cT hc3 rfl (cN hT (im := false) (by kernel_rfl))) (dE1 7 (fun _ => jK hT (id := 0) (k := 1) hu10 (by kernel_rfl) (by kernel_rfl)) (dET 8 (j64 e11) [[.gro 1 (List.map j64 s6), .var (j64 a6)]] ⟨bO (nV hT j64 [] he11 rfl (by kernel_rfl) (by kernel_rfl)), trivial⟩ (dE1 12 (fun _ => jK hT (id := 0) (k := 1) hu12 (by kernel_rfl) (by kernel_rfl)) (dET 13 (j64 e13) [[.gro 1 (List.map j64 s6), .var (j64 a6)]] ⟨bO (nV hT j64 [] he13 rfl (by kernel_rfl) (by kernel_rfl)), trivial⟩ dE0))))) (dF 14 (j64 r14) [] [] (bO (aL [1] (aCb hr14))) dF0) ?_
        apply rt; exact At.jn 0
       ·refine At.d 0 (dE1 3 (fun _ => cT hc3 rfl (cN hT (im := false) (by kernel_rfl))) dE0) dF0 ?_
        apply rt; exact At.jn 0
      ·refine At.c 0 ?_ ?_
       ·refine bi fun u15 hu15 => ?_
        refine bi fun e16 he16 => ?_
        refine bi fun u17 hu17 => ?_
        refine bi fun e18 he18 => ?_
        refine bi fun u19 hu19 => ?_
        refine bi fun z20 hz20 => ?_
        refine bi fun u21 hu21 => ?_
        refine bi fun z22 hz22 => ?_
        refine At.d 0 (dE1 8 (fun _ => jK hT (id := 0) (k := 1) hu15 (by kernel_rfl) (by kernel_rfl)) (dET 9 (j64 e16) [[.gro 1 (List.map j64 s6), .var (j64 a6)]] ⟨bO (nV hT j64 [] he16 rfl (by kernel_rfl) (by kernel_rfl)), trivial⟩ (dE1 12 (fun _ => jK hT (id := 0) (k := 1) hu17 (by kernel_rfl) (by kernel_rfl)) (dET 13 (j64 e18) [[.gro 1 (List.map j64 s6), .var (j64 a6)]] ⟨bO (nV hT j64 [] he18 rfl (by kernel_rfl) (by kernel_rfl)), trivial⟩ (dE1 14 (fun _ => jK hT (id := 0) (k := 1) hu19 (by kernel_rfl) (by kernel_rfl)) (dE1 16 (fun _ => jK hT (id := 0) (k := 1) hu21 (by kernel_rfl) (by kernel_rfl)) dE0)))))) (dF 15 (.v (.bool false)) [(0, .gro 1 (List.map j64 z20))] [] (bO (aBh hT j64 (k := 1) e16 hz20 rfl (by kernel_rfl) (fun _ => by kernel_rfl) (by kernel_rfl) (H' := [.gro 1 (List.map j64 z20), .var (j64 a6)]) (by kernel_rfl))) (dF 17 (.v (.bool false)) [(0, .gro 1 (List.map j64 z22))] [] (bO (aBh hT j64 (k := 1) e18 hz22 ((aBG hz20).2.2).symm (by kernel_rfl) (fun _ => by kernel_rfl) (by kernel_rfl) (H' := [.gro 1 (List.map j64 z22), .var (j64 a6)]) (by kernel_rfl))) dF0)) ?_
        refine At.gl 0 [0] [] 0 s6.length z22.length (((aBG hz22).2.2).trans ((aBG hz20).2.2)) ?_
        exact fun h => At.k 3 ⟨_, _, _, h, jr⟩
       ·apply rt; exact At.x 0
    ·exact fun h => At.k 3 ⟨_, _, _, h, jr⟩
   ·apply rt; exact At.x 0
 ·apply rt; exact At.z 0


def bV (N : Nat) (a3 : Int) (a1 : Nat) (a4 : (List aG)) (a5 : Int) : Nat → (List Int) → Nat → Int → Int → Option ((List Int) × Nat × Int)
 | 0, _, _, _, _ => none
 | k + 1, s2, s3, s4, s5 =>
  cond (decide (s5 ≤ a3)) (
   Option.bind (bF N s2 a1 s3 s4 s5 a4 a5) fun r6 =>
   Option.bind (aAL r6 s2.length) fun _ =>
   bV N a3 a1 a4 a5 k r6 s3 s5 (I64 (s5 + 20))) (
   some ((s2, s3, s4)))

def eX (N : Nat) (s11 : Int) (a3 : Int) : Nat → Option (Unit)
 | 0 => none
 | k + 1 =>
  aR (decide ((I64 (2 * s11)) ≤ a3)) fun x13 =>
  cond x13 (none) (some (()))

def cO (N : Nat) (a3 : Int) : Nat → Int → Option (Unit)
 | 0, _ => none
 | k + 1, s11 =>
  cond (decide (s11 < a3)) (
   Option.bind (eX N s11 a3 N ) fun p12 =>
   Option.bind (aR (decide ((I64 (0 + s11)) < a3)) fun x15 =>
   cond x15 (none) (some (()))) fun p14 =>
   cO N a3 k (I64 (s11 * 2))) (
   some (()))

def dS (N : Nat) (b0 : (List Int)) (a1 : Nat) (a2 : Nat) (a3 : Int) (a4 : (List aG)) (a5 : Int) : Option ((List Int)) :=
 Option.bind (bV N a3 a1 a4 a5 N b0 a2 0 20) fun p1 =>
 Option.bind (bF N p1.1 a1 p1.2.1 p1.2.2 a3 a4 a5) fun r8 =>
 Option.bind (aAL r8 p1.1.length) fun _ =>
 Option.bind (cO N a3 N 20) fun p10 =>
 some r8

theorem qX {N b0 a1 a2 a3 a4 a5 r} (h : dS N b0 a1 a2 a3 a4 a5 = some r) : FnM Tryz.prog 249 [.gro 1 (List.map j64 b0), .var (j64 a5)] [(.gro 0 1 b0.length (.sub a1 a2)), (j64 a3), (.fn (.func 207) [] [(.im (eL 19 aG.enc a4)), (.ref 1 [] 0)])] (.tup []) [.gro 1 (List.map j64 r), .var (j64 a5)] := by
 unfold dS at h
 refine At.f cU hT hmo Tryz.func249 rfl h ?_
 refine At.L 4 [1, 2, 6] 2 (fun p1 => ([(0, (.gro 0 1 p1.1.length (.sub a1 p1.2.1))), (7, (j64 p1.2.2))], [(0, .gro 1 (List.map j64 p1.1))], [])) (fun p1 J k => ∃ s2 s3 s4 s5, bV N a3 a1 a4 a5 k s2 s3 s4 s5 = some p1 ∧ J [1, 2, 6] 2 [(0, (.gro 0 1 s2.length (.sub a1 s3))), (7, (j64 s4)), (8, (j64 s5))] [(0, .gro 1 (List.map j64 s2))] []) N (fun _ h => ⟨_, _, _, _, h, jr⟩) (fun p1 k s hI => ?_) fun p1 => ?_
 ·obtain ⟨s2, s3, s4, s5, h, hj⟩ := hI
  cases k with
  | zero => cases h
  | succ k =>
   refine At.jr hj ?_ h
   refine At.c 3 ?_ ?_
   ·refine bi fun r6 hr6 => ?_
    refine bi fun u7 hu7 => ?_
    refine At.o 4 (aL [0, 1] (iH hr6)) ?_
    refine At.gl 0 [0] [] 0 s2.length r6.length (aBE hu7) ?_
    exact fun h => At.k 6 ⟨_, _, _, _, h, jr⟩
   ·apply rt; exact At.x 0
 ·refine bi fun r8 hr8 => ?_
  refine bi fun u9 hu9 => ?_
  refine At.o 4 (aL [0, 1] (iH hr8)) ?_
  refine At.gl 0 [0] [] 0 p1.1.length r8.length (aBE hu9) ?_
  refine At.L 0 [] 2 (fun p10 => ([], [], [])) (fun p10 J k => ∃ s11, cO N a3 k s11 = some p10 ∧ J [0, 1, 2] 2 [(6, (j64 s11))] [] []) N (fun _ h => ⟨_, h, jr⟩) (fun p10 k s hI => ?_) fun p10 => ?_
  ·obtain ⟨s11, h, hj⟩ := hI
   cases k with
   | zero => cases h
   | succ k =>
    refine At.jr hj ?_ h
    refine At.c 3 ?_ ?_
    ·refine At.L 4 [0, 1, 2, 6, 7] 2 (fun p12 => ([], [], [])) (fun p12 J k => eX N s11 a3 k  = some p12 ∧ J [0, 1, 2, 6, 7, 8] 2 [] [] []) N (fun _ h => ⟨h, jr⟩) (fun p12 k s hI => ?_) fun p12 => ?_
     ·obtain ⟨h, hj⟩ := hI
      cases k with
      | zero => cases h
      | succ k =>
       unfold eX at h
       dsimp only at h
       refine At.jr hj ?_ h
       refine lx ?_; intro x13
       refine At.c 3 ?_ ?_
       ·exact nn
       ·apply rt; exact At.x 0
     ·refine At.J 0 1 [0, 1, 2, 6] 2 (fun p14 => ([], [], [])) (fun p14 => ?_) fun p14 => ?_
      ·refine lx ?_; intro x15
       refine At.c 7 ?_ ?_
       ·exact nn
       ·apply rt; exact At.jn 0
      ·exact fun h => At.k 3 ⟨_, h, jr⟩
    ·apply rt; exact At.x 0
  ·apply rt; exact At.z 0

def cE (N : Nat) (b0 : (List Int)) (a1 : Nat) (a2 : Nat) (a3 : (List aG)) (a4 : Int) : Option ((List Int)) :=
 Option.bind (dS N b0 a1 a2 ((a2 : Int)) a3 a4) fun r1 =>
 some r1

theorem oU {N b0 a1 a2 a3 a4 r} (h : cE N b0 a1 a2 a3 a4 = some r) : FnM Tryz.prog 206 [.gro 1 (List.map j64 b0), .var (j64 a4)] [(.gro 0 1 b0.length (.sub a1 a2)), (.fn (.func 207) [] [(.im (eL 19 aG.enc a3)), (.ref 1 [] 0)])] (.tup []) [.gro 1 (List.map j64 r), .var (j64 a4)] := by
 unfold cE at h
 refine At.f cU hT hmo Tryz.func206 rfl h ?_
 refine At.b 4 (fun _ e => aL [0, 1] (qX e)) fun r1 => ?_
 apply rt; exact At.z 0

def uE (N : Nat) (a0 : Int) (a1 : Int) (a2 : Int) : Option (Int) :=
 aR (I64 ((I64 (a0 - a1)) * 8)) fun x1 =>
 Option.bind (aHz .i64 x1 (I64 (a2 - a1))) fun x2 =>
 some (jC x2 7)

theorem aFo {N a0 a1 a2 r} (h : uE N a0 a1 a2 = some r) : FnM Tryz.prog 210 [] [(j64 a0), (j64 a1), (j64 a2)] (j64 r) [] := by
 unfold uE at h
 refine At.f cU hT hmo Tryz.func210 rfl h ?_
 refine lx ?_; intro x1
 refine At.b 8 (fun _ e => aCm hT e (by kernel_rfl) (by kernel_rfl)) fun x2 => ?_
 apply rt; exact At.r 2

def aFv : Nat → Bool := imL [4]

def mQ (N : Nat) (a0 : bA) (a1 : Int) (a2 : aC) (a3 : aC) : Option (bA) :=
 cond (a1 == 0) (
  some a0) (
  Option.bind (cond (decide (a0.gn > 0)) (
   Option.bind (mJ N ([a0.glo, a2])) fun r2 =>
   Option.bind (mJ N ([a0.ghi, a3])) fun r3 =>
   some ((r2.1, r3.2))) (
   some ((a2, a3)))) fun p1 =>
  some (bA.mk (I64 (a0.gn + a1)) p1.1 p1.2))

theorem wS {N a0 a1 a2 a3 r} (h : mQ N a0 a1 a2 a3 = some r) : FnM Tryz.prog 250 [] [(bA.enc a0), (j64 a1), (aC.enc a2), (aC.enc a3)] (bA.enc r) [] := by
 unfold mQ at h
 refine At.f aFv hT hmo Tryz.func250 rfl h ?_
 refine At.c 6 ?_ ?_
 ·apply rt; exact At.r 2
 ·refine At.J 0 1 [1, 4, 6, 7, 8] 3 (fun p1 => ([], [(0, .var (aC.enc p1.1)), (1, .var (aC.enc p1.2))], [])) (fun p1 => ?_) fun p1 => ?_
  ·refine At.c 3 ?_ ?_
   ·refine At.o 3 (cM hT (x := (.sl 3 2 [(aC.enc a0.glo), (aC.enc a2)]))) ?_
    refine At.b 0 (fun _ e => aL [] (rR e)) fun r2 => ?_
    refine At.o 7 (cM hT (x := (.sl 3 2 [(aC.enc a0.ghi), (aC.enc a3)]))) ?_
    refine At.b 0 (fun _ e => aL [] (rR e)) fun r3 => ?_
    apply rt; exact At.jn 4
   ·apply rt; exact At.jn 0
  ·apply rt; exact At.r 8

def aJ9 : Nat → Bool := imL [2, 3]

def aAW (N : Nat) (a0 : aC) (a1 : aC) : Option (Int) :=
 aR (shr .i64 (I64 (a1.gX - a0.gX)) 10) fun x1 =>
 aR (shr .i64 (I64 (a1.gY - a0.gY)) 10) fun x2 =>
 aR (shr .i64 (I64 (a1.gZ - a0.gZ)) 10) fun x3 =>
 aR (I64 ((I64 (x1 + 1)) * (I64 (x2 + 1)))) fun x4 =>
 aR (I64 ((I64 (x2 + 1)) * (I64 (x3 + 1)))) fun x5 =>
 aR (I64 ((I64 (x3 + 1)) * (I64 (x1 + 1)))) fun x6 =>
 aR (I64 ((I64 (x4 + x5)) + x6)) fun x7 =>
 some x7

theorem aIn {N a0 a1 r} (h : aAW N a0 a1 = some r) : FnM Tryz.prog 267 [] [(aC.enc a0), (aC.enc a1)] (j64 r) [] := by
 unfold aAW at h
 refine At.f aJ9 hT hmo Tryz.func267 rfl h ?_
 refine lx ?_; intro x1
 refine lx ?_; intro x2
 refine lx ?_; intro x3
 refine At.d 3 dE0 dF0 ?_
 refine lx ?_; intro x4
 refine lx ?_; intro x5
 refine lx ?_; intro x6
 refine lx ?_; intro x7
 apply rt; exact At.r 12

def aEX : Nat → Bool := imL [1]

def nL (N : Nat) (a0 : bA) : Option (Int) :=
 cond (a0.gn == 0) (
  some 1152921504606846976) (
  Option.bind (aAW N a0.glo a0.ghi) fun r1 =>
  some (I64 (a0.gn * r1)))

theorem aAR {N a0 r} (h : nL N a0 = some r) : FnM Tryz.prog 251 [] [(bA.enc a0)] (j64 r) [] := by
 unfold nL at h
 refine At.f aEX hT hmo Tryz.func251 rfl h ?_
 refine At.c 5 ?_ ?_
 ·apply rt; exact At.r 1
 ·refine bi fun r1 hr1 => ?_
  refine At.d 0 (dE2 6 (j64 r1) (fun _ => aN (aIn hr1)) dE0) dF0 ?_
  apply rt; exact At.r 0

def kH (N : Nat) (a3 : Nat) (b0 : (List Int)) (a2 : Nat) (a1 : (List aG)) (a4 : Int) (a5 : Int) (a6 : Int) : Nat → (Vector bA 8) → Int → Option ((Vector bA 8))
 | 0, _, _ => none
 | k + 1, s2, s3 =>
  aR (decide (s3 < ((a3 : Int)))) fun x4 =>
  cond x4 (
   Option.bind (wV b0.length a2 a3 s3) fun _ =>
   Option.bind (b0[(xQ a2 s3.toNat)]?) fun e6 =>
   Option.bind (idx a1 e6) fun e7 =>
   Option.bind (wG e7.gP.toList 0 3) fun s8 =>
   Option.bind (mJ N s8) fun r9 =>
   Option.bind (idx a1 e6) fun e10 =>
   Option.bind (iI N e10) fun r11 =>
   Option.bind (kF N r11 a4) fun r12 =>
   Option.bind (uE N r12 a5 a6) fun r13 =>
   Option.bind (eK r13 8) fun _ =>
   Option.bind (s2.toList[r13.toNat]?) fun e15 =>
   Option.bind (mQ N e15 1 r9.1 r9.2) fun r16 =>
   Option.bind (eK r13 8) fun _ =>
   Option.bind (s2.toList[r13.toNat]?) fun e18 =>
   kH N a3 b0 a2 a1 a4 a5 a6 k (s2.setIfInBounds r13.toNat r16) (I64 (s3 + 1))) (
   some s2)

def kI (N : Nat) (p1 : (Vector bA 8)) (s22 : Int) : Nat → bA → bA → Int → Option (bA × bA)
 | 0, _, _, _ => none
 | k + 1, s25, s26, s27 =>
  cond (decide (s27 < 8)) (
   Option.bind (Option.bind (idx p1.toList s27) fun e29 =>
   cond (decide (s27 < s22)) (
    Option.bind (mQ N s25 e29.gn e29.glo e29.ghi) fun r30 =>
    some ((r30, s26, e29))) (
    Option.bind (mQ N s26 e29.gn e29.glo e29.ghi) fun r31 =>
    some ((s25, r31, e29)))) fun p28 =>
   kI N p1 s22 k p28.1 p28.2.1 (I64 (s27 + 1))) (
   some ((s25, s26)))

def mO (N : Nat) (p1 : (Vector bA 8)) : Nat → Int → Int → Int → Option (Int)
 | 0, _, _, _ => none
 | k + 1, s20, s21, s22 =>
  cond (decide (s22 < 8)) (
   Option.bind (Option.bind (kI N p1 s22 N (bA.mk 0 (aC.mk 0 0 0) (aC.mk 0 0 0)) (bA.mk 0 (aC.mk 0 0 0) (aC.mk 0 0 0)) 0) fun p24 =>
   Option.bind (nL N p24.1) fun r32 =>
   aR (jC r32 576460752303423488) fun x33 =>
   Option.bind (nL N p24.2) fun r34 =>
   aR (jC r34 576460752303423488) fun x35 =>
   aR (cond (decide (p24.1.gn > 0)) (decide (p24.2.gn > 0)) false) fun x36 =>
   aR (decide ((I64 (x33 + x35)) < s20)) fun x37 =>
   cond (cond x36 x37 false) (
    some ((p24.1, p24.2, I64 (x33 + x35), s22))) (
    some ((p24.1, p24.2, s20, s21)))) fun p23 =>
   mO N p1 k p23.2.2.1 p23.2.2.2 (I64 (s22 + 1))) (
   some s21)

def pZ (N : Nat) (b0 : (List Int)) (a1 : (List aG)) (a2 : Nat) (a3 : Nat) (a4 : Int) (a5 : Int) (a6 : Int) : Option (Int) :=
 Option.bind (kH N a3 b0 a2 a1 a4 a5 a6 N (Vector.replicate 8 (bA.mk 0 (aC.mk 0 0 0) (aC.mk 0 0 0))) 0) fun p1 =>
 Option.bind (mO N p1 N 2305843009213693952 1 1) fun p19 =>
 some p19

theorem aDk {N b0 a1 a2 a3 a4 a5 a6 r} (h : pZ N b0 a1 a2 a3 a4 a5 a6 = some r) : FnM Tryz.prog 208 [.gro 1 (List.map j64 b0)] [(eL 19 aG.enc a1), (.gro 0 1 b0.length (.sub a2 a3)), (j64 a4), (j64 a5), (j64 a6)] (j64 r) [.gro 1 (List.map j64 b0)] := by
 unfold pZ at h
 refine At.f cU hT hmo Tryz.func208 rfl h ?_
 refine At.L 5 [11] 2 (fun p1 => ([], [(1, .var (eA 56 7 bA.enc p1))], [])) (fun p1 J k => ∃ s2 s3, kH N a3 b0 a2 a1 a4 a5 a6 k s2 s3 = some p1 ∧ J [0, 2, 3, 4, 11, 25, 26] 2 [(27, (j64 s3))] [(1, .var (eA 56 7 bA.enc s2))] []) N (fun _ h => ⟨_, _, h, jr⟩) (fun p1 k s hI => ?_) fun p1 => ?_
 ·obtain ⟨s2, s3, h, hj⟩ := hI
  cases k with
  | zero => cases h
  | succ k =>
   refine At.jr hj ?_ h
   refine lx ?_; intro x4
   refine At.c 1 ?_ ?_
   ·refine At.b 0 (fun _ e => jK hT (id := 0) (k := 1) e (by kernel_rfl) (by kernel_rfl)) fun u5 => ?_
    refine At.b 0 (fun _ e => nV hT j64 [] e rfl (by kernel_rfl) (by kernel_rfl)) fun e6 => ?_
    refine At.b 3 (fun _ e => cA hT aG.enc e) fun e7 => ?_
    refine At.b 1 (fun _ e => aAY hT (N := 9) (k := 3) aC.enc e7.gP e) fun s8 => ?_
    refine At.b 0 (fun _ e => aL [] (rR e)) fun r9 => ?_
    refine At.b 9 (fun _ e => cA hT aG.enc e) fun e10 => ?_
    refine At.b 1 (fun _ e => aL [] (tE e)) fun r11 => ?_
    refine At.b 1 (fun _ e => aL [] (mE e)) fun r12 => ?_
    refine At.b 2 (fun _ e => aL [] (aFo e)) fun r13 => ?_
    refine bi fun u14 hu14 => ?_
    refine bi fun e15 he15 => ?_
    refine bi fun r16 hr16 => ?_
    refine bi fun u17 hu17 => ?_
    refine bi fun e18 he18 => ?_
    refine At.d 1 (dE1 2 (fun _ => bD hT (k := 7) 1 [] 0 hu14) (dEL hT 3 (bA.enc e15) bA.enc 0 he15 (dE2 6 (bA.enc r16) (fun _ => aN (wS hr16)) (dE1 7 (fun _ => bD hT (k := 7) 1 [] 0 hu17) dE0)))) (dF 8 (.v (.bool false)) [(1, .var (eA 56 7 bA.enc (s2.setIfInBounds r13.toNat r16)))] [] (bO (nB hT bA.enc 0 s2 he18 r16 (by kernel_rfl) (by kernel_rfl) (H' := [.gro 1 (List.map j64 b0), .var (eA 56 7 bA.enc (s2.setIfInBounds r13.toNat r16)), .var (aC.enc r9.1), .var (aC.enc r9.2)]))) dF0) ?_
    exact fun h => At.k 2 ⟨_, _, h, jr⟩
   ·apply rt; exact At.x 0
 ·refine At.L 3 [] 2 (fun p19 => ([(18, (j64 p19))], [], [])) (fun p19 J k => ∃ s20 s21 s22, mO N p1 k s20 s21 s22 = some p19 ∧ J [11] 2 [(17, (j64 s20)), (18, (j64 s21)), (19, (j64 s22))] [] []) N (fun _ h => ⟨_, _, _, h, jr⟩) (fun p19 k s hI => ?_) fun p19 => ?_
  ·obtain ⟨s20, s21, s22, h, hj⟩ := hI
   cases k with
   | zero => cases h
   | succ k =>
    refine At.jr hj ?_ h
    refine At.c 2 ?_ ?_
    ·refine At.J 0 2 [11, 19] 2 (fun p23 => ([(17, (j64 p23.2.2.1)), (18, (j64 p23.2.2.2))], [], [.var (bA.enc p23.1), .var (bA.enc p23.2.1)])) (fun p23 => ?_) fun p23 => ?_
     ·refine At.L 4 [11, 17, 18, 19, 20, 21] 4 (fun p24 => ([], [(2, .var (bA.enc p24.1)), (3, .var (bA.enc p24.2))], [])) (fun p24 J k => ∃ s25 s26 s27, kI N p1 s22 k s25 s26 s27 = some p24 ∧ J [11, 17, 18, 19, 20, 21, 63] 4 [(64, (j64 s27))] [(2, .var (bA.enc s25)), (3, .var (bA.enc s26))] []) N (fun _ h => ⟨_, _, _, h, jr⟩) (fun p24 k s hI => ?_) fun p24 => ?_
      ·obtain ⟨s25, s26, s27, h, hj⟩ := hI
       cases k with
       | zero => cases h
       | succ k =>
        refine At.jr hj ?_ h
        refine At.c 1 ?_ ?_
        ·refine At.J 0 2 [11, 17, 18, 19, 20, 21, 63, 64] 4 (fun p28 => ([], [(2, .var (bA.enc p28.1)), (3, .var (bA.enc p28.2.1))], [.var (bA.enc p28.2.2)])) (fun p28 => ?_) fun p28 => ?_
         ·refine At.b 1 (fun _ e => zD hT bA.enc p1 e (by kernel_rfl) (by kernel_rfl)) fun e29 => ?_
          refine At.c 6 ?_ ?_
          ·refine At.b 7 (fun _ e => aL [] (wS e)) fun r30 => ?_
           apply rt; exact At.jn 1
          ·refine At.b 7 (fun _ e => aL [] (wS e)) fun r31 => ?_
           apply rt; exact At.jn 1
         ·exact fun h => At.k 2 ⟨_, _, _, h, jr⟩
        ·apply rt; exact At.x 0
      ·refine bi fun r32 hr32 => ?_
       refine lx ?_; intro x33
       refine bi fun r34 hr34 => ?_
       refine lx ?_; intro x35
       refine At.d 0 (dE2 1 (j64 r32) (fun _ => aN (aAR hr32)) (dE2 4 (j64 r34) (fun _ => aN (aAR hr34)) dE0)) dF0 ?_
       refine lx ?_; intro x36
       refine lx ?_; intro x37
       refine At.c 13 ?_ ?_
       ·apply rt; exact At.jn 4
       ·apply rt; exact At.jn 0
     ·exact fun h => At.k 3 ⟨_, _, _, h, jr⟩
    ·apply rt; exact At.x 0
  ·apply rt; exact At.r 2

def fE (N : Nat) (a0 : Int) (a1 : (List aG)) (a2 : Int) (a3 : Int) (a4 : Int) (a5 : Int) : Option (Bool) :=
 Option.bind (idx a1 a0) fun e1 =>
 Option.bind (iI N e1) fun r2 =>
 Option.bind (kF N r2 a5) fun r3 =>
 Option.bind (uE N r3 a2 a3) fun r4 =>
 some (decide (r4 ≥ a4))

theorem oC {N a0 a1 a2 a3 a4 a5 r} (h : fE N a0 a1 a2 a3 a4 a5 = some r) : FnM Tryz.prog 209 [.var (j64 a5)] [(j64 a0), (.im (eL 19 aG.enc a1)), (.ref 0 [] 0), (.im (j64 a2)), (.im (j64 a3)), (.im (j64 a4))] (eB r) [.var (j64 a5)] := by
 unfold fE at h
 refine At.f cU hT hmo Tryz.func209 rfl h ?_
 refine bi fun e1 he1 => ?_
 refine bi fun r2 hr2 => ?_
 refine bi fun r3 hr3 => ?_
 refine bi fun r4 hr4 => ?_
 refine At.d 1 (dE1 2 (fun _ => cA hT aG.enc he1) (dE2 4 (aC.enc r2) (fun _ => aN (tE hr2)) (dE2 6 (j64 r3) (fun _ => aN (mE hr3)) (dE2 9 (j64 r4) (fun _ => aN (aFo hr4)) dE0)))) dF0 ?_
 apply rt; exact At.r 0

def pD (N : Nat) (a0 : Int) (a1 : Int) (a2 : (List aG)) (a3 : Int) (a4 : Int) (a5 : Int) (a6 : Int) : Option (Int) :=
 Option.bind (fE N a0 a2 a3 a4 a5 a6) fun r1 =>
 Option.bind (fE N a1 a2 a3 a4 a5 a6) fun r2 =>
 cond (r1 == r2) (
  some 0) (
  Option.bind (fE N a1 a2 a3 a4 a5 a6) fun r3 =>
  cond r3 (some (-1)) (some 1))

theorem aDQ {N a0 a1 a2 a3 a4 a5 a6 r} (h : pD N a0 a1 a2 a3 a4 a5 a6 = some r) : FnM Tryz.prog 211 [.var (.fn (.func 209) [] [(.im (eL 19 aG.enc a2)), (.ref 1 [] 0), (.im (j64 a3)), (.im (j64 a4)), (.im (j64 a5))]), .var (j64 a6)] [(j64 a0), (j64 a1), (.ref 0 [] 0)] (j64 r) [.var (.fn (.func 209) [] [(.im (eL 19 aG.enc a2)), (.ref 1 [] 0), (.im (j64 a3)), (.im (j64 a4)), (.im (j64 a5))]), .var (j64 a6)] := by
 unfold pD at h
 refine At.f cU hT hmo Tryz.func211 rfl h ?_
 refine bi fun r1 hr1 => ?_
 refine bi fun r2 hr2 => ?_
 refine At.d 1 dE0 (dF 2 (eB r1) [] [] (bO (aL [1] (oC hr1))) (dF 5 (eB r2) [] [] (bO (aL [1] (oC hr2))) dF0)) ?_
 refine At.c 0 ?_ ?_
 ·apply rt; exact At.r 1
 ·refine At.b 2 (fun _ e => aL [1] (oC e)) fun r3 => ?_
  refine At.c 1 ?_ ?_
  ·apply rt; exact At.r 1
  ·apply rt; exact At.r 1

def bM (N : Nat) (a3 : Int) (a1 : Nat) (a5 : (List aG)) (a6 : Int) (a7 : Int) (a8 : Int) (a9 : Int) : Nat → (List Int) → Nat → Int → Option ((List Int) × Nat)
 | 0, _, _, _ => none
 | k + 1, s6, s7, s8 =>
  Option.bind (cond (decide (s8 > a3)) (
   Option.bind (wV s6.length a1 s7 s8) fun _ =>
   Option.bind (s6[(xQ a1 s8.toNat)]?) fun e11 =>
   Option.bind (wV s6.length a1 s7 (I64 (s8 - 1))) fun _ =>
   Option.bind (s6[(xQ a1 ((I64 (s8 - 1)).toNat))]?) fun e13 =>
   Option.bind (pD N e11 e13 a5 a6 a7 a8 a9) fun r14 =>
   some (decide (r14 < 0))) (
   some false)) fun p9 =>
  cond p9 (
   Option.bind (wV s6.length a1 s7 (I64 (s8 - 1))) fun _ =>
   Option.bind (s6[(xQ a1 ((I64 (s8 - 1)).toNat))]?) fun e16 =>
   Option.bind (wV s6.length a1 s7 s8) fun _ =>
   Option.bind (s6[(xQ a1 s8.toNat)]?) fun e18 =>
   Option.bind (wV s6.length a1 s7 s8) fun _ =>
   Option.bind (aFS s6 ((xQ a1 s8.toNat)) e16) fun z20 =>
   Option.bind (wV s6.length a1 s7 (I64 (s8 - 1))) fun _ =>
   Option.bind (aFS z20 ((xQ a1 ((I64 (s8 - 1)).toNat))) e18) fun z22 =>
   bM N a3 a1 a5 a6 a7 a8 a9 k z22 s7 (I64 (s8 - 1))) (
   some ((s6, s7)))

def bW (N : Nat) (a4 : Int) (a3 : Int) (a1 : Nat) (a5 : (List aG)) (a6 : Int) (a7 : Int) (a8 : Int) (a9 : Int) : Nat → (List Int) → Nat → Int → Option ((List Int))
 | 0, _, _, _ => none
 | k + 1, s2, s3, s4 =>
  cond (decide (s4 < a4)) (
   Option.bind (bM N a3 a1 a5 a6 a7 a8 a9 N s2 s3 s4) fun p5 =>
   bW N a4 a3 a1 a5 a6 a7 a8 a9 k p5.1 p5.2 (I64 (s4 + 1))) (
   some s2)

def bG (N : Nat) (b0 : (List Int)) (a1 : Nat) (a2 : Nat) (a3 : Int) (a4 : Int) (a5 : (List aG)) (a6 : Int) (a7 : Int) (a8 : Int) (a9 : Int) : Option ((List Int)) :=
 Option.bind (bW N a4 a3 a1 a5 a6 a7 a8 a9 N b0 a2 (I64 (a3 + 1))) fun p1 =>
 some p1

theorem iK {N b0 a1 a2 a3 a4 a5 a6 a7 a8 a9 r} (h : bG N b0 a1 a2 a3 a4 a5 a6 a7 a8 a9 = some r) : FnM Tryz.prog 265 [.gro 1 (List.map j64 b0), .var (.fn (.func 209) [] [(.im (eL 19 aG.enc a5)), (.ref 2 [] 0), (.im (j64 a6)), (.im (j64 a7)), (.im (j64 a8))]), .var (j64 a9)] [(.gro 0 1 b0.length (.sub a1 a2)), (j64 a3), (j64 a4), (.fn (.func 211) [] [(.ref 1 [] 0)])] (.tup []) [.gro 1 (List.map j64 r), .var (.fn (.func 209) [] [(.im (eL 19 aG.enc a5)), (.ref 2 [] 0), (.im (j64 a6)), (.im (j64 a7)), (.im (j64 a8))]), .var (j64 a9)] := by
 unfold bG at h
 refine At.f cU hT hmo Tryz.func265 rfl h ?_
 refine At.L 3 [] 3 (fun p1 => ([], [(0, .gro 1 (List.map j64 p1))], [])) (fun p1 J k => ∃ s2 s3 s4, bW N a4 a3 a1 a5 a6 a7 a8 a9 k s2 s3 s4 = some p1 ∧ J [1, 2, 3] 3 [(0, (.gro 0 1 s2.length (.sub a1 s3))), (8, (j64 s4))] [(0, .gro 1 (List.map j64 s2))] []) N (fun _ h => ⟨_, _, _, h, jr⟩) (fun p1 k s hI => ?_) fun p1 => ?_
 ·obtain ⟨s2, s3, s4, h, hj⟩ := hI
  cases k with
  | zero => cases h
  | succ k =>
   refine At.jr hj ?_ h
   refine At.c 3 ?_ ?_
   ·refine At.L 2 [1, 2, 3, 8] 3 (fun p5 => ([(0, (.gro 0 1 p5.1.length (.sub a1 p5.2)))], [(0, .gro 1 (List.map j64 p5.1))], [])) (fun p5 J k => ∃ s6 s7 s8, bM N a3 a1 a5 a6 a7 a8 a9 k s6 s7 s8 = some p5 ∧ J [1, 2, 3, 8] 3 [(0, (.gro 0 1 s6.length (.sub a1 s7))), (9, (j64 s8))] [(0, .gro 1 (List.map j64 s6))] []) N (fun _ h => ⟨_, _, _, h, jr⟩) (fun p5 k s hI => ?_) fun p5 => ?_
    ·obtain ⟨s6, s7, s8, h, hj⟩ := hI
     cases k with
     | zero => cases h
     | succ k =>
      refine At.jr hj ?_ h
      refine At.J 0 0 [0, 1, 2, 3, 8, 9] 3 (fun p9 => ([(34, (eB p9))], [], [])) (fun p9 => ?_) fun p9 => ?_
      ·refine boI (fun hc3 => ?_) (fun hc3 => ?_)
       ·refine bi fun u10 hu10 => ?_
        refine bi fun e11 he11 => ?_
        refine bi fun u12 hu12 => ?_
        refine bi fun e13 he13 => ?_
        refine bi fun r14 hr14 => ?_
        refine At.d 0 (dE1 3 (fun _ => cT hc3 rfl (cN hT (im := false) (by kernel_rfl))) (dE1 7 (fun _ => jK hT (id := 0) (k := 1) hu10 (by kernel_rfl) (by kernel_rfl)) (dET 8 (j64 e11) [[.gro 1 (List.map j64 s6), .var (.fn (.func 209) [] [(.im (eL 19 aG.enc a5)), (.ref 2 [] 0), (.im (j64 a6)), (.im (j64 a7)), (.im (j64 a8))]), .var (j64 a9)]] ⟨bO (nV hT j64 [] he11 rfl (by kernel_rfl) (by kernel_rfl)), trivial⟩ (dE1 12 (fun _ => jK hT (id := 0) (k := 1) hu12 (by kernel_rfl) (by kernel_rfl)) (dET 13 (j64 e13) [[.gro 1 (List.map j64 s6), .var (.fn (.func 209) [] [(.im (eL 19 aG.enc a5)), (.ref 2 [] 0), (.im (j64 a6)), (.im (j64 a7)), (.im (j64 a8))]), .var (j64 a9)]] ⟨bO (nV hT j64 [] he13 rfl (by kernel_rfl) (by kernel_rfl)), trivial⟩ dE0))))) (dF 14 (j64 r14) [] [] (bO (aL [1, 2] (aDQ hr14))) dF0) ?_
        apply rt; exact At.jn 0
       ·refine At.d 0 (dE1 3 (fun _ => cT hc3 rfl (cN hT (im := false) (by kernel_rfl))) dE0) dF0 ?_
        apply rt; exact At.jn 0
      ·refine At.c 0 ?_ ?_
       ·refine bi fun u15 hu15 => ?_
        refine bi fun e16 he16 => ?_
        refine bi fun u17 hu17 => ?_
        refine bi fun e18 he18 => ?_
        refine bi fun u19 hu19 => ?_
        refine bi fun z20 hz20 => ?_
        refine bi fun u21 hu21 => ?_
        refine bi fun z22 hz22 => ?_
        refine At.d 0 (dE1 8 (fun _ => jK hT (id := 0) (k := 1) hu15 (by kernel_rfl) (by kernel_rfl)) (dET 9 (j64 e16) [[.gro 1 (List.map j64 s6), .var (.fn (.func 209) [] [(.im (eL 19 aG.enc a5)), (.ref 2 [] 0), (.im (j64 a6)), (.im (j64 a7)), (.im (j64 a8))]), .var (j64 a9)]] ⟨bO (nV hT j64 [] he16 rfl (by kernel_rfl) (by kernel_rfl)), trivial⟩ (dE1 12 (fun _ => jK hT (id := 0) (k := 1) hu17 (by kernel_rfl) (by kernel_rfl)) (dET 13 (j64 e18) [[.gro 1 (List.map j64 s6), .var (.fn (.func 209) [] [(.im (eL 19 aG.enc a5)), (.ref 2 [] 0), (.im (j64 a6)), (.im (j64 a7)), (.im (j64 a8))]), .var (j64 a9)]] ⟨bO (nV hT j64 [] he18 rfl (by kernel_rfl) (by kernel_rfl)), trivial⟩ (dE1 14 (fun _ => jK hT (id := 0) (k := 1) hu19 (by kernel_rfl) (by kernel_rfl)) (dE1 16 (fun _ => jK hT (id := 0) (k := 1) hu21 (by kernel_rfl) (by kernel_rfl)) dE0)))))) (dF 15 (.v (.bool false)) [(0, .gro 1 (List.map j64 z20))] [] (bO (aBh hT j64 (k := 1) e16 hz20 rfl (by kernel_rfl) (fun _ => by kernel_rfl) (by kernel_rfl) (H' := [.gro 1 (List.map j64 z20), .var (.fn (.func 209) [] [(.im (eL 19 aG.enc a5)), (.ref 2 [] 0), (.im (j64 a6)), (.im (j64 a7)), (.im (j64 a8))]), .var (j64 a9)]) (by kernel_rfl))) (dF 17 (.v (.bool false)) [(0, .gro 1 (List.map j64 z22))] [] (bO (aBh hT j64 (k := 1) e18 hz22 ((aBG hz20).2.2).symm (by kernel_rfl) (fun _ => by kernel_rfl) (by kernel_rfl) (H' := [.gro 1 (List.map j64 z22), .var (.fn (.func 209) [] [(.im (eL 19 aG.enc a5)), (.ref 2 [] 0), (.im (j64 a6)), (.im (j64 a7)), (.im (j64 a8))]), .var (j64 a9)]) (by kernel_rfl))) dF0)) ?_
        refine At.gl 0 [0] [] 0 s6.length z22.length (((aBG hz22).2.2).trans ((aBG hz20).2.2)) ?_
        exact fun h => At.k 3 ⟨_, _, _, h, jr⟩
       ·apply rt; exact At.x 0
    ·exact fun h => At.k 3 ⟨_, _, _, h, jr⟩
   ·apply rt; exact At.x 0
 ·apply rt; exact At.z 0

def bY (N : Nat) (a3 : Int) (a1 : Nat) (a4 : (List aG)) (a5 : Int) (a6 : Int) (a7 : Int) (a8 : Int) : Nat → (List Int) → Nat → Int → Int → Option ((List Int) × Nat × Int)
 | 0, _, _, _, _ => none
 | k + 1, s2, s3, s4, s5 =>
  cond (decide (s5 ≤ a3)) (
   Option.bind (bG N s2 a1 s3 s4 s5 a4 a5 a6 a7 a8) fun r6 =>
   Option.bind (aAL r6 s2.length) fun _ =>
   bY N a3 a1 a4 a5 a6 a7 a8 k r6 s3 s5 (I64 (s5 + 20))) (
   some ((s2, s3, s4)))

def fI (N : Nat) (s11 : Int) (a3 : Int) : Nat → Option (Unit)
 | 0 => none
 | k + 1 =>
  aR (decide ((I64 (2 * s11)) ≤ a3)) fun x13 =>
  cond x13 (none) (some (()))

def cR (N : Nat) (a3 : Int) : Nat → Int → Option (Unit)
 | 0, _ => none
 | k + 1, s11 =>
  cond (decide (s11 < a3)) (
   Option.bind (fI N s11 a3 N ) fun p12 =>
   Option.bind (aR (decide ((I64 (0 + s11)) < a3)) fun x15 =>
   cond x15 (none) (some (()))) fun p14 =>
   cR N a3 k (I64 (s11 * 2))) (
   some (()))

def dY (N : Nat) (b0 : (List Int)) (a1 : Nat) (a2 : Nat) (a3 : Int) (a4 : (List aG)) (a5 : Int) (a6 : Int) (a7 : Int) (a8 : Int) : Option ((List Int)) :=
 Option.bind (bY N a3 a1 a4 a5 a6 a7 a8 N b0 a2 0 20) fun p1 =>
 Option.bind (bG N p1.1 a1 p1.2.1 p1.2.2 a3 a4 a5 a6 a7 a8) fun r8 =>
 Option.bind (aAL r8 p1.1.length) fun _ =>
 Option.bind (cR N a3 N 20) fun p10 =>
 some r8

theorem qY {N b0 a1 a2 a3 a4 a5 a6 a7 a8 r} (h : dY N b0 a1 a2 a3 a4 a5 a6 a7 a8 = some r) : FnM Tryz.prog 249 [.gro 1 (List.map j64 b0), .var (.fn (.func 209) [] [(.im (eL 19 aG.enc a4)), (.ref 2 [] 0), (.im (j64 a5)), (.im (j64 a6)), (.im (j64 a7))]), .var (j64 a8)] [(.gro 0 1 b0.length (.sub a1 a2)), (j64 a3), (.fn (.func 211) [] [(.ref 1 [] 0)])] (.tup []) [.gro 1 (List.map j64 r), .var (.fn (.func 209) [] [(.im (eL 19 aG.enc a4)), (.ref 2 [] 0), (.im (j64 a5)), (.im (j64 a6)), (.im (j64 a7))]), .var (j64 a8)] := by
 unfold dY at h
 refine At.f cU hT hmo Tryz.func249 rfl h ?_
 refine At.L 4 [1, 2, 6] 3 (fun p1 => ([(0, (.gro 0 1 p1.1.length (.sub a1 p1.2.1))), (7, (j64 p1.2.2))], [(0, .gro 1 (List.map j64 p1.1))], [])) (fun p1 J k => ∃ s2 s3 s4 s5, bY N a3 a1 a4 a5 a6 a7 a8 k s2 s3 s4 s5 = some p1 ∧ J [1, 2, 6] 3 [(0, (.gro 0 1 s2.length (.sub a1 s3))), (7, (j64 s4)), (8, (j64 s5))] [(0, .gro 1 (List.map j64 s2))] []) N (fun _ h => ⟨_, _, _, _, h, jr⟩) (fun p1 k s hI => ?_) fun p1 => ?_
 ·obtain ⟨s2, s3, s4, s5, h, hj⟩ := hI
  cases k with
  | zero => cases h
  | succ k =>
   refine At.jr hj ?_ h
   refine At.c 3 ?_ ?_
   ·refine bi fun r6 hr6 => ?_
    refine bi fun u7 hu7 => ?_
    refine At.o 4 (aL [0, 1, 2] (iK hr6)) ?_
    refine At.gl 0 [0] [] 0 s2.length r6.length (aBE hu7) ?_
    exact fun h => At.k 6 ⟨_, _, _, _, h, jr⟩
   ·apply rt; exact At.x 0
 ·refine bi fun r8 hr8 => ?_
  refine bi fun u9 hu9 => ?_
  refine At.o 4 (aL [0, 1, 2] (iK hr8)) ?_
  refine At.gl 0 [0] [] 0 p1.1.length r8.length (aBE hu9) ?_
  refine At.L 0 [] 3 (fun p10 => ([], [], [])) (fun p10 J k => ∃ s11, cR N a3 k s11 = some p10 ∧ J [0, 1, 2] 3 [(6, (j64 s11))] [] []) N (fun _ h => ⟨_, h, jr⟩) (fun p10 k s hI => ?_) fun p10 => ?_
  ·obtain ⟨s11, h, hj⟩ := hI
   cases k with
   | zero => cases h
   | succ k =>
    refine At.jr hj ?_ h
    refine At.c 3 ?_ ?_
    ·refine At.L 4 [0, 1, 2, 6, 7] 3 (fun p12 => ([], [], [])) (fun p12 J k => fI N s11 a3 k  = some p12 ∧ J [0, 1, 2, 6, 7, 8] 3 [] [] []) N (fun _ h => ⟨h, jr⟩) (fun p12 k s hI => ?_) fun p12 => ?_
     ·obtain ⟨h, hj⟩ := hI
      cases k with
      | zero => cases h
      | succ k =>
       unfold fI at h
       dsimp only at h
       refine At.jr hj ?_ h
       refine lx ?_; intro x13
       refine At.c 3 ?_ ?_
       ·exact nn
       ·apply rt; exact At.x 0
     ·refine At.J 0 1 [0, 1, 2, 6] 3 (fun p14 => ([], [], [])) (fun p14 => ?_) fun p14 => ?_
      ·refine lx ?_; intro x15
       refine At.c 7 ?_ ?_
       ·exact nn
       ·apply rt; exact At.jn 0
      ·exact fun h => At.k 3 ⟨_, h, jr⟩
    ·apply rt; exact At.x 0
  ·apply rt; exact At.z 0

def cH (N : Nat) (b0 : (List Int)) (a1 : Nat) (a2 : Nat) (a3 : (List aG)) (a4 : Int) (a5 : Int) (a6 : Int) (a7 : Int) : Option ((List Int)) :=
 Option.bind (dY N b0 a1 a2 ((a2 : Int)) a3 a4 a5 a6 a7) fun r1 =>
 some r1

theorem pQ {N b0 a1 a2 a3 a4 a5 a6 a7 r} (h : cH N b0 a1 a2 a3 a4 a5 a6 a7 = some r) : FnM Tryz.prog 206 [.gro 1 (List.map j64 b0), .var (.fn (.func 209) [] [(.im (eL 19 aG.enc a3)), (.ref 2 [] 0), (.im (j64 a4)), (.im (j64 a5)), (.im (j64 a6))]), .var (j64 a7)] [(.gro 0 1 b0.length (.sub a1 a2)), (.fn (.func 211) [] [(.ref 1 [] 0)])] (.tup []) [.gro 1 (List.map j64 r), .var (.fn (.func 209) [] [(.im (eL 19 aG.enc a3)), (.ref 2 [] 0), (.im (j64 a4)), (.im (j64 a5)), (.im (j64 a6))]), .var (j64 a7)] := by
 unfold cH at h
 refine At.f cU hT hmo Tryz.func206 rfl h ?_
 refine At.b 4 (fun _ e => aL [0, 1, 2] (qY e)) fun r1 => ?_
 apply rt; exact At.z 0

def bH (N : Nat) (a2 : Nat) (b0 : (List Int)) (a1 : Nat) (a3 : (List aG)) (a4 : Int) (a5 : Int) (a6 : Int) (a7 : Int) : Nat → Int → Option (Sum (Unit) (Int))
 | 0, _ => none
 | k + 1, s2 =>
  aR (decide (s2 < ((a2 : Int)))) fun x3 =>
  cond x3 (
   Option.bind (wV b0.length a1 a2 s2) fun _ =>
   Option.bind (b0[(xQ a1 s2.toNat)]?) fun e5 =>
   Option.bind (fE N e5 a3 a4 a5 a6 a7) fun r6 =>
   cond r6 (
    some (Sum.inr s2)) (
    bH N a2 b0 a1 a3 a4 a5 a6 a7 k (I64 (s2 + 1)))) (
   some (Sum.inl (())))

def cP (N : Nat) (b0 : (List Int)) (a1 : Nat) (a2 : Nat) (a3 : (List aG)) (a4 : Int) (a5 : Int) (a6 : Int) (a7 : Int) : Option (Int) :=
 Option.bind (bH N a2 b0 a1 a3 a4 a5 a6 a7 N 0) fun o => jU o (fun p1 =>
  some (-1)) (fun r => some r)

theorem pV {N b0 a1 a2 a3 a4 a5 a6 a7 r} (h : cP N b0 a1 a2 a3 a4 a5 a6 a7 = some r) : FnM Tryz.prog 212 [.gro 1 (List.map j64 b0), .var (j64 a7)] [(.gro 0 1 b0.length (.sub a1 a2)), (.fn (.func 209) [] [(.im (eL 19 aG.enc a3)), (.ref 1 [] 0), (.im (j64 a4)), (.im (j64 a5)), (.im (j64 a6))])] (j64 r) [.gro 1 (List.map j64 b0), .var (j64 a7)] := by
 unfold cP at h
 refine At.f cU hT hmo Tryz.func212 rfl h ?_
 refine At.LS 4 [] 2 (fun p1 => ([], [], [])) (fun op1 J k => ∃ s2, bH N a2 b0 a1 a3 a4 a5 a6 a7 k s2 = some op1 ∧ J [0, 1, 7] 2 [(8, (j64 s2))] [] []) N (fun _ h => ⟨_, h, jr⟩) (fun op1 g1 k s hI => ?_) fun p1 => ?_
 ·obtain ⟨s2, h, hj⟩ := hI
  cases k with
  | zero => cases h
  | succ k =>
   refine At.jr hj ?_ h
   refine lx ?_; intro x3
   refine At.c 1 ?_ ?_
   ·refine At.b 5 (fun _ e => jK hT (id := 0) (k := 1) e (by kernel_rfl) (by kernel_rfl)) fun u4 => ?_
    refine At.b 0 (fun _ e => nV hT j64 [] e rfl (by kernel_rfl) (by kernel_rfl)) fun e5 => ?_
    refine At.b 0 (fun _ e => aL [1] (oC e)) fun r6 => ?_
    refine At.c 0 ?_ ?_
    ·intro e; apply aBi g1 e; exact At.r 2
    ·exact fun h => At.k 2 ⟨_, h, jr⟩
   ·apply rt; exact At.xs 0
 ·apply rt; exact At.r 1

def aFL : Nat → Bool := imL [3]

def lA (N : Nat) (a3 : Nat) (b0 : (List Int)) (a2 : Nat) (a1 : (List aG)) : Nat → (List aC) → Int → Option ((List aC))
 | 0, _, _ => none
 | k + 1, s3, s4 =>
  aR (decide (s4 < ((a3 : Int)))) fun x5 =>
  cond x5 (
   Option.bind (wV b0.length a2 a3 s4) fun _ =>
   Option.bind (b0[(xQ a2 s4.toNat)]?) fun e7 =>
   Option.bind (idx a1 e7) fun e8 =>
   Option.bind (iI N e8) fun r9 =>
   Option.bind (yV 24 s3 (([r9] : List aC))) fun z10 =>
   lA N a3 b0 a2 a1 k z10 (I64 (s4 + 1))) (
   some s3)

def nT (N : Nat) (r11 : aC × aC) : Nat → Int → Int → Option (Int)
 | 0, _, _ => none
 | k + 1, s13, s14 =>
  cond (decide (s14 < 3)) (
   Option.bind (Option.bind (kF N r11.2 s14) fun r16 =>
   Option.bind (kF N r11.1 s14) fun r17 =>
   Option.bind (kF N r11.2 s13) fun r18 =>
   Option.bind (kF N r11.1 s13) fun r19 =>
   aR (decide ((I64 (r16 - r17)) > (I64 (r18 - r19)))) fun x20 =>
   cond x20 (some s14) (some s13)) fun p15 =>
   nT N r11 k p15 (I64 (s14 + 1))) (
   some s13)

def rY (N : Nat) (b0 : (List Int)) (a1 : (List aG)) (a2 : Nat) (a3 : Nat) (a4 : Int) : Option ((List Int) × Int) :=
 aR (decide (((a3 : Int)) ≤ 4)) fun x1 =>
 cond x1 (
  some ((b0, 0))) (
  Option.bind (lA N a3 b0 a2 a1 N [] 0) fun p2 =>
  Option.bind (mJ N p2) fun r11 =>
  Option.bind (nT N r11 N 0 1) fun p12 =>
  Option.bind (kF N r11.1 p12) fun r21 =>
  Option.bind (kF N r11.2 p12) fun r22 =>
  cond (r21 == r22) (
   some ((b0, 0))) (
   cond (decide (a4 > 31)) (
    Option.bind (cE N b0 a2 a3 a1 p12) fun r23 =>
    Option.bind (aAL r23 b0.length) fun _ =>
    aR (I64 (Int.tdiv ((a3 : Int)) 2)) fun x25 =>
    some ((r23, x25))) (
    Option.bind (pZ N b0 a1 a2 a3 p12 r21 r22) fun r26 =>
    Option.bind (cH N b0 a2 a3 a1 r21 r22 r26 p12) fun r27 =>
    Option.bind (aAL r27 b0.length) fun _ =>
    Option.bind (cP N r27 a2 a3 a1 r21 r22 r26 p12) fun r29 =>
    some ((r27, r29)))))

theorem aER {N b0 a1 a2 a3 a4 r} (h : rY N b0 a1 a2 a3 a4 = some r) : FnM Tryz.prog 144 [.gro 1 (List.map j64 b0)] [(eL 19 aG.enc a1), (.gro 0 1 b0.length (.sub a2 a3)), (j64 a4)] (j64 r.2) [.gro 1 (List.map j64 r.1)] := by
 unfold rY at h
 refine At.f aFL hT hmo Tryz.func144 rfl h ?_
 refine lx ?_; intro x1
 refine At.c 5 ?_ ?_
 ·apply rt; exact At.r 1
 ·refine At.ownn 4 7 3 ?_
  refine At.L 0 [1, 2, 3] 2 (fun p2 => ([(7, (eO 1 3 aC.enc p2))], [(1, .tail (p2.length * 3))], [])) (fun p2 J k => ∃ s3 s4, lA N a3 b0 a2 a1 k s3 s4 = some p2 ∧ J [1, 2, 3, 21, 22] 2 [(7, (eO 1 3 aC.enc s3)), (23, (j64 s4))] [(1, .tail (s3.length * 3))] []) N (fun _ h => ⟨_, _, h, jr⟩) (fun p2 k s hI => ?_) fun p2 => ?_
  ·obtain ⟨s3, s4, h, hj⟩ := hI
   cases k with
   | zero => cases h
   | succ k =>
    refine At.jr hj ?_ h
    refine lx ?_; intro x5
    refine At.c 1 ?_ ?_
    ·refine At.b 0 (fun _ e => jK hT (id := 0) (k := 1) e (by kernel_rfl) (by kernel_rfl)) fun u6 => ?_
     refine At.b 0 (fun _ e => nV hT j64 [] e rfl (by kernel_rfl) (by kernel_rfl)) fun e7 => ?_
     refine At.b 4 (fun _ e => cA hT aG.enc e) fun e8 => ?_
     refine At.b 1 (fun _ e => aL [] (tE e)) fun r9 => ?_
     refine At.o 0 (cM hT (x := (.sl 3 1 [(aC.enc r9)]))) ?_
     refine At.b 0 (fun _ e => sB hT aC.enc (id := 1) (k := 3) e) fun z10 => ?_
     exact fun h => At.k 3 ⟨_, _, h, jr⟩
    ·apply rt; exact At.x 0
  ·refine At.b 1 (fun _ e => aL [] (rR e)) fun r11 => ?_
   refine At.L 10 [1, 2, 3, 10, 11, 12] 5 (fun p12 => ([], [(4, .var (j64 p12))], [])) (fun p12 J k => ∃ s13 s14, nT N r11 k s13 s14 = some p12 ∧ J [1, 2, 3, 10, 11, 12] 5 [(13, (j64 s14))] [(4, .var (j64 s13))] []) N (fun _ h => ⟨_, _, h, jr⟩) (fun p12 k s hI => ?_) fun p12 => ?_
   ·obtain ⟨s13, s14, h, hj⟩ := hI
    cases k with
    | zero => cases h
    | succ k =>
     refine At.jr hj ?_ h
     refine At.c 2 ?_ ?_
     ·refine At.J 0 2 [1, 2, 3, 10, 11, 12, 13] 5 (fun p15 => ([], [(4, .var (j64 p15))], [])) (fun p15 => ?_) fun p15 => ?_
      ·refine bi fun r16 hr16 => ?_
       refine bi fun r17 hr17 => ?_
       refine bi fun r18 hr18 => ?_
       refine bi fun r19 hr19 => ?_
       refine lx ?_; intro x20
       refine At.d 0 (dE2 2 (j64 r16) (fun _ => aN (mE hr16)) (dE2 5 (j64 r17) (fun _ => aN (mE hr17)) (dE2 9 (j64 r18) (fun _ => aN (mE hr18)) (dE2 12 (j64 r19) (fun _ => aN (mE hr19)) dE0)))) dF0 ?_
       refine At.c 0 ?_ ?_
       ·apply rt; exact At.jn 2
       ·apply rt; exact At.jn 0
      ·exact fun h => At.k 3 ⟨_, _, h, jr⟩
     ·apply rt; exact At.x 0
   ·refine bi fun r21 hr21 => ?_
    refine bi fun r22 hr22 => ?_
    refine At.d2 0 [false, false] (dC2 2 (j64 r21) (fun _ => aN (mE hr21)) (dC2 5 (j64 r22) (fun _ => aN (mE hr22)) dC0)) (dS1 6 ⟨(.ref 5 [] 0), 5, .var (j64 0), .dead⟩ [[.gro 1 (List.map j64 b0), .tail (p2.length * 3), .var (aC.enc r11.1), .var (aC.enc r11.2), .var (j64 p12), .dead, .dead], [.gro 1 (List.map j64 b0), .tail (p2.length * 3), .var (aC.enc r11.1), .var (aC.enc r11.2), .var (j64 p12), .dead, .var (j64 0)]] ⟨aW hT 5 (by kernel_rfl) (by kernel_rfl) (by kernel_rfl), aW hT 5 (by kernel_rfl) (by kernel_rfl) (by kernel_rfl), trivial⟩ (dS1 7 ⟨(.ref 6 [] 0), 6, .var (j64 0), .dead⟩ [[.gro 1 (List.map j64 b0), .tail (p2.length * 3), .var (aC.enc r11.1), .var (aC.enc r11.2), .var (j64 p12), .dead, .dead], [.gro 1 (List.map j64 b0), .tail (p2.length * 3), .var (aC.enc r11.1), .var (aC.enc r11.2), .var (j64 p12), .var (j64 0), .dead]] ⟨aW hT 6 (by kernel_rfl) (by kernel_rfl) (by kernel_rfl), aW hT 6 (by kernel_rfl) (by kernel_rfl) (by kernel_rfl), trivial⟩ dS0)) ?_
    refine At.c 3 ?_ ?_
    ·apply rt; exact At.r 1
    ·refine At.c 2 ?_ ?_
     ·refine At.o 1 (pX (x := (.fn (.func 207) [] [(.im (eL 19 aG.enc a1)), (.ref 4 [] 0)])) (by kernel_rfl) (by kernel_rfl)) ?_
      refine bi fun r23 hr23 => ?_
      refine bi fun u24 hu24 => ?_
      refine At.o 0 (aL [0, 4] (oU hr23)) ?_
      refine At.gl 0 [1] [] 0 b0.length r23.length (aBE hu24) ?_
      refine lx ?_; intro x25
      apply rt; exact At.r 4
     ·refine At.b 5 (fun _ e => aL [0] (aDk e)) fun r26 => ?_
      refine At.gz 2 5 ((j64 r21)) ?_
      refine At.gz 0 6 ((j64 r22)) ?_
      refine At.gz 0 7 ((j64 r26)) ?_
      refine At.o 0 (pX (x := (.fn (.func 209) [] [(.im (eL 19 aG.enc a1)), (.ref 4 [] 0), (.im (j64 r21)), (.im (j64 r22)), (.im (j64 r26))])) (by kernel_rfl) (by kernel_rfl)) ?_
      refine At.o 3 (pX (x := (.fn (.func 211) [] [(.ref 8 [] 0)])) (by kernel_rfl) (by kernel_rfl)) ?_
      refine bi fun r27 hr27 => ?_
      refine bi fun u28 hu28 => ?_
      refine At.o 0 (aL [0, 8, 4] (pQ hr27)) ?_
      refine At.gl 0 [1] [] 0 b0.length r27.length (aBE hu28) ?_
      refine At.b 2 (fun _ e => aL [0, 4] (pV e)) fun r29 => ?_
      apply rt; exact At.r 1


def oW (N : Nat) (a0 : (List aG)) : Nat → Int → Option (Sum (Unit) (bI × Int))
 | 0, _ => none
 | k + 1, s3 =>
  aR (decide (s3 < ((a0.length : Int)))) fun x4 =>
  cond x4 (
   Option.bind (idx a0 s3) fun e5 =>
   Option.bind (aN3 3 0 3) fun _ =>
   Option.bind (wL N e5) fun r7 =>
   Option.bind (aR (decide ((jC (jC r7.1.gX r7.1.gY) r7.1.gZ) < (-1048576))) fun x9 =>
   cond x9 (
    some true) (
    aR (decide ((iN (iN r7.2.gX r7.2.gY) r7.2.gZ) > 1048576)) fun x10 =>
    some x10)) fun p8 =>
   cond p8 (
    some (Sum.inr ((bI.mk [] [], 8)))) (
    oW N a0 k (I64 (s3 + 1)))) (
   some (Sum.inl (())))

def oS (N : Nat) (a0 : (List aG)) : Nat → (List Int) → Int → Option ((List Int))
 | 0, _, _ => none
 | k + 1, s13, s14 =>
  aR (decide (s14 < ((a0.length : Int)))) fun x15 =>
  cond x15 (
   Option.bind (yV 8 s13 (([s14] : List Int))) fun z16 =>
   oS N a0 k z16 (I64 (s14 + 1))) (
   some s13)

def pC (N : Nat) (a0 : (List aG)) : Nat → (List Int) → (List bE) → (List bB) → Nat → Option ((List Int) × (List bE) × (List bB))
 | 0, _, _, _, _ => none
 | k + 1, s18, s19, s20, s21 =>
  aR (decide (((s21 : Int)) > 0)) fun x22 =>
  cond x22 (
   aR (I64 (((s21 : Int)) - 1)) fun x23 =>
   Option.bind (wV s20.length 0 s21 x23) fun _ =>
   Option.bind (s20[x23.toNat]?) fun e25 =>
   aR (I64 (((s21 : Int)) - 1)) fun x26 =>
   Option.bind (aHo s20.length 0 s21 0 x26) fun _ =>
   aR (I64 (e25.gB + e25.gA1)) fun x28 =>
   Option.bind (aHo s18.length 0 s18.length e25.gB x28) fun _ =>
   Option.bind (uN N s18 a0 e25.gB.toNat (x28.toNat - e25.gB.toNat)) fun r30 =>
   Option.bind (Option.bind (rY N s18 a0 e25.gB.toNat (x28.toNat - e25.gB.toNat) e25.gD1) fun r32 =>
   Option.bind (aAL r32.1 s18.length) fun _ =>
   cond (decide (r32.2 > 0)) (
    aR (I64 (((s19.length : Int)) + 1)) fun x34 =>
    Option.bind (yV 80 s19 (([bE.mk (aC.mk 0 0 0) (aC.mk 0 0 0) 0 0 0 0, bE.mk (aC.mk 0 0 0) (aC.mk 0 0 0) 0 0 0 0] : List bE))) fun z35 =>
    aR (I64 (((s19.length : Int)) + 1)) fun x36 =>
    aR (I64 (e25.gB + r32.2)) fun x37 =>
    aR (I64 (e25.gA1 - r32.2)) fun x38 =>
    Option.bind (aJT 32 s20 x26.toNat (([bB.mk x36 x37 x38 (I64 (e25.gD1 + 1)), bB.mk ((s19.length : Int)) e25.gB r32.2 (I64 (e25.gD1 + 1))] : List bB))) fun z39 =>
    some ((r32.1, z35, z39, bE.mk r30.1 r30.2 ((s19.length : Int)) ((I64 (((s19.length : Int)) + 1))) 0 0, x26.toNat + 2))) (
    some ((r32.1, s19, s20, bE.mk r30.1 r30.2 (-1) (-1) e25.gB e25.gA1, x26.toNat)))) fun p31 =>
   Option.bind (eK e25.gA9 p31.2.1.length) fun _ =>
   Option.bind (aFS p31.2.1 e25.gA9.toNat p31.2.2.2.1) fun z41 =>
   pC N a0 k p31.1 z41 p31.2.2.1 p31.2.2.2.2) (
   some ((s18, s19, s20)))

def wI (N : Nat) (a0 : (List aG)) : Option (bI × Int) :=
 aR (decide (((a0.length : Int)) > 4096)) fun x1 =>
 cond x1 (
  some ((bI.mk [] [], 3))) (
  Option.bind (oW N a0 N 0) fun o => jU o (fun p2 =>
   aR (((a0.length : Int)) == 0) fun x11 =>
   cond x11 (
    some ((bI.mk [] [], 0))) (
    Option.bind (oS N a0 N [] 0) fun p12 =>
    Option.bind (pC N a0 N p12 (([bE.mk (aC.mk 0 0 0) (aC.mk 0 0 0) 0 0 0 0] : List bE)) (([bB.mk 0 0 ((a0.length : Int)) 1] : List bB)) ((([bB.mk 0 0 ((a0.length : Int)) 1] : List bB)).length)) fun p17 =>
    some ((bI.mk p17.2.1 p17.1, 0)))) (fun r => some r))

theorem aIC {N a0 r} (h : wI N a0 = some r) : FnM Tryz.prog 74 [] [(eL 19 aG.enc a0)] (.tup [(bI.enc r.1), (j64 r.2)]) [] := by
 unfold wI at h
 refine At.f cU hT hmo Tryz.func74 rfl h ?_
 refine lx ?_; intro x1
 refine At.c 5 ?_ ?_
 ·apply rt; exact At.r 3
 ·refine At.LS 3 [0, 2] 1 (fun p2 => ([], [], [])) (fun op2 J k => ∃ s3, oW N a0 k s3 = some op2 ∧ J [0, 2, 22, 23] 1 [(24, (j64 s3))] [] []) N (fun _ h => ⟨_, h, jr⟩) (fun op2 g2 k s hI => ?_) fun p2 => ?_
  ·obtain ⟨s3, h, hj⟩ := hI
   cases k with
   | zero => cases h
   | succ k =>
    refine At.jr hj ?_ h
    refine lx ?_; intro x4
    refine At.c 1 ?_ ?_
    ·refine At.b 0 (fun _ e => cA hT aG.enc e) fun e5 => ?_
     refine At.b 4 (fun _ e => aLG hT (k := 3) 1 [0] 0 e (by kernel_rfl) (by kernel_rfl) (by decide)) fun s6 => ?_
     refine At.b 0 (fun _ e => aL [1] (aH5 e)) fun r7 => ?_
     refine At.J 7 0 [0, 2, 22, 23, 24] 4 (fun p8 => ([(51, (eB p8))], [], [])) (fun p8 => ?_) fun p8 => ?_
     ·refine At.o 6 (yF (k := .i64) (i := r7.1.gX) (j := r7.1.gY) (l := r7.1.gZ) (by kernel_rfl) (by kernel_rfl)) ?_
      refine lx ?_; intro x9
      refine At.s 42 2 ?_ ?_
      ·refine At.g [42] 9 ?_
       apply rt; exact At.jn 0
      ·refine At.g [42] 6 ?_
       refine At.o 0 (yC (k := .i64) (i := r7.2.gX) (j := r7.2.gY) (l := r7.2.gZ) (by kernel_rfl) (by kernel_rfl)) ?_
       refine lx ?_; intro x10
       refine At.g [42] 2 ?_
       apply rt; exact At.jn 0
     ·refine At.c 0 ?_ ?_
      ·intro e; apply aBi g2 e; exact At.r 3
      ·exact fun h => At.k 2 ⟨_, h, jr⟩
    ·apply rt; exact At.xs 0
  ·refine lx ?_; intro x11
   refine At.c 4 ?_ ?_
   ·apply rt; exact At.r 3
   ·refine At.grob 3 1 1 [1] ?_
    refine At.L 0 [0, 2, 8] 3 (fun p12 => ([], [(1, .var (.st 2 [(.v (.slice none 0 0)), (.gro 2 1 p12.length .all)])), (2, .gro 1 (List.map j64 p12))], [])) (fun p12 J k => ∃ s13 s14, oS N a0 k s13 s14 = some p12 ∧ J [0, 2, 8, 59] 3 [(60, (j64 s14))] [(1, .var (.st 2 [(.v (.slice none 0 0)), (.gro 2 1 s13.length .all)])), (2, .gro 1 (List.map j64 s13))] []) N (fun _ h => ⟨_, _, h, jr⟩) (fun p12 k s hI => ?_) fun p12 => ?_
    ·obtain ⟨s13, s14, h, hj⟩ := hI
     cases k with
     | zero => cases h
     | succ k =>
      refine At.jr hj ?_ h
      refine lx ?_; intro x15
      refine At.c 1 ?_ ?_
      ·refine At.o 5 (cM hT (x := (.sl 1 1 [(j64 s14)]))) ?_
       refine At.b 0 (fun z16 e => aGq hT j64 (id := 2) (k := 1) e (by kernel_rfl) (by kernel_rfl) (H' := [.var (.st 2 [(.v (.slice none 0 0)), (.v (.slice none 0 0))]), .var (.st 2 [(.v (.slice none 0 0)), (.gro 2 1 s13.length .all)]), .gro 1 (List.map j64 z16)]) (by kernel_rfl)) fun z16 => ?_
       exact fun h => At.k 4 ⟨_, _, h, jr⟩
      ·apply rt; exact At.x 0
    ·refine At.o 1 (aC8 hT bE.enc (k := 10) ([bE.mk (aC.mk 0 0 0) (aC.mk 0 0 0) 0 0 0 0] : List bE) (by kernel_rfl) (by kernel_rfl)) ?_
     refine At.o 5 (aC8 hT bB.enc (k := 4) ([bB.mk 0 0 ((a0.length : Int)) 1] : List bB) (by kernel_rfl) (by kernel_rfl)) ?_
     refine At.gsub 1 10 ?_
     refine At.L 0 [2, 8] 5 (fun p17 => ([], [(1, .var (.st 2 [(.gro 3 10 p17.2.1.length .all), (.gro 2 1 p17.1.length .all)])), (2, .gro 1 (List.map j64 p17.1)), (3, .gro 10 (List.map bE.enc p17.2.1)), (4, .gro 4 (List.map bB.enc p17.2.2))], [])) (fun p17 J k => ∃ s18 s19 s20 s21, pC N a0 k s18 s19 s20 s21 = some p17 ∧ J [0, 2, 8] 5 [(10, (.gro 4 4 s20.length (.sub 0 s21)))] [(1, .var (.st 2 [(.gro 3 10 s19.length .all), (.gro 2 1 s18.length .all)])), (2, .gro 1 (List.map j64 s18)), (3, .gro 10 (List.map bE.enc s19)), (4, .gro 4 (List.map bB.enc s20))] []) N (fun _ h => ⟨_, _, _, _, h, jr⟩) (fun p17 k s hI => ?_) fun p17 => ?_
     ·obtain ⟨s18, s19, s20, s21, h, hj⟩ := hI
      cases k with
      | zero => cases h
      | succ k =>
       refine At.jr hj ?_ h
       refine lx ?_; intro x22
       refine At.c 3 ?_ ?_
       ·refine lx ?_; intro x23
        refine At.b 4 (fun _ e => jK hT (id := 4) (k := 4) e (by kernel_rfl) (by kernel_rfl)) fun u24 => ?_
        refine At.b 0 (fun _ e => nV hT bB.enc [] e rfl (by kernel_rfl) (by kernel_rfl)) fun e25 => ?_
        refine lx ?_; intro x26
        refine At.b 6 (fun _ e => aEz hT (id := 4) (k := 4) (L := s20.length) (lo0 := 0) (m := s21) e (by kernel_rfl) (by kernel_rfl)) fun s27 => ?_
        refine lx ?_; intro x28
        refine At.b 10 (fun _ e => aEz hT (id := 2) (k := 1) (L := s18.length) (lo0 := 0) (m := s18.length) e (by kernel_rfl) (by kernel_rfl)) fun s29 => ?_
        refine At.b 3 (fun _ e => aL [2] (aGA e)) fun r30 => ?_
        refine At.J 16 1 [0, 2, 8, 11, 15] 9 (fun p31 => ([(10, (.gro 4 4 p31.2.2.1.length (.sub 0 p31.2.2.2.2)))], [(1, .var (.st 2 [(.gro 3 10 p31.2.1.length .all), (.gro 2 1 p31.1.length .all)])), (2, .gro 1 (List.map j64 p31.1)), (3, .gro 10 (List.map bE.enc p31.2.1)), (4, .gro 4 (List.map bB.enc p31.2.2.1)), (8, .var (bE.enc p31.2.2.2.1))], [])) (fun p31 => ?_) fun p31 => ?_
        ·refine bi fun r32 hr32 => ?_
         refine bi fun u33 hu33 => ?_
         refine At.o 4 (aL [2] (aER hr32)) ?_
         refine At.gl 0 [] [1] 2 s18.length r32.1.length (aBE hu33) ?_
         refine At.c 3 ?_ ?_
         ·refine lx ?_; intro x34
          refine At.o 15 (cM hT (x := (.sl 10 2 [(.st 10 [(.st 3 [(j64 0), (j64 0), (j64 0)]), (.st 3 [(j64 0), (j64 0), (j64 0)]), (j64 0), (j64 0), (j64 0), (j64 0)]), (.st 10 [(.st 3 [(j64 0), (j64 0), (j64 0)]), (.st 3 [(j64 0), (j64 0), (j64 0)]), (j64 0), (j64 0), (j64 0), (j64 0)])]))) ?_
          refine At.b 0 (fun z35 e => aGq hT bE.enc (id := 3) (k := 10) e (by kernel_rfl) (by kernel_rfl) (H' := [.var (.st 2 [(.v (.slice none 0 0)), (.v (.slice none 0 0))]), .var (.st 2 [(.gro 3 10 s19.length .all), (.gro 2 1 r32.1.length .all)]), .gro 1 (List.map j64 r32.1), .gro 10 (List.map bE.enc z35), .gro 4 (List.map bB.enc s20), .var (bB.enc e25), .var (aC.enc r30.1), .var (aC.enc r30.2), .var (.st 10 [(aC.enc r30.1), (aC.enc r30.2), (j64 ((s19.length : Int))), (j64 ((I64 (((s19.length : Int)) + 1)))), (j64 0), (j64 0)])]) (by kernel_rfl)) fun z35 => ?_
          refine lx ?_; intro x36
          refine lx ?_; intro x37
          refine lx ?_; intro x38
          refine At.o 25 (cM hT (x := (.sl 4 2 [(.st 4 [(j64 x36), (j64 x37), (j64 x38), (j64 (I64 (e25.gD1 + 1)))]), (.st 4 [(j64 ((s19.length : Int))), (j64 e25.gB), (j64 r32.2), (j64 (I64 (e25.gD1 + 1)))])]))) ?_
          refine At.b 0 (fun z39 e => aDu hT bB.enc (id := 4) (k := 4) e (by kernel_rfl) (by kernel_rfl) (H' := [.var (.st 2 [(.v (.slice none 0 0)), (.v (.slice none 0 0))]), .var (.st 2 [(.gro 3 10 z35.length .all), (.gro 2 1 r32.1.length .all)]), .gro 1 (List.map j64 r32.1), .gro 10 (List.map bE.enc z35), .gro 4 (List.map bB.enc z39), .var (bB.enc e25), .var (aC.enc r30.1), .var (aC.enc r30.2), .var (.st 10 [(aC.enc r30.1), (aC.enc r30.2), (j64 ((s19.length : Int))), (j64 ((I64 (((s19.length : Int)) + 1)))), (j64 0), (j64 0)])]) (by kernel_rfl)) fun z39 => ?_
          apply rt; exact At.jn 1
         ·apply rt; exact At.jn 0
        ·refine At.b 5 (fun _ e => aPK hT (id := 3) (k := 10) e (by kernel_rfl) (by kernel_rfl)) fun u40 => ?_
         refine bi fun z41 hz41 => ?_
         refine At.o 0 (aBh hT bE.enc (k := 10) p31.2.2.2.1 hz41 rfl (by kernel_rfl) (fun _ => by kernel_rfl) (by kernel_rfl) (H' := [.var (.st 2 [(.v (.slice none 0 0)), (.v (.slice none 0 0))]), .var (.st 2 [(.gro 3 10 p31.2.1.length .all), (.gro 2 1 p31.1.length .all)]), .gro 1 (List.map j64 p31.1), .gro 10 (List.map bE.enc z41), .gro 4 (List.map bB.enc p31.2.2.1), .var (bB.enc e25), .var (aC.enc r30.1), .var (aC.enc r30.2), .var (bE.enc p31.2.2.2.1)]) (by kernel_rfl)) ?_
         refine At.gl 0 [167] [1] 3 p31.2.1.length z41.length ((aBG hz41).2.2) ?_
         exact fun h => At.k 0 ⟨_, _, _, _, h, jr⟩
       ·apply rt; exact At.x 0
     ·refine At.fz 3 2 1 p17.1.length _ (List.map j64 p17.1) (List.length_map _) (List.length_map _) ?_
      refine At.fz 0 3 10 p17.2.1.length _ (List.map bE.enc p17.2.1) (List.length_map _) (List.length_map _) ?_
      apply rt; exact At.r 0

def fZ (N : Nat) (a0 : (List aG)) : Option ((List aG)) :=
 Option.bind (yV 152 (([] : List aG)) a0) fun z1 =>
 some z1

theorem vG {N a0 r} (h : fZ N a0 = some r) : FnM Tryz.prog 75 [] [(eL 19 aG.enc a0)] (eL 19 aG.enc r) [] := by
 unfold fZ at h
 refine At.f cU hT hmo Tryz.func75 rfl h ?_
 refine At.q hT 2 (d := 4) (t := 22) (e := 61) (z := 19) (x := (eL 19 aG.enc a0)) (es := List.map aG.enc a0) rfl ?_ (fun he => ?_)
 ·refine At.o 1 (yN hT aG.enc (k := 19) ([] : List aG) (by kernel_rfl) (by kernel_rfl)) ?_
  refine At.b 1 (fun _ e => sB hT aG.enc (id := 0) (k := 19) e) fun z1 => ?_
  apply rt; exact At.r 1
 ·have h0 : a0 = [] := List.map_eq_nil_iff.1 he
  subst h0
  change some [] = _ → _
  apply rt; exact At.r 2

def tU (N : Nat) (a0 : (List aG)) : Option (Sum (Int) (bI × aM × Int)) :=
 Option.bind (wI N a0) fun r1 =>
 cond (r1.2 != 0) (
  some (Sum.inl r1.2)) (
  Option.bind (fZ N a0) fun r2 =>
  some (Sum.inr ((r1.1, aM.mk r1.1 true r2 0, 0))))

theorem aEE {N a0 r} (h : tU N a0 = some r) : FnM Tryz.prog 29 [] [(eL 19 aG.enc a0)] (aEQ r (fun r => (.tup [(.v (.pointer none)), (j64 r)])) (fun r => (.tup [(.ref 1 [] 0), (j64 r.2.2)]))) (aEQ r (fun r => []) (fun r => [.var (bI.enc r.1), .var (aM.enc r.2.1)])) := by
 unfold tU at h
 refine At.f cU hT hmo Tryz.func29 rfl h ?_
 refine At.b 3 (fun _ e => aL [] (aIC e)) fun r1 => ?_
 refine At.c 8 ?_ ?_
 ·apply rt; exact At.r 3
 ·refine bi fun r2 hr2 => ?_
  refine At.d 0 (dE2 2 (eL 19 aG.enc r2) (fun _ => aN (vG hr2)) dE0) dF0 ?_
  apply rt; exact At.r 0

theorem aGO {N a0 r} (h : tU N a0 = some (Sum.inl r)) : FnM Tryz.prog 29 [] [(eL 19 aG.enc a0)] (.tup [(.v (.pointer none)), (j64 r)]) [] := aEE h

theorem aGR {N a0 r} (h : tU N a0 = some (Sum.inr r)) : FnM Tryz.prog 29 [] [(eL 19 aG.enc a0)] (.tup [(.ref 1 [] 0), (j64 r.2.2)]) [.var (bI.enc r.1), .var (aM.enc r.2.1)] := aEE h

def aI9 : Nat → Bool := imL [2, 3]

def pM (N : Nat) (x8 : Int) (a0 : aE) : Nat → (List (List aD)) → Int → Option ((List (List aD)))
 | 0, _, _ => none
 | k + 1, s10, s11 =>
  cond (decide (s11 < x8)) (
   Option.bind (idx a0.gR s11) fun e12 =>
   Option.bind (oV N e12) fun r13 =>
   Option.bind (yV 24 s10 (([r13.1] : List (List aD)))) fun z14 =>
   pM N x8 a0 k z14 (I64 (s11 + 1))) (
   some s10)

def iP (N : Nat) (a0 : aE) (a1 : aI) : Option (Sum (Int) (Sum ((List aG) × (List aQ) × (List aP) × (List (List aD)) × aB × Int) (Sum ((List aG) × (List aQ) × (List aP) × (List (List aD)) × aB × (List aG) × Int) (Sum ((List aG) × (List aQ) × (List aP) × (List (List aD)) × aB × Int) ((List aG) × (List aQ) × (List aP) × (List (List aD)) × aB × bI × aM × Int))))) :=
 Option.bind (mI N a0) fun r1 =>
 cond (r1 != 0) (
  some (Sum.inl r1)) (
  Option.bind (nZ N a1) fun r2 =>
  cond (r2 != 0) (
   some (Sum.inl r2)) (
   Option.bind (pB N a0 a1.gI) fun r3 =>
   cond (r3 != 0) (
    some (Sum.inl r3)) (
    Option.bind (yS N a0.gL) fun r4 =>
    Option.bind (yV 152 (([] : List aG)) a0.gQ) fun z5 =>
    Option.bind (yV 40 (([] : List aQ)) a0.gA3) fun z6 =>
    Option.bind (yV 104 (([] : List aP)) a0.gL) fun z7 =>
    aR ((a0.gR.length : Int)) fun x8 =>
    Option.bind (pM N x8 a0 N [] 0) fun p9 =>
    cond a1.gT (
     Option.bind (fX N a1.gI) fun r15 =>
     Option.bind (rF N a0.gQ r15.1) fun q =>
     jU q (fun r17 =>
      some (Sum.inr (Sum.inl ((z5, z6, z7, p9, r4, r17))))) (fun r18 =>
      some (Sum.inr (Sum.inr (Sum.inl ((z5, z6, z7, p9, r4, r18.1, r18.2))))))) (
     Option.bind (tU N a0.gQ) fun q =>
     jU q (fun r20 =>
      some (Sum.inr (Sum.inr (Sum.inr (Sum.inl ((z5, z6, z7, p9, r4, r20))))))) (fun r21 =>
      some (Sum.inr (Sum.inr (Sum.inr (Sum.inr ((z5, z6, z7, p9, r4, r21.1, r21.2.1, r21.2.2)))))))))))

theorem xI {N a0 a1 r} (h : iP N a0 a1 = some r) : FnM Tryz.prog 11 [] [(aE.enc a0), (aI.enc a1)] (aEQ r (fun r => (.tup [(.v (.pointer none)), (j64 r)])) (fun r => aEQ r (fun r => (.tup [(.ref 0 [] 0), (j64 r.2.2.2.2.2)])) (fun r => aEQ r (fun r => (.tup [(.ref 0 [] 0), (j64 r.2.2.2.2.2.2)])) (fun r => aEQ r (fun r => (.tup [(.ref 0 [] 0), (j64 r.2.2.2.2.2)])) (fun r => (.tup [(.ref 0 [] 0), (j64 r.2.2.2.2.2.2.2)])))))) (aEQ r (fun r => []) (fun r => aEQ r (fun r => [.var (.st 38 [(.st 9 [(eL 19 aG.enc r.1), (eL 5 aQ.enc r.2.1), (eL 2 aD.enc a0.gR), (eL 13 aP.enc r.2.2.1), (eL 1 k64 a0.gA7), (eL 1 k32 a0.gA8), (k32 a0.gB4), (k32 a0.gB5), (k32 a0.gTo)]), (aI.enc a1), (.ifc 88 (.v (.pointer none))), (eL 1 (eL 2 aD.enc) r.2.2.2.1), (aB.enc r.2.2.2.2.1), (.st 3 [(j64 0), (j64 0), (j64 0)])])]) (fun r => aEQ r (fun r => [.var (.st 38 [(.st 9 [(eO 1 19 aG.enc r.1), (eO 2 5 aQ.enc r.2.1), (eL 2 aD.enc a0.gR), (eO 3 13 aP.enc r.2.2.1), (eL 1 k64 a0.gA7), (eL 1 k32 a0.gA8), (k32 a0.gB4), (k32 a0.gB5), (k32 a0.gTo)]), (aI.enc a1), (.ifc 88 (.ref 6 [] 0)), (eO 4 1 (eL 2 aD.enc) r.2.2.2.1), (aB.enc r.2.2.2.2.1), (.st 3 [(j64 0), (j64 0), (j64 0)])]), .tail (r.1.length * 19), .tail (r.2.1.length * 5), .tail (r.2.2.1.length * 13), .tail (r.2.2.2.1.length * 1), .dead, .var (.st 3 [(.st 1 [(j64 0)]), (eB true), (eL 19 aG.enc r.2.2.2.2.2.1)])]) (fun r => aEQ r (fun r => [.var (.st 38 [(.st 9 [(eL 19 aG.enc r.1), (eL 5 aQ.enc r.2.1), (eL 2 aD.enc a0.gR), (eL 13 aP.enc r.2.2.1), (eL 1 k64 a0.gA7), (eL 1 k32 a0.gA8), (k32 a0.gB4), (k32 a0.gB5), (k32 a0.gTo)]), (aI.enc a1), (.ifc 91 (.v (.pointer none))), (eL 1 (eL 2 aD.enc) r.2.2.2.1), (aB.enc r.2.2.2.2.1), (.st 3 [(j64 0), (j64 0), (j64 0)])])]) (fun r => [.var (.st 38 [(.st 9 [(eO 1 19 aG.enc r.1), (eO 2 5 aQ.enc r.2.1), (eL 2 aD.enc a0.gR), (eO 3 13 aP.enc r.2.2.1), (eL 1 k64 a0.gA7), (eL 1 k32 a0.gA8), (k32 a0.gB4), (k32 a0.gB5), (k32 a0.gTo)]), (aI.enc a1), (.ifc 91 (.ref 6 [] 0)), (eO 4 1 (eL 2 aD.enc) r.2.2.2.1), (aB.enc r.2.2.2.2.1), (.st 3 [(j64 0), (j64 0), (j64 0)])]), .tail (r.1.length * 19), .tail (r.2.1.length * 5), .tail (r.2.2.1.length * 13), .tail (r.2.2.2.1.length * 1), .var (bI.enc r.2.2.2.2.2.1), .var (aM.enc r.2.2.2.2.2.2.1)]))))) := by
 unfold iP at h
 refine At.f aI9 hT hmo Tryz.func11 rfl h ?_
 refine At.b 5 (fun _ e => aL [] (aE6 e)) fun r1 => ?_
 refine At.c 3 ?_ ?_
 ·apply rt; exact At.r 3
 ·refine At.b 1 (fun _ e => aL [] (aDH e)) fun r2 => ?_
  refine At.c 3 ?_ ?_
  ·apply rt; exact At.r 3
  ·refine At.b 3 (fun _ e => aL [] (aES e)) fun r3 => ?_
   refine At.c 3 ?_ ?_
   ·apply rt; exact At.r 3
   ·refine bi fun r4 hr4 => ?_
    refine At.d 0 (dE2 4 (aB.enc r4) (fun _ => aN (aIh hr4)) dE0) dF0 ?_
    refine At.o 1 (yN hT aG.enc (k := 19) ([] : List aG) (by kernel_rfl) (by kernel_rfl)) ?_
    refine At.b 2 (fun _ e => sB hT aG.enc (id := 1) (k := 19) e) fun z5 => ?_
    refine At.o 5 (yN hT aQ.enc (k := 5) ([] : List aQ) (by kernel_rfl) (by kernel_rfl)) ?_
    refine At.b 2 (fun _ e => sB hT aQ.enc (id := 2) (k := 5) e) fun z6 => ?_
    refine At.o 5 (yN hT aP.enc (k := 13) ([] : List aP) (by kernel_rfl) (by kernel_rfl)) ?_
    refine At.b 2 (fun _ e => sB hT aP.enc (id := 3) (k := 13) e) fun z7 => ?_
    refine lx ?_; intro x8
    refine At.ownb 8 0 1 [3] ?_
    refine At.L 0 [2, 3, 9] 5 (fun p9 => ([], [(0, .var (.st 38 [(.st 9 [(eO 1 19 aG.enc z5), (eO 2 5 aQ.enc z6), (eL 2 aD.enc a0.gR), (eO 3 13 aP.enc z7), (eL 1 k64 a0.gA7), (eL 1 k32 a0.gA8), (k32 a0.gB4), (k32 a0.gB5), (k32 a0.gTo)]), (aI.enc a1), (.v .nilIface), (eO 4 1 (eL 2 aD.enc) p9), (aB.enc r4), (.st 3 [(j64 0), (j64 0), (j64 0)])])), (4, .tail (p9.length * 1))], [])) (fun p9 J k => ∃ s10 s11, pM N x8 a0 k s10 s11 = some p9 ∧ J [2, 3, 9, 69, 70] 5 [(71, (j64 s11))] [(0, .var (.st 38 [(.st 9 [(eO 1 19 aG.enc z5), (eO 2 5 aQ.enc z6), (eL 2 aD.enc a0.gR), (eO 3 13 aP.enc z7), (eL 1 k64 a0.gA7), (eL 1 k32 a0.gA8), (k32 a0.gB4), (k32 a0.gB5), (k32 a0.gTo)]), (aI.enc a1), (.v .nilIface), (eO 4 1 (eL 2 aD.enc) s10), (aB.enc r4), (.st 3 [(j64 0), (j64 0), (j64 0)])])), (4, .tail (s10.length * 1))] []) N (fun _ h => ⟨_, _, h, jr⟩) (fun p9 k s hI => ?_) fun p9 => ?_
    ·obtain ⟨s10, s11, h, hj⟩ := hI
     cases k with
     | zero => cases h
     | succ k =>
      refine At.jr hj ?_ h
      refine At.c 1 ?_ ?_
      ·refine At.b 0 (fun _ e => cA hT aD.enc e) fun e12 => ?_
       refine At.b 4 (fun _ e => aL [] (aDF e)) fun r13 => ?_
       refine At.o 11 (cM hT (x := (.sl 1 1 [(eL 2 aD.enc r13.1)]))) ?_
       refine At.b 0 (fun _ e => sB hT (eL 2 aD.enc) (id := 4) (k := 1) e) fun z14 => ?_
       exact fun h => At.k 5 ⟨_, _, h, jr⟩
      ·apply rt; exact At.x 0
    ·refine At.c 2 ?_ ?_
     ·refine At.b 2 (fun _ e => aL [] (pI e)) fun r15 => ?_
      refine aKW (fun r17 hr17 => ?_) (fun r18 hr18 => ?_)
      ·refine At.o 8 (aL [] (aE4 hr17)) ?_
       refine At.o 7 (aBy hT (t := 88) (x := (.v (.pointer none))) (by kernel_rfl) (by kernel_rfl)) ?_
       apply rt; exact At.r 7
      ·refine At.o 8 (aL [] (aFq hr18)) ?_
       refine At.o 7 (aBy hT (t := 88) (x := (.ref 6 [] 0)) (by kernel_rfl) (by kernel_rfl)) ?_
       apply rt; exact At.r 7
     ·refine aKW (fun r20 hr20 => ?_) (fun r21 hr21 => ?_)
      ·refine At.o 2 (aL [] (aGO hr20)) ?_
       refine At.o 7 (aBy hT (t := 91) (x := (.v (.pointer none))) (by kernel_rfl) (by kernel_rfl)) ?_
       apply rt; exact At.r 7
      ·refine At.o 2 (aL [] (aGR hr21)) ?_
       refine At.o 7 (aBy hT (t := 91) (x := (.ref 6 [] 0)) (by kernel_rfl) (by kernel_rfl)) ?_
       apply rt; exact At.r 7

theorem vB {N a0 a1 r} (h : iP N a0 a1 = some (Sum.inl r)) : FnM Tryz.prog 11 [] [(aE.enc a0), (aI.enc a1)] (.tup [(.v (.pointer none)), (j64 r)]) [] := xI h

theorem vD {N a0 a1 r} (h : iP N a0 a1 = some (Sum.inr (Sum.inl r))) : FnM Tryz.prog 11 [] [(aE.enc a0), (aI.enc a1)] (.tup [(.ref 0 [] 0), (j64 r.2.2.2.2.2)]) [.var (.st 38 [(.st 9 [(eL 19 aG.enc r.1), (eL 5 aQ.enc r.2.1), (eL 2 aD.enc a0.gR), (eL 13 aP.enc r.2.2.1), (eL 1 k64 a0.gA7), (eL 1 k32 a0.gA8), (k32 a0.gB4), (k32 a0.gB5), (k32 a0.gTo)]), (aI.enc a1), (.ifc 88 (.v (.pointer none))), (eL 1 (eL 2 aD.enc) r.2.2.2.1), (aB.enc r.2.2.2.2.1), (.st 3 [(j64 0), (j64 0), (j64 0)])])] := xI h

theorem uZ {N a0 a1 r} (h : iP N a0 a1 = some (Sum.inr (Sum.inr (Sum.inl r)))) : FnM Tryz.prog 11 [] [(aE.enc a0), (aI.enc a1)] (.tup [(.ref 0 [] 0), (j64 r.2.2.2.2.2.2)]) [.var (.st 38 [(.st 9 [(eO 1 19 aG.enc r.1), (eO 2 5 aQ.enc r.2.1), (eL 2 aD.enc a0.gR), (eO 3 13 aP.enc r.2.2.1), (eL 1 k64 a0.gA7), (eL 1 k32 a0.gA8), (k32 a0.gB4), (k32 a0.gB5), (k32 a0.gTo)]), (aI.enc a1), (.ifc 88 (.ref 6 [] 0)), (eO 4 1 (eL 2 aD.enc) r.2.2.2.1), (aB.enc r.2.2.2.2.1), (.st 3 [(j64 0), (j64 0), (j64 0)])]), .tail (r.1.length * 19), .tail (r.2.1.length * 5), .tail (r.2.2.1.length * 13), .tail (r.2.2.2.1.length * 1), .dead, .var (.st 3 [(.st 1 [(j64 0)]), (eB true), (eL 19 aG.enc r.2.2.2.2.2.1)])] := xI h

theorem aFa {N a0 a1 r} (h : iP N a0 a1 = some (Sum.inr (Sum.inr (Sum.inr (Sum.inr r))))) : FnM Tryz.prog 11 [] [(aE.enc a0), (aI.enc a1)] (.tup [(.ref 0 [] 0), (j64 r.2.2.2.2.2.2.2)]) [.var (.st 38 [(.st 9 [(eO 1 19 aG.enc r.1), (eO 2 5 aQ.enc r.2.1), (eL 2 aD.enc a0.gR), (eO 3 13 aP.enc r.2.2.1), (eL 1 k64 a0.gA7), (eL 1 k32 a0.gA8), (k32 a0.gB4), (k32 a0.gB5), (k32 a0.gTo)]), (aI.enc a1), (.ifc 91 (.ref 6 [] 0)), (eO 4 1 (eL 2 aD.enc) r.2.2.2.1), (aB.enc r.2.2.2.2.1), (.st 3 [(j64 0), (j64 0), (j64 0)])]), .tail (r.1.length * 19), .tail (r.2.1.length * 5), .tail (r.2.2.1.length * 13), .tail (r.2.2.2.1.length * 1), .var (bI.enc r.2.2.2.2.2.1), .var (aM.enc r.2.2.2.2.2.2.1)] := xI h

def tR (N : Nat) : Option (aI) :=
 some (aI.mk 1 1 1 0 0 0 (bK.mk (aC.mk 0 0 0) (aC.mk 16384 0 0) (aC.mk 0 16384 0) (aC.mk 0 0 16384) 0 1) false)

theorem aB3 {N r} (h : tR N = some r) : FnM Tryz.prog 30 [] [] (aI.enc r) [] := by
 unfold tR at h
 refine At.f cU hT hmo Tryz.func30 rfl h ?_
 apply rt; exact At.r 7

def uR (N : Nat) (a0 : Int) (a1 : Int) (a2 : Int) : Option (Unit) :=
 some (())

theorem aCB {N a0 a1 a2 r} (h : uR N a0 a1 a2 = some r) : FnM Tryz.prog 31 [] [(k64 a0), (j64 a1), (j64 a2)] (.ref 0 [] 0) [.var (.st 72 [cv_5, (eB true), (k64 a0), (j64 a1), (j64 a2)])] := by
 unfold uR at h
 refine At.f cU hT hmo Tryz.func31 rfl h ?_
 apply rt; exact At.r 7

def uT (N : Nat) (a0 : Int) (a1 : Int) (a2 : Int) (a3 : Int) : Option (bS) :=
 aR (U32 (iA .i64 a2 65535)) fun x1 =>
 aR (U32 (Int.tdiv (U32 (iA .i64 a3 63)) 16)) fun x2 =>
 aR (U32 ((U32 (x1 * 4)) + x2)) fun x3 =>
 some (bS.mk (U32 a0) (U32 a1) ((U32 ((U32 ((U32 (iA .i64 a2 65535)) * 4)) + (U32 (Int.tdiv (U32 (iA .i64 a3 63)) 16))))))

theorem aEc {N a0 a1 a2 a3 r} (h : uT N a0 a1 a2 a3 = some r) : FnM Tryz.prog 145 [] [(j64 a0), (j64 a1), (j64 a2), (j64 a3)] (bS.enc r) [] := by
 unfold uT at h
 refine At.f cU hT hmo Tryz.func145 rfl h ?_
 refine lx ?_; intro x1
 refine lx ?_; intro x2
 refine lx ?_; intro x3
 apply rt; exact At.r 16

def nH (N : Nat) (a0 : Int) : Nat → (Vector Int 32) → Int → Option ((Vector Int 32))
 | 0, _, _ => none
 | k + 1, s4, s5 =>
  cond (decide (s5 < 8)) (
   Option.bind (aEe .u64 a0 (I64 (8 * s5))) fun x6 =>
   Option.bind (eK (I64 (24 + s5)) 32) fun _ =>
   Option.bind (s4.toList[(I64 (24 + s5)).toNat]?) fun e8 =>
   nH N a0 k (s4.setIfInBounds ((I64 (24 + s5)).toNat) (U8 x6)) (I64 (s5 + 1))) (
   some s4)

def vA (N : Nat) (a0 : Int) : Option ((Vector Int 32)) :=
 Option.bind (aN3 32 0 32) fun _ =>
 Option.bind (cpV (Vector.replicate 32 0) (aKg str_1) 0 32) fun v2 =>
 Option.bind (nH N a0 N v2 0) fun p3 =>
 some p3

theorem aGE {N a0 r} (h : vA N a0 = some r) : FnM Tryz.prog 214 [] [(k64 a0)] (eA 32 1 k8 r) [] := by
 unfold vA at h
 refine At.f cU hT hmo Tryz.func214 rfl h ?_
 refine At.b 2 (fun _ e => aLG hT (k := 1) 1 [] 0 e (by kernel_rfl) (by kernel_rfl) (by decide)) fun s1 => ?_
 refine At.b 0 (fun v2 e => aNa hT k8 (id := 1) (path := []) (off := 0) (H' := [.var (eA 32 1 k8 (Vector.replicate 32 0)), .var (eA 32 1 k8 v2)]) e (by kernel_rfl) (by kernel_rfl) (by kernel_rfl)) fun v2 => ?_
 refine At.L 1 [2, 3] 2 (fun p3 => ([], [(1, .var (eA 32 1 k8 p3))], [])) (fun p3 J k => ∃ s4 s5, nH N a0 k s4 s5 = some p3 ∧ J [0, 2, 3] 2 [(7, (j64 s5))] [(1, .var (eA 32 1 k8 s4))] []) N (fun _ h => ⟨_, _, h, jr⟩) (fun p3 k s hI => ?_) fun p3 => ?_
 ·obtain ⟨s4, s5, h, hj⟩ := hI
  cases k with
  | zero => cases h
  | succ k =>
   refine At.jr hj ?_ h
   refine At.c 1 ?_ ?_
   ·refine At.b 7 (fun _ e => xH hT (k' := .i64) e (by kernel_rfl) (by kernel_rfl)) fun x6 => ?_
    refine At.b 1 (fun _ e => bD hT (k := 1) 1 [] 0 e) fun u7 => ?_
    refine At.b 0 (fun _ e => nB hT k8 0 s4 e (U8 x6) (by kernel_rfl) (by kernel_rfl) (H' := [.var (eA 32 1 k8 (Vector.replicate 32 0)), .var (eA 32 1 k8 (s4.setIfInBounds ((I64 (24 + s5)).toNat) (U8 x6)))])) fun e8 => ?_
    exact fun h => At.k 2 ⟨_, _, h, jr⟩
   ·apply rt; exact At.x 0
 ·apply rt; exact At.r 2

def nJ (N : Nat) (a0 : (List Int)) : Option (Int) :=
 Option.bind (idx a0 0) fun e1 =>
 Option.bind (idx a0 1) fun e2 =>
 aR (bor .u32 (U32 e1) (shl .u32 (U32 e2) 8)) fun x3 =>
 Option.bind (idx a0 2) fun e4 =>
 aR (bor .u32 x3 (shl .u32 (U32 e4) 16)) fun x5 =>
 Option.bind (idx a0 3) fun e6 =>
 aR (bor .u32 x5 (shl .u32 (U32 e6) 24)) fun x7 =>
 some x7

theorem aAO {N a0 r} (h : nJ N a0 = some r) : FnM Tryz.prog 268 [] [(eL 1 k8 a0)] (k32 r) [] := by
 unfold nJ at h
 refine At.f cU hT hmo Tryz.func268 rfl h ?_
 refine bi fun e1 he1 => ?_
 refine bi fun e2 he2 => ?_
 refine lx ?_; intro x3
 refine bi fun e4 he4 => ?_
 refine lx ?_; intro x5
 refine bi fun e6 he6 => ?_
 refine lx ?_; intro x7
 refine At.d 1 (dE1 1 (fun _ => cA hT k8 he1) (dE1 5 (fun _ => cA hT k8 he2) (dE1 11 (fun _ => cA hT k8 he4) (dE1 17 (fun _ => cA hT k8 he6) dE0)))) dF0 ?_
 apply rt; exact At.r 0

def aE5 : Nat → Bool := imL [3, 5]

def lC (N : Nat) (a0 : (Vector Int 32)) : Nat → (Vector Int 16) → Int → Option ((Vector Int 16))
 | 0, _, _ => none
 | k + 1, s2, s3 =>
  cond (decide (s3 < 8)) (
   Option.bind (wG a0.toList (I64 (4 * s3)) 32) fun s4 =>
   Option.bind (nJ N s4) fun r5 =>
   Option.bind (eK (I64 (4 + s3)) 16) fun _ =>
   Option.bind (s2.toList[(I64 (4 + s3)).toNat]?) fun e7 =>
   lC N a0 k (s2.setIfInBounds ((I64 (4 + s3)).toNat) r5) (I64 (s3 + 1))) (
   some s2)

def lJ (N : Nat) (a2 : (Vector Int 12)) : Nat → (Vector Int 16) → Int → Option ((Vector Int 16))
 | 0, _, _ => none
 | k + 1, s9, s10 =>
  cond (decide (s10 < 3)) (
   Option.bind (wG a2.toList (I64 (4 * s10)) 12) fun s11 =>
   Option.bind (nJ N s11) fun r12 =>
   Option.bind (eK (I64 (13 + s10)) 16) fun _ =>
   Option.bind (s9.toList[(I64 (13 + s10)).toNat]?) fun e14 =>
   lJ N a2 k (s9.setIfInBounds ((I64 (13 + s10)).toNat) r12) (I64 (s10 + 1))) (
   some s9)

def rL (N : Nat) (a0 : (Vector Int 32)) (a1 : Int) (a2 : (Vector Int 12)) : Option ((Vector Int 16)) :=
 Option.bind (lC N a0 N (#v[1634760805, 857760878, 2036477234, 1797285236, 0, 0, 0, 0, 0, 0, 0, 0, a1, 0, 0, 0]) 0) fun p1 =>
 Option.bind (lJ N a2 N p1 0) fun p8 =>
 some p8

theorem aEW {N a0 a1 a2 r} (h : rL N a0 a1 a2 = some r) : FnM Tryz.prog 252 [] [(eA 32 1 k8 a0), (k32 a1), (eA 12 1 k8 a2)] (eA 16 1 k32 r) [] := by
 unfold rL at h
 refine At.f aE5 hT hmo Tryz.func252 rfl h ?_
 refine At.L 8 [5, 6, 7] 2 (fun p1 => ([], [(1, .var (eA 16 1 k32 p1))], [])) (fun p1 J k => ∃ s2 s3, lC N a0 k s2 s3 = some p1 ∧ J [3, 5, 6, 7] 2 [(12, (j64 s3))] [(1, .var (eA 16 1 k32 s2))] []) N (fun _ h => ⟨_, _, h, jr⟩) (fun p1 k s hI => ?_) fun p1 => ?_
 ·obtain ⟨s2, s3, h, hj⟩ := hI
  cases k with
  | zero => cases h
  | succ k =>
   refine At.jr hj ?_ h
   refine At.c 1 ?_ ?_
   ·refine At.b 6 (fun _ e => aAY hT (N := 32) (k := 1) k8 a0 e) fun s4 => ?_
    refine At.b 0 (fun _ e => aL [] (aAO e)) fun r5 => ?_
    refine At.b 0 (fun _ e => bD hT (k := 1) 1 [] 0 e) fun u6 => ?_
    refine At.b 0 (fun _ e => nB hT k32 0 s2 e r5 (by kernel_rfl) (by kernel_rfl) (H' := [.var (eA 16 1 k32 (Vector.replicate 16 0)), .var (eA 16 1 k32 (s2.setIfInBounds ((I64 (4 + s3)).toNat) r5))])) fun e7 => ?_
    exact fun h => At.k 2 ⟨_, _, h, jr⟩
   ·apply rt; exact At.x 0
 ·refine At.L 1 [6, 7] 2 (fun p8 => ([], [(1, .var (eA 16 1 k32 p8))], [])) (fun p8 J k => ∃ s9 s10, lJ N a2 k s9 s10 = some p8 ∧ J [5, 6, 7] 2 [(23, (j64 s10))] [(1, .var (eA 16 1 k32 s9))] []) N (fun _ h => ⟨_, _, h, jr⟩) (fun p8 k s hI => ?_) fun p8 => ?_
  ·obtain ⟨s9, s10, h, hj⟩ := hI
   cases k with
   | zero => cases h
   | succ k =>
    refine At.jr hj ?_ h
    refine At.c 1 ?_ ?_
    ·refine At.b 6 (fun _ e => aAY hT (N := 12) (k := 1) k8 a2 e) fun s11 => ?_
     refine At.b 0 (fun _ e => aL [] (aAO e)) fun r12 => ?_
     refine At.b 0 (fun _ e => bD hT (k := 1) 1 [] 0 e) fun u13 => ?_
     refine At.b 0 (fun _ e => nB hT k32 0 s9 e r12 (by kernel_rfl) (by kernel_rfl) (H' := [.var (eA 16 1 k32 (Vector.replicate 16 0)), .var (eA 16 1 k32 (s9.setIfInBounds ((I64 (13 + s10)).toNat) r12))])) fun e14 => ?_
     exact fun h => At.k 2 ⟨_, _, h, jr⟩
    ·apply rt; exact At.x 0
  ·apply rt; exact At.r 2

def dD (N : Nat) (a0 : Int) (a1 : Int) : Option (Int) :=
 Option.bind (aHk .u32 a0 (iA .u64 (U64 a1) 31)) fun x1 =>
 aR (U64 (32 - (iA .u64 (U64 a1) 31))) fun x2 =>
 Option.bind (aEe .u32 a0 x2) fun x3 =>
 some (bor .u32 x1 x3)

theorem jX {N a0 a1 r} (h : dD N a0 a1 = some r) : FnM Tryz.prog 269 [] [(k32 a0), (j64 a1)] (k32 r) [] := by
 unfold dD at h
 refine At.f cU hT hmo Tryz.func269 rfl h ?_
 refine At.b 7 (fun _ e => aBv hT (k' := .u64) e (by kernel_rfl) (by kernel_rfl)) fun x1 => ?_
 refine lx ?_; intro x2
 refine At.b 3 (fun _ e => xH hT (k' := .u64) e (by kernel_rfl) (by kernel_rfl)) fun x3 => ?_
 apply rt; exact At.r 2

def aDS : Nat → Bool := imL [1]

def pO (N : Nat) (a0 : (Vector Int 4)) : Option ((Vector Int 4)) :=
 Option.bind (idx a0.toList 0) fun e1 =>
 Option.bind (idx a0.toList 1) fun e2 =>
 Option.bind (idx a0.toList 2) fun e3 =>
 Option.bind (idx a0.toList 3) fun e4 =>
 aR (bxor .u32 e4 (U32 (e1 + e2))) fun x5 =>
 Option.bind (dD N x5 16) fun r6 =>
 aR (bxor .u32 e2 (U32 (e3 + r6))) fun x7 =>
 Option.bind (dD N x7 12) fun r8 =>
 aR (U32 ((U32 (e1 + e2)) + r8)) fun x9 =>
 Option.bind (dD N (bxor .u32 r6 x9) 8) fun r10 =>
 aR (U32 ((U32 (e3 + r6)) + r10)) fun x11 =>
 Option.bind (dD N (bxor .u32 r8 x11) 7) fun r12 =>
 some (#v[x9, r12, x11, r10])

theorem aCy {N a0 r} (h : pO N a0 = some r) : FnM Tryz.prog 253 [] [(eA 4 1 k32 a0)] (eA 4 1 k32 r) [] := by
 unfold pO at h
 refine At.f aDS hT hmo Tryz.func253 rfl h ?_
 refine bi fun e1 he1 => ?_
 refine bi fun e2 he2 => ?_
 refine bi fun e3 he3 => ?_
 refine bi fun e4 he4 => ?_
 refine At.d 2 (dE1 0 (fun _ => dK hT (N := 4) (k := 1) k32 a0 he1) (dE1 2 (fun _ => dK hT (N := 4) (k := 1) k32 a0 he2) (dE1 4 (fun _ => dK hT (N := 4) (k := 1) k32 a0 he3) (dE1 6 (fun _ => dK hT (N := 4) (k := 1) k32 a0 he4) dE0)))) dF0 ?_
 refine lx ?_; intro x5
 refine At.b 7 (fun _ e => aL [] (jX e)) fun r6 => ?_
 refine lx ?_; intro x7
 refine At.b 8 (fun _ e => aL [] (jX e)) fun r8 => ?_
 refine lx ?_; intro x9
 refine At.b 8 (fun _ e => aL [] (jX e)) fun r10 => ?_
 refine lx ?_; intro x11
 refine At.b 8 (fun _ e => aL [] (jX e)) fun r12 => ?_
 apply rt; exact At.r 7

def aFk : Nat → Bool := imL [3, 5]

def jD (N : Nat)  : Nat → (Vector Int 16) → Int → Option ((Vector Int 16))
 | 0, _, _ => none
 | k + 1, s6, s7 =>
  cond (decide (s7 < 8)) (
   Option.bind (idx (#v[#v[0, 4, 8, 12], #v[1, 5, 9, 13], #v[2, 6, 10, 14], #v[3, 7, 11, 15], #v[0, 5, 10, 15], #v[1, 6, 11, 12], #v[2, 7, 8, 13], #v[3, 4, 9, 14]]).toList s7) fun e8 =>
   Option.bind (eK 0 4) fun _ =>
   Option.bind (e8.toList[(Int.toNat 0)]?) fun e10 =>
   Option.bind (eK e10 16) fun _ =>
   Option.bind (s6.toList[e10.toNat]?) fun e12 =>
   Option.bind (eK 1 4) fun _ =>
   Option.bind (e8.toList[(Int.toNat 1)]?) fun e14 =>
   Option.bind (eK e14 16) fun _ =>
   Option.bind (s6.toList[e14.toNat]?) fun e16 =>
   Option.bind (eK 2 4) fun _ =>
   Option.bind (e8.toList[(Int.toNat 2)]?) fun e18 =>
   Option.bind (eK e18 16) fun _ =>
   Option.bind (s6.toList[e18.toNat]?) fun e20 =>
   Option.bind (eK 3 4) fun _ =>
   Option.bind (e8.toList[(Int.toNat 3)]?) fun e22 =>
   Option.bind (eK e22 16) fun _ =>
   Option.bind (s6.toList[e22.toNat]?) fun e24 =>
   Option.bind (pO N (#v[e12, e16, e20, e24])) fun r25 =>
   Option.bind (eK 0 4) fun _ =>
   Option.bind (e8.toList[(Int.toNat 0)]?) fun e27 =>
   Option.bind (eK 1 4) fun _ =>
   Option.bind (e8.toList[(Int.toNat 1)]?) fun e29 =>
   Option.bind (eK 2 4) fun _ =>
   Option.bind (e8.toList[(Int.toNat 2)]?) fun e31 =>
   Option.bind (eK 3 4) fun _ =>
   Option.bind (e8.toList[(Int.toNat 3)]?) fun e33 =>
   Option.bind (eK 0 4) fun _ =>
   Option.bind (r25.toList[(Int.toNat 0)]?) fun e35 =>
   Option.bind (eK 1 4) fun _ =>
   Option.bind (r25.toList[(Int.toNat 1)]?) fun e37 =>
   Option.bind (eK 2 4) fun _ =>
   Option.bind (r25.toList[(Int.toNat 2)]?) fun e39 =>
   Option.bind (eK 3 4) fun _ =>
   Option.bind (r25.toList[(Int.toNat 3)]?) fun e41 =>
   Option.bind (eK e27 16) fun _ =>
   Option.bind (s6.toList[e27.toNat]?) fun e43 =>
   Option.bind (eK e29 16) fun _ =>
   Option.bind ((s6.setIfInBounds e27.toNat e35).toList[e29.toNat]?) fun e45 =>
   Option.bind (eK e31 16) fun _ =>
   Option.bind (((s6.setIfInBounds e27.toNat e35).setIfInBounds e29.toNat e37).toList[e31.toNat]?) fun e47 =>
   Option.bind (eK e33 16) fun _ =>
   Option.bind ((((s6.setIfInBounds e27.toNat e35).setIfInBounds e29.toNat e37).setIfInBounds e31.toNat e39).toList[e33.toNat]?) fun e49 =>
   jD N k ((((s6.setIfInBounds e27.toNat e35).setIfInBounds e29.toNat e37).setIfInBounds e31.toNat e39).setIfInBounds e33.toNat e41) (I64 (s7 + 1))) (
   some s6)

def lK (N : Nat)  : Nat → (Vector Int 16) → Int → Option ((Vector Int 16))
 | 0, _, _ => none
 | k + 1, s3, s4 =>
  cond (decide (s4 < 10)) (
   Option.bind (jD N N s3 0) fun p5 =>
   lK N k p5 (I64 (s4 + 1))) (
   some s3)

def lH (N : Nat) (p2 : (Vector Int 16)) (r1 : (Vector Int 16)) : Nat → (Vector Int 64) → Int → Option ((Vector Int 64))
 | 0, _, _ => none
 | k + 1, s51, s52 =>
  cond (decide (s52 < 16)) (
   Option.bind (idx p2.toList s52) fun e53 =>
   Option.bind (eK s52 16) fun _ =>
   Option.bind (r1.toList[s52.toNat]?) fun e55 =>
   aR (I64 ((I64 (4 * s52)) + 1)) fun x56 =>
   aR (I64 ((I64 (4 * s52)) + 2)) fun x57 =>
   aR (I64 ((I64 (4 * s52)) + 3)) fun x58 =>
   aR (shr .u32 (U32 (e53 + e55)) 8) fun x59 =>
   aR (shr .u32 (U32 (e53 + e55)) 16) fun x60 =>
   aR (shr .u32 (U32 (e53 + e55)) 24) fun x61 =>
   Option.bind (eK (I64 (4 * s52)) 64) fun _ =>
   Option.bind (s51.toList[(I64 (4 * s52)).toNat]?) fun e63 =>
   Option.bind (eK x56 64) fun _ =>
   Option.bind ((s51.setIfInBounds ((I64 (4 * s52)).toNat) (U8 (U32 (e53 + e55)))).toList[x56.toNat]?) fun e65 =>
   Option.bind (eK x57 64) fun _ =>
   Option.bind (((s51.setIfInBounds ((I64 (4 * s52)).toNat) (U8 (U32 (e53 + e55)))).setIfInBounds x56.toNat (U8 x59)).toList[x57.toNat]?) fun e67 =>
   Option.bind (eK x58 64) fun _ =>
   Option.bind ((((s51.setIfInBounds ((I64 (4 * s52)).toNat) (U8 (U32 (e53 + e55)))).setIfInBounds x56.toNat (U8 x59)).setIfInBounds x57.toNat (U8 x60)).toList[x58.toNat]?) fun e69 =>
   lH N p2 r1 k ((((s51.setIfInBounds ((I64 (4 * s52)).toNat) (U8 (U32 (e53 + e55)))).setIfInBounds x56.toNat (U8 x59)).setIfInBounds x57.toNat (U8 x60)).setIfInBounds x58.toNat (U8 x61)) (I64 (s52 + 1))) (
   some s51)

def rV (N : Nat) (a0 : (Vector Int 32)) (a1 : Int) (a2 : (Vector Int 12)) : Option ((Vector Int 64)) :=
 Option.bind (rL N a0 a1 a2) fun r1 =>
 Option.bind (lK N N r1 0) fun p2 =>
 Option.bind (lH N p2 r1 N (Vector.replicate 64 0) 0) fun p50 =>
 some p50

theorem aET {N a0 a1 a2 r} (h : rV N a0 a1 a2 = some r) : FnM Tryz.prog 213 [] [(eA 32 1 k8 a0), (k32 a1), (eA 12 1 k8 a2)] (eA 64 1 k8 r) [] := by
 unfold rV at h
 refine At.f aFk hT hmo Tryz.func213 rfl h ?_
 refine At.b 6 (fun _ e => aL [] (aEW e)) fun r1 => ?_
 refine At.L 17 [6, 7, 8] 4 (fun p2 => ([], [(2, .var (eA 16 1 k32 p2))], [])) (fun p2 J k => ∃ s3 s4, lK N k s3 s4 = some p2 ∧ J [6, 7, 8, 9] 4 [(30, (j64 s4))] [(2, .var (eA 16 1 k32 s3))] []) N (fun _ h => ⟨_, _, h, jr⟩) (fun p2 k s hI => ?_) fun p2 => ?_
 ·obtain ⟨s3, s4, h, hj⟩ := hI
  cases k with
  | zero => cases h
  | succ k =>
   refine At.jr hj ?_ h
   refine At.c 1 ?_ ?_
   ·refine At.L 2 [6, 7, 8, 9, 30] 4 (fun p5 => ([], [(2, .var (eA 16 1 k32 p5))], [])) (fun p5 J k => ∃ s6 s7, jD N k s6 s7 = some p5 ∧ J [6, 7, 8, 9, 30, 32] 4 [(33, (j64 s7))] [(2, .var (eA 16 1 k32 s6))] []) N (fun _ h => ⟨_, _, h, jr⟩) (fun p5 k s hI => ?_) fun p5 => ?_
    ·obtain ⟨s6, s7, h, hj⟩ := hI
     cases k with
     | zero => cases h
     | succ k =>
      refine At.jr hj ?_ h
      refine At.c 1 ?_ ?_
      ·refine At.b 0 (fun _ e => zD hT (eA 4 1 j64) (#v[#v[0, 4, 8, 12], #v[1, 5, 9, 13], #v[2, 6, 10, 14], #v[3, 7, 11, 15], #v[0, 5, 10, 15], #v[1, 6, 11, 12], #v[2, 7, 8, 13], #v[3, 4, 9, 14]]) e (by kernel_rfl) (by kernel_rfl)) fun e8 => ?_
       refine bi fun u9 hu9 => ?_
       refine bi fun e10 he10 => ?_
       refine bi fun u11 hu11 => ?_
       refine bi fun e12 he12 => ?_
       refine bi fun u13 hu13 => ?_
       refine bi fun e14 he14 => ?_
       refine bi fun u15 hu15 => ?_
       refine bi fun e16 he16 => ?_
       refine bi fun u17 hu17 => ?_
       refine bi fun e18 he18 => ?_
       refine bi fun u19 hu19 => ?_
       refine bi fun e20 he20 => ?_
       refine bi fun u21 hu21 => ?_
       refine bi fun e22 he22 => ?_
       refine bi fun u23 hu23 => ?_
       refine bi fun e24 he24 => ?_
       refine bi fun r25 hr25 => ?_
       refine At.d 2 (dE1 0 (fun _ => bD hT (k := 1) 4 [] 0 hu9) (dEL hT 1 (j64 e10) j64 0 he10 (dE1 2 (fun _ => bD hT (k := 1) 2 [] 0 hu11) (dEL hT 3 (k32 e12) k32 0 he12 (dE1 4 (fun _ => bD hT (k := 1) 4 [] 0 hu13) (dEL hT 5 (j64 e14) j64 0 he14 (dE1 6 (fun _ => bD hT (k := 1) 2 [] 0 hu15) (dEL hT 7 (k32 e16) k32 0 he16 (dE1 8 (fun _ => bD hT (k := 1) 4 [] 0 hu17) (dEL hT 9 (j64 e18) j64 0 he18 (dE1 10 (fun _ => bD hT (k := 1) 2 [] 0 hu19) (dEL hT 11 (k32 e20) k32 0 he20 (dE1 12 (fun _ => bD hT (k := 1) 4 [] 0 hu21) (dEL hT 13 (j64 e22) j64 0 he22 (dE1 14 (fun _ => bD hT (k := 1) 2 [] 0 hu23) (dEL hT 15 (k32 e24) k32 0 he24 (dE2 17 (eA 4 1 k32 r25) (fun _ => aN (aCy hr25)) dE0))))))))))))))))) dF0 ?_
       refine bi fun u26 hu26 => ?_
       refine bi fun e27 he27 => ?_
       refine bi fun u28 hu28 => ?_
       refine bi fun e29 he29 => ?_
       refine bi fun u30 hu30 => ?_
       refine bi fun e31 he31 => ?_
       refine bi fun u32 hu32 => ?_
       refine bi fun e33 he33 => ?_
       refine bi fun u34 hu34 => ?_
       refine bi fun e35 he35 => ?_
       refine bi fun u36 hu36 => ?_
       refine bi fun e37 he37 => ?_
       refine bi fun u38 hu38 => ?_
       refine bi fun e39 he39 => ?_
       refine bi fun u40 hu40 => ?_
       refine bi fun e41 he41 => ?_
       refine bi fun u42 hu42 => ?_
       refine bi fun e43 he43 => ?_
       refine bi fun u44 hu44 => ?_
       refine bi fun e45 he45 => ?_
       refine bi fun u46 hu46 => ?_
       refine bi fun e47 he47 => ?_
       refine bi fun u48 hu48 => ?_
       refine bi fun e49 he49 => ?_
       refine At.d 0 (dE1 0 (fun _ => bD hT (k := 1) 4 [] 0 hu26) (dEL hT 1 (j64 e27) j64 0 he27 (dE1 2 (fun _ => bD hT (k := 1) 4 [] 0 hu28) (dEL hT 3 (j64 e29) j64 0 he29 (dE1 4 (fun _ => bD hT (k := 1) 4 [] 0 hu30) (dEL hT 5 (j64 e31) j64 0 he31 (dE1 6 (fun _ => bD hT (k := 1) 4 [] 0 hu32) (dEL hT 7 (j64 e33) j64 0 he33 (dE1 8 (fun _ => bD hT (k := 1) 5 [] 0 hu34) (dEL hT 9 (k32 e35) k32 0 he35 (dE1 10 (fun _ => bD hT (k := 1) 5 [] 0 hu36) (dEL hT 11 (k32 e37) k32 0 he37 (dE1 12 (fun _ => bD hT (k := 1) 5 [] 0 hu38) (dEL hT 13 (k32 e39) k32 0 he39 (dE1 14 (fun _ => bD hT (k := 1) 5 [] 0 hu40) (dEL hT 15 (k32 e41) k32 0 he41 (dE1 16 (fun _ => bD hT (k := 1) 2 [] 0 hu42) (dE1 18 (fun _ => bD hT (k := 1) 2 [] 0 hu44) (dE1 20 (fun _ => bD hT (k := 1) 2 [] 0 hu46) (dE1 22 (fun _ => bD hT (k := 1) 2 [] 0 hu48) dE0)))))))))))))))))))) (dF 17 (.v (.bool false)) [(2, .var (eA 16 1 k32 (s6.setIfInBounds e27.toNat e35)))] [] (bO (nB hT k32 0 s6 he43 e35 (by kernel_rfl) (by kernel_rfl) (H' := [.var (eA 64 1 k8 (Vector.replicate 64 0)), .var (eA 16 1 k32 r1), .var (eA 16 1 k32 (s6.setIfInBounds e27.toNat e35)), .var aJS, .var (eA 4 1 j64 e8), .var (eA 4 1 k32 r25)]))) (dF 19 (.v (.bool false)) [(2, .var (eA 16 1 k32 ((s6.setIfInBounds e27.toNat e35).setIfInBounds e29.toNat e37)))] [] (bO (nB hT k32 0 (s6.setIfInBounds e27.toNat e35) he45 e37 (by kernel_rfl) (by kernel_rfl) (H' := [.var (eA 64 1 k8 (Vector.replicate 64 0)), .var (eA 16 1 k32 r1), .var (eA 16 1 k32 ((s6.setIfInBounds e27.toNat e35).setIfInBounds e29.toNat e37)), .var aJS, .var (eA 4 1 j64 e8), .var (eA 4 1 k32 r25)]))) (dF 21 (.v (.bool false)) [(2, .var (eA 16 1 k32 (((s6.setIfInBounds e27.toNat e35).setIfInBounds e29.toNat e37).setIfInBounds e31.toNat e39)))] [] (bO (nB hT k32 0 ((s6.setIfInBounds e27.toNat e35).setIfInBounds e29.toNat e37) he47 e39 (by kernel_rfl) (by kernel_rfl) (H' := [.var (eA 64 1 k8 (Vector.replicate 64 0)), .var (eA 16 1 k32 r1), .var (eA 16 1 k32 (((s6.setIfInBounds e27.toNat e35).setIfInBounds e29.toNat e37).setIfInBounds e31.toNat e39)), .var aJS, .var (eA 4 1 j64 e8), .var (eA 4 1 k32 r25)]))) (dF 23 (.v (.bool false)) [(2, .var (eA 16 1 k32 ((((s6.setIfInBounds e27.toNat e35).setIfInBounds e29.toNat e37).setIfInBounds e31.toNat e39).setIfInBounds e33.toNat e41)))] [] (bO (nB hT k32 0 (((s6.setIfInBounds e27.toNat e35).setIfInBounds e29.toNat e37).setIfInBounds e31.toNat e39) he49 e41 (by kernel_rfl) (by kernel_rfl) (H' := [.var (eA 64 1 k8 (Vector.replicate 64 0)), .var (eA 16 1 k32 r1), .var (eA 16 1 k32 ((((s6.setIfInBounds e27.toNat e35).setIfInBounds e29.toNat e37).setIfInBounds e31.toNat e39).setIfInBounds e33.toNat e41)), .var aJS, .var (eA 4 1 j64 e8), .var (eA 4 1 k32 r25)]))) dF0)))) ?_
       exact fun h => At.k 2 ⟨_, _, h, jr⟩
      ·apply rt; exact At.x 0
    ·exact fun h => At.k 2 ⟨_, _, h, jr⟩
   ·apply rt; exact At.x 0
 ·refine At.L 3 [6, 13] 5 (fun p50 => ([], [(4, .var (eA 64 1 k8 p50))], [])) (fun p50 J k => ∃ s51 s52, lH N p2 r1 k s51 s52 = some p50 ∧ J [6, 7, 13, 76] 5 [(77, (j64 s52))] [(4, .var (eA 64 1 k8 s51))] []) N (fun _ h => ⟨_, _, h, jr⟩) (fun p50 k s hI => ?_) fun p50 => ?_
  ·obtain ⟨s51, s52, h, hj⟩ := hI
   cases k with
   | zero => cases h
   | succ k =>
    refine At.jr hj ?_ h
    refine At.c 1 ?_ ?_
    ·refine At.b 1 (fun _ e => zD hT k32 p2 e (by kernel_rfl) (by kernel_rfl)) fun e53 => ?_
     refine At.b 4 (fun _ e => bD hT (k := 1) 1 [] 0 e) fun u54 => ?_
     refine At.b 0 (fun _ e => oR hT k32 0 e) fun e55 => ?_
     refine lx ?_; intro x56
     refine lx ?_; intro x57
     refine lx ?_; intro x58
     refine lx ?_; intro x59
     refine lx ?_; intro x60
     refine lx ?_; intro x61
     refine At.b 24 (fun _ e => bD hT (k := 1) 4 [] 0 e) fun u62 => ?_
     refine At.b 0 (fun _ e => nB hT k8 0 s51 e (U8 (U32 (e53 + e55))) (by kernel_rfl) (by kernel_rfl) (H' := [.var (eA 64 1 k8 (Vector.replicate 64 0)), .var (eA 16 1 k32 r1), .var (eA 16 1 k32 p2), .var aJS, .var (eA 64 1 k8 (s51.setIfInBounds ((I64 (4 * s52)).toNat) (U8 (U32 (e53 + e55)))))])) fun e63 => ?_
     refine At.b 0 (fun _ e => bD hT (k := 1) 4 [] 0 e) fun u64 => ?_
     refine At.b 0 (fun _ e => nB hT k8 0 (s51.setIfInBounds ((I64 (4 * s52)).toNat) (U8 (U32 (e53 + e55)))) e (U8 x59) (by kernel_rfl) (by kernel_rfl) (H' := [.var (eA 64 1 k8 (Vector.replicate 64 0)), .var (eA 16 1 k32 r1), .var (eA 16 1 k32 p2), .var aJS, .var (eA 64 1 k8 ((s51.setIfInBounds ((I64 (4 * s52)).toNat) (U8 (U32 (e53 + e55)))).setIfInBounds x56.toNat (U8 x59)))])) fun e65 => ?_
     refine At.b 0 (fun _ e => bD hT (k := 1) 4 [] 0 e) fun u66 => ?_
     refine At.b 0 (fun _ e => nB hT k8 0 ((s51.setIfInBounds ((I64 (4 * s52)).toNat) (U8 (U32 (e53 + e55)))).setIfInBounds x56.toNat (U8 x59)) e (U8 x60) (by kernel_rfl) (by kernel_rfl) (H' := [.var (eA 64 1 k8 (Vector.replicate 64 0)), .var (eA 16 1 k32 r1), .var (eA 16 1 k32 p2), .var aJS, .var (eA 64 1 k8 (((s51.setIfInBounds ((I64 (4 * s52)).toNat) (U8 (U32 (e53 + e55)))).setIfInBounds x56.toNat (U8 x59)).setIfInBounds x57.toNat (U8 x60)))])) fun e67 => ?_
     refine At.b 0 (fun _ e => bD hT (k := 1) 4 [] 0 e) fun u68 => ?_
     refine At.b 0 (fun _ e => nB hT k8 0 (((s51.setIfInBounds ((I64 (4 * s52)).toNat) (U8 (U32 (e53 + e55)))).setIfInBounds x56.toNat (U8 x59)).setIfInBounds x57.toNat (U8 x60)) e (U8 x61) (by kernel_rfl) (by kernel_rfl) (H' := [.var (eA 64 1 k8 (Vector.replicate 64 0)), .var (eA 16 1 k32 r1), .var (eA 16 1 k32 p2), .var aJS, .var (eA 64 1 k8 ((((s51.setIfInBounds ((I64 (4 * s52)).toNat) (U8 (U32 (e53 + e55)))).setIfInBounds x56.toNat (U8 x59)).setIfInBounds x57.toNat (U8 x60)).setIfInBounds x58.toNat (U8 x61)))])) fun e69 => ?_
     exact fun h => At.k 2 ⟨_, _, h, jr⟩
    ·apply rt; exact At.x 0
  ·apply rt; exact At.r 2


def aBD : Nat → Bool := imL [2]

def fO (N : Nat) (a0 : bS) : Nat → (Vector Int 12) → Int → Option ((Vector Int 12))
 | 0, _, _ => none
 | k + 1, s2, s3 =>
  cond (decide (s3 < 4)) (
   Option.bind (aEe .u32 a0.gD6 (I64 (8 * s3))) fun x4 =>
   Option.bind (aEe .u32 a0.gD7 (I64 (8 * s3))) fun x5 =>
   Option.bind (eK s3 12) fun _ =>
   Option.bind (s2.toList[s3.toNat]?) fun e7 =>
   Option.bind (eK (I64 (4 + s3)) 12) fun _ =>
   Option.bind ((s2.setIfInBounds s3.toNat (U8 x4)).toList[(I64 (4 + s3)).toNat]?) fun e9 =>
   fO N a0 k ((s2.setIfInBounds s3.toNat (U8 x4)).setIfInBounds ((I64 (4 + s3)).toNat) (U8 x5)) (I64 (s3 + 1))) (
   some s2)

def kV (N : Nat) (a0 : bS) (a1 : Int) : Option ((Vector Int 64)) :=
 Option.bind (fO N a0 N (Vector.replicate 12 0) 0) fun p1 =>
 Option.bind (vA N a1) fun r10 =>
 Option.bind (rV N r10 a0.gD8 p1) fun r11 =>
 some r11

theorem aA7 {N a0 a1 r} (h : kV N a0 a1 = some r) : FnM Tryz.prog 146 [] [(bS.enc a0), (k64 a1)] (eA 64 1 k8 r) [] := by
 unfold kV at h
 refine At.f aBD hT hmo Tryz.func146 rfl h ?_
 refine At.L 4 [1, 2, 4, 5] 2 (fun p1 => ([], [(1, .var (eA 12 1 k8 p1))], [])) (fun p1 J k => ∃ s2 s3, fO N a0 k s2 s3 = some p1 ∧ J [1, 2, 4, 5] 2 [(7, (j64 s3))] [(1, .var (eA 12 1 k8 s2))] []) N (fun _ h => ⟨_, _, h, jr⟩) (fun p1 k s hI => ?_) fun p1 => ?_
 ·obtain ⟨s2, s3, h, hj⟩ := hI
  cases k with
  | zero => cases h
  | succ k =>
   refine At.jr hj ?_ h
   refine At.c 1 ?_ ?_
   ·refine bi fun x4 hx4 => ?_
    refine bi fun x5 hx5 => ?_
    refine bi fun u6 hu6 => ?_
    refine bi fun e7 he7 => ?_
    refine bi fun u8 hu8 => ?_
    refine bi fun e9 he9 => ?_
    refine At.d 2 (dE1 7 (fun _ => xH hT (k' := .i64) hx4 (by kernel_rfl) (by kernel_rfl)) (dE1 13 (fun _ => xH hT (k' := .i64) hx5 (by kernel_rfl) (by kernel_rfl)) (dE1 15 (fun _ => bD hT (k := 1) 1 [] 0 hu6) (dE1 17 (fun _ => bD hT (k := 1) 1 [] 0 hu8) dE0)))) (dF 16 (.v (.bool false)) [(1, .var (eA 12 1 k8 (s2.setIfInBounds s3.toNat (U8 x4))))] [] (bO (nB hT k8 0 s2 he7 (U8 x4) (by kernel_rfl) (by kernel_rfl) (H' := [.var (eA 64 1 k8 (Vector.replicate 64 0)), .var (eA 12 1 k8 (s2.setIfInBounds s3.toNat (U8 x4)))]))) (dF 18 (.v (.bool false)) [(1, .var (eA 12 1 k8 ((s2.setIfInBounds s3.toNat (U8 x4)).setIfInBounds ((I64 (4 + s3)).toNat) (U8 x5))))] [] (bO (nB hT k8 0 (s2.setIfInBounds s3.toNat (U8 x4)) he9 (U8 x5) (by kernel_rfl) (by kernel_rfl) (H' := [.var (eA 64 1 k8 (Vector.replicate 64 0)), .var (eA 12 1 k8 ((s2.setIfInBounds s3.toNat (U8 x4)).setIfInBounds ((I64 (4 + s3)).toNat) (U8 x5)))]))) dF0)) ?_
    exact fun h => At.k 2 ⟨_, _, h, jr⟩
   ·apply rt; exact At.x 0
 ·refine bi fun r10 hr10 => ?_
  refine bi fun r11 hr11 => ?_
  refine At.d 0 (dE2 1 (eA 32 1 k8 r10) (fun _ => aN (aGE hr10)) (dE2 5 (eA 64 1 k8 r11) (fun _ => aN (aET hr11)) dE0)) dF0 ?_
  apply rt; exact At.r 0

def aEh : Nat → Bool := imL [2]

def qB (N : Nat) (a0 : (Vector Int 64)) (a1 : Int) : Option (Int) :=
 aR (I64 (4 * (iA .i64 a1 15))) fun x1 =>
 Option.bind (idx a0.toList x1) fun e2 =>
 Option.bind (idx a0.toList (I64 (x1 + 1))) fun e3 =>
 aR (bor .u32 (U32 e2) (shl .u32 (U32 e3) 8)) fun x4 =>
 Option.bind (idx a0.toList (I64 (x1 + 2))) fun e5 =>
 aR (bor .u32 x4 (shl .u32 (U32 e5) 16)) fun x6 =>
 Option.bind (idx a0.toList (I64 (x1 + 3))) fun e7 =>
 aR (bor .u32 x6 (shl .u32 (U32 e7) 24)) fun x8 =>
 some x8

theorem aDw {N a0 a1 r} (h : qB N a0 a1 = some r) : FnM Tryz.prog 147 [] [(eA 64 1 k8 a0), (j64 a1)] (k32 r) [] := by
 unfold qB at h
 refine At.f aEh hT hmo Tryz.func147 rfl h ?_
 refine lx ?_; intro x1
 refine bi fun e2 he2 => ?_
 refine bi fun e3 he3 => ?_
 refine lx ?_; intro x4
 refine bi fun e5 he5 => ?_
 refine lx ?_; intro x6
 refine bi fun e7 he7 => ?_
 refine lx ?_; intro x8
 refine At.d 6 (dE1 1 (fun _ => dK hT (N := 64) (k := 1) k8 a0 he2) (dE1 6 (fun _ => dK hT (N := 64) (k := 1) k8 a0 he3) (dE1 13 (fun _ => dK hT (N := 64) (k := 1) k8 a0 he5) (dE1 20 (fun _ => dK hT (N := 64) (k := 1) k8 a0 he7) dE0)))) dF0 ?_
 apply rt; exact At.r 0

def eZ (N : Nat) (a0 : Int) (a1 : Int) (a2 : aA) : Option (aS × Int) :=
 cond (!a2.gA) (
  some ((a2.gD9, 0))) (
  Option.bind (Option.bind (uT N a2.gB a2.gD a0 a1) fun r2 =>
  Option.bind (cond (!a2.gD9.gis) (
   some true) (
   some (!(bS.eq r2 a2.gD9.gE6)))) fun p3 =>
  cond p3 (
   Option.bind (kV N r2 a2.gC) fun r4 =>
   some ((aS.mk r2 true r4, r2))) (
   some ((a2.gD9, r2)))) fun p1 =>
  Option.bind (qB N p1.1.gE7 a1) fun r5 =>
  some ((p1.1, r5)))

theorem sP {N a0 a1 a2 r} (h : eZ N a0 a1 a2 = some r) : FnM Tryz.prog 76 [.var (aA.enc a2)] [(.ref 0 [] 0), (j64 a0), (j64 a1)] (k32 r.2) [.var (.st 72 [(aS.enc r.1), (eB a2.gA), (k64 a2.gC), (j64 a2.gB), (j64 a2.gD)])] := by
 unfold eZ at h
 refine At.f cU hT hmo Tryz.func76 rfl h ?_
 refine At.o 2 (kR hT (t := 96) (x := (.ref 0 [] 0)) (b := true) (by kernel_rfl) rfl rfl (by kernel_rfl)) ?_
 refine At.g [10] 7 ?_
 refine At.c 0 ?_ ?_
 ·apply rt; exact At.r 1
 ·refine At.J 0 1 [0, 2] 1 (fun p1 => ([], [(0, .var (.st 72 [(aS.enc p1.1), (eB a2.gA), (k64 a2.gC), (j64 a2.gB), (j64 a2.gD)]))], [.var (bS.enc p1.2)])) (fun p1 => ?_) fun p1 => ?_
  ·refine bi fun r2 hr2 => ?_
   refine At.d 0 (dE2 10 (bS.enc r2) (fun _ => aN (aEc hr2)) dE0) dF0 ?_
   refine At.J 0 0 [0, 2, 7] 2 (fun p3 => ([(42, (eB p3))], [], [])) (fun p3 => ?_) fun p3 => ?_
   ·refine boI (fun hc6 => ?_) (fun hc6 => ?_)
    ·refine At.d 0 (dE1 6 (fun _ => cT hc6 rfl (cN hT (im := false) (by kernel_rfl))) dE0) dF0 ?_
     apply rt; exact At.jn 0
    ·refine At.d 0 (dE1 6 (fun _ => cT hc6 rfl (cN hT (im := false) (by kernel_rfl))) (dE1 13 (fun _ => uQ aO8 (r2 : bS) (a2.gD9.gE6 : bS) (by kernel_rfl) (by kernel_rfl) (fun _ => rfl) (fun _ => rfl) (by kernel_rfl) (by kernel_rfl)) dE0)) dF0 ?_
     apply rt; exact At.jn 0
   ·refine At.c 0 ?_ ?_
    ·refine bi fun r4 hr4 => ?_
     refine At.d 0 (dE2 7 (eA 64 1 k8 r4) (fun _ => aN (aA7 hr4)) dE0) dF0 ?_
     apply rt; exact At.jn 0
    ·apply rt; exact At.jn 0
  ·refine At.b 6 (fun _ e => aL [] (aDw e)) fun r5 => ?_
   apply rt; exact At.r 1

def eP (N : Nat) (b4 : (List (List aD))) (a1 : Int) (a2 : aK) (a3 : aB) (a4 : aB) (a5 : Int) (a6 : Bool) (a7 : aH) (a8 : aE) (a9 : aI) (a10 : aB) (a11 : aF) (a12 : aA) (a13 : aM) : Option (aS × Int) :=
 Option.bind (eZ N a5 a1 a12) fun r1 =>
 some ((r1.1, r1.2))

theorem cQ {N b4 a1 a2 a3 a4 a5 a6 a7 a8 a9 a10 a11 a12 a13 r} (h : eP N b4 a1 a2 a3 a4 a5 a6 a7 a8 a9 a10 a11 a12 a13 = some r) : FnM Tryz.prog 32 [.var (.st 26 [(aK.enc a2), (.ref 1 [] 0), (.ref 2 [] 0), (aB.enc a3), (aB.enc a4), (j64 a5), (eB a6), (aH.enc a7)]), .var (.st 38 [(aE.enc a8), (aI.enc a9), (.ifc 91 (.ref 3 [] 0)), (eO 4 1 (eL 2 aD.enc) b4), (aB.enc a10), (aF.enc a11)]), .var (aA.enc a12), .var (aM.enc a13), .tail (b4.length * 1)] [(.ref 0 [] 0), (j64 a1)] (k32 r.2) [.var (.st 26 [(aK.enc a2), (.ref 1 [] 0), (.ref 2 [] 0), (aB.enc a3), (aB.enc a4), (j64 a5), (eB a6), (aH.enc a7)]), .var (.st 38 [(aE.enc a8), (aI.enc a9), (.ifc 91 (.ref 3 [] 0)), (eO 4 1 (eL 2 aD.enc) b4), (aB.enc a10), (aF.enc a11)]), .var (.st 72 [(aS.enc r.1), (eB a12.gA), (k64 a12.gC), (j64 a12.gB), (j64 a12.gD)]), .var (aM.enc a13), .tail (b4.length * 1)] := by
 unfold eP at h
 refine At.f cU hT hmo Tryz.func32 rfl h ?_
 refine bi fun r1 hr1 => ?_
 refine At.d 1 dE0 (dF 9 (k32 r1.2) [(2, .var (.st 72 [(aS.enc r1.1), (eB a12.gA), (k64 a12.gC), (j64 a12.gB), (j64 a12.gD)]))] [] (bO (aL [2] (sP hr1))) dF0) ?_
 apply rt; exact At.r 0

def oL (N : Nat) (a0 : Int) : Option (Int) :=
 some (I64 a0)

theorem yI {N a0 r} (h : oL N a0 = some r) : FnM Tryz.prog 148 [] [(k32 a0)] (j64 r) [] := by
 unfold oL at h
 refine At.f cU hT hmo Tryz.func148 rfl h ?_
 apply rt; exact At.r 4

def sJ (N : Nat) (a0 : Int) (a1 : Int) : Option (Int) :=
 aR (cond (decide (a0 ≥ 0)) (decide (a1 < 0)) false) fun x1 =>
 aR (decide ((I64 (a0 - a1)) < 0)) fun x2 =>
 cond (cond x1 x2 false) (
  some 9223372036854775807) (
  aR (cond (decide (a0 < 0)) (decide (a1 > 0)) false) fun x3 =>
  aR (decide ((I64 (a0 - a1)) ≥ 0)) fun x4 =>
  cond (cond x3 x4 false) (some (-9223372036854775808)) (some (I64 (a0 - a1))))

theorem yL {N a0 a1 r} (h : sJ N a0 a1 = some r) : FnM Tryz.prog 149 [] [(j64 a0), (j64 a1)] (j64 r) [] := by
 unfold sJ at h
 refine At.f cU hT hmo Tryz.func149 rfl h ?_
 refine lx ?_; intro x1
 refine lx ?_; intro x2
 refine At.c 16 ?_ ?_
 ·apply rt; exact At.r 1
 ·refine lx ?_; intro x3
  refine lx ?_; intro x4
  refine At.c 11 ?_ ?_
  ·apply rt; exact At.r 1
  ·apply rt; exact At.r 2

def aMb : Nat → Bool := imL [1]

def nO (N : Nat) (a0 : aC) : Option (aB) :=
 Option.bind (jG N a0.gX) fun r1 =>
 Option.bind (jG N a0.gY) fun r2 =>
 Option.bind (jG N a0.gZ) fun r3 =>
 some (aB.mk r1 r2 r3)

theorem qE {N a0 r} (h : nO N a0 = some r) : FnM Tryz.prog 83 [] [(aC.enc a0)] (aB.enc r) [] := by
 unfold nO at h
 refine At.f aMb hT hmo Tryz.func83 rfl h ?_
 refine bi fun r1 hr1 => ?_
 refine bi fun r2 hr2 => ?_
 refine bi fun r3 hr3 => ?_
 refine At.d 2 (dE2 2 (j64 r1) (fun _ => aN (kK hr1)) (dE2 5 (j64 r2) (fun _ => aN (kK hr2)) (dE2 8 (j64 r3) (fun _ => aN (kK hr3)) dE0))) dF0 ?_
 apply rt; exact At.r 0

def sC (N : Nat) (a0 : Int) : Option (aO) :=
 some (aO.mk (shr .i64 a0 63) (U64 a0))

theorem yE {N a0 r} (h : sC N a0 = some r) : FnM Tryz.prog 255 [] [(j64 a0)] (aO.enc r) [] := by
 unfold sC at h
 refine At.f cU hT hmo Tryz.func255 rfl h ?_
 apply rt; exact At.r 7

def aJr : Nat → Bool := imL [2]

def yM (N : Nat) (a0 : aO) (a1 : Int) : Option (aO) :=
 aR (decide ((iN a1 0) ≥ 64)) fun x1 =>
 cond x1 (
  aR (jC (I64 ((iN a1 0) - 64)) 63) fun x2 =>
  Option.bind (aEe .i64 a0.gHi x2) fun x3 =>
  Option.bind (sC N x3) fun r4 =>
  some r4) (
  cond ((iN a1 0) == 0) (
   some a0) (
   Option.bind (aEe .i64 a0.gHi (iN a1 0)) fun x5 =>
   Option.bind (aEe .u64 a0.gLo (iN a1 0)) fun x6 =>
   Option.bind (aHk .u64 (U64 a0.gHi) (I64 (64 - (iN a1 0)))) fun x7 =>
   some (aO.mk x5 (bor .u64 x6 x7))))

theorem aI2 {N a0 a1 r} (h : yM N a0 a1 = some r) : FnM Tryz.prog 234 [] [(aO.enc a0), (j64 a1)] (aO.enc r) [] := by
 unfold yM at h
 refine At.f aJr hT hmo Tryz.func234 rfl h ?_
 refine lx ?_; intro x1
 refine At.c 7 ?_ ?_
 ·refine lx ?_; intro x2
  refine At.b 5 (fun _ e => xH hT (k' := .i64) e (by kernel_rfl) (by kernel_rfl)) fun x3 => ?_
  refine At.b 0 (fun _ e => aL [] (yE e)) fun r4 => ?_
  apply rt; exact At.r 1
 ·refine At.c 2 ?_ ?_
  ·apply rt; exact At.r 2
  ·refine bi fun x5 hx5 => ?_
   refine bi fun x6 hx6 => ?_
   refine bi fun x7 hx7 => ?_
   refine At.d 0 (dE1 3 (fun _ => xH hT (k' := .i64) hx5 (by kernel_rfl) (by kernel_rfl)) (dE1 7 (fun _ => xH hT (k' := .i64) hx6 (by kernel_rfl) (by kernel_rfl)) (dE1 13 (fun _ => aBv hT (k' := .i64) hx7 (by kernel_rfl) (by kernel_rfl)) dE0))) dF0 ?_
   apply rt; exact At.r 0

def sF (N : Nat) (a0 : (List Int)) : Nat → Int → Int → Option (Int)
 | 0, _, _ => none
 | k + 1, s2, s3 =>
  aR (decide (s3 < ((a0.length : Int)))) fun x4 =>
  cond x4 (
   Option.bind (Option.bind (idx a0 s3) fun e6 =>
   cond (s3 == 0) (
    some e6) (
    Option.bind (fS N s2 e6) fun r7 =>
    Option.bind (yM N r7 32) fun r8 =>
    Option.bind (rN N r8) fun r9 =>
    some r9)) fun p5 =>
   sF N a0 k p5 (I64 (s3 + 1))) (
   some s2)

def aAV (N : Nat) (a0 : (List Int)) : Option (Int) :=
 Option.bind (sF N a0 N 4294967296 0) fun p1 =>
 some p1

theorem aKH {N a0 r} (h : aAV N a0 = some r) : FnM Tryz.prog 173 [] [(eL 1 j64 a0)] (j64 r) [] := by
 unfold aAV at h
 refine At.f cU hT hmo Tryz.func173 rfl h ?_
 refine At.L 5 [] 0 (fun p1 => ([(3, (j64 p1))], [], [])) (fun p1 J k => ∃ s2 s3, sF N a0 k s2 s3 = some p1 ∧ J [6, 7] 0 [(3, (j64 s2)), (8, (j64 s3))] [] []) N (fun _ h => ⟨_, _, h, jr⟩) (fun p1 k s hI => ?_) fun p1 => ?_
 ·obtain ⟨s2, s3, h, hj⟩ := hI
  cases k with
  | zero => cases h
  | succ k =>
   refine At.jr hj ?_ h
   refine lx ?_; intro x4
   refine At.c 1 ?_ ?_
   ·refine At.J 0 2 [6, 7, 8] 0 (fun p5 => ([(3, (j64 p5))], [], [])) (fun p5 => ?_) fun p5 => ?_
    ·refine At.b 1 (fun _ e => cA hT j64 e) fun e6 => ?_
     refine At.c 5 ?_ ?_
     ·apply rt; exact At.jn 2
     ·refine At.b 2 (fun _ e => aL [] (jT e)) fun r7 => ?_
      refine At.b 0 (fun _ e => aL [] (aI2 e)) fun r8 => ?_
      refine At.b 0 (fun _ e => aL [] (aBP e)) fun r9 => ?_
      apply rt; exact At.jn 1
    ·exact fun h => At.k 2 ⟨_, _, h, jr⟩
   ·apply rt; exact At.x 0
 ·apply rt; exact At.r 2

def qG (N : Nat) (a0 : Int) (a1 : Int) : Option (Int) :=
 Option.bind (aAV N ([a0, a1])) fun r1 =>
 some r1

theorem xW {N a0 a1 r} (h : qG N a0 a1 = some r) : FnM Tryz.prog 172 [] [(j64 a0), (j64 a1)] (j64 r) [] := by
 unfold qG at h
 refine At.f cU hT hmo Tryz.func172 rfl h ?_
 refine At.o 3 (cM hT (x := (.sl 1 2 [(j64 a0), (j64 a1)]))) ?_
 refine At.b 0 (fun _ e => aL [] (aKH e)) fun r1 => ?_
 apply rt; exact At.r 1

def aCZ : Nat → Bool := imL [3, 4]

def mU (N : Nat) (a0 : aB) (a1 : aB) : Option (aB) :=
 Option.bind (qG N a0.gX a1.gX) fun r1 =>
 Option.bind (qG N a0.gY a1.gY) fun r2 =>
 Option.bind (qG N a0.gZ a1.gZ) fun r3 =>
 some (aB.mk r1 r2 r3)

theorem aB2 {N a0 a1 r} (h : mU N a0 a1 = some r) : FnM Tryz.prog 137 [] [(aB.enc a0), (aB.enc a1), (.fn (.func 172) [] [])] (aB.enc r) [] := by
 unfold mU at h
 refine At.f aCZ hT hmo Tryz.func137 rfl h ?_
 refine bi fun r1 hr1 => ?_
 refine bi fun r2 hr2 => ?_
 refine bi fun r3 hr3 => ?_
 refine At.d 3 (dE2 5 (j64 r1) (fun _ => aN (xW hr1)) (dE2 11 (j64 r2) (fun _ => aN (xW hr2)) (dE2 17 (j64 r3) (fun _ => aN (xW hr3)) dE0))) dF0 ?_
 apply rt; exact At.r 0

def jH (N : Nat) (a0 : (List aB)) : Nat → aB → Int → Option (aB)
 | 0, _, _ => none
 | k + 1, s2, s3 =>
  aR (decide (s3 < ((a0.length : Int)))) fun x4 =>
  cond x4 (
   Option.bind (idx a0 s3) fun e5 =>
   Option.bind (mU N s2 e5) fun r6 =>
   jH N a0 k r6 (I64 (s3 + 1))) (
   some s2)

def iD (N : Nat) (a0 : (List aB)) : Option (aB) :=
 Option.bind (jH N a0 N (aB.mk 4294967296 4294967296 4294967296) 0) fun p1 =>
 some p1

theorem pS {N a0 r} (h : iD N a0 = some r) : FnM Tryz.prog 90 [] [(eL 3 aB.enc a0)] (aB.enc r) [] := by
 unfold iD at h
 refine At.f cU hT hmo Tryz.func90 rfl h ?_
 refine At.L 7 [2, 3] 2 (fun p1 => ([], [(1, .var (aB.enc p1))], [])) (fun p1 J k => ∃ s2 s3, jH N a0 k s2 s3 = some p1 ∧ J [2, 3, 7, 8] 2 [(9, (j64 s3))] [(1, .var (aB.enc s2))] []) N (fun _ h => ⟨_, _, h, jr⟩) (fun p1 k s hI => ?_) fun p1 => ?_
 ·obtain ⟨s2, s3, h, hj⟩ := hI
  cases k with
  | zero => cases h
  | succ k =>
   refine At.jr hj ?_ h
   refine lx ?_; intro x4
   refine At.c 1 ?_ ?_
   ·refine At.b 0 (fun _ e => cA hT aB.enc e) fun e5 => ?_
    refine At.b 5 (fun _ e => aL [] (aB2 e)) fun r6 => ?_
    exact fun h => At.k 3 ⟨_, _, h, jr⟩
   ·apply rt; exact At.x 0
 ·apply rt; exact At.r 2

def aJH : Nat → Bool := imL [2]

def fD (N : Nat) (a0 : aB) (a1 : Int) : Option (aB) :=
 Option.bind (iD N ([a0, aB.mk a1 a1 a1])) fun r1 =>
 some r1

theorem jI {N a0 a1 r} (h : fD N a0 a1 = some r) : FnM Tryz.prog 80 [] [(aB.enc a0), (j64 a1)] (aB.enc r) [] := by
 unfold fD at h
 refine At.f aJH hT hmo Tryz.func80 rfl h ?_
 refine At.o 7 (cM hT (x := (.sl 3 2 [(aB.enc a0), (.st 3 [(j64 a1), (j64 a1), (j64 a1)])]))) ?_
 refine At.b 0 (fun _ e => aL [] (pS e)) fun r1 => ?_
 apply rt; exact At.r 1

def aGQ : Nat → Bool := imL [6, 11]

def sY (N : Nat) (a0 : bK) (a1 : Int) (a2 : Int) (a3 : Int) (a4 : Int) (a5 : (Vector Int 2)) : Option (aB × Int) :=
 Option.bind (nS N a0 a1 a2) fun r1 =>
 cond (r1 != 0) (
  some ((aB.mk 0 0 0, r1))) (
  aR (cond (decide (a3 < 0)) true (decide (a3 ≥ a1))) fun x2 =>
  aR (cond x2 true (decide (a4 < 0))) fun x3 =>
  aR (cond x3 true (decide (a4 ≥ a2))) fun x4 =>
  cond x4 (
   some ((aB.mk 0 0 0, 2))) (
   aR (I64 ((I64 (2 * a3)) - a1)) fun x5 =>
   Option.bind (jG N x5) fun r6 =>
   Option.bind (idx a5.toList 0) fun e7 =>
   Option.bind (oL N e7) fun r8 =>
   Option.bind (lF N ([r6, I64 (2 * r8)])) fun r9 =>
   Option.bind (jG N a1) fun r10 =>
   Option.bind (pH N r9 r10) fun r11 =>
   aR (I64 (a2 - (I64 (2 * a4)))) fun x12 =>
   Option.bind (jG N x12) fun r13 =>
   Option.bind (idx a5.toList 1) fun e14 =>
   Option.bind (oL N e14) fun r15 =>
   Option.bind (sJ N r13 (I64 (2 * r15))) fun r16 =>
   Option.bind (jG N a2) fun r17 =>
   Option.bind (pH N r16 r17) fun r18 =>
   Option.bind (nO N a0.gD3) fun r19 =>
   Option.bind (nO N a0.gB6) fun r20 =>
   Option.bind (fD N r20 r11) fun r21 =>
   Option.bind (nO N a0.gUp) fun r22 =>
   Option.bind (fD N r22 r18) fun r23 =>
   Option.bind (lI N ([r19, r21, r23])) fun r24 =>
   some ((r24, 0))))

theorem aFs {N a0 a1 a2 a3 a4 a5 r} (h : sY N a0 a1 a2 a3 a4 a5 = some r) : FnM Tryz.prog 77 [] [(bK.enc a0), (j64 a1), (j64 a2), (j64 a3), (j64 a4), (eA 2 1 k32 a5)] (.tup [(aB.enc r.1), (j64 r.2)]) [] := by
 unfold sY at h
 refine At.f aGQ hT hmo Tryz.func77 rfl h ?_
 refine At.b 7 (fun _ e => aL [] (aCD e)) fun r1 => ?_
 refine At.c 3 ?_ ?_
 ·apply rt; exact At.r 4
 ·refine lx ?_; intro x2
  refine lx ?_; intro x3
  refine lx ?_; intro x4
  refine At.c 16 ?_ ?_
  ·apply rt; exact At.r 3
  ·refine lx ?_; intro x5
   refine bi fun r6 hr6 => ?_
   refine bi fun e7 he7 => ?_
   refine bi fun r8 hr8 => ?_
   refine bi fun r9 hr9 => ?_
   refine bi fun r10 hr10 => ?_
   refine bi fun r11 hr11 => ?_
   refine At.d 0 (dE2 4 (j64 r6) (fun _ => aN (kK hr6)) (dE1 5 (fun _ => dK hT (N := 2) (k := 1) k32 a5 he7) (dE2 7 (j64 r8) (fun _ => aN (yI hr8)) (dE1 9 (fun _ => cM hT (x := (.sl 1 2 [(j64 r6), (j64 (I64 (2 * r8)))]))) (dE2 10 (j64 r9) (fun _ => aN (tQ hr9)) (dE2 12 (j64 r10) (fun _ => aN (kK hr10)) (dE2 13 (j64 r11) (fun _ => aN (tL hr11)) dE0))))))) dF0 ?_
   refine lx ?_; intro x12
   refine bi fun r13 hr13 => ?_
   refine bi fun e14 he14 => ?_
   refine bi fun r15 hr15 => ?_
   refine bi fun r16 hr16 => ?_
   refine bi fun r17 hr17 => ?_
   refine bi fun r18 hr18 => ?_
   refine At.d 0 (dE2 4 (j64 r13) (fun _ => aN (kK hr13)) (dE1 5 (fun _ => dK hT (N := 2) (k := 1) k32 a5 he14) (dE2 7 (j64 r15) (fun _ => aN (yI hr15)) (dE2 9 (j64 r16) (fun _ => aN (yL hr16)) (dE2 11 (j64 r17) (fun _ => aN (kK hr17)) (dE2 12 (j64 r18) (fun _ => aN (tL hr18)) dE0)))))) dF0 ?_
   refine bi fun r19 hr19 => ?_
   refine bi fun r20 hr20 => ?_
   refine bi fun r21 hr21 => ?_
   refine bi fun r22 hr22 => ?_
   refine bi fun r23 hr23 => ?_
   refine bi fun r24 hr24 => ?_
   refine At.d 0 (dE2 2 (aB.enc r19) (fun _ => aN (qE hr19)) (dE2 5 (aB.enc r20) (fun _ => aN (qE hr20)) (dE2 7 (aB.enc r21) (fun _ => aN (jI hr21)) (dE2 10 (aB.enc r22) (fun _ => aN (qE hr22)) (dE2 12 (aB.enc r23) (fun _ => aN (jI hr23)) (dE1 13 (fun _ => cM hT (x := (.sl 3 3 [(aB.enc r19), (aB.enc r21), (aB.enc r23)]))) (dE2 14 (aB.enc r24) (fun _ => aN (wA hr24)) dE0))))))) dF0 ?_
   apply rt; exact At.r 0

def pN (N : Nat) (a0 : Int) (a1 : Int) : Option (Int) :=
 aR (jC (iN a1 0) 2147483648) fun x1 =>
 aR (U64 ((U64 a0) * (U64 x1))) fun x2 =>
 some (I64 (shr .u64 x2 32))

theorem aA1 {N a0 a1 r} (h : pN N a0 a1 = some r) : FnM Tryz.prog 151 [] [(k32 a0), (j64 a1)] (j64 r) [] := by
 unfold pN at h
 refine At.f cU hT hmo Tryz.func151 rfl h ?_
 refine lx ?_; intro x1
 refine lx ?_; intro x2
 apply rt; exact At.r 13

def lD (N : Nat) (a0 : Int) (a1 : bK) : Option (Int) :=
 aR (I64 ((I64 (2 * a1.gC2)) + 1)) fun x1 =>
 Option.bind (pN N a0 x1) fun r2 =>
 Option.bind (jG N (I64 (r2 - a1.gC2))) fun r3 =>
 Option.bind (jG N 16384) fun r4 =>
 Option.bind (pH N r3 r4) fun r5 =>
 some r5

theorem xV {N a0 a1 r} (h : lD N a0 a1 = some r) : FnM Tryz.prog 150 [] [(k32 a0), (.im (bK.enc a1))] (j64 r) [] := by
 unfold lD at h
 refine At.f cU hT hmo Tryz.func150 rfl h ?_
 refine lx ?_; intro x1
 refine bi fun r2 hr2 => ?_
 refine bi fun r3 hr3 => ?_
 refine bi fun r4 hr4 => ?_
 refine bi fun r5 hr5 => ?_
 refine At.d 1 (dE2 5 (j64 r2) (fun _ => aN (aA1 hr2)) (dE2 9 (j64 r3) (fun _ => aN (kK hr3)) (dE2 10 (j64 r4) (fun _ => aN (kK hr4)) (dE2 11 (j64 r5) (fun _ => aN (tL hr5)) dE0)))) dF0 ?_
 apply rt; exact At.r 0

def rC (N : Nat) (a0 : Int) : Option (Int) :=
 aR (iA .i64 (shr .i64 a0 31) 1) fun x1 =>
 aR (I64 ((shr .i64 a0 32) + x1)) fun x2 =>
 some x2

theorem aAu {N a0 r} (h : rC N a0 = some r) : FnM Tryz.prog 152 [] [(j64 a0)] (j64 r) [] := by
 unfold rC at h
 refine At.f cU hT hmo Tryz.func152 rfl h ?_
 refine lx ?_; intro x1
 refine lx ?_; intro x2
 apply rt; exact At.r 8

def aHv : Nat → Bool := imL [2, 3]

def vF (N : Nat) (a0 : bK) (a1 : (Vector Int 4)) : Option (aC) :=
 Option.bind (nO N a0.gB6) fun r1 =>
 Option.bind (idx a1.toList 2) fun e2 =>
 Option.bind (lD N e2 a0) fun r3 =>
 Option.bind (fD N r1 r3) fun r4 =>
 Option.bind (nO N a0.gUp) fun r5 =>
 Option.bind (idx a1.toList 3) fun e6 =>
 Option.bind (lD N e6 a0) fun r7 =>
 Option.bind (fD N r5 r7) fun r8 =>
 Option.bind (lI N ([r4, r8])) fun r9 =>
 Option.bind (rC N r9.gX) fun r10 =>
 Option.bind (rC N r9.gY) fun r11 =>
 Option.bind (rC N r9.gZ) fun r12 =>
 some (aC.mk r10 r11 r12)

theorem aGa {N a0 a1 r} (h : vF N a0 a1 = some r) : FnM Tryz.prog 78 [] [(bK.enc a0), (eA 4 1 k32 a1)] (aC.enc r) [] := by
 unfold vF at h
 refine At.f aHv hT hmo Tryz.func78 rfl h ?_
 refine At.o 3 (pX (x := (.fn (.func 150) [] [(.im (bK.enc a0))])) (by kernel_rfl) (by kernel_rfl)) ?_
 refine bi fun r1 hr1 => ?_
 refine bi fun e2 he2 => ?_
 refine bi fun r3 hr3 => ?_
 refine bi fun r4 hr4 => ?_
 refine bi fun r5 hr5 => ?_
 refine bi fun e6 he6 => ?_
 refine bi fun r7 hr7 => ?_
 refine bi fun r8 hr8 => ?_
 refine bi fun r9 hr9 => ?_
 refine At.d 1 (dE2 2 (aB.enc r1) (fun _ => aN (qE hr1)) (dE1 4 (fun _ => dK hT (N := 4) (k := 1) k32 a1 he2) (dE2 6 (j64 r3) (fun _ => aN (xV hr3)) (dE2 7 (aB.enc r4) (fun _ => aN (jI hr4)) (dE2 10 (aB.enc r5) (fun _ => aN (qE hr5)) (dE1 12 (fun _ => dK hT (N := 4) (k := 1) k32 a1 he6) (dE2 14 (j64 r7) (fun _ => aN (xV hr7)) (dE2 15 (aB.enc r8) (fun _ => aN (jI hr8)) (dE1 16 (fun _ => cM hT (x := (.sl 3 2 [(aB.enc r4), (aB.enc r8)]))) (dE2 17 (aB.enc r9) (fun _ => aN (wA hr9)) dE0)))))))))) dF0 ?_
 refine bi fun r10 hr10 => ?_
 refine bi fun r11 hr11 => ?_
 refine bi fun r12 hr12 => ?_
 refine At.d 0 (dE2 2 (j64 r10) (fun _ => aN (aAu hr10)) (dE2 5 (j64 r11) (fun _ => aN (aAu hr11)) (dE2 8 (j64 r12) (fun _ => aN (aAu hr12)) dE0))) dF0 ?_
 apply rt; exact At.r 0

def aFN : Nat → Bool := imL [3, 4]

def uU (N : Nat) (a0 : aB) (a1 : aB) : Option (aB) :=
 Option.bind (sJ N a0.gX a1.gX) fun r1 =>
 Option.bind (sJ N a0.gY a1.gY) fun r2 =>
 Option.bind (sJ N a0.gZ a1.gZ) fun r3 =>
 some (aB.mk r1 r2 r3)

theorem aEa {N a0 a1 r} (h : uU N a0 a1 = some r) : FnM Tryz.prog 137 [] [(aB.enc a0), (aB.enc a1), (.fn (.func 149) [] [])] (aB.enc r) [] := by
 unfold uU at h
 refine At.f aFN hT hmo Tryz.func137 rfl h ?_
 refine bi fun r1 hr1 => ?_
 refine bi fun r2 hr2 => ?_
 refine bi fun r3 hr3 => ?_
 refine At.d 3 (dE2 5 (j64 r1) (fun _ => aN (yL hr1)) (dE2 11 (j64 r2) (fun _ => aN (yL hr2)) (dE2 17 (j64 r3) (fun _ => aN (yL hr3)) dE0))) dF0 ?_
 apply rt; exact At.r 0

def aLY : Nat → Bool := imL [2, 3]

def uI (N : Nat) (a0 : aB) (a1 : aB) : Option (aB) :=
 Option.bind (uU N a0 a1) fun r1 =>
 some r1

theorem aAt {N a0 a1 r} (h : uI N a0 a1 = some r) : FnM Tryz.prog 79 [] [(aB.enc a0), (aB.enc a1)] (aB.enc r) [] := by
 unfold uI at h
 refine At.f aLY hT hmo Tryz.func79 rfl h ?_
 refine At.b 5 (fun _ e => aL [] (aEa e)) fun r1 => ?_
 apply rt; exact At.r 1

def sG (N : Nat) (a0 : Int) : Option (Int) :=
 Option.bind (sJ N 0 a0) fun r1 =>
 some r1

theorem aAa {N a0 r} (h : sG N a0 = some r) : FnM Tryz.prog 231 [] [(j64 a0)] (j64 r) [] := by
 unfold sG at h
 refine At.f cU hT hmo Tryz.func231 rfl h ?_
 refine At.b 2 (fun _ e => aL [] (yL e)) fun r1 => ?_
 apply rt; exact At.r 1

def vP (N : Nat) (a0 : Int) : Option (Int) :=
 Option.bind (sG N a0) fun r1 =>
 some (iN a0 r1)

theorem aCI {N a0 r} (h : vP N a0 = some r) : FnM Tryz.prog 219 [] [(j64 a0)] (j64 r) [] := by
 unfold vP at h
 refine At.f cU hT hmo Tryz.func219 rfl h ?_
 refine At.b 3 (fun _ e => aL [] (aAa e)) fun r1 => ?_
 apply rt; exact At.r 2

def aJx : Nat → Bool := imL [1]

def vS (N : Nat) (a0 : aB) : Option (Int) :=
 Option.bind (vP N a0.gX) fun r1 =>
 Option.bind (vP N a0.gY) fun r2 =>
 Option.bind (vP N a0.gZ) fun r3 =>
 some (iN (iN r1 r2) r3)

theorem aEF {N a0 r} (h : vS N a0 = some r) : FnM Tryz.prog 156 [] [(aB.enc a0)] (j64 r) [] := by
 unfold vS at h
 refine At.f aJx hT hmo Tryz.func156 rfl h ?_
 refine bi fun r1 hr1 => ?_
 refine bi fun r2 hr2 => ?_
 refine bi fun r3 hr3 => ?_
 refine At.d 2 (dE2 2 (j64 r1) (fun _ => aN (aCI hr1)) (dE2 5 (j64 r2) (fun _ => aN (aCI hr2)) (dE2 8 (j64 r3) (fun _ => aN (aCI hr3)) (dE1 9 (fun _ => yC (k := .i64) (i := r1) (j := r2) (l := r3) (by kernel_rfl) (by kernel_rfl)) dE0)))) dF0 ?_
 apply rt; exact At.r 0

def iG (N : Nat) (a0 : Int) (a1 : Int) (a2 : Int) : Option (Int) :=
 cond (a2 == 0) (
  some 0) (
  Option.bind (fS N a0 a1) fun r1 =>
  Option.bind (oG N r1 a2) fun r2 =>
  Option.bind (oE N r2.1) fun r3 =>
  cond r3.2 (
   some r3.1) (
   cond (decide (r2.1.gHi < 0)) (some (-9223372036854775808)) (some 9223372036854775807)))

theorem rW {N a0 a1 a2 r} (h : iG N a0 a1 a2 = some r) : FnM Tryz.prog 158 [] [(j64 a0), (j64 a1), (j64 a2)] (j64 r) [] := by
 unfold iG at h
 refine At.f cU hT hmo Tryz.func158 rfl h ?_
 refine At.c 3 ?_ ?_
 ·apply rt; exact At.r 1
 ·refine At.b 2 (fun _ e => aL [] (jT e)) fun r1 => ?_
  refine At.b 4 (fun _ e => aL [] (zK e)) fun r2 => ?_
  refine At.b 9 (fun _ e => aL [] (wM e)) fun r3 => ?_
  refine At.c 6 ?_ ?_
  ·apply rt; exact At.r 2
  ·refine At.c 3 ?_ ?_
   ·apply rt; exact At.r 1
   ·apply rt; exact At.r 1

def jA (N : Nat) (a0 : Int) (a1 : Int) : Option (Int) :=
 Option.bind (iG N a0 16384 a1) fun r1 =>
 some (iN r1 (-16384))

theorem tM {N a0 a1 r} (h : jA N a0 a1 = some r) : FnM Tryz.prog 157 [] [(j64 a0), (.im (j64 a1))] (j64 r) [] := by
 unfold jA at h
 refine At.f cU hT hmo Tryz.func157 rfl h ?_
 refine At.b 3 (fun _ e => aL [] (rW e)) fun r1 => ?_
 apply rt; exact At.r 2

def aIA : Nat → Bool := imL [1]

def sA (N : Nat) (a0 : aB) : Option (aC × Int) :=
 Option.bind (vS N a0) fun r1 =>
 cond (r1 == 0) (
  some ((aC.mk 0 0 0, 2))) (
  Option.bind (jA N a0.gX r1) fun r2 =>
  Option.bind (jA N a0.gY r1) fun r3 =>
  Option.bind (jA N a0.gZ r1) fun r4 =>
  some ((aC.mk r2 r3 r4, 0)))

theorem aB6 {N a0 r} (h : sA N a0 = some r) : FnM Tryz.prog 84 [] [(aB.enc a0)] (.tup [(aC.enc r.1), (j64 r.2)]) [] := by
 unfold sA at h
 refine At.f aIA hT hmo Tryz.func84 rfl h ?_
 refine At.b 4 (fun _ e => aL [] (aEF e)) fun r1 => ?_
 refine At.c 4 ?_ ?_
 ·apply rt; exact At.r 3
 ·refine At.gz 0 1 ((j64 r1)) ?_
  refine At.o 0 (pX (x := (.fn (.func 157) [] [(.im (j64 r1))])) (by kernel_rfl) (by kernel_rfl)) ?_
  refine bi fun r2 hr2 => ?_
  refine bi fun r3 hr3 => ?_
  refine bi fun r4 hr4 => ?_
  refine At.d 1 (dE2 3 (j64 r2) (fun _ => aN (tM hr2)) (dE2 7 (j64 r3) (fun _ => aN (tM hr3)) (dE2 11 (j64 r4) (fun _ => aN (tM hr4)) dE0))) dF0 ?_
  apply rt; exact At.r 0

def aJe : Nat → Bool := imL [6, 11]

def tZ (N : Nat) (a0 : bK) (a1 : Int) (a2 : Int) (a3 : Int) (a4 : Int) (a5 : (Vector Int 4)) : Option (aC × aC × Int) :=
 Option.bind (idx a5.toList 0) fun e1 =>
 Option.bind (idx a5.toList 1) fun e2 =>
 Option.bind (sY N a0 a1 a2 a3 a4 (#v[e1, e2])) fun r3 =>
 cond (r3.2 != 0) (
  some ((aC.mk 0 0 0, aC.mk 0 0 0, r3.2))) (
  Option.bind (cond (decide (a0.gC2 > 0)) (
   Option.bind (vF N a0 a5) fun r5 =>
   aR (I64 (a0.gN.gX + r5.gX)) fun x6 =>
   aR (I64 (a0.gN.gY + r5.gY)) fun x7 =>
   aR (I64 (a0.gN.gZ + r5.gZ)) fun x8 =>
   Option.bind (jG N a0.gC3) fun r9 =>
   Option.bind (jG N 16384) fun r10 =>
   Option.bind (pH N r9 r10) fun r11 =>
   Option.bind (fD N r3.1 r11) fun r12 =>
   Option.bind (nO N r5) fun r13 =>
   Option.bind (uI N r12 r13) fun r14 =>
   some ((aC.mk ((I64 (a0.gN.gX + r5.gX))) ((I64 (a0.gN.gY + r5.gY))) ((I64 (a0.gN.gZ + r5.gZ))), r14))) (
   some ((a0.gN, r3.1)))) fun p4 =>
  Option.bind (sA N p4.2) fun r15 =>
  cond (r15.2 != 0) (
   some ((aC.mk 0 0 0, aC.mk 0 0 0, r15.2))) (
   some ((p4.1, r15.1, 0))))

theorem aEA {N a0 a1 a2 a3 a4 a5 r} (h : tZ N a0 a1 a2 a3 a4 a5 = some r) : FnM Tryz.prog 33 [] [(bK.enc a0), (j64 a1), (j64 a2), (j64 a3), (j64 a4), (eA 4 1 k32 a5)] (.tup [(aC.enc r.1), (aC.enc r.2.1), (j64 r.2.2)]) [] := by
 unfold tZ at h
 refine At.f aJe hT hmo Tryz.func33 rfl h ?_
 refine At.b 10 (fun _ e => dK hT (N := 4) (k := 1) k32 a5 e) fun e1 => ?_
 refine At.b 1 (fun _ e => dK hT (N := 4) (k := 1) k32 a5 e) fun e2 => ?_
 refine At.b 2 (fun _ e => aL [] (aFs e)) fun r3 => ?_
 refine At.c 8 ?_ ?_
 ·refine At.d 0 dE0 dF0 ?_
  apply rt; exact At.r 0
 ·refine At.J 3 1 [12, 13, 15] 3 (fun p4 => ([], [(0, .var (aC.enc p4.1)), (2, .var (aB.enc p4.2))], [])) (fun p4 => ?_) fun p4 => ?_
  ·refine At.c 3 ?_ ?_
   ·refine At.b 2 (fun _ e => aL [] (aGa e)) fun r5 => ?_
    refine lx ?_; intro x6
    refine lx ?_; intro x7
    refine lx ?_; intro x8
    refine bi fun r9 hr9 => ?_
    refine bi fun r10 hr10 => ?_
    refine bi fun r11 hr11 => ?_
    refine bi fun r12 hr12 => ?_
    refine bi fun r13 hr13 => ?_
    refine bi fun r14 hr14 => ?_
    refine At.d 19 (dE2 3 (j64 r9) (fun _ => aN (kK hr9)) (dE2 4 (j64 r10) (fun _ => aN (kK hr10)) (dE2 5 (j64 r11) (fun _ => aN (tL hr11)) (dE2 6 (aB.enc r12) (fun _ => aN (jI hr12)) (dE2 8 (aB.enc r13) (fun _ => aN (qE hr13)) (dE2 9 (aB.enc r14) (fun _ => aN (aAt hr14)) dE0)))))) dF0 ?_
    apply rt; exact At.jn 0
   ·apply rt; exact At.jn 0
  ·refine At.b 1 (fun _ e => aL [] (aB6 e)) fun r15 => ?_
   refine At.c 7 ?_ ?_
   ·apply rt; exact At.r 6
   ·refine At.d 0 dE0 dF0 ?_
    apply rt; exact At.r 0

def pT (N : Nat) (a0 : aM) : Option (Bool) :=
 some (!a0.gA)

theorem wY {N a0 r} (h : pT N a0 = some r) : FnM Tryz.prog 304 [.var (aM.enc a0)] [(.ref 0 [] 0)] (eB r) [.var (aM.enc a0)] := by
 unfold pT at h
 refine At.f cU hT hmo Tryz.func304 rfl h ?_
 refine At.o 2 (kR hT (t := 91) (x := (.ref 0 [] 0)) (b := true) (by kernel_rfl) rfl rfl (by kernel_rfl)) ?_
 refine At.g [5] 8 ?_
 apply rt; exact At.r 0

def aKP : Nat → Bool := imL [2, 3]

def rS (N : Nat) (a0 : aO) (a1 : aO) : Option (Int) :=
 cond (aO.eq a0 a1) (
  some 0) (
  Option.bind (aR (decide (a0.gHi < a1.gHi)) fun x2 =>
  cond x2 (
   some x2) (
   aR (decide (a0.gLo < a1.gLo)) fun x3 =>
   aR (cond (a0.gHi == a1.gHi) x3 false) fun x4 =>
   some x4)) fun p1 =>
  cond p1 (some (-1)) (some 1))

theorem zJ {N a0 a1 r} (h : rS N a0 a1 = some r) : FnM Tryz.prog 256 [] [(aO.enc a0), (aO.enc a1)] (j64 r) [] := by
 unfold rS at h
 refine At.f aKP hT hmo Tryz.func256 rfl h ?_
 refine At.o 5 (aEj aO2 (a0 : aO) (a1 : aO) (by kernel_rfl) (by kernel_rfl) (fun _ => rfl) (fun _ => rfl) (by kernel_rfl) (by kernel_rfl)) ?_
 refine At.c 1 ?_ ?_
 ·apply rt; exact At.r 1
 ·refine At.J 0 1 [] 0 (fun p1 => ([(9, (eB p1))], [], [])) (fun p1 => ?_) fun p1 => ?_
  ·refine lx ?_; intro x2
   refine At.c 6 ?_ ?_
   ·apply rt; exact At.jn 0
   ·refine lx ?_; intro x3
    refine lx ?_; intro x4
    apply rt; exact At.jn 13
  ·refine At.c 0 ?_ ?_
   ·apply rt; exact At.r 1
   ·apply rt; exact At.r 1

def aCl : Nat → Bool := imL [2, 3]

def iC (N : Nat) (a0 : bC) (a1 : bC) : Option (Bool) :=
 Option.bind (fS N a0.gn a1.gd) fun r1 =>
 Option.bind (fS N a1.gn a0.gd) fun r2 =>
 Option.bind (rS N r1 r2) fun r3 =>
 some (decide (r3 < 0))

theorem kM {N a0 a1 r} (h : iC N a0 a1 = some r) : FnM Tryz.prog 307 [] [(bC.enc a0), (bC.enc a1)] (eB r) [] := by
 unfold iC at h
 refine At.f aCl hT hmo Tryz.func307 rfl h ?_
 refine bi fun r1 hr1 => ?_
 refine bi fun r2 hr2 => ?_
 refine bi fun r3 hr3 => ?_
 refine At.d 3 (dE2 4 (aO.enc r1) (fun _ => aN (jT hr1)) (dE2 9 (aO.enc r2) (fun _ => aN (jT hr2)) (dE2 10 (j64 r3) (fun _ => aN (zJ hr3)) dE0))) dF0 ?_
 apply rt; exact At.r 0

def aJZ : Nat → Bool := imL [4, 5, 6, 7]

def xX (N : Nat) (a0 : aC) (a1 : aC) (a2 : aC) (a3 : aC) : Nat → bC → bC → Bool → Int → Option (Sum (bC × bC × Bool) (bC × Bool))
 | 0, _, _, _, _ => none
 | k + 1, s2, s3, s4, s5 =>
  cond (decide (s5 < 3)) (
   Option.bind (Option.bind (idx (#v[#v[a0.gX, a1.gX, a2.gX, a3.gX], #v[a0.gY, a1.gY, a2.gY, a3.gY], #v[a0.gZ, a1.gZ, a2.gZ, a3.gZ]]).toList s5) fun e7 =>
   Option.bind (eK 0 4) fun _ =>
   Option.bind (e7.toList[(Int.toNat 0)]?) fun e9 =>
   Option.bind (eK 2 4) fun _ =>
   Option.bind (e7.toList[(Int.toNat 2)]?) fun e11 =>
   Option.bind (eK 1 4) fun _ =>
   Option.bind (e7.toList[(Int.toNat 1)]?) fun e13 =>
   Option.bind (eK 2 4) fun _ =>
   Option.bind (e7.toList[(Int.toNat 2)]?) fun e15 =>
   Option.bind (eK 3 4) fun _ =>
   Option.bind (e7.toList[(Int.toNat 3)]?) fun e17 =>
   aR (decide ((I64 (e9 - e11)) > (I64 (e13 - e15)))) fun x18 =>
   cond x18 (
    some (Sum.inr ((s2, false)))) (
    Option.bind (cond (e17 == 0) (
     aR (decide ((I64 (e9 - e11)) > 0)) fun x20 =>
     aR (decide ((I64 (e13 - e15)) < 0)) fun x21 =>
     some (cond x20 true x21)) (
     some false)) fun p19 =>
    cond p19 (
     some (Sum.inr ((s2, false)))) (
     cond (e17 == 0) (
      some (Sum.inl ((s2, s3, e7, s4)))) (
      cond (decide (e17 < 0)) (
       aR (I64 (0 - (I64 (e13 - e15)))) fun x22 =>
       aR (I64 (0 - (I64 (e9 - e11)))) fun x23 =>
       Option.bind (Option.bind (iC N s2 (bC.mk x22 (I64 (0 - e17)))) fun r25 =>
       cond r25 (some (bC.mk x22 (I64 (0 - e17)))) (some s2)) fun p24 =>
       Option.bind (cond (!s4) (
        some true) (
        Option.bind (iC N (bC.mk x23 (I64 (0 - e17))) s3) fun r27 =>
        some r27)) fun p26 =>
       cond p26 (
        some (Sum.inl ((p24, bC.mk x23 (I64 (0 - e17)), e7, true)))) (
        some (Sum.inl ((p24, s3, e7, s4))))) (
       Option.bind (Option.bind (iC N s2 (bC.mk (I64 (e9 - e11)) e17)) fun r29 =>
       cond r29 (some (bC.mk (I64 (e9 - e11)) e17)) (some s2)) fun p28 =>
       Option.bind (cond (!s4) (
        some true) (
        Option.bind (iC N (bC.mk (I64 (e13 - e15)) e17) s3) fun r31 =>
        some r31)) fun p30 =>
       cond p30 (
        some (Sum.inl ((p28, bC.mk (I64 (e13 - e15)) e17, e7, true)))) (
        some (Sum.inl ((p28, s3, e7, s4))))))))) fun o => jU o (fun p6 =>
    xX N a0 a1 a2 a3 k p6.1 p6.2.1 p6.2.2.2 (I64 (s5 + 1))) (fun r => some (Sum.inr r))) (
   some (Sum.inl ((s2, s3, s4))))

def yZ (N : Nat) (a0 : aC) (a1 : aC) (a2 : aC) (a3 : aC) : Option (bC × Bool) :=
 Option.bind (xX N a0 a1 a2 a3 N (bC.mk 0 1) (bC.mk 0 0) false 0) fun o => jU o (fun p1 =>
  Option.bind (cond (!p1.2.2) (
   some true) (
   Option.bind (iC N p1.2.1 p1.1) fun r33 =>
   some (!r33))) fun p32 =>
  some ((p1.1, p32))) (fun r => some r)

theorem aDM {N a0 a1 a2 a3 r} (h : yZ N a0 a1 a2 a3 = some r) : FnM Tryz.prog 305 [] [(aC.enc a0), (aC.enc a1), (aC.enc a2), (aC.enc a3)] (.tup [(bC.enc r.1), (eB r.2)]) [] := by
 unfold yZ at h
 refine At.f aJZ hT hmo Tryz.func305 rfl h ?_
 refine At.LS 41 [8, 10] 2 (fun p1 => ([(11, (eB p1.2.2))], [(0, .var (bC.enc p1.1)), (1, .var (bC.enc p1.2.1))], [])) (fun op1 J k => ∃ s2 s3 s4 s5, xX N a0 a1 a2 a3 k s2 s3 s4 s5 = some op1 ∧ J [8, 10, 48] 2 [(11, (eB s4)), (49, (j64 s5))] [(0, .var (bC.enc s2)), (1, .var (bC.enc s3))] []) N (fun _ h => ⟨_, _, _, _, h, jr⟩) (fun op1 g1 k s hI => ?_) fun p1 => ?_
 ·obtain ⟨s2, s3, s4, s5, h, hj⟩ := hI
  cases k with
  | zero => cases h
  | succ k =>
   refine At.jr hj ?_ h
   refine At.c 1 ?_ ?_
   ·refine At.JS 0 2 [8, 10, 48, 49] 2 (fun p6 => ([(11, (eB p6.2.2.2))], [(0, .var (bC.enc p6.1)), (1, .var (bC.enc p6.2.1))], [.var (eA 4 1 j64 p6.2.2.1)])) (fun op6 g6 => ?_) fun p6 => ?_
    ·refine At.b 0 (fun _ e => zD hT (eA 4 1 j64) (#v[#v[a0.gX, a1.gX, a2.gX, a3.gX], #v[a0.gY, a1.gY, a2.gY, a3.gY], #v[a0.gZ, a1.gZ, a2.gZ, a3.gZ]]) e (by kernel_rfl) (by kernel_rfl)) fun e7 => ?_
     refine bi fun u8 hu8 => ?_
     refine bi fun e9 he9 => ?_
     refine bi fun u10 hu10 => ?_
     refine bi fun e11 he11 => ?_
     refine bi fun u12 hu12 => ?_
     refine bi fun e13 he13 => ?_
     refine bi fun u14 hu14 => ?_
     refine bi fun e15 he15 => ?_
     refine bi fun u16 hu16 => ?_
     refine bi fun e17 he17 => ?_
     refine At.d 2 (dE1 0 (fun _ => bD hT (k := 1) 2 [] 0 hu8) (dEL hT 1 (j64 e9) j64 0 he9 (dE1 2 (fun _ => bD hT (k := 1) 2 [] 0 hu10) (dEL hT 3 (j64 e11) j64 0 he11 (dE1 5 (fun _ => bD hT (k := 1) 2 [] 0 hu12) (dEL hT 6 (j64 e13) j64 0 he13 (dE1 7 (fun _ => bD hT (k := 1) 2 [] 0 hu14) (dEL hT 8 (j64 e15) j64 0 he15 (dE1 10 (fun _ => bD hT (k := 1) 2 [] 0 hu16) (dEL hT 11 (j64 e17) j64 0 he17 dE0)))))))))) dF0 ?_
     refine lx ?_; intro x18
     refine At.c 4 ?_ ?_
     ·intro e; apply rtS2 g6 g1 e; exact At.r 3
     ·refine At.J 0 0 [8, 10, 11, 14, 15, 16, 48, 49] 3 (fun p19 => ([(69, (eB p19))], [], [])) (fun p19 => ?_) fun p19 => ?_
      ·refine At.s 72 3 ?_ ?_
       ·refine lx ?_; intro x20
        refine lx ?_; intro x21
        refine At.g [72] 8 ?_
        apply rt; exact At.jn 0
       ·refine At.g [72, 75] 8 ?_
        apply rt; exact At.jn 0
      ·refine At.c 0 ?_ ?_
       ·intro e; apply rtS2 g6 g1 e; exact At.r 3
       ·refine At.c 3 ?_ ?_
        ·apply rt; exact At.jsn 0
        ·refine At.c 3 ?_ ?_
         ·refine lx ?_; intro x22
          refine lx ?_; intro x23
          refine At.J 9 1 [8, 10, 11, 15, 16, 48, 49] 3 (fun p24 => ([], [(0, .var (bC.enc p24))], [.var (.st 2 [(j64 x22), (j64 (I64 (0 - e17)))])])) (fun p24 => ?_) fun p24 => ?_
          ·refine At.b 7 (fun _ e => aL [] (kM e)) fun r25 => ?_
           refine At.c 0 ?_ ?_
           ·apply rt; exact At.jn 2
           ·apply rt; exact At.jn 0
          ·refine At.J 5 0 [8, 10, 11, 18, 48, 49] 5 (fun p26 => ([(109, (eB p26))], [], [])) (fun p26 => ?_) fun p26 => ?_
           ·refine At.s 105 3 ?_ ?_
            ·refine At.g [105] 4 ?_
             apply rt; exact At.jn 0
            ·refine At.g [105] 2 ?_
             refine At.b 0 (fun _ e => aL [] (kM e)) fun r27 => ?_
             refine At.g [105] 1 ?_
             apply rt; exact At.jn 0
           ·refine At.c 0 ?_ ?_
            ·apply rt; exact At.jsn 3
            ·apply rt; exact At.jsn 0
         ·refine At.J 0 1 [8, 10, 11, 15, 16, 48, 49] 3 (fun p28 => ([], [(0, .var (bC.enc p28))], [.var (.st 2 [(j64 (I64 (e9 - e11))), (j64 e17)])])) (fun p28 => ?_) fun p28 => ?_
          ·refine At.b 7 (fun _ e => aL [] (kM e)) fun r29 => ?_
           refine At.c 0 ?_ ?_
           ·apply rt; exact At.jn 2
           ·apply rt; exact At.jn 0
          ·refine At.J 5 0 [8, 10, 11, 18, 48, 49] 5 (fun p30 => ([(109, (eB p30))], [], [])) (fun p30 => ?_) fun p30 => ?_
           ·refine At.s 105 3 ?_ ?_
            ·refine At.g [105] 4 ?_
             apply rt; exact At.jn 0
            ·refine At.g [105] 2 ?_
             refine At.b 0 (fun _ e => aL [] (kM e)) fun r31 => ?_
             refine At.g [105] 1 ?_
             apply rt; exact At.jn 0
           ·refine At.c 0 ?_ ?_
            ·apply rt; exact At.jsn 3
            ·apply rt; exact At.jsn 0
    ·exact fun h => At.k 2 ⟨_, _, _, _, h, jr⟩
   ·apply rt; exact At.xs 0
 ·refine At.J 0 0 [8] 2 (fun p32 => ([(9, (eB p32))], [], [])) (fun p32 => ?_) fun p32 => ?_
  ·refine boI (fun hc3 => ?_) (fun hc3 => ?_)
   ·refine At.d 0 (dE1 3 (fun _ => cT hc3 rfl (cN hT (im := false) (by kernel_rfl))) dE0) dF0 ?_
    apply rt; exact At.jn 0
   ·refine bi fun r33 hr33 => ?_
    refine At.d 0 (dE1 3 (fun _ => cT hc3 rfl (cN hT (im := false) (by kernel_rfl))) (dE2 6 (eB r33) (fun _ => aN (kM hr33)) dE0)) dF0 ?_
    apply rt; exact At.jn 0
  ·apply rt; exact At.r 0

end Go.UK
