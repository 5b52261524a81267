/- A part of the proof: what the functions of the program compute. -/
import Derived.Test.YtmfanigkgeohiaaGreatAJ2
import Derived.Test.YtmfanigkgeohiaaGreatJ1
namespace Go.UK
open Go Go.Proofs
set_option maxRecDepth 20000
set_option linter.all false

theorem mul64 (N : Nat) {a b : Int} (ha : 0 ≤ a) (ha' : a < 18446744073709551616) (hb : 0 ≤ b) (hb' : b < 18446744073709551616) :
  jB N a b = some (a * b / 18446744073709551616, a * b % 18446744073709551616) := by
 unfold jB
 simp only [aX, aFM ha ha', aFM hb hb', aGV, aFM (aJN _) (aLn _)]
 simp only [aCK]
 generalize hA1 : a / 4294967296 = A1
 generalize hA0 : a % 4294967296 = A0
 generalize hB1 : b / 4294967296 = B1
 generalize hB0 : b % 4294967296 = B0
 have ea : a = A1 * 4294967296 + A0 := by omega
 have eb : b = B1 * 4294967296 + B0 := by omega
 have hp : a * b = (A1 * B1) * 18446744073709551616 + (A1 * B0 + A0 * B1) * 4294967296 + A0 * B0 := by
  rw [ea, eb]; grind
 rw [hp]
 obtain ⟨x1, y1⟩ := aCs (a := A1) (b := B1) (by omega) (by omega) (by omega) (by omega)
 obtain ⟨x2, y2⟩ := aCs (a := A1) (b := B0) (by omega) (by omega) (by omega) (by omega)
 obtain ⟨x3, y3⟩ := aCs (a := A0) (b := B1) (by omega) (by omega) (by omega) (by omega)
 obtain ⟨x4, y4⟩ := aCs (a := A0) (b := B0) (by omega) (by omega) (by omega) (by omega)
 clear hp ea eb
 generalize A1 * B1 = p at *
 generalize A1 * B0 = q at *
 generalize A0 * B1 = r at *
 generalize A0 * B0 = s at *
 congr 2
 omega

theorem aK7 (i : Nat) (h : i < 256) : ∃ b : UInt8, aJ2.data.toList[i]? = some b ∧ b.toNat ≤ 8 ∧ i < 2 ^ b.toNat ∧ (0 < i → 1 ≤ b.toNat ∧ 2 ^ (b.toNat - 1) ≤ i) := by
 have key : ∀ i : Fin 256, (match aJ2.data.toList[i.val]? with | some b => decide (b.toNat ≤ 8) && decide (i.val < 2 ^ b.toNat) && (decide (i.val = 0) || (decide (1 ≤ b.toNat) && decide (2 ^ (b.toNat - 1) ≤ i.val))) | none => false) = true := by decide
 have := key ⟨i, h⟩
 simp only at this
 split at this
 ·rename_i b hb
  simp only [Bool.and_eq_true, Bool.or_eq_true, decide_eq_true_eq] at this
  exact ⟨b, hb, this.1.1, this.1.2, fun hi => by rcases this.2 with h | h; omega; exact h⟩
 ·cases this

theorem len64 (N : Nat) {a : Int} (ha : 0 < a) (ha' : a < 18446744073709551616) :
  ∃ n : Nat, mL N a = some (n : Int) ∧ 1 ≤ n ∧ n ≤ 64 ∧ (2 : Int) ^ (n - 1) ≤ a ∧ a < (2 : Int) ^ n := by
 obtain ⟨A, rfl⟩ := Int.eq_ofNat_of_zero_le (Int.le_of_lt ha)
 unfold mL
 simp only [aX, aGV, aOf, shr8u]
 -- the three steps
 obtain ⟨y1, n1, e1, h1, h1'⟩ : ∃ (y n : Nat), (cond (decide ((A : Int) ≥ 4294967296)) (some ((A : Int) / 4294967296, (32 : Int))) (some ((A : Int), 0))) = some ((y : Int), (n : Int)) ∧ y < 4294967296 ∧ (A / 2 ^ n = y ∧ 0 < y ∧ (n = 0 ∨ n = 32)) := by
  by_cases hc : (A : Int) ≥ 4294967296
  ·exact ⟨A / 4294967296, 32, by simp [hc], by omega, rfl, by omega, .inr rfl⟩
  ·exact ⟨A, 0, by simp [hc], by omega, by simp, by omega, .inl rfl⟩
 rw [e1]
 simp only [Option.bind_some]
 obtain ⟨y2, n2, e2, h2, h2'⟩ : ∃ (y n : Nat), (cond (decide ((y1 : Int) ≥ 65536)) (some ((y1 : Int) / 65536, I64 ((n1 : Int) + 16))) (some ((y1 : Int), (n1 : Int)))) = some ((y : Int), (n : Int)) ∧ y < 65536 ∧ (A / 2 ^ n = y ∧ 0 < y ∧ n ≤ 48) := by
  by_cases hc : (y1 : Int) ≥ 65536
  ·refine ⟨y1 / 65536, n1 + 16, ?_, by omega, ?_, by omega, by omega⟩
   ·simp only [hc, decide_true, cond_true]
    rw [eP (by omega) (by omega)]
    rfl
   ·rw [Nat.pow_add, ← Nat.div_div_eq_div_mul, h1'.1]
  ·exact ⟨y1, n1, by simp [hc], by omega, h1'.1, h1'.2.1, by omega⟩
 rw [e2]
 simp only [Option.bind_some]
 obtain ⟨y3, n3, e3, h3, h3'⟩ : ∃ (y n : Nat), (cond (decide ((y2 : Int) ≥ 256)) (some ((y2 : Int) / 256, I64 ((n2 : Int) + 8))) (some ((y2 : Int), (n2 : Int)))) = some ((y : Int), (n : Int)) ∧ y < 256 ∧ (A / 2 ^ n = y ∧ 0 < y ∧ n ≤ 56) := by
  by_cases hc : (y2 : Int) ≥ 256
  ·refine ⟨y2 / 256, n2 + 8, ?_, by omega, ?_, by omega, by omega⟩
   ·simp only [hc, decide_true, cond_true]
    rw [eP (by omega) (by omega)]
    rfl
   ·rw [Nat.pow_add, ← Nat.div_div_eq_div_mul, h2'.1]
  ·exact ⟨y2, n2, by simp [hc], by omega, h2'.1, h2'.2.1, by omega⟩
 rw [e3]
 simp only [Option.bind_some]
 obtain ⟨b, g1, g2, g3, g4⟩ := aK7 y3 h3
 obtain ⟨g5, g6⟩ := g4 h3'.2.1
 have hidx : idx aJ2.data.toList (U8 (y3 : Int)) = some b := by
  have : U8 (y3 : Int) = (y3 : Int) := by
   rw [show U8 (y3 : Int) = (y3 : Int) % 256 from IntKind.wrap_u8 _]
   omega
  rw [this]
  unfold idx
  simp [g1]
 rw [hidx]
 simp only [Option.bind_some]
 refine ⟨n3 + b.toNat, ?_, by omega, by omega, ?_, ?_⟩
 ·rw [eP (x := (b.toNat : Int)) (by omega) (by omega), eP (by omega) (by omega)]
  rfl
 ·have e : n3 + b.toNat - 1 = n3 + (b.toNat - 1) := by omega
  have : 2 ^ (n3 + b.toNat - 1) ≤ A := by
   rw [e, Nat.pow_add]
   calc 2 ^ n3 * 2 ^ (b.toNat - 1) ≤ 2 ^ n3 * y3 := Nat.mul_le_mul_left _ g6
    _ = 2 ^ n3 * (A / 2 ^ n3) := by rw [h3'.1]
    _ ≤ A := Nat.mul_div_le A _
  exact_mod_cast this
 ·have : A < 2 ^ (n3 + b.toNat) := by
   rw [Nat.pow_add]
   have := Nat.lt_mul_div_succ A (Nat.two_pow_pos n3)
   rw [h3'.1] at this
   calc A < 2 ^ n3 * (y3 + 1) := this
    _ ≤ 2 ^ n3 * 2 ^ b.toNat := Nat.mul_le_mul_left _ (by omega)
  exact_mod_cast this
theorem aJz (N : Nat) {l y : Int} (hy : 0 < y) (hl : 0 ≤ l) (hl' : l < 18446744073709551616) : hQ N 0 l y = some (l / y, l % y) := by
 unfold hQ
 have e1 : (y == 0) = false := by simp; omega
 have e2 : decide (y ≤ 0) = false := by simp; omega
 rw [e1, e2]
 simp only [cond_false, beq_self_eq_true, cond_true, aX]
 rw [aCr _ (by omega), aJv _ (by omega)]
 simp only [Option.bind_some]
 rw [show IntKind.u64.wrap (l.tdiv y) = U64 (l.tdiv y) from rfl, Int.tdiv_eq_ediv_of_nonneg hl, Int.tmod_eq_emod_of_nonneg hl]
 rw [lP (Int.ediv_nonneg hl (Int.le_of_lt hy)) (by have := Int.ediv_le_self y hl; omega)]



theorem aOa (N : Nat) {H D Y y1 y0 : Int} (R : aAI H D Y y1 y0) (x5 s14 s15 s16 : Int) (h6 : s14 = y1) (h8 : x5 = y0) (h13 : s16 = D) (k : Nat) (q r : Int) (hq : q * y1 + r = H) (hr : 0 ≤ r) (hr' : r < 4294967296) (hge : (H * 4294967296 + D) / Y ≤ q) (hle : q ≤ 4294967297) (hk : q - (H * 4294967296 + D) / Y < k) :
  kF N x5 k s14 s15 s16 q r = some (s14, s15, s16, (H * 4294967296 + D) / Y) := by
 subst s14 x5 s16
 induction k generalizing q r with
 | zero => simp at hk; omega
 | succ k ih =>
  obtain ⟨b1, b2⟩ := R.q_lt
  have ht := R.test hq
  unfold kF
  simp only [aX]
  have hy1 := R.y1l; have hy1' := R.y1h; have hy0 := R.y0l; have hy0' := R.y0h; have hD := R.Dl; have hD' := R.Dh
  have e1 : U64 (U64 (4294967296 * r) + D) = 4294967296 * r + D := by rw [lP (x := 4294967296 * r) (by omega) (by omega), lP (by omega) (by omega)]
  rw [e1]
  have htest : cond (decide (q ≥ 4294967296)) true (decide (U64 (q * y0) > 4294967296 * r + D)) = decide ((H * 4294967296 + D) / Y < q) := by
   by_cases hc : q ≥ 4294967296
   ·rw [show decide (q ≥ 4294967296) = true by simpa using hc, cond_true]
    symm; simp; omega
   ·rw [show decide (q ≥ 4294967296) = false by simpa using hc, cond_false]
    obtain ⟨m1, m2⟩ := aCs (a := q) (b := y0) (by omega) (by omega) hy0 hy0'
    rw [lP m1 (by omega)]
    simp only [decide_eq_decide]
    exact ht
  rw [htest]
  by_cases hc : (H * 4294967296 + D) / Y < q
  ·rw [show decide ((H * 4294967296 + D) / Y < q) = true by simpa using hc, cond_true]
   have e2 : U64 (r + y1) = r + y1 := lP (by omega) (by omega)
   have e3 : U64 (q - 1) = q - 1 := lP (by omega) (by omega)
   rw [e2, e3]
   have hq' : (q - 1) * y1 + (r + y1) = H := by rw [← hq]; grind
   by_cases hx : r + y1 ≥ 4294967296
   ·rw [show decide (r + y1 ≥ 4294967296) = true by simpa using hx, cond_true]
    have ht' := R.test hq'
    have hnot : ¬ ((q - 1) * y0 > 4294967296 * (r + y1) + D) := by
     have : (q - 1) * y0 ≤ 4294967296 * 4294967295 := Int.mul_le_mul (by omega) (by omega) hy0 (by omega)
     omega
    have : ¬ (H * 4294967296 + D) / Y < q - 1 := fun h' => hnot (ht'.2 h')
    rw [show (H * 4294967296 + D) / Y = q - 1 by omega]
   ·rw [show decide (r + y1 ≥ 4294967296) = false by simpa using hx, cond_false]
    have hh := ih (q - 1) (r + y1) hq' (by omega) (by omega) (by omega) (by omega) (by omega)
    exact hh
  ·rw [show decide ((H * 4294967296 + D) / Y < q) = false by simpa using hc, cond_false]
   rw [show (H * 4294967296 + D) / Y = q by omega]
theorem aOC (N : Nat) {H D Y y1 y0 : Int} (R : aAI H D Y y1 y0) (x5 x9 : Int) (p13 : Int × Int × Int × Int) (h6 : p13.1 = y1) (h8 : x5 = y0) (h15 : x9 = D) (k : Nat) (q r : Int) (hq : q * y1 + r = H) (hr : 0 ≤ r) (hr' : r < 4294967296) (hge : (H * 4294967296 + D) / Y ≤ q) (hle : q ≤ 4294967297) (hk : q - (H * 4294967296 + D) / Y < k) :
  kE N x9 x5 p13 k r q = some ((H * 4294967296 + D) / Y) := by
 subst x5 x9
 induction k generalizing q r with
 | zero => simp at hk; omega
 | succ k ih =>
  obtain ⟨b1, b2⟩ := R.q_lt
  have ht := R.test hq
  unfold kE
  simp only [aX]
  rw [h6]
  have hy1 := R.y1l; have hy1' := R.y1h; have hy0 := R.y0l; have hy0' := R.y0h; have hD := R.Dl; have hD' := R.Dh
  have e1 : U64 (U64 (4294967296 * r) + D) = 4294967296 * r + D := by rw [lP (x := 4294967296 * r) (by omega) (by omega), lP (by omega) (by omega)]
  rw [e1]
  have htest : cond (decide (q ≥ 4294967296)) true (decide (U64 (q * y0) > 4294967296 * r + D)) = decide ((H * 4294967296 + D) / Y < q) := by
   by_cases hc : q ≥ 4294967296
   ·rw [show decide (q ≥ 4294967296) = true by simpa using hc, cond_true]
    symm; simp; omega
   ·rw [show decide (q ≥ 4294967296) = false by simpa using hc, cond_false]
    obtain ⟨m1, m2⟩ := aCs (a := q) (b := y0) (by omega) (by omega) hy0 hy0'
    rw [lP m1 (by omega)]
    simp only [decide_eq_decide]
    exact ht
  rw [htest]
  by_cases hc : (H * 4294967296 + D) / Y < q
  ·rw [show decide ((H * 4294967296 + D) / Y < q) = true by simpa using hc, cond_true]
   have e2 : U64 (r + y1) = r + y1 := lP (by omega) (by omega)
   have e3 : U64 (q - 1) = q - 1 := lP (by omega) (by omega)
   rw [e2, e3]
   have hq' : (q - 1) * y1 + (r + y1) = H := by rw [← hq]; grind
   by_cases hx : r + y1 ≥ 4294967296
   ·rw [show decide (r + y1 ≥ 4294967296) = true by simpa using hx, cond_true]
    have ht' := R.test hq'
    have hnot : ¬ ((q - 1) * y0 > 4294967296 * (r + y1) + D) := by
     have : (q - 1) * y0 ≤ 4294967296 * 4294967295 := Int.mul_le_mul (by omega) (by omega) hy0 (by omega)
     omega
    have : ¬ (H * 4294967296 + D) / Y < q - 1 := fun h' => hnot (ht'.2 h')
    congr 1; omega
   ·rw [show decide (r + y1 ≥ 4294967296) = false by simpa using hx, cond_false]
    have hh := ih (q - 1) (r + y1) hq' (by omega) (by omega) (by omega) (by omega) (by omega)
    exact hh
  ·rw [show decide ((H * 4294967296 + D) / Y < q) = false by simpa using hc, cond_false]
   congr 1; omega



def S64 (z : Int) : Int := if z < -9223372036854775808 then -9223372036854775808 else if 9223372036854775807 < z then 9223372036854775807 else z
theorem aDR (z : Int) : tM (S64 z) := by unfold S64 tM; (repeat' split) <;> omega
theorem aBz {z : Int} (h : tM z) : S64 z = z := by unfold S64; obtain ⟨h1, h2⟩ := h; rw [if_neg (by omega), if_neg (by omega)]

theorem ix0 (a b : Int) : idx [a, b] 0 = some a := rfl
theorem ix1 (a b : Int) : idx [a, b] 1 = some b := rfl

theorem aIV {s e : Int} (hs : tM s) (he : tM e) :
  (aM (cond (decide (s > 0)) (decide (e > 0)) false) fun x7 => aM (decide ((I64 (s + e)) < 0)) fun x8 => cond (cond x7 x8 false) (some (9223372036854775807 : Int)) (
    aM (cond (decide (s < 0)) (decide (e < 0)) false) fun x9 => aM (decide ((I64 (s + e)) ≥ 0)) fun x10 => cond (cond x9 x10 false) (some (-9223372036854775808)) (some (I64 (s + e))))) = some (S64 (s + e)) := by
 simp only [aX]
 obtain ⟨h1, h2⟩ := hs
 obtain ⟨h3, h4⟩ := he
 by_cases a1 : s > 0
 ·rw [dt a1, df (show ¬ s < 0 by omega)]
  simp only [cond_true, cond_false]
  by_cases a2 : e > 0
  ·rw [dt a2]
   simp only [cond_true]
   by_cases a3 : 9223372036854775807 < s + e
   ·rw [dt (show I64 (s + e) < 0 by rw [aBW]; omega), cond_true]
    unfold S64; rw [if_neg (by omega), if_pos a3]
   ·rw [eP (by omega) (by omega), df (show ¬ s + e < 0 by omega), cond_false]
    rw [aBz ⟨by omega, by omega⟩]
  ·rw [df a2, cond_false, eP (by omega) (by omega), aBz ⟨by omega, by omega⟩]; rfl
 ·rw [df a1]
  simp only [cond_false]
  by_cases a2 : s < 0
  ·rw [dt a2]
   simp only [cond_true]
   by_cases a3 : e < 0
   ·rw [dt a3]
    simp only [cond_true]
    by_cases a4 : s + e < -9223372036854775808
    ·rw [dt (show I64 (s + e) ≥ 0 by rw [aBW]; omega), cond_true]
     unfold S64; rw [if_pos a4]
    ·rw [eP (by omega) (by omega), df (show ¬ s + e ≥ 0 by omega), cond_false]
     rw [aBz ⟨by omega, by omega⟩]
   ·rw [df a3, cond_false, eP (by omega) (by omega), aBz ⟨by omega, by omega⟩]; rfl
  ·rw [df a2, cond_false, eP (by omega) (by omega), aBz ⟨by omega, by omega⟩]; rfl

theorem aHT (k : Nat) {a b : Int} (ha : tM a) (hb : tM b) : nW (k + 3) [a, b] = some (S64 (a + b)) := by
 unfold nW
 have l2 : (([a, b] : List Int).length : Int) = 2 := rfl
 rw [pQ, aX, l2, dt (show (0 : Int) < 2 by decide), cond_true, ix0]
 simp only [Option.bind_some]
 rw [aIV (s := 0) ⟨by decide, by decide⟩ ha]
 simp only [Option.bind_some]
 rw [show I64 (0 + 1) = 1 by decide, pQ, aX, l2, dt (show (1 : Int) < 2 by decide), cond_true, ix1]
 simp only [Option.bind_some]
 rw [Int.zero_add, aBz ha, aIV ha hb]
 simp only [Option.bind_some]
 rw [show I64 (1 + 1) = 2 by decide, pQ, aX, l2, df (show ¬ (2 : Int) < 2 by decide), cond_false]
 rfl

theorem wsz (N : Nat) {a : Int} (ha : tM a) : pH N a = some (if a < 0 then -a else a, decide (a < 0)) := by
 obtain ⟨h1, h2⟩ := ha
 unfold pH
 by_cases h : a < 0
 ·rw [dt h, cond_true, if_pos h]
  congr 2
  rw [aCK, aCK]; omega
 ·rw [df h, cond_false, if_neg h, lP (by omega) (by omega)]

theorem aNx {x y c : Int} (hx : 0 ≤ x) (hy : 0 ≤ y) (hy' : y ≤ 18446744073709551615) (hc : 0 ≤ c) (hc' : c ≤ 1) : aBG x y c = some ((x - y - c) % 18446744073709551616, if x < y + c then 1 else 0) := by
 unfold aBG
 rw [dt hx, dt hy, dt hc, dt hc', dt hy']
 simp only [Bool.and_self, cond_true]
 by_cases h : x < y + c
 ·rw [dt h, if_pos h]; rfl
 ·rw [df h, if_neg h]; rfl

theorem aJq (N : Nat) {h l : Int} (hh : 0 ≤ h) (hh' : h < 18446744073709551616) (hl : 0 ≤ l) (hl' : l < 18446744073709551616) :
  ∃ h' l', nA N h l = some (h', l') ∧ 0 ≤ h' ∧ h' < 18446744073709551616 ∧ 0 ≤ l' ∧ l' < 18446744073709551616 ∧ (h' * 18446744073709551616 + l' = 0 ∧ h * 18446744073709551616 + l = 0 ∨ h' * 18446744073709551616 + l' = 340282366920938463463374607431768211456 - (h * 18446744073709551616 + l)) := by
 unfold nA
 rw [aNx (by decide) hl (by omega) (by decide) (by decide)]
 simp only [Option.bind_some]
 have hc : 0 ≤ (if (0 : Int) < l + 0 then (1 : Int) else 0) ∧ (if (0 : Int) < l + 0 then (1 : Int) else 0) ≤ 1 := by split <;> omega
 rw [aNx (by decide) hh (by omega) hc.1 hc.2]
 simp only [Option.bind_some]
 refine ⟨_, _, rfl, ?_⟩
 split <;> omega

abbrev zN (w : aO) : Int := w.gHi * 18446744073709551616 + w.gLo
def wok (w : aO) : Prop := tM w.gHi ∧ 0 ≤ w.gLo ∧ w.gLo < 18446744073709551616

theorem aJe (N : Nat) {h l : Int} (m : Bool) (hh : 0 ≤ h) (hl : 0 ≤ l) (hl' : l < 18446744073709551616) (hb : h * 18446744073709551616 + l ≤ 170141183460469231731687303715884105727) :
  ∃ w, lE N h l m = some (w, true) ∧ wok w ∧ zN w = cond m (-(h * 18446744073709551616 + l)) (h * 18446744073709551616 + l) := by
 unfold lE
 cases m with
 | false =>
  simp only [cond_false, Option.bind_some, aX]
  have hi : I64 h = h := eP (by omega) (by omega)
  rw [hi, df (show ¬ h < 0 by omega)]
  refine ⟨⟨h, l⟩, rfl, ⟨⟨by show _ ≤ h; omega, by show h ≤ _; omega⟩, hl, hl'⟩, rfl⟩
 | true =>
  obtain ⟨h', l', e, a1, a2, a3, a4, a5⟩ := aJq N (h := h) (l := l) hh (by omega) hl hl'
  rw [e]
  simp only [cond_true, Option.bind_some, aX]
  have hw : I64 h' * 18446744073709551616 + l' = -(h * 18446744073709551616 + l) := by rw [aBW]; omega
  refine ⟨⟨I64 h', l'⟩, ?_, ⟨⟨aPC _, by have := aOw h'; show I64 h' ≤ _; omega⟩, a3, a4⟩, hw⟩
  congr 2
  by_cases hz : I64 h' < 0
  ·rw [dt hz]; rfl
  ·rw [df hz]
   have h0 : h' = 0 ∧ l' = 0 := by rw [aBW] at hz hw; omega
   rw [h0.1, h0.2]
   rfl

theorem aMx {x y : Int} (hx : 0 ≤ x) (hx' : x ≤ 9223372036854775808) (hy : 0 ≤ y) (hy' : y ≤ 9223372036854775808) : 0 ≤ x * y ∧ x * y ≤ 85070591730234615865843651857942052864 := by
 have h1 := Int.mul_nonneg hx hy
 have h2 : x * y ≤ 9223372036854775808 * 9223372036854775808 := Int.mul_le_mul hx' hy' hy (by omega)
 omega

theorem aN1 (N : Nat) {a b : Int} (ha : tM a) (hb : tM b) : ∃ w, hO N a b = some w ∧ wok w ∧ zN w = a * b := by
 unfold hO
 rw [wsz N ha, wsz N hb]
 simp only [Option.bind_some]
 obtain ⟨a1, a2⟩ := ha
 obtain ⟨b1, b2⟩ := hb
 have key : ∀ (x y : Int) (m : Bool), 0 ≤ x → x ≤ 9223372036854775808 → 0 ≤ y → y ≤ 9223372036854775808 → (cond m (-(x * y)) (x * y) = a * b) →
   ∃ w, (Option.bind (jB N x y) fun r3 => Option.bind (lE N r3.1 r3.2 m) fun r4 => some r4.1) = some w ∧ wok w ∧ zN w = a * b := by
  intro x y m hx hx' hy hy' he
  obtain ⟨m1, m2⟩ := aMx hx hx' hy hy'
  rw [mul64 N hx (by omega) hy (by omega)]
  simp only [Option.bind_some]
  obtain ⟨w, e1, e2, e3⟩ := aJe N (h := x * y / 18446744073709551616) (l := x * y % 18446744073709551616) m (by omega) (by omega) (by omega) (by omega)
  rw [e1]
  refine ⟨w, rfl, e2, ?_⟩
  rw [e3, ← he]
  have : x * y / 18446744073709551616 * 18446744073709551616 + x * y % 18446744073709551616 = x * y := by omega
  rw [this]
 by_cases s1 : a < 0 <;> by_cases s2 : b < 0
 ·rw [if_pos s1, if_pos s2, dt s1, dt s2]
  exact key (-a) (-b) _ (by omega) (by omega) (by omega) (by omega) (by show -a * -b = _; rw [Int.neg_mul_neg])
 ·rw [if_pos s1, if_neg s2, dt s1, df s2]
  exact key (-a) b _ (by omega) (by omega) (by omega) (by omega) (by show -(-a * b) = _; rw [Int.neg_mul, Int.neg_neg])
 ·rw [if_neg s1, if_pos s2, df s1, dt s2]
  exact key a (-b) _ (by omega) (by omega) (by omega) (by omega) (by show -(a * -b) = _; rw [Int.mul_neg, Int.neg_neg])
 ·rw [if_neg s1, if_neg s2, df s1, df s2]
  exact key a b _ (by omega) (by omega) (by omega) (by omega) rfl

theorem aN7 (N : Nat) {w : aO} (hw : wok w) : rB N w = some (S64 (zN w)) := by
 obtain ⟨⟨h1, h2⟩, h3, h4⟩ := hw
 unfold rB oT
 simp only [aX, aOL]
 by_cases hc : w.gHi = I64 w.gLo / 9223372036854775808
 ·rw [show (w.gHi != I64 w.gLo / 9223372036854775808) = false by simp [bne, hc]]
  simp only [cond_false, Option.bind_some, cond_true]
  rw [aBz]
  ·congr 1
   show I64 w.gLo = w.gHi * 18446744073709551616 + w.gLo
   rw [hc]; simp only [aBW]; omega
  ·show tM (w.gHi * 18446744073709551616 + w.gLo)
   rw [hc]; unfold tM; simp only [aBW]; omega
 ·rw [show (w.gHi != I64 w.gLo / 9223372036854775808) = true by simp [bne, hc]]
  simp only [cond_true, Option.bind_some, cond_false]
  rw [aBW] at hc
  by_cases hs : w.gHi < 0
  ·rw [dt hs, cond_true]
   unfold S64
   rw [if_pos (show w.gHi * 18446744073709551616 + w.gLo < _ by omega)]
  ·rw [df hs, cond_false]
   unfold S64
   rw [if_neg (show ¬ w.gHi * 18446744073709551616 + w.gLo < _ by omega), if_pos (show _ < w.gHi * 18446744073709551616 + w.gLo by omega)]

theorem aMU (N : Nat) {a : Int} (ha : tM a) : jA N a = some (S64 (a * 4294967296)) := by
 unfold jA
 obtain ⟨w, e1, e2, e3⟩ := aN1 N ha (b := 4294967296) ⟨by decide, by decide⟩
 rw [e1]
 simp only [Option.bind_some]
 rw [aN7 _ e2, e3]
 rfl
set_option maxHeartbeats 2000000

theorem aNm {H L1 L0 Y : Int} (hY : 0 < Y) : (((H * 4294967296 + L1) % Y) * 4294967296 + L0) % Y = (H * 18446744073709551616 + (L1 * 4294967296 + L0)) % Y := by
 have h := Int.mul_ediv_add_emod (H * 4294967296 + L1) Y
 generalize hq : (H * 4294967296 + L1) / Y = q at *
 generalize hr : (H * 4294967296 + L1) % Y = r at *
 have e : H * 18446744073709551616 + (L1 * 4294967296 + L0) = (r * 4294967296 + L0) + Y * (q * 4294967296) := by
  have : (H * 4294967296 + L1) * 4294967296 = (Y * q + r) * 4294967296 := by rw [h]
  grind
 rw [e, Int.add_mul_emod_self_left]
theorem aIp {a b c : Int} (hc : 0 < c) : (a * c) % (b * c) = (a % b) * c := by
 rw [Int.mul_comm a c, Int.mul_comm b c, Int.mul_emod_mul_of_pos _ _ hc, Int.mul_comm]
theorem aOU (k : Nat) {h l y : Int} (hy : 0 < y) (hy' : y < 18446744073709551616) (hh : 0 ≤ h) (hh' : h < y) (hl : 0 ≤ l) (hl' : l < 18446744073709551616) :
  hQ (k + 3) h l y = some ((h * 18446744073709551616 + l) / y, (h * 18446744073709551616 + l) % y) := by
 by_cases h0 : h = 0
 ·subst h0
  rw [aJz _ hy hl hl', Int.zero_mul, Int.zero_add]
 obtain ⟨n, hn, h1, h64, hlo, hhi⟩ := len64 (k + 3) hy hy'
 unfold hQ
 have e1 : (y == 0) = false := by simp; omega
 have e2 : decide (y ≤ h) = false := by simp; omega
 have e3 : (h == 0) = false := by simp; omega
 rw [e1, e2, e3]
 simp only [cond_false]
 unfold iZ
 rw [hn]
 simp only [Option.bind_some]
 have e4 : I64 (64 - (n : Int)) = 64 - n := eP (by omega) (by omega)
 rw [e4]
 have e5 : U64 (64 - (n : Int)) = 64 - n := lP (by omega) (by omega)
 have e5' : U64 (64 - (64 - (n : Int))) = n := by rw [lP (by omega) (by omega)]; omega
 have e6 : (0 : Int) ≤ 64 - (n : Int) := by omega
 have e7 : (0 : Int) ≤ (n : Int) := by omega
 simp only [aX, e5, e5']
 simp only [aNJ _ e6, aJh _ e7, Option.bind_some]
 have pw : (2 : Int) ^ n * 2 ^ (64 - n) = 18446744073709551616 := by rw [← Int.pow_add, show n + (64 - n) = 64 by omega]; rfl
 have hpos : (0 : Int) < 2 ^ (64 - n) := Int.pow_pos (by decide)
 -- the divisor
 have hz2 : y * (2 : Int) ^ (64 - n) < 18446744073709551616 := by
  rw [← pw]; exact Int.mul_lt_mul_of_pos_right hhi hpos
 have hz0 : 0 ≤ y * (2 : Int) ^ (64 - n) := Int.mul_nonneg (by omega) (Int.le_of_lt hpos)
 have hz : shl .u64 y (64 - (n : Int)) = y * (2 : Int) ^ (64 - n) := by
  rw [aMd y (64 - (n : Int)) (64 - n) (by omega) (by omega)]
  exact Int.emod_eq_of_lt hz0 hz2
 have hz1 : 9223372036854775808 ≤ y * (2 : Int) ^ (64 - n) := by
  calc (9223372036854775808 : Int) = 2 ^ (n - 1) * 2 ^ (64 - n) := by rw [← Int.pow_add, show n - 1 + (64 - n) = 63 by omega]; rfl
   _ ≤ _ := Int.mul_le_mul_of_nonneg_right hlo (Int.le_of_lt hpos)
 -- what is divided
 have hhY : h * (2 : Int) ^ (64 - n) < y * 2 ^ (64 - n) := Int.mul_lt_mul_of_pos_right hh' hpos
 have hh0 : 0 ≤ h * (2 : Int) ^ (64 - n) := Int.mul_nonneg hh (Int.le_of_lt hpos)
 have hsh : shl .u64 h (64 - (n : Int)) = h * (2 : Int) ^ (64 - n) := by
  rw [aMd h (64 - (n : Int)) (64 - n) (by omega) (by omega)]
  exact Int.emod_eq_of_lt hh0 (by omega)
 have hsr : shr .u64 l (n : Int) = l / (2 : Int) ^ n := aF7 .u64 l n n rfl h64
 have hsl : shl .u64 l (64 - (n : Int)) = (l * (2 : Int) ^ (64 - n)) % 18446744073709551616 := aMd l (64 - (n : Int)) (64 - n) (by omega) (by omega)
 have hd0 : 0 ≤ l / (2 : Int) ^ n := Int.ediv_nonneg hl (Int.le_of_lt (Int.pow_pos (by decide)))
 have hd1 : l / (2 : Int) ^ n < 2 ^ (64 - n) := by
  rw [Int.ediv_lt_iff_lt_mul (Int.pow_pos (by decide)), Int.mul_comm, pw]; exact hl'
 have hor : bor .u64 (h * (2 : Int) ^ (64 - n)) (l / (2 : Int) ^ n) = h * (2 : Int) ^ (64 - n) + l / (2 : Int) ^ n := by
  refine aNr (64 - n) hh0 (by omega) hd0 (by exact_mod_cast hd1) (by omega) ?_
  obtain ⟨A, rfl⟩ := Int.eq_ofNat_of_zero_le hh
  refine ⟨A, ?_⟩
  have : ((A : Int) * (2 : Int) ^ (64 - n)) = ((2 ^ (64 - n) * A : Nat) : Int) := by rw [Nat.mul_comm]; simp
  rw [this]; rfl
 have hfin := aHt (h := h) (l := l) (64 - n) (by omega) hl hl'
 rw [show 64 - (64 - n) = n by omega] at hfin
 rw [hz, hsh, hsr, hsl, hor]
 have hHY : h * (2 : Int) ^ (64 - n) + l / (2 : Int) ^ n < y * 2 ^ (64 - n) := by
  have : (h + 1) * (2 : Int) ^ (64 - n) ≤ y * 2 ^ (64 - n) := Int.mul_le_mul_of_nonneg_right (by omega) (Int.le_of_lt hpos)
  rw [Int.add_mul, Int.one_mul] at this
  omega
 have hq : (h * 18446744073709551616 + l) / y = ((h * (2 : Int) ^ (64 - n) + l / (2 : Int) ^ n) * 18446744073709551616 + (l * (2 : Int) ^ (64 - n)) % 18446744073709551616) / (y * 2 ^ (64 - n)) := by
  rw [hfin, scale _ hy]
 have hr : ((h * (2 : Int) ^ (64 - n) + l / (2 : Int) ^ n) * 18446744073709551616 + (l * (2 : Int) ^ (64 - n)) % 18446744073709551616) % (y * 2 ^ (64 - n)) = ((h * 18446744073709551616 + l) % y) * 2 ^ (64 - n) := by
  rw [hfin, aIp hpos]
 rw [hq]
 have hH0 : 0 ≤ h * (2 : Int) ^ (64 - n) + l / (2 : Int) ^ n := by omega
 generalize h * (2 : Int) ^ (64 - n) + l / (2 : Int) ^ n = H at hHY hH0 hr ⊢
 have hL0 : 0 ≤ (l * (2 : Int) ^ (64 - n)) % 18446744073709551616 := Int.emod_nonneg _ (by decide)
 have hL1 : (l * (2 : Int) ^ (64 - n)) % 18446744073709551616 < 18446744073709551616 := Int.emod_lt_of_pos _ (by decide)
 generalize (l * (2 : Int) ^ (64 - n)) % 18446744073709551616 = L at hL0 hL1 hr ⊢
 generalize y * (2 : Int) ^ (64 - n) = Y at hz1 hz2 hHY hr ⊢
 clear hq hfin hor hsl hsr hsh hz hd1 hd0 hh0 hhY pw
 have s1 : shr .u64 Y 32 = Y / 4294967296 := aGV Y
 have s2 : iX .u64 Y 4294967295 = Y % 4294967296 := aFM (by omega) hz2
 have s3 : iX .u64 L 4294967295 = L % 4294967296 := aFM hL0 hL1
 have s4 : shr .u64 L 32 = L / 4294967296 := aGV L
 have R1 : aAI H (L / 4294967296) Y (Y / 4294967296) (Y % 4294967296) := ⟨by omega, by omega, by omega, by omega, by omega, hH0, hHY, by omega, by omega⟩
 have e8 : shr .u64 Y 32 ≠ 0 := by rw [s1]; omega
 rw [aMI e8]
 simp only [Option.bind_some]
 have hY1 : 0 < Y / 4294967296 := by omega
 obtain ⟨g1, g2, g3⟩ := R1.start
 have t1 : Int.tdiv H (Y / 4294967296) = H / (Y / 4294967296) := Int.tdiv_eq_ediv_of_nonneg hH0
 have sm : U64 (H - U64 (U64 (H.tdiv (shr .u64 Y 32)) * shr .u64 Y 32)) = H % (Y / 4294967296) := by
  rw [s1]; exact aMG hH0 (by omega) hY1 (by omega)
 have st : U64 (H.tdiv (shr .u64 Y 32)) = H / (Y / 4294967296) := by
  rw [s1, t1]; exact lP (Int.ediv_nonneg hH0 (by omega)) (by omega)
 have rem1 := Int.emod_nonneg H (Int.ne_of_gt hY1)
 have rem2 := Int.emod_lt_of_pos H hY1
 obtain ⟨b1, b2⟩ := R1.q_lt
 rw [sm, st]
 rw [aOa (k + 3) R1 (iX .u64 Y 4294967295) (shr .u64 Y 32) H (shr .u64 L 32) s1 s2 s4 (k + 3) _ _ g3 rem1 (by omega) g1 g2 (by have := R1.near; omega)]
 simp only [Option.bind_some]
 rw [aMI e8, s4]
 simp only [Option.bind_some]
 generalize hQ1 : (H * 4294967296 + L / 4294967296) / Y = Q1 at *
 have hdm := Int.mul_ediv_add_emod (H * 4294967296 + L / 4294967296) Y
 rw [hQ1] at hdm
 have hYp : 0 < Y := by omega
 have hm0 := Int.emod_nonneg (H * 4294967296 + L / 4294967296) (Int.ne_of_gt hYp)
 have hm1 := Int.emod_lt_of_pos (H * 4294967296 + L / 4294967296) hYp
 have hZ : U64 (U64 (U64 (H * 4294967296) + L / 4294967296) - U64 (Q1 * Y)) = (H * 4294967296 + L / 4294967296) % Y := by
  rw [Int.mul_comm Y Q1] at hdm
  simp only [aCK]
  generalize Q1 * Y = A at *
  omega
 rw [hZ]
 generalize hZ' : (H * 4294967296 + L / 4294967296) % Y = Z at *
 have R2 : aAI Z (L % 4294967296) Y (Y / 4294967296) (Y % 4294967296) := ⟨by omega, by omega, by omega, by omega, by omega, hm0, hm1, by omega, by omega⟩
 obtain ⟨f1, f2, f3⟩ := R2.start
 have t2 : Int.tdiv Z (Y / 4294967296) = Z / (Y / 4294967296) := Int.tdiv_eq_ediv_of_nonneg hm0
 have sm2 : U64 (Z - U64 (U64 (Z.tdiv (shr .u64 Y 32)) * shr .u64 Y 32)) = Z % (Y / 4294967296) := by
  rw [s1]; exact aMG hm0 (by omega) hY1 (by omega)
 have st2 : U64 (Z.tdiv (shr .u64 Y 32)) = Z / (Y / 4294967296) := by
  rw [s1, t2]; exact lP (Int.ediv_nonneg hm0 (by omega)) (by omega)
 have rem3 := Int.emod_nonneg Z (Int.ne_of_gt hY1)
 have rem4 := Int.emod_lt_of_pos Z hY1
 obtain ⟨c1, c2⟩ := R2.q_lt
 rw [sm2, st2, aOC (k + 3) R2 (iX .u64 Y 4294967295) (iX .u64 L 4294967295) _ s1 s2 s3 (k + 3) _ _ f3 rem3 (by omega) f1 f2 (by have := R2.near; omega)]
 simp only [Option.bind_some]
 rw [aJh _ e6]
 simp only [Option.bind_some]
 have hts := aK6 (H := H) (L1 := L / 4294967296) (L0 := L % 4294967296) hYp
 rw [hQ1, hZ', show L / 4294967296 * 4294967296 + L % 4294967296 = L by omega] at hts
 rw [lP (x := Q1 * 4294967296) (by omega) (by omega), lP (x := Q1 * 4294967296 + _) (by omega) (by omega), hts]
 congr 2
 have hm := aNm (H := H) (L1 := L / 4294967296) (L0 := L % 4294967296) hYp
 rw [hZ', show L / 4294967296 * 4294967296 + L % 4294967296 = L by omega, hr] at hm
 have hdm2 := Int.mul_ediv_add_emod (Z * 4294967296 + L % 4294967296) Y
 rw [hm] at hdm2
 have hrr0 : 0 ≤ (h * 18446744073709551616 + l) % y := Int.emod_nonneg _ (Int.ne_of_gt hy)
 have hlt2 : (h * 18446744073709551616 + l) % y * 2 ^ (64 - n) < Y := by rw [← hm]; exact Int.emod_lt_of_pos _ hYp
 have hx : U64 (U64 (U64 (Z * 4294967296) + L % 4294967296) - U64 ((Z * 4294967296 + L % 4294967296) / Y * Y)) = (h * 18446744073709551616 + l) % y * 2 ^ (64 - n) := by
  have h0 : 0 ≤ (h * 18446744073709551616 + l) % y * 2 ^ (64 - n) := Int.mul_nonneg hrr0 (Int.le_of_lt hpos)
  rw [Int.mul_comm Y] at hdm2
  simp only [aCK]
  generalize (Z * 4294967296 + L % 4294967296) / Y * Y = A at *
  generalize (h * 18446744073709551616 + l) % y * 2 ^ (64 - n) = B at *
  omega
 rw [s3, hx, aF7 .u64 _ (64 - (n : Int)) (64 - n) (by omega) (by show 64 - n ≤ 64; omega)]
 exact Int.mul_ediv_cancel _ (Int.ne_of_gt hpos)

def divV (V Y : Int) (m : Bool) : Int := cond m (-((V + Y - 1) / Y)) (V / Y)
abbrev ab (a : Int) : Int := if a < 0 then -a else a

theorem aOb {V Y : Int} (hY : 0 < Y) : (V + Y - 1) / Y = if V % Y > 0 then V / Y + 1 else V / Y := by
 have h := Int.mul_ediv_add_emod V Y
 have h1 := Int.emod_nonneg V (Int.ne_of_gt hY)
 have h2 := Int.emod_lt_of_pos V hY
 generalize V / Y = q at *
 generalize V % Y = r at *
 split
 ·have e : V + Y - 1 = (r - 1) + Y * (q + 1) := by rw [← h]; grind
  rw [e, Int.add_mul_ediv_left _ _ (Int.ne_of_gt hY), Int.ediv_eq_zero_of_lt (by omega) (by omega)]
  omega
 ·have e : V + Y - 1 = (Y - 1) + Y * q := by rw [← h, show r = 0 by omega]; grind
  rw [e, Int.add_mul_ediv_left _ _ (Int.ne_of_gt hY), Int.ediv_eq_zero_of_lt (by omega) (by omega)]
  omega

theorem wdivA (k : Nat) {w : aO} {y : Int} (hw : wok w) (hv : -39614081257132168796771975168 ≤ zN w) (hv' : zN w ≤ 39614081257132168796771975168) (hy : tM y) (hy0 : y ≠ 0) :
  ∃ r, pA (k + 3) w y = some r ∧ wok r.1 ∧ zN r.1 = divV (ab (zN w)) (ab y) (!(decide (zN w < 0) == decide (y < 0))) := by
 obtain ⟨⟨w1, w2⟩, w3, w4⟩ := hw
 have hneg : w.gHi < 0 ↔ zN w < 0 := by show _ ↔ w.gHi * 18446744073709551616 + w.gLo < 0; omega
 have hp : ∃ p : Int × Int, (cond (decide (w.gHi < 0)) (Option.bind (nA (k + 3) (U64 w.gHi) w.gLo) fun r2 => some ((r2.1, r2.2))) (some ((U64 w.gHi, w.gLo)))) = some p ∧ 0 ≤ p.1 ∧ 0 ≤ p.2 ∧ p.2 < 18446744073709551616 ∧ p.1 * 18446744073709551616 + p.2 = ab (zN w) := by
  by_cases hs : w.gHi < 0
  ·rw [dt hs, cond_true]
   obtain ⟨h', l', e, a1, a2, a3, a4, a5⟩ := aJq (k + 3) (h := U64 w.gHi) (l := w.gLo) (aJN _) (aLn _) w3 w4
   rw [e]
   refine ⟨(h', l'), rfl, a1, a3, a4, ?_⟩
   rw [show ab (zN w) = -(zN w) from if_pos (hneg.1 hs)]
   show h' * 18446744073709551616 + l' = -(w.gHi * 18446744073709551616 + w.gLo)
   rw [aCK] at a5
   omega
  ·rw [df hs, cond_false]
   refine ⟨(U64 w.gHi, w.gLo), rfl, aJN _, w3, w4, ?_⟩
   rw [show ab (zN w) = zN w from if_neg (fun h => hs (hneg.2 h))]
   show U64 w.gHi * 18446744073709551616 + w.gLo = w.gHi * 18446744073709551616 + w.gLo
   rw [lP (by omega) (by omega)]
 obtain ⟨⟨h, l⟩, e1, p1, p2, p3, p4⟩ := hp
 dsimp only at p1 p2 p3 p4
 have hY : 0 < ab y ∧ ab y ≤ 9223372036854775808 := by obtain ⟨y1, y2⟩ := hy; unfold ab; split <;> omega
 have hVb : ab (zN w) ≤ 39614081257132168796771975168 := by unfold ab; split <;> omega
 unfold pA
 rw [show (y == 0) = false by simpa using hy0, cond_false, e1, wsz (k + 3) hy]
 simp only [Option.bind_some]
 simp only [show (if y < 0 then -y else y) = ab y from rfl]
 rw [show decide (w.gHi < 0) = decide (zN w < 0) by rw [decide_eq_decide]; exact hneg]
 generalize hm : (!(decide (zN w < 0) == decide (y < 0))) = m
 rw [← p4] at hVb ⊢
 generalize ab y = Y at *
 obtain ⟨Y1, Y2⟩ := hY
 rw [aJz _ Y1 p1 (by omega)]
 simp only [Option.bind_some]
 have hr := Int.emod_nonneg h (Int.ne_of_gt Y1)
 have hr' := Int.emod_lt_of_pos h Y1
 rw [aOU k Y1 (by omega) hr hr' p2 p3]
 simp only [Option.bind_some]
 have hV := Int.mul_ediv_add_emod h Y
 have hq0 : 0 ≤ h / Y := Int.ediv_nonneg p1 (Int.le_of_lt Y1)
 have hqle : h / Y ≤ h := Int.ediv_le_self _ p1
 have eV : h * 18446744073709551616 + l = (h % Y * 18446744073709551616 + l) + Y * (h / Y * 18446744073709551616) := by
  have : h * 18446744073709551616 = (Y * (h / Y) + h % Y) * 18446744073709551616 := by rw [hV]
  grind
 have dV : (h * 18446744073709551616 + l) / Y = (h % Y * 18446744073709551616 + l) / Y + h / Y * 18446744073709551616 := by
  rw [eV, Int.add_mul_ediv_left _ _ (Int.ne_of_gt Y1)]
 have mV : (h * 18446744073709551616 + l) % Y = (h % Y * 18446744073709551616 + l) % Y := by
  rw [eV, Int.add_mul_emod_self_left]
 have q20 : 0 ≤ (h % Y * 18446744073709551616 + l) / Y := Int.ediv_nonneg (by omega) (Int.le_of_lt Y1)
 have q21 : (h % Y * 18446744073709551616 + l) / Y < 18446744073709551616 := Int.ediv_lt_of_lt_mul Y1 (by omega)
 have r0 : 0 ≤ (h % Y * 18446744073709551616 + l) % Y := Int.emod_nonneg _ (Int.ne_of_gt Y1)
 have r1 : (h % Y * 18446744073709551616 + l) % Y < Y := Int.emod_lt_of_pos _ Y1
 rw [show divV (h * 18446744073709551616 + l) Y m = cond m (-(if (h % Y * 18446744073709551616 + l) % Y > 0 then (h % Y * 18446744073709551616 + l) / Y + h / Y * 18446744073709551616 + 1 else (h % Y * 18446744073709551616 + l) / Y + h / Y * 18446744073709551616)) ((h % Y * 18446744073709551616 + l) / Y + h / Y * 18446744073709551616) by
  unfold divV; rw [aOb Y1, mV, dV]]
 clear eV dV mV hV
 generalize (h % Y * 18446744073709551616 + l) / Y = q2 at *
 generalize (h % Y * 18446744073709551616 + l) % Y = r at *
 generalize h / Y = q1 at *
 have hq1b : q1 ≤ 2147483648 := by omega
 simp only [aX]
 have fin : ∀ (c1 c2 c3 : Int) (m' : Bool), m' = m → 0 ≤ c1 → c1 ≤ 4294967296 → 0 ≤ c2 → c2 < 18446744073709551616 → (cond m (-(c1 * 18446744073709551616 + c2)) (c1 * 18446744073709551616 + c2)) = (cond m (-(if r > 0 then q2 + q1 * 18446744073709551616 + 1 else q2 + q1 * 18446744073709551616)) (q2 + q1 * 18446744073709551616)) →
   ∃ x, (Option.bind (lE (k + 3) c1 c2 m') fun r12 => cond (!r12.2) (some ((aO.mk 0 0, 0, false))) (Option.bind (cond (decide (y < 0)) (some (U64 (0 - c3))) (some c3)) fun p13 => some ((r12.1, I64 p13, true)))) = some x ∧ wok x.1 ∧ zN x.1 = (cond m (-(if r > 0 then q2 + q1 * 18446744073709551616 + 1 else q2 + q1 * 18446744073709551616)) (q2 + q1 * 18446744073709551616)) := by
  intro c1 c2 c3 m' hm' d1 d2 d3 d4 d5
  subst hm'
  obtain ⟨w', f1, f2, f3⟩ := aJe (k + 3) (h := c1) (l := c2) m' d1 d3 d4 (by omega)
  rw [f1]
  simp only [Option.bind_some, Bool.not_true, cond_false]
  cases decide (y < 0) with
  | true => exact ⟨_, rfl, f2, f3.trans d5⟩
  | false => exact ⟨_, rfl, f2, f3.trans d5⟩
 cases hmm : m with
 | false =>
  subst hmm
  simp only [cond_false, Option.bind_some]
  exact fin q1 q2 r false rfl hq0 (by omega) q20 q21 (by simp only [cond_false]; omega)
 | true =>
  subst hmm
  simp only [cond_true]
  by_cases hr9 : r > 0
  ·rw [dt hr9]
   simp only [cond_true]
   have hadd : yX q2 1 0 = some ((q2 + 1 + 0) % 18446744073709551616, (q2 + 1 + 0) / 18446744073709551616) := by
    unfold yX
    rw [dt q20, dt (show (0 : Int) ≤ 1 by decide), dt (show (0 : Int) ≤ 0 by decide)]
    rfl
   rw [hadd]
   simp only [Option.bind_some]
   rw [lP (x := q1 + _) (by omega) (by omega)]
   exact fin _ _ _ true rfl (by omega) (by omega) (by omega) (by omega) (by simp only [cond_true]; rw [if_pos hr9]; omega)
  ·rw [df hr9]
   simp only [cond_false, Option.bind_some]
   exact fin q1 q2 r true rfl hq0 (by omega) q20 q21 (by simp only [cond_true]; rw [if_neg hr9]; omega)

theorem abv {a : Int} (ha : tM a) : ab (a * 4294967296) = ab a * 4294967296 ∧ decide (a * 4294967296 < 0) = decide (a < 0) ∧ 0 ≤ ab a ∧ ab a ≤ 9223372036854775808 := by
 obtain ⟨h1, h2⟩ := ha
 refine ⟨?_, ?_, ?_, ?_⟩
 ·unfold ab; split <;> split <;> omega
 ·rw [decide_eq_decide]; omega
 ·unfold ab; split <;> omega
 ·unfold ab; split <;> omega

theorem aNZ (k : Nat) {a y : Int} (ha : tM a) (hy : tM y) (hy0 : y ≠ 0) : nF (k + 3) a y = some (S64 (divV (ab a * 4294967296) (ab y) (!(decide (a < 0) == decide (y < 0))))) := by
 unfold nF
 rw [show (y == 0) = false by simpa using hy0, cond_false]
 obtain ⟨w, e1, e2, e3⟩ := aN1 (k + 3) ha (b := 4294967296) ⟨by decide, by decide⟩
 obtain ⟨b1, b2, b3, b4⟩ := abv ha
 have hh := ha
 obtain ⟨a1, a2⟩ := hh
 obtain ⟨r, f1, f2, f3⟩ := wdivA k e2 (by rw [e3]; omega) (by rw [e3]; omega) hy hy0
 rw [e1]
 simp only [Option.bind_some]
 rw [f1]
 simp only [Option.bind_some]
 rw [aN7 _ f2, f3, e3, b1, b2]
 rfl

def vin (v : aB) : Prop := tM v.gX ∧ tM v.gY ∧ tM v.gZ
def aLX (u v : aB) : aB := ⟨S64 (u.gX + v.gX), S64 (u.gY + v.gY), S64 (u.gZ + v.gZ)⟩
theorem aJn (u v : aB) : vin (aLX u v) := ⟨aDR _, aDR _, aDR _⟩
theorem each0 (k : Nat) {u v : aB} (hu : vin u) (hv : vin v) : nK (k + 3) u v = some (aLX u v) := by
 unfold nK rI
 rw [aHT k hu.1 hv.1, aHT k hu.2.1 hv.2.1, aHT k hu.2.2 hv.2.2]
 rfl
theorem aG6 (k : Nat) (l : List aB) (hl : ∀ v ∈ l, vin v) (hk : l.length < k + 3) (hb : l.length < 1000) : oL (k + 3) l = some (l.foldl aLX ⟨0, 0, 0⟩) := by
 unfold oL
 have main : ∀ (m i : Nat) (a : aB), vin a → i ≤ l.length → l.length - i < m → sE (k + 3) l m a (i : Int) = some ((l.drop i).foldl aLX a) := by
  intro m
  induction m with
  | zero => intro i a _ _ h; omega
  | succ m ih =>
   intro i a ha hi hm
   rw [sE, aX]
   by_cases h : i < l.length
   ·rw [dt (by omega), cond_true, iQ, List.getElem?_eq_getElem h]
    simp only [Option.bind_some]
    rw [each0 k ha (hl _ (List.getElem_mem h))]
    simp only [Option.bind_some]
    rw [jD (by omega), ih (i + 1) _ (aJn _ _) (by omega) (by omega), List.drop_eq_getElem_cons h]
    rfl
   ·rw [df (by omega), cond_false, List.drop_eq_nil_of_le (by omega)]
    rfl
 have := main (k + 3) 0 ⟨0, 0, 0⟩ ⟨⟨by decide, by decide⟩, ⟨by decide, by decide⟩, ⟨by decide, by decide⟩⟩ (by omega) (by omega)
 rw [show ((0 : Nat) : Int) = 0 from rfl] at this
 rw [this]
 rfl

theorem z64 : tM 0 := ⟨by decide, by decide⟩
theorem rU (a b : Int) : iS a b = max a b := by unfold iS; split <;> omega
theorem qU (a b : Int) : jI a b = min a b := by unfold jI; split <;> omega
theorem aMj {α : Type} {c : Bool} {x y : α} : cond c (some x) (some y) = some (cond c x y) := by cases c <;> rfl
def tG (p : aA) : Bool := cond (!(aA.eq p (aA.mk 0 0 0))) (cond (decide (iS (iS p.gX p.gY) p.gZ ≤ 16384)) (decide (jI (jI p.gX p.gY) p.gZ ≥ -16384)) false) false
theorem aJ7 (N : Nat) (p : aA) : qV N p = some (tG p) := by
 unfold qV tG
 simp only [aX, aMj, Option.bind_some]
theorem aLI (N : Nat) (a b c : Int) : kI N a b c = some (cond (decide (a ≥ b)) (decide (a ≤ c)) false) := by
 unfold kI; simp only [aX]
def aLi (c : bR) (w h : Int) : Prop := (1 ≤ w ∧ w ≤ 64) ∧ (1 ≤ h ∧ h ≤ 64) ∧ (0 ≤ c.gB0 ∧ c.gB0 ≤ 1024) ∧ (1 ≤ c.gB3 ∧ c.gB3 ≤ 32768) ∧ tG c.gA6 = true ∧ tG c.gUp = true ∧ tG c.gC0 = true ∧ iS (iS c.gJ.gX c.gJ.gY) c.gJ.gZ ≤ 32768 ∧ jI (jI c.gJ.gX c.gJ.gY) c.gJ.gZ ≥ -32768
theorem aIi (N : Nat) (c : bR) (w h : Int) : T (mI N c w h) (fun r => r = 0 → aLi c w h) := by
 unfold mI
 simp only [aX, aJ7, aLI, aMj, Option.bind_some]
 refine ⟨_, rfl, fun e => ?_⟩
 unfold aLi
 revert e
 cases h1 : decide (iS (iS c.gJ.gX c.gJ.gY) c.gJ.gZ > 32768)
 case true => intro e; exact absurd (show (8 : Int) = 0 from e) (by decide)
 cases h2 : decide (jI (jI c.gJ.gX c.gJ.gY) c.gJ.gZ < -32768)
 case true => intro e; exact absurd (show (8 : Int) = 0 from e) (by decide)
 cases h3 : tG c.gA6
 case false => intro e; exact absurd (show (2 : Int) = 0 from e) (by decide)
 cases h4 : tG c.gUp
 case false => intro e; exact absurd (show (2 : Int) = 0 from e) (by decide)
 cases h5 : tG c.gC0
 case false => intro e; exact absurd (show (2 : Int) = 0 from e) (by decide)
 have b : ∀ a lo hi : Int, cond (decide (a ≥ lo)) (decide (a ≤ hi)) false = true → lo ≤ a ∧ a ≤ hi := by
  intro a lo hi h
  by_cases h' : a ≥ lo
  ·rw [dt h', cond_true] at h; exact ⟨h', of_decide_eq_true h⟩
  ·rw [df h', cond_false] at h; cases h
 have b1 := b c.gB0 0 1024
 have b2 := b c.gB3 1 32768
 have b3 := b w 1 64
 have b4 := b h 1 64
 generalize cond (decide (c.gB0 ≥ 0)) (decide (c.gB0 ≤ 1024)) false = x1 at *
 generalize cond (decide (c.gB3 ≥ 1)) (decide (c.gB3 ≤ 32768)) false = x2 at *
 generalize cond (decide (w ≥ 1)) (decide (w ≤ 64)) false = x3 at *
 generalize cond (decide (h ≥ 1)) (decide (h ≤ 64)) false = x4 at *
 have n1 := of_decide_eq_false h1
 have n2 := of_decide_eq_false h2
 cases x1
 case false => intro e; exact absurd (show (2 : Int) = 0 from e) (by decide)
 cases x2
 case false => intro e; exact absurd (show (2 : Int) = 0 from e) (by decide)
 cases x3
 case false => intro e; exact absurd (show (2 : Int) = 0 from e) (by decide)
 cases x4
 case false => intro e; exact absurd (show (2 : Int) = 0 from e) (by decide)
 intro _
 exact ⟨b3 rfl, b4 rfl, b1 rfl, b2 rfl, rfl, rfl, rfl, by omega, by omega⟩
theorem T.eq {α β : Type} {o : Option α} {a : α} {f : α → Option β} {Q : β → Prop} (e : o = some a) (h : T (f a) Q) : T (Option.bind o f) Q := by rw [e]; exact h
theorem vV {α : Type} {m : Nat} (v : Vector α m) (i : Nat) (h : i < m) : v.toList[i]? = some v[i] := by simp [h]
theorem aJO {α : Type} {m : Nat} (v : Vector α m) {i : Nat} (h : i < m) : v[i] ∈ v.toList := by simp
theorem T.loop {σ : Type} {n : Nat} (hn : n < 9223372036854775807) (I : Nat → σ → Prop) {F : Nat → σ → Int → Option σ}
  (hstep : ∀ k s i, i < n → I i s → ∀ Q : σ → Prop, (∀ s', I (i + 1) s' → T (F k s' ((i + 1 : Nat) : Int)) Q) → T (F (k + 1) s (i : Int)) Q) (hend : ∀ k s, F (k + 1) s (n : Int) = some s) :
  ∀ (k i : Nat) (s : σ), I i s → i ≤ n → n - i < k → T (F k s (i : Int)) (I n)
 | 0, i, _, _, _, h => by omega
 | k + 1, i, s, hs, hi, hk => by
  by_cases h : i < n
  ·exact hstep k s i h hs _ fun s' h' => T.loop hn I hstep hend k (i + 1) s' h' (by omega) (by omega)
  ·obtain rfl : i = n := by omega
   exact ⟨s, hend _ _, hs⟩
theorem i4 {a i : Nat} (h : a * i < 1000000) : I64 ((a : Int) * (i : Int)) = ((a * i : Nat) : Int) := by
 have e : (a : Int) * (i : Int) = ((a * i : Nat) : Int) := by push_cast; rfl
 rw [e]; exact eP (by omega) (by omega)
end Go.UK
