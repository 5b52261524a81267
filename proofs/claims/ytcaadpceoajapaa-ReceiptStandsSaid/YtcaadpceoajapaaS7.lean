/- A part of the proof: what the functions of the program compute. -/
import Derived.Test.YtcaadpceoajapaaS6
namespace Go.UK
open Go Go.Proofs
set_option maxRecDepth 20000
set_option maxHeartbeats 1000000
set_option linter.all false
/-! ### numbers that may be below 0 -/
def badS (w : Nat) (x : Int) : Bool := decide (x < -(p256 w / 2)) || decide (p256 w / 2 ≤ x)
def in64L (ns : List Int) : Prop := ∀ x ∈ ns, in64 x
def sgnV (b : List Int) (w : Nat) (ns : List Int) : List Int × Int := cond (ns.any (badS w)) ([], 3) (putV b w (ns.map (fun x => x % p256 w)))
theorem w8 {w : Nat} (h0 : 1 ≤ w) (h : w ≤ 8) : w = 1 ∨ w = 2 ∨ w = 3 ∨ w = 4 ∨ w = 5 ∨ w = 6 ∨ w = 7 ∨ w = 8 := by omega
theorem shlI (x : Int) (m : Nat) (h : m ≤ 64) : shl .i64 x (m : Int) = I64 (x * (2 : Int) ^ m) := by
  unfold shl
  rw [show min (m : Int).toNat IntKind.i64.bits = m by simp [IntKind.bits]; omega]
theorem sgnA {w : Nat} (h0 : 1 ≤ w) (h : w ≤ 8) {x : Int} (hx : in64 x) : (shr .i64 (shl .i64 x ((64 - 8 * w : Nat) : Int)) ((64 - 8 * w : Nat) : Int) != x) = badS w x := by
  obtain ⟨x0, x1⟩ := hx
  rw [shr_e .i64 _ _ (64 - 8 * w) rfl (by show 64 - 8 * w ≤ 64; omega), shlI _ _ (by omega), I64_e]
  have key : ∀ b : Bool, (b = true ↔ ((x * (2 : Int) ^ (64 - 8 * w) + 9223372036854775808) % 18446744073709551616 - 9223372036854775808) / (2 : Int) ^ (64 - 8 * w) ≠ x) → (((x * (2 : Int) ^ (64 - 8 * w) + 9223372036854775808) % 18446744073709551616 - 9223372036854775808) / (2 : Int) ^ (64 - 8 * w) != x) = b := by
    intro b hb
    cases b with
    | true => simpa using hb
    | false => simpa using hb
  apply key
  unfold badS
  rw [Bool.or_eq_true, decide_eq_true_eq, decide_eq_true_eq]
  rcases w8 h0 h with rfl | rfl | rfl | rfl | rfl | rfl | rfl | rfl
  · rw [show (2 : Int) ^ (64 - 8 * 1) = 72057594037927936 from rfl, show p256 1 / 2 = 128 from rfl]; omega
  · rw [show (2 : Int) ^ (64 - 8 * 2) = 281474976710656 from rfl, show p256 2 / 2 = 32768 from rfl]; omega
  · rw [show (2 : Int) ^ (64 - 8 * 3) = 1099511627776 from rfl, show p256 3 / 2 = 8388608 from rfl]; omega
  · rw [show (2 : Int) ^ (64 - 8 * 4) = 4294967296 from rfl, show p256 4 / 2 = 2147483648 from rfl]; omega
  · rw [show (2 : Int) ^ (64 - 8 * 5) = 16777216 from rfl, show p256 5 / 2 = 549755813888 from rfl]; omega
  · rw [show (2 : Int) ^ (64 - 8 * 6) = 65536 from rfl, show p256 6 / 2 = 140737488355328 from rfl]; omega
  · rw [show (2 : Int) ^ (64 - 8 * 7) = 256 from rfl, show p256 7 / 2 = 36028797018963968 from rfl]; omega
  · rw [show (2 : Int) ^ (64 - 8 * 8) = 1 from rfl, show p256 8 / 2 = 9223372036854775808 from rfl]; omega
theorem sgnB {w : Nat} (h0 : 1 ≤ w) (h : w ≤ 8) {x : Int} (hx : in64 x) : shr .u64 (shl .u64 (U64 x) ((64 - 8 * w : Nat) : Int)) ((64 - 8 * w : Nat) : Int) = x % p256 w := by
  obtain ⟨x0, x1⟩ := hx
  rw [shr_e .u64 _ _ (64 - 8 * w) rfl (by show 64 - 8 * w ≤ 64; omega), shl_e _ _ (64 - 8 * w) rfl (by omega), U64_e]
  rcases w8 h0 h with rfl | rfl | rfl | rfl | rfl | rfl | rfl | rfl
  · rw [show (2 : Int) ^ (64 - 8 * 1) = 72057594037927936 from rfl, show p256 1 = 256 from rfl]; omega
  · rw [show (2 : Int) ^ (64 - 8 * 2) = 281474976710656 from rfl, show p256 2 = 65536 from rfl]; omega
  · rw [show (2 : Int) ^ (64 - 8 * 3) = 1099511627776 from rfl, show p256 3 = 16777216 from rfl]; omega
  · rw [show (2 : Int) ^ (64 - 8 * 4) = 4294967296 from rfl, show p256 4 = 4294967296 from rfl]; omega
  · rw [show (2 : Int) ^ (64 - 8 * 5) = 16777216 from rfl, show p256 5 = 1099511627776 from rfl]; omega
  · rw [show (2 : Int) ^ (64 - 8 * 6) = 65536 from rfl, show p256 6 = 281474976710656 from rfl]; omega
  · rw [show (2 : Int) ^ (64 - 8 * 7) = 256 from rfl, show p256 7 = 72057594037927936 from rfl]; omega
  · rw [show (2 : Int) ^ (64 - 8 * 8) = 1 from rfl, show p256 8 = 18446744073709551616 from rfl]; omega
theorem modU (w : Nat) (h : w ≤ 8) (x : Int) : 0 ≤ x % p256 w ∧ x % p256 w < 18446744073709551616 := by
  have hp := p256_pos w
  have h1 := Int.emod_nonneg x (Int.ne_of_gt hp)
  have h2 := Int.emod_lt_of_pos x hp
  have h3 : p256 w ≤ 18446744073709551616 := by
    have : ∀ i : Fin 9, p256 i.val ≤ 18446744073709551616 := by decide
    exact this ⟨w, by omega⟩
  omega
theorem sgnP (N : Nat) (b : List Int) (w : Nat) (hw0 : 1 ≤ w) (hw : w ≤ 8) (ns : List Int) (hns : in64L ns) (hb : b.length ≤ 10000000000000) (hl : ns.length ≤ 1000000000000) (hN : 8 < N) (hlN : ns.length < N) : p_codec_Signed N b (w : Int) ns = some (sgnV b w ns) := by
  unfold p_codec_Signed
  rw [df (show ¬ (w : Int) < 1 by omega), df (show ¬ (w : Int) > 8 by omega), cond_false, letO_e, cond_false]
  have := loopPut ns (by omega) (badS w) (fun x => [x % p256 w]) (([], 3) : List Int × Int) (fun s i => s.length = i) (fun k s i => p_codec_Signed_L1 N ns (w : Int) k s i) (by intro s i h hs; simp; omega) (fun k s i h hs => by
    have hx := hns _ (List.getElem_mem h)
    have f : I64 (64 - I64 (8 * (w : Int))) = ((64 - 8 * w : Nat) : Int) := by rw [I64_id (x := 8 * (w : Int)) (by omega) (by omega), I64_id (by omega) (by omega)]; omega
    rw [p_codec_Signed_L1, letO_e, dt (by omega), cond_true, idx_at h, Option.bind_some, f, letO_e, shlO_ok .i64 (by omega), Option.bind_some, letO_e, shrO_ok .i64 (by omega), Option.bind_some, sgnA hw0 hw hx]
    cases hbg : badS w ns[i] with
    | true => rfl
    | false =>
      rw [cond_false, cond_false, letO_e, shlO_ok .u64 (by omega), Option.bind_some, letO_e, shrO_ok .u64 (by omega), Option.bind_some, sgnB hw0 hw hx, appO_ok (by simp; omega), Option.bind_some]) (fun k s => by rw [p_codec_Signed_L1, letO_e, df (by omega), cond_false]) N 0 [] rfl (by omega) (by omega)
  rw [show ((0 : Nat) : Int) = 0 from rfl, List.drop_zero, List.nil_append] at this
  rw [this, Option.bind_some]
  unfold sgnV
  cases ns.any (badS w) with
  | true => rfl
  | false =>
    rw [cond_false, cond_false]
    show Option.bind (p_codec_Put N b (w : Int) (ns.flatMap fun x => [x % p256 w])) _ = _
    rw [show (ns.flatMap fun x => [x % p256 w]) = ns.map (fun x => x % p256 w) by
      clear this hns hl hlN
      induction ns with
      | nil => rfl
      | cons a l ih => simp [List.flatMap_cons, ih]]
    rw [putP N b w hw0 hw _ (by intro y hy; obtain ⟨x, _, rfl⟩ := List.mem_map.1 hy; exact modU w hw x) hb (by simpa using hl) hN (by simpa using hlN), Option.bind_some]
theorem sgnR (N : Nat) (b : List Int) (w : Nat) (hw0 : 1 ≤ w) (hw : w ≤ 8) (ns : List Int) (hns : in64L ns) (hb : b.length ≤ 10000000000000) (hl : ns.length ≤ 1000000000000) (hN : 8 < N) (hlN : ns.length < N) : p_umbraref11_Signed N b (w : Int) ns = some (sgnV b w ns) := by
  unfold p_umbraref11_Signed
  have hp := p256_pos w
  have hp2 : p256 w / 2 * 2 = p256 w := by
    have : ∀ i : Fin 9, 1 ≤ i.val → p256 i.val / 2 * 2 = p256 i.val := by decide
    exact this ⟨w, by omega⟩ hw0
  have hp3 : p256 w ≤ 18446744073709551616 := by
    have : ∀ i : Fin 9, p256 i.val ≤ 18446744073709551616 := by decide
    exact this ⟨w, by omega⟩
  have e3 : I64 (U64 (Int.tdiv (p256 w - 1) 2)) = p256 w / 2 - 1 := by
    rw [Int.tdiv_eq_ediv_of_nonneg (by omega), U64_id (by omega) (by omega), I64_id (by omega) (by omega)]; omega
  rw [df (show ¬ (w : Int) < 1 by omega), df (show ¬ (w : Int) > 8 by omega), cond_false, letO_e, cond_false, mostR N hN w hw, Option.bind_some, letO_e, e3]
  have := loopPut ns (by omega) (badS w) (fun x => [x % p256 w]) (([], 3) : List Int × Int) (fun s i => s.length = i) (fun k s i => p_umbraref11_Signed_L1 N ns (p256 w / 2 - 1) (w : Int) k s i) (by intro s i h hs; simp; omega) (fun k s i h hs => by
    have hx := hns _ (List.getElem_mem h)
    obtain ⟨x0, x1⟩ := hx
    have f : I64 (I64 (0 - (p256 w / 2 - 1)) - 1) = -(p256 w / 2) := by rw [I64_id (x := 0 - (p256 w / 2 - 1)) (by omega) (by omega), I64_id (by omega) (by omega)]; omega
    rw [p_umbraref11_Signed_L1, letO_e, dt (by omega), cond_true, idx_at h, Option.bind_some, Option.bind_some, letO_e, f]
    generalize ns[i] = x at *
    have e : (cond (decide (x > p256 w / 2 - 1)) (some true) (some (decide (x < -(p256 w / 2))))) = some (badS w x) := by
      unfold badS
      by_cases h1 : p256 w / 2 ≤ x
      · rw [dt (show x > p256 w / 2 - 1 by omega), dt h1, Bool.or_true]; rfl
      · rw [df (show ¬ x > p256 w / 2 - 1 by omega), df h1, Bool.or_false]; rfl
    rw [e, Option.bind_some]
    cases hbg : badS w x with
    | true => rfl
    | false =>
      unfold badS at hbg
      rw [Bool.or_eq_false_iff, decide_eq_false_iff_not, decide_eq_false_iff_not] at hbg
      obtain ⟨b1, b2⟩ := hbg
      have e2 : (cond (decide (x < 0)) (Option.bind (p_umbraref11_most N (w : Int)) fun r15 => Option.bind (some x) fun e16 => letO (I64 (0 - I64 (e16 + 1))) fun x17 => some (U64 (r15 - U64 x17))) (some (U64 x))) = some (x % p256 w) := by
        by_cases hneg : x < 0
        · rw [dt hneg, cond_true, mostR N hN w hw, Option.bind_some, Option.bind_some, letO_e, I64_id (x := x + 1) (by omega) (by omega), I64_id (x := 0 - (x + 1)) (by omega) (by omega), U64_id (x := 0 - (x + 1)) (by omega) (by omega), U64_id (by omega) (by omega)]
          have : x % p256 w = x + p256 w := by
            rw [← Int.add_emod_right, Int.emod_eq_of_lt (by omega) (by omega)]
          rw [this]
          congr 1
          omega
        · rw [df hneg, cond_false, U64_id (by omega) (by omega), Int.emod_eq_of_lt (by omega) (by omega)]
      rw [cond_false, cond_false, Option.bind_some, Option.bind_some, e2, Option.bind_some, appO_ok (by simp; omega), Option.bind_some]) (fun k s => by rw [p_umbraref11_Signed_L1, letO_e, df (by omega), cond_false]) N 0 [] rfl (by omega) (by omega)
  rw [show ((0 : Nat) : Int) = 0 from rfl, List.drop_zero, List.nil_append] at this
  rw [this, Option.bind_some]
  unfold sgnV
  cases ns.any (badS w) with
  | true => rfl
  | false =>
    rw [cond_false, cond_false]
    show Option.bind (p_umbraref11_Put N b (w : Int) (ns.flatMap fun x => [x % p256 w])) _ = _
    rw [show (ns.flatMap fun x => [x % p256 w]) = ns.map (fun x => x % p256 w) by
      clear this hns hl hlN
      induction ns with
      | nil => rfl
      | cons a l ih => simp [List.flatMap_cons, ih]]
    rw [putR N b w hw0 hw _ (by intro y hy; obtain ⟨x, _, rfl⟩ := List.mem_map.1 hy; exact modU w hw x) hb (by simpa using hl) hN (by simpa using hlN), Option.bind_some]
theorem sgn8 (b ns : List Int) (h : in64L ns) : sgnV b 8 ns = (b ++ (ns.map (fun x => x % 18446744073709551616)).flatMap (leB 8), 0) := by
  unfold sgnV putV
  have h1 : ns.any (badS 8) = false := by
    rw [List.any_eq_false]
    intro x hx
    obtain ⟨x0, x1⟩ := h x hx
    unfold badS
    rw [show p256 8 / 2 = 9223372036854775808 from rfl]
    simp
    omega
  have h2 : (ns.map (fun x => x % p256 8)).any (big 8) = false := by
    rw [List.any_eq_false]
    intro y hy
    obtain ⟨x, _, rfl⟩ := List.mem_map.1 hy
    rw [big8 (modU 8 (by decide) x).2]
    simp
  rw [h1, h2]
  rfl
end Go.UK
