/- A part of the proof: what the functions of the program compute. -/
import Derived.Test.YtcaadpceoajapaaS5
namespace Go.UK
open Go Go.Proofs
set_option maxRecDepth 20000
set_option maxHeartbeats 1000000
set_option linter.all false
/-! ### numbers as bytes, the least ahead -/
def leB (w : Nat) (x : Int) : List Int := (List.range w).map (fun i => U8 (shr .u64 x ((8 * i : Nat) : Int)))
theorem leB_len (w : Nat) (x : Int) : (leB w x).length = w := by unfold leB; simp
theorem leB_bytes (w : Nat) (x : Int) : bytesL (leB w x) := by
  intro y hy
  unfold leB at hy
  obtain ⟨i, _, rfl⟩ := List.mem_map.1 hy
  exact U8_b _
def p256 (w : Nat) : Int := 256 ^ w
theorem p256_2 (w : Nat) : (2 : Int) ^ (8 * w) = p256 w := by unfold p256; rw [Int.pow_mul]; rfl
theorem shr8 (x : Int) (i : Nat) (h : i ≤ 8) : shr .u64 x ((8 * i : Nat) : Int) = x / p256 i := by
  rw [shr_e .u64 x _ (8 * i) rfl (by show 8 * i ≤ 64; omega), p256_2]
theorem p256_pos (w : Nat) : 0 < p256 w := Int.pow_pos (by decide)
theorem p256_s (w : Nat) : p256 (w + 1) = p256 w * 256 := Int.pow_succ _ _
theorem div_s {x : Int} (i : Nat) : x / p256 (i + 1) = x / p256 i / 256 := by
  rw [p256_s, Int.ediv_ediv_of_nonneg (Int.le_of_lt (p256_pos i))]
theorem loopPut {α β ρ : Type} (l : List α) (hl : l.length < 9223372036854775807) (bad : α → Bool) (f : α → List β) (r : ρ) (I : List β → Nat → Prop) (F : Nat → List β → Int → Option (Sum (List β) ρ))
    (hI : ∀ s i (h : i < l.length), I s i → I (s ++ f l[i]) (i + 1)) (h1 : ∀ k s i (h : i < l.length), I s i → F (k + 1) s (i : Int) = cond (bad l[i]) (some (.inr r)) (F k (s ++ f l[i]) (I64 ((i : Int) + 1)))) (h2 : ∀ k s, F (k + 1) s (l.length : Int) = some (.inl s)) :
    ∀ (k i : Nat) (s : List β), I s i → i ≤ l.length → l.length - i < k → F k s (i : Int) = some (cond ((l.drop i).any bad) (.inr r) (.inl (s ++ (l.drop i).flatMap f)))
  | 0, i, _, _, _, h => by omega
  | k + 1, i, s, hs, hi, hk => by
    by_cases h : i < l.length
    · rw [h1 k s i h hs, List.drop_eq_getElem_cons h, List.any_cons]
      cases hb : bad l[i] with
      | true => rfl
      | false =>
        rw [cond_false, I64_s (by omega), loopPut l hl bad f r I F hI h1 h2 k (i + 1) _ (hI s i h hs) (by omega) (by omega), Bool.false_or, List.flatMap_cons, List.append_assoc]
    · obtain rfl : i = l.length := by omega
      rw [h2, List.drop_length]; simp
def big (w : Nat) (x : Int) : Bool := decide (p256 w ≤ x)
/-- what is put: the bytes, the error -/
def putV (b : List Int) (w : Nat) (ns : List Int) : List Int × Int := cond (ns.any (big w)) ([], 3) (b ++ ns.flatMap (leB w), 0)
def u64L (ns : List Int) : Prop := ∀ x ∈ ns, 0 ≤ x ∧ x < 18446744073709551616
theorem putL2 (N : Nat) (w : Nat) (hw : w ≤ 8) (x : Int) (s : List Int) (hs : s.length ≤ 100000000000000) (hN : 8 < N) : p_codec_Put_L2 N (w : Int) x N s 0 = some (s ++ leB w x) := by
  have := loopFlat0 w (by omega) (fun i => [U8 (shr .u64 x ((8 * i : Nat) : Int))]) (fun s i => s.length ≤ 100000000000000 + i) (p_codec_Put_L2 N (w : Int) x) (by intro s i hi hs; simp; omega) (fun k s i hi hs => by
    have f : I64 (8 * (i : Int)) = ((8 * i : Nat) : Int) := by rw [I64_id (by omega) (by omega)]; omega
    rw [p_codec_Put_L2, dt (by omega), cond_true, f, shrO_ok .u64 (by omega), Option.bind_some, appO_ok (by simp; omega), Option.bind_some]) (fun k s => by rw [p_codec_Put_L2, df (by omega), cond_false]) (N := N) (by omega) (s := s) (by simpa using hs)
  rw [this, flatMap_single]
  rfl
theorem clone1 (N : Nat) (l : List Int) (h : l.length ≤ 100000000000000) : p_slices_Clone_byte_byte N l = some l := by
  unfold p_slices_Clone_byte_byte
  rw [appO_ok (by simp; omega), Option.bind_some, List.nil_append]
theorem big8 {x : Int} (h : x < 18446744073709551616) : big 8 x = false := by
  unfold big
  rw [show p256 8 = 18446744073709551616 from rfl]
  exact df (by omega)
theorem putP (N : Nat) (b : List Int) (w : Nat) (hw0 : 1 ≤ w) (hw : w ≤ 8) (ns : List Int) (hns : u64L ns) (hb : b.length ≤ 10000000000000) (hl : ns.length ≤ 1000000000000) (hN : 8 < N) (hlN : ns.length < N) : p_codec_Put N b (w : Int) ns = some (putV b w ns) := by
  unfold p_codec_Put
  rw [df (show ¬ (w : Int) < 1 by omega), df (show ¬ (w : Int) > 8 by omega), cond_false, letO_e, cond_false, clone1 N b (by omega), Option.bind_some]
  have := loopPut ns (by omega) (big w) (leB w) (([], 3) : List Int × Int) (fun s i => s.length ≤ 10000000000000 + 8 * i) (fun k s i => p_codec_Put_L1 N ns (w : Int) k s i) (by intro s i h hs; simp [leB_len]; omega) (fun k s i h hs => by
    have hx := hns _ (List.getElem_mem h)
    have f : I64 (8 * (w : Int)) = ((8 * w : Nat) : Int) := by rw [I64_id (by omega) (by omega)]; omega
    rw [p_codec_Put_L1, letO_e, dt (by omega), cond_true, idx_at h, Option.bind_some]
    have e : (cond (decide ((w : Int) < 8)) (Option.bind (shrO .u64 ns[i] (I64 (8 * (w : Int)))) fun x9 => some (decide (x9 > 0))) (some false)) = some (big w ns[i]) := by
      by_cases h8 : w < 8
      · rw [dt (by omega), cond_true, f, shrO_ok .u64 (by omega), Option.bind_some, shr8 _ _ (by omega)]
        congr 1
        unfold big
        have hp := p256_pos w
        by_cases hb : p256 w ≤ ns[i]
        · have : 1 ≤ ns[i] / p256 w := (Int.le_ediv_iff_mul_le hp).2 (by omega)
          rw [dt hb, dt (by omega)]
        · have : ns[i] / p256 w < 1 := Int.ediv_lt_of_lt_mul hp (by omega)
          rw [df hb, df (by omega)]
      · obtain rfl : w = 8 := by omega
        rw [df (by omega), cond_false, big8 hx.2]
    rw [e, Option.bind_some]
    cases hbg : big w ns[i] with
    | true => rfl
    | false => rw [cond_false, cond_false, putL2 N w hw _ _ (by omega) hN, Option.bind_some]) (fun k s => by rw [p_codec_Put_L1, letO_e, df (by omega), cond_false]) N 0 b (by omega) (by omega) (by omega)
  rw [show ((0 : Nat) : Int) = 0 from rfl, List.drop_zero] at this
  rw [this, Option.bind_some]
  unfold putV
  cases ns.any (big w) <;> rfl
/-! the same, by the document -/
theorem mostL (N : Nat) (w : Nat) (hw : w ≤ 8) : ∀ (k i : Nat), i ≤ w → w - i < k → p_umbraref11_most_L1 N (w : Int) k (p256 i - 1) (i : Int) = some (p256 w - 1)
  | 0, _, _, h => by omega
  | k + 1, i, hi, hk => by
    rw [p_umbraref11_most_L1]
    by_cases h : i < w
    · have hb : p256 i ≤ 72057594037927936 := by
        have : ∀ i : Fin 8, p256 i.val ≤ 72057594037927936 := by decide
        exact this ⟨i, by omega⟩
      have hp := p256_pos i
      have e : U64 (U64 ((p256 i - 1) * 256) + 255) = p256 (i + 1) - 1 := by rw [p256_s, U64_id (x := (p256 i - 1) * 256) (by omega) (by omega), U64_id (by omega) (by omega)]; omega
      rw [dt (by omega), cond_true, letO_e, e, I64_s (by omega)]
      exact mostL N w hw k (i + 1) (by omega) (by omega)
    · obtain rfl : i = w := by omega
      rw [df (by omega), cond_false]
theorem mostR (N : Nat) (hN : 8 < N) (w : Nat) (hw : w ≤ 8) : p_umbraref11_most N (w : Int) = some (p256 w - 1) := by
  unfold p_umbraref11_most
  have := mostL N w hw N 0 (by omega) (by omega)
  rw [show p256 0 - 1 = 0 from rfl, show ((0 : Nat) : Int) = 0 from rfl] at this
  rw [this, Option.bind_some]
theorem putRL2 (N : Nat) (w : Nat) (hw : w ≤ 8) (x : Int) (hx : 0 ≤ x ∧ x < 18446744073709551616) (s : List Int) (hs : s.length ≤ 100000000000000) : ∀ (k i : Nat), i ≤ w → w - i < k → p_umbraref11_Put_L2 N (w : Int) k (s ++ (leB w x).take i) (x / p256 i) (i : Int) = some (s ++ leB w x)
  | 0, _, _, h => by omega
  | k + 1, i, hi, hk => by
    rw [p_umbraref11_Put_L2]
    by_cases h : i < w
    · have hp := p256_pos i
      have h0 : 0 ≤ x / p256 i := Int.ediv_nonneg hx.1 (by omega)
      have h1 : x / p256 i ≤ x := Int.ediv_le_self _ hx.1
      have e1 : U8 (Int.tmod (x / p256 i) 256) = U8 (shr .u64 x ((8 * i : Nat) : Int)) := by
        rw [shr8 _ _ (by omega), Int.tmod_eq_emod_of_nonneg h0, U8_e, U8_e]; omega
      have e2 : U64 (Int.tdiv (x / p256 i) 256) = x / p256 (i + 1) := by
        rw [div_s, Int.tdiv_eq_ediv_of_nonneg h0, U64_id (by omega) (by omega)]
      have e3 : (leB w x).take (i + 1) = (leB w x).take i ++ [U8 (shr .u64 x ((8 * i : Nat) : Int))] := take_succ_map _ h
      rw [dt (by omega), cond_true, appO_ok (by simp [leB_len]; omega), Option.bind_some, e1, e2, I64_s (by omega), List.append_assoc, ← e3]
      exact putRL2 N w hw x hx s hs k (i + 1) (by omega) (by omega)
    · obtain rfl : i = w := by omega
      rw [df (by omega), cond_false, List.take_of_length_le (by rw [leB_len]; omega)]
theorem putR (N : Nat) (b : List Int) (w : Nat) (hw0 : 1 ≤ w) (hw : w ≤ 8) (ns : List Int) (hns : u64L ns) (hb : b.length ≤ 10000000000000) (hl : ns.length ≤ 1000000000000) (hN : 8 < N) (hlN : ns.length < N) : p_umbraref11_Put N b (w : Int) ns = some (putV b w ns) := by
  unfold p_umbraref11_Put
  rw [df (show ¬ (w : Int) < 1 by omega), df (show ¬ (w : Int) > 8 by omega), cond_false, letO_e, cond_false, appO_ok (by simp; omega), Option.bind_some, List.nil_append]
  have := loopPut ns (by omega) (big w) (leB w) (([], 3) : List Int × Int) (fun s i => s.length ≤ 10000000000000 + 8 * i) (fun k s i => p_umbraref11_Put_L1 N ns (w : Int) k s i) (by intro s i h hs; simp [leB_len]; omega) (fun k s i h hs => by
    have hx := hns _ (List.getElem_mem h)
    rw [p_umbraref11_Put_L1, letO_e, dt (by omega), cond_true, idx_at h, Option.bind_some, mostR N hN w hw, Option.bind_some]
    have e : decide (ns[i] > p256 w - 1) = big w ns[i] := by
      unfold big
      by_cases hb : p256 w ≤ ns[i]
      · rw [dt hb, dt (by omega)]
      · rw [df hb, df (by omega)]
    rw [e]
    cases hbg : big w ns[i] with
    | true => rfl
    | false =>
      have := putRL2 N w hw ns[i] hx s (by omega) N 0 (by omega) (by omega)
      rw [List.take_zero, List.append_nil, show p256 0 = 1 from rfl, Int.ediv_one, show ((0 : Nat) : Int) = 0 from rfl] at this
      rw [cond_false, cond_false, Option.bind_some, this, Option.bind_some]) (fun k s => by rw [p_umbraref11_Put_L1, letO_e, df (by omega), cond_false]) N 0 b (by omega) (by omega) (by omega)
  rw [show ((0 : Nat) : Int) = 0 from rfl, List.drop_zero] at this
  rw [this, Option.bind_some]
  unfold putV
  cases ns.any (big w) <;> rfl
end Go.UK
