/- A part of the proof: what the functions of the program compute. -/
import Derived.Test.YtcaadpceoajapaaV13
namespace Go.UK
open Go Go.Proofs
set_option maxRecDepth 20000
set_option maxHeartbeats 2000000
set_option linter.all false

theorem addStep (N k : Nat) (ws : List S_api_Wide) {s2 s3 i : Int} {e : S_api_Wide} (hi : i < (ws.length : Int)) (hx : idx ws i = some e) (h0 : 0 ≤ s2) (h1 : s2 ≤ 9223372036854775807) (l0 : 0 ≤ s3) (l1 : s3 < 18446744073709551616) (he : wok e) (hn : 0 ≤ wval e) :
    (s2 * 18446744073709551616 + s3 + wval e < 170141183460469231731687303715884105728 → ∃ h l, p_wide_Add_L1 N ws (k + 1) s2 s3 i = p_wide_Add_L1 N ws k h l (I64 (i + 1)) ∧ 0 ≤ h ∧ h ≤ 9223372036854775807 ∧ 0 ≤ l ∧ l < 18446744073709551616 ∧ h * 18446744073709551616 + l = s2 * 18446744073709551616 + s3 + wval e) ∧
    (170141183460469231731687303715884105728 ≤ s2 * 18446744073709551616 + s3 + wval e → p_wide_Add_L1 N ws (k + 1) s2 s3 i = some (Sum.inr (S_api_Wide.mk 0 0, false))) := by
  obtain ⟨⟨e1, e2⟩, e3, e4⟩ := he
  change 0 ≤ e.gHi * 18446744073709551616 + e.gLo at hn
  have ehi : 0 ≤ e.gHi := by omega
  have hv : wval e = e.gHi * 18446744073709551616 + e.gLo := rfl
  rw [hv]
  rw [p_wide_Add_L1]
  simp only [letO_e]
  rw [dt hi, cond_true, hx]
  simp only [Option.bind_some]
  rw [add64 l0 e3 (by decide) (by decide)]
  simp only [Option.bind_some]
  rw [U64_id h0 (by omega), U64_id ehi (by omega), add64 h0 ehi (by omega) (by omega)]
  simp only [Option.bind_some]
  rw [df (show ¬ s2 < 0 by omega), df (show ¬ e.gHi < 0 by omega)]
  simp only [beq_self_eq_true, cond_true]
  have hm : (s2 + e.gHi + (s3 + e.gLo + 0) / 18446744073709551616) % 18446744073709551616 = s2 + e.gHi + (s3 + e.gLo + 0) / 18446744073709551616 := by omega
  rw [hm]
  constructor
  · intro hlt
    have hid : I64 (s2 + e.gHi + (s3 + e.gLo + 0) / 18446744073709551616) = s2 + e.gHi + (s3 + e.gLo + 0) / 18446744073709551616 := I64_id (by omega) (by omega)
    rw [hid, df (show ¬ (s2 + e.gHi + (s3 + e.gLo + 0) / 18446744073709551616 < 0) by omega)]
    exact ⟨_, _, rfl, by omega, by omega, by omega, by omega, by omega⟩
  · intro hge
    rw [dt (show I64 (s2 + e.gHi + (s3 + e.gLo + 0) / 18446744073709551616) < 0 by rw [I64_e]; omega)]
    rfl

theorem wAdd3 (k : Nat) {a b c : S_api_Wide} (ha : wok a) (hb : wok b) (hc : wok c) (na : 0 ≤ wval a) (nb : 0 ≤ wval b) (nc : 0 ≤ wval c) (ba : wval a < 170141183460469231731687303715884105728) :
    (wval a + wval b + wval c < 170141183460469231731687303715884105728 → ∃ w, p_wide_Add (k + 4) [a, b, c] = some (w, true) ∧ 0 ≤ w.gHi ∧ w.gHi ≤ 9223372036854775807 ∧ 0 ≤ w.gLo ∧ w.gLo < 18446744073709551616 ∧ wval w = wval a + wval b + wval c) ∧
    (170141183460469231731687303715884105728 ≤ wval a + wval b + wval c → p_wide_Add (k + 4) [a, b, c] = some (S_api_Wide.mk 0 0, false)) := by
  unfold p_wide_Add
  have l3 : (([a, b, c] : List S_api_Wide).length : Int) = 3 := rfl
  obtain ⟨s1, _⟩ := addStep (k + 4) (k + 3) [a, b, c] (s2 := 0) (s3 := 0) (i := 0) (e := a) (by rw [l3]; decide) rfl (by decide) (by decide) (by decide) (by decide) ha na
  obtain ⟨h, l, e1, a1, a2, a3, a4, a5⟩ := s1 (by omega)
  rw [e1, show I64 (0 + 1) = 1 by decide]
  obtain ⟨s2, t2⟩ := addStep (k + 4) (k + 2) [a, b, c] (s2 := h) (s3 := l) (i := 1) (e := b) (by rw [l3]; decide) rfl a1 a2 a3 a4 hb nb
  by_cases ho : 170141183460469231731687303715884105728 ≤ h * 18446744073709551616 + l + wval b
  · rw [t2 ho]
    refine ⟨fun hh => by omega, fun _ => rfl⟩
  · obtain ⟨h', l', e2, b1, b2, b3, b4, b5⟩ := s2 (by omega)
    rw [e2, show I64 (1 + 1) = 2 by decide]
    obtain ⟨s3, t3⟩ := addStep (k + 4) (k + 1) [a, b, c] (s2 := h') (s3 := l') (i := 2) (e := c) (by rw [l3]; decide) rfl b1 b2 b3 b4 hc nc
    refine ⟨fun hh => ?_, fun hh => ?_⟩
    · obtain ⟨h2, l2, e3, c1, c2, c3, c4, c5⟩ := s3 (by omega)
      rw [e3, show I64 (2 + 1) = 3 by decide, p_wide_Add_L1]
      simp only [letO_e]
      rw [l3, df (show ¬ (3 : Int) < 3 by decide)]
      exact ⟨⟨h2, l2⟩, rfl, c1, c2, c3, c4, by show h2 * 18446744073709551616 + l2 = _; omega⟩
    · rw [t3 (by omega)]
      rfl
end Go.UK
