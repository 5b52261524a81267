/- A part of the proof: what the functions of the program compute. -/
import Derived.Test.YtcaadpceoajapaaZ11
import Derived.Test.YtcaadpceoajapaaGO
namespace Go.UK
open Go Go.Proofs
set_option maxRecDepth 20000
set_option maxHeartbeats 2000000
set_option linter.all false
/-- what may not be is refused by both -/
theorem badAll (N : Nat) {q : S_api_Plane} (hs : Small42 q N) (hc : (chk q != 0) = true) (κ : Int) :
    p_filter_Half N q = some (none42 (chk q)) ∧ p_umbraref42_Half N q = some (none42 (chk q)) ∧ p_filter_Double N q = some (none42 (chk q)) ∧ p_umbraref42_Double N q = some (none42 (chk q)) ∧
    p_filter_Flip N q κ = some (none42 (chk q)) ∧ p_umbraref42_Flip N q κ = some (none42 (chk q)) ∧ p_filter_Median N q = some (none42 (chk q)) ∧ p_umbraref42_Median N q = some (none42 (chk q)) := by
  unfold p_filter_Half p_umbraref42_Half p_filter_Double p_umbraref42_Double p_filter_Flip p_umbraref42_Flip p_filter_Median p_umbraref42_Median
  rw [pamCheck N q hs, refCheck N q hs]
  simp only [Option.bind_some, hc, cond_true]
  exact ⟨rfl, rfl, rfl, rfl, rfl, rfl, rfl, rfl⟩
theorem lenB {p : S_api_Plane} {w h d : Nat} {f : Nat → Nat → Nat → Int} (hw : w ≤ 64) (hh : h ≤ 64) (hd : d ≤ 4) : (mkP p w h d f).gData.length ≤ 16384 := by
  have := dim_bd hw hh hd
  have e : (mkP p w h d f).gData.length = w * h * d := eachV_len w h d f
  omega
/-- all of it, by both alike -/
theorem sizesEq (N : Nat) (hN : 16385 < N) {q : S_api_Plane} (hs : Small42 q N) (κ : Int) :
    (∃ r, p_filter_Half N q = some r ∧ p_umbraref42_Half N q = some r ∧ r.1.gData.length ≤ 16384) ∧ (∃ r, p_filter_Double N q = some r ∧ p_umbraref42_Double N q = some r ∧ r.1.gData.length ≤ 16384) ∧
    (∃ r, p_filter_Flip N q κ = some r ∧ p_umbraref42_Flip N q κ = some r ∧ r.1.gData.length ≤ 16384) ∧ (∃ r, p_filter_Median N q = some r ∧ p_umbraref42_Median N q = some r ∧ r.1.gData.length ≤ 16384) := by
  cases hc : (chk q != 0) with
  | true =>
    obtain ⟨h1, h2, h3, h4, h5, h6, h7, h8⟩ := badAll N hs hc κ
    exact ⟨⟨_, h1, h2, Nat.zero_le _⟩, ⟨_, h3, h4, Nat.zero_le _⟩, ⟨_, h5, h6, Nat.zero_le _⟩, ⟨_, h7, h8, Nat.zero_le _⟩⟩
  | false =>
    have h0 : chk q = 0 := by simpa using hc
    obtain ⟨w, h, d, ok⟩ := planeOK_of h0
    refine ⟨?_, ?_, ?_, ?_⟩
    · by_cases he : w % 2 = 0 ∧ h % 2 = 0
      · obtain ⟨w', rfl⟩ : ∃ w', w = 2 * w' := ⟨w / 2, by omega⟩
        obtain ⟨h', rfl⟩ : ∃ h', h = 2 * h' := ⟨h / 2, by omega⟩
        have ha := ok.w1; have hb := ok.h1; have ha2 := ok.w2; have hb2 := ok.h2
        exact ⟨_, halfP N hN ok (by omega) (by omega) hs h0, refHalf N hN ok (by omega) (by omega) hs h0, lenB (by omega) (by omega) ok.d2⟩
      · obtain ⟨h1, h2⟩ := halfOdd N ok hs h0 he
        exact ⟨_, h1, h2, Nat.zero_le _⟩
    · refine ⟨_, doubleP N hN ok hs h0, refDouble N hN ok hs h0, ?_⟩
      split
      · exact lenB (by omega) (by omega) ok.d2
      · exact Nat.zero_le _
    · by_cases hκ : κ < 0 ∨ 3 < κ
      · obtain ⟨h1, h2⟩ := flipBad N hs h0 hκ
        exact ⟨_, h1, h2, Nat.zero_le _⟩
      · obtain ⟨n, rfl⟩ := Int.eq_ofNat_of_zero_le (show 0 ≤ κ by omega)
        exact ⟨_, flipP N hN ok hs h0 (by omega), refFlip N hN ok hs h0 (by omega), flP_len ok n⟩
    · exact ⟨_, medianP N hN ok hs h0, refMedian N hN ok hs h0, lenB ok.w2 ok.h2 ok.d2⟩
theorem filterSizesFn (p : S_api_Plane) (op : p.ok) (κ : Int) (oκ : (Lit.int .i64 κ).wf = true) : FnM Try.prog 15 [] [p.enc, j64 κ] (eB true) [] := by
  refine umbralaw42_FilterSizes_ok (N := 16370 + 16) ?_
  unfold p_umbralaw42_FilterSizes
  have hs := few42_small p (N := 16370 + 16) (by decide)
  rw [few42_e, Option.bind_some]
  obtain ⟨⟨r1, a1, b1, c1⟩, ⟨r2, a2, b2, c2⟩, ⟨r3, a3, b3, c3⟩, ⟨r4, a4, b4, c4⟩⟩ := sizesEq (16370 + 16) (by decide) hs κ
  rw [a1, b1, a2, b2, a3, b3, a4, b4]
  simp only [Option.bind_some, letO_e]
  rw [same30Self _ _ c1 (by decide), same30Self _ _ c2 (by decide), same30Self _ _ c3 (by decide), same30Self _ _ c4 (by decide), works42]
  simp
end Go.UK
