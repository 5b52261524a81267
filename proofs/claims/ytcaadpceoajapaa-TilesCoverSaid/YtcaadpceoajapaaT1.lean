/- A part of the proof: what the functions of the program compute. -/
import Derived.Test.YtcaadpceoajapaaQ3
import Derived.Test.YtcaadpceoajapaaD1
namespace Go.UK
open Go Go.Proofs
set_option maxRecDepth 20000
set_option maxHeartbeats 1000000
set_option linter.all false
/-! ### the tiles of an image -/
def ncV (W s : Nat) : Nat := (W + s - 1) / s
theorem ceil_lt {W s : Nat} (hs : 1 ≤ s) (i : Nat) : i * s < W ↔ i < ncV W s := by
  unfold ncV
  have h := Nat.le_div_iff_mul_le (k := s) (x := i + 1) (y := W + s - 1) (by omega)
  rw [Nat.add_mul, Nat.one_mul] at h
  generalize (W + s - 1) / s = q at *
  generalize i * s = p at *
  omega
theorem nc_pos {W s : Nat} (hs : 1 ≤ s) (hW : 1 ≤ W) : 1 ≤ ncV W s := (ceil_lt hs 0).1 (by omega)
theorem nc_le {W s : Nat} (hs : 1 ≤ s) (hW : 1 ≤ W) : ncV W s ≤ W := by
  unfold ncV
  rw [Nat.div_le_iff_le_mul_add_pred (by omega)]
  have : W ≤ s * W := Nat.le_mul_of_pos_left _ (by omega)
  omega
def tileV (W H s i j : Nat) : Vector Int 4 := #v[((i * s : Nat) : Int), ((j * s : Nat) : Int), ((min s (W - i * s) : Nat) : Int), ((min s (H - j * s) : Nat) : Int)]
theorem imin_nat (a b : Nat) : imin (a : Int) (b : Int) = ((min a b : Nat) : Int) := by unfold imin; split <;> omega
theorem rowT (W H s j : Nat) (hs : 1 ≤ s) (hs2 : s ≤ 64) (hW2 : W ≤ 64) (hH2 : H ≤ 64) (hj : j * s < H) (F : Nat → List (Vector Int 4) → Int → Option (List (Vector Int 4)))
    (hF : ∀ k l x, F (k + 1) l x = cond (decide (x < (W : Int))) (Option.bind (appO 32 l [#v[x, ((j * s : Nat) : Int), imin (s : Int) (I64 ((W : Int) - x)), imin (s : Int) (I64 ((H : Int) - ((j * s : Nat) : Int)))]]) fun z => F k z (I64 (x + (s : Int)))) (some l)) :
    ∀ (k i : Nat) (l : List (Vector Int 4)), l.length ≤ 1000000 + i → i ≤ ncV W s → ncV W s - i < k → F k l ((i * s : Nat) : Int) = some (l ++ (List.range' i (ncV W s - i)).map (fun i => tileV W H s i j))
  | 0, i, l, _, _, h => by omega
  | k + 1, i, l, hl, hi, hk => by
    have hiff := ceil_lt (W := W) hs i
    have hnc : ncV W s ≤ 128 := by
      unfold ncV
      exact Nat.le_trans (Nat.div_le_self _ _) (by omega)
    rw [hF]
    by_cases h : i < ncV W s
    · have hx := hiff.2 h
      have e1 : I64 ((W : Int) - ((i * s : Nat) : Int)) = ((W - i * s : Nat) : Int) := by rw [I64_id (by omega) (by omega)]; omega
      have e2 : I64 ((H : Int) - ((j * s : Nat) : Int)) = ((H - j * s : Nat) : Int) := by rw [I64_id (by omega) (by omega)]; omega
      have e3 : I64 (((i * s : Nat) : Int) + (s : Int)) = (((i + 1) * s : Nat) : Int) := by rw [Nat.add_mul, I64_id (by omega) (by omega)]; omega
      rw [dt (by omega), cond_true, e1, e2, e3, imin_nat, imin_nat, appO_ok (by simp; omega), Option.bind_some, rowT W H s j hs hs2 hW2 hH2 hj F hF k (i + 1) _ (by simp; omega) (by omega) (by omega), show ncV W s - i = (ncV W s - (i + 1)) + 1 by omega, List.range'_succ, List.map_cons, List.append_assoc]
      rfl
    · obtain rfl : i = ncV W s := by omega
      rw [df (by omega), cond_false, Nat.sub_self]
      simp
theorem allT (W H s : Nat) (hs : 1 ≤ s) (hs2 : s ≤ 64) (hW1 : 1 ≤ W) (hW2 : W ≤ 64) (hH2 : H ≤ 64) (N : Nat) (G : Nat → List (Vector Int 4) → Int → Option (List (Vector Int 4))) (F : Nat → List (Vector Int 4) → Option (List (Vector Int 4)))
    (hG : ∀ k l j, G (k + 1) l ((j * s : Nat) : Int) = cond (decide (((j * s : Nat) : Int) < (H : Int))) (Option.bind (F j l) fun z => G k z (I64 (((j * s : Nat) : Int) + (s : Int)))) (some l))
    (hF : ∀ j l, j * s < H → l.length ≤ 1000000 → F j l = some (l ++ (List.range (ncV W s)).map (fun i => tileV W H s i j))) :
    ∀ (k j : Nat) (l : List (Vector Int 4)), l.length ≤ ncV W s * j → j ≤ ncV H s → ncV H s - j < k → G k l ((j * s : Nat) : Int) = some (l ++ (List.range' j (ncV H s - j)).flatMap (fun j => (List.range (ncV W s)).map (fun i => tileV W H s i j)))
  | 0, j, l, _, _, h => by omega
  | k + 1, j, l, hl, hj, hk => by
    have hiff := ceil_lt (W := H) hs j
    have hnc : ncV W s ≤ 64 := Nat.le_trans (nc_le hs hW1) hW2
    have hnr : ncV H s ≤ 128 := by
      unfold ncV
      exact Nat.le_trans (Nat.div_le_self _ _) (by omega)
    have hlen : ncV W s * j ≤ 64 * 128 := Nat.mul_le_mul hnc (by omega)
    rw [hG]
    by_cases h : j < ncV H s
    · have hx := hiff.2 h
      have e3 : I64 (((j * s : Nat) : Int) + (s : Int)) = (((j + 1) * s : Nat) : Int) := by rw [Nat.add_mul, I64_id (by omega) (by omega)]; omega
      rw [dt (by omega), cond_true, hF j l hx (by omega), Option.bind_some, e3, allT W H s hs hs2 hW1 hW2 hH2 N G F hG hF k (j + 1) _ (by simp [Nat.mul_add]; omega) (by omega) (by omega), show ncV H s - j = (ncV H s - (j + 1)) + 1 by omega, List.range'_succ, List.flatMap_cons, List.append_assoc]
    · obtain rfl : j = ncV H s := by omega
      rw [df (by omega), cond_false, Nat.sub_self]
      simp
def tilesV (W H s : Nat) : List (Vector Int 4) := (List.range (ncV H s * ncV W s)).map (fun t => tileV W H s (t % ncV W s) (t / ncV W s))
theorem tilesV_e (W H s : Nat) (hs : 1 ≤ s) (hW : 1 ≤ W) : (List.range (ncV H s)).flatMap (fun j => (List.range (ncV W s)).map (fun i => tileV W H s i j)) = tilesV W H s := by
  rw [range_flat _ _ (nc_pos hs hW) (fun j i => tileV W H s i j)]
  rfl
theorem tilesV_len (W H s : Nat) : (tilesV W H s).length = ncV H s * ncV W s := by unfold tilesV; simp
theorem betweenP (N : Nat) (x : Int) : p_tiles_between N x = some (decide (1 ≤ x ∧ x ≤ 64)) := by
  unfold p_tiles_between
  rw [letO_e]
  congr 1
  by_cases h1 : x ≥ 1
  · rw [dt h1, cond_true]
    by_cases h2 : x ≤ 64
    · rw [dt h2, dt ⟨by omega, h2⟩]
    · rw [df h2, df (fun h => h2 h.2)]
  · rw [df h1, cond_false, df (fun h => h1 (by omega))]
def okT (W H s : Int) : Prop := (1 ≤ W ∧ W ≤ 64) ∧ (1 ≤ H ∧ H ≤ 64) ∧ (1 ≤ s ∧ s ≤ 64)
theorem coverP (N : Nat) (hN : 200 < N) (W H s : Nat) (h : okT W H s) : p_tiles_Cover N W H s = some (tilesV W H s, 0) := by
  obtain ⟨⟨w1, w2⟩, ⟨h1, h2⟩, ⟨s1, s2⟩⟩ := h
  unfold p_tiles_Cover p_tiles_tiles p_tiles_tiles_1_for_tiles_Cover_R2
  rw [betweenP, betweenP, betweenP, dt (⟨w1, w2⟩ : 1 ≤ (W : Int) ∧ (W : Int) ≤ 64), dt (⟨h1, h2⟩ : 1 ≤ (H : Int) ∧ (H : Int) ≤ 64), dt (⟨s1, s2⟩ : 1 ≤ (s : Int) ∧ (s : Int) ≤ 64)]
  simp only [Option.bind_some, Bool.not_true, cond_false]
  have hnr : ncV H s ≤ 64 := Nat.le_trans (nc_le (by omega) (by omega)) (by omega)
  have hnc : ncV W s ≤ 64 := Nat.le_trans (nc_le (by omega) (by omega)) (by omega)
  have := allT W H s (by omega) (by omega) (by omega) (by omega) (by omega) N (fun k l y => p_tiles_tiles_1_for_tiles_Cover_R2_L1 N H W s k l y) (fun j l => p_tiles_tiles_1_for_tiles_Cover_R2_L2 N W s H ((j * s : Nat) : Int) N l 0)
    (fun k l j => by rw [p_tiles_tiles_1_for_tiles_Cover_R2_L1])
    (fun j l hj hl => by
      have := rowT W H s j (by omega) (by omega) (by omega) (by omega) hj (fun k l x => p_tiles_tiles_1_for_tiles_Cover_R2_L2 N W s H ((j * s : Nat) : Int) k l x) (fun k l x => by
        rw [p_tiles_tiles_1_for_tiles_Cover_R2_L2]
        simp only [letO_e]
        congr 1
        unfold p_tiles_Cover_R2
        cases appO 32 l [#v[x, ((j * s : Nat) : Int), imin (s : Int) (I64 ((W : Int) - x)), imin (s : Int) (I64 ((H : Int) - ((j * s : Nat) : Int)))]] <;> rfl) N 0 l (by omega) (by omega) (by omega)
      rw [Nat.zero_mul, Nat.sub_zero, ← List.range_eq_range'] at this
      exact this) N 0 [] (by simp) (by omega) (by omega)
  rw [Nat.zero_mul, Nat.sub_zero, ← List.range_eq_range', List.nil_append, tilesV_e W H s (by omega) (by omega), show ((0 : Nat) : Int) = 0 from rfl] at this
  rw [this, Option.bind_some, Option.bind_some]
theorem coverR (N : Nat) (hN : 200 < N) (W H s : Nat) (h : okT W H s) : p_umbraref40_Cover N W H s = some (tilesV W H s, 0) := by
  obtain ⟨⟨w1, w2⟩, ⟨h1, h2⟩, ⟨s1, s2⟩⟩ := h
  unfold p_umbraref40_Cover
  simp only [letO_e]
  rw [df (show ¬ (W : Int) < 1 by omega), df (show ¬ (W : Int) > 64 by omega), df (show ¬ (H : Int) < 1 by omega), df (show ¬ (H : Int) > 64 by omega), df (show ¬ (s : Int) < 1 by omega), df (show ¬ (s : Int) > 64 by omega)]
  simp only [cond_false]
  have hnr : ncV H s ≤ 64 := Nat.le_trans (nc_le (by omega) (by omega)) (by omega)
  have hnc : ncV W s ≤ 64 := Nat.le_trans (nc_le (by omega) (by omega)) (by omega)
  have := allT W H s (by omega) (by omega) (by omega) (by omega) (by omega) N (fun k l y => p_umbraref40_Cover_L1 N H W s k l y) (fun j l => p_umbraref40_Cover_L2 N W s H ((j * s : Nat) : Int) N l 0)
    (fun k l j => by rw [p_umbraref40_Cover_L1])
    (fun j l hj hl => by
      have := rowT W H s j (by omega) (by omega) (by omega) (by omega) hj (fun k l x => p_umbraref40_Cover_L2 N W s H ((j * s : Nat) : Int) k l x) (fun k l x => by
        rw [p_umbraref40_Cover_L2]
        simp only [letO_e]) N 0 l (by omega) (by omega) (by omega)
      rw [Nat.zero_mul, Nat.sub_zero, ← List.range_eq_range'] at this
      exact this) N 0 [] (by simp) (by omega) (by omega)
  rw [Nat.zero_mul, Nat.sub_zero, ← List.range_eq_range', List.nil_append, tilesV_e W H s (by omega) (by omega), show ((0 : Nat) : Int) = 0 from rfl] at this
  rw [this, Option.bind_some]
theorem coverP' (N : Nat) (W H s : Int) (h : ¬ okT W H s) : p_tiles_Cover N W H s = some ([], 2) := by
  unfold p_tiles_Cover
  rw [betweenP, betweenP, betweenP]
  simp only [Option.bind_some]
  by_cases c1 : 1 ≤ W ∧ W ≤ 64
  · rw [dt c1, Bool.not_true, cond_false]
    by_cases c2 : 1 ≤ H ∧ H ≤ 64
    · rw [dt c2, Bool.not_true, cond_false]
      have c3 : ¬ (1 ≤ s ∧ s ≤ 64) := fun c3 => h ⟨c1, c2, c3⟩
      rw [df c3, Option.bind_some]; rfl
    · rw [df c2, Bool.not_false, cond_true, Option.bind_some, cond_true]
  · rw [df c1, Bool.not_false, cond_true, Option.bind_some, cond_true]
theorem coverR' (N : Nat) (W H s : Int) (h : ¬ okT W H s) : p_umbraref40_Cover N W H s = some ([], 2) := by
  unfold p_umbraref40_Cover
  simp only [letO_e]
  have : (cond (cond (cond (cond (cond (decide (W < 1)) true (decide (W > 64))) true (decide (H < 1))) true (decide (H > 64))) true (decide (s < 1))) true (decide (s > 64))) = true := by
    have e : ∀ a b : Bool, cond a true b = (a || b) := by intro a b; cases a <;> rfl
    rw [e, e, e, e, e]
    simp only [Bool.or_eq_true, decide_eq_true_eq]
    unfold okT at h
    omega
  rw [this, cond_true]
theorem works40 (N : Nat) (hN : 200 < N) : p_umbralaw40_works N = some true := by
  unfold p_umbralaw40_works
  have h := coverP N hN 5 3 2 (by unfold okT; omega)
  rw [show ((5 : Nat) : Int) = 5 from rfl, show ((3 : Nat) : Int) = 3 from rfl, show ((2 : Nat) : Int) = 2 from rfl] at h
  rw [h, Option.bind_some]
  decide +kernel
theorem tilesCoverT (N : Nat) (hN : 10000 < N) (a b c : Int) : p_umbralaw40_TilesCover N a b c = some true := by
  unfold p_umbralaw40_TilesCover
  have key : ∀ (l : List (Vector Int 4)) (e : Int), l.length < N → l.length < 1000000 → p_tiles_Cover N a b c = some (l, e) → p_umbraref40_Cover N a b c = some (l, e) → (Option.bind (p_tiles_Cover N a b c) fun r1 => Option.bind (p_umbraref40_Cover N a b c) fun r2 => letO (((r1.1.length : Int)) != ((r2.1.length : Int))) fun x3 => letO (cond x3 true (r1.2 != r2.2)) fun x4 => cond x4 (some false) (Option.bind (p_umbralaw40_TilesCover_L1 N r1 r2 N 0) fun o => sumC o (fun p5 => Option.bind (p_umbralaw40_works N) fun r10 => some r10) (fun r => some r))) = some true := by
    intro l e hlN hl h1 h2
    rw [h1, Option.bind_some, h2, Option.bind_some]
    simp only [letO_e, bne_self_eq_false, cond_false]
    have eqr : ∀ v : Vector Int 4, eqV (fun a b => a == b) v v = true := fun v => by unfold eqV; exact eqL_refl (fun a => by simp) _
    have := loopEq (eqV (fun a b => a == b)) l l rfl (by omega) (fun k i => p_umbralaw40_TilesCover_L1 N (l, e) (l, e) k i) (fun k s x y hs hx hy hq => by
      rw [p_umbralaw40_TilesCover_L1, letO_e, dt hs, cond_true]
      dsimp only
      have hxy : x = y := by rw [hx] at hy; exact Option.some.inj hy
      subst hxy
      rw [hx, Option.bind_some, Option.bind_some, hq]
      rfl) (fun k s x y hs hx hy hq => by
      rw [hx] at hy
      cases hy
      rw [eqr] at hq
      cases hq) (fun k s hs => by rw [p_umbralaw40_TilesCover_L1, letO_e, df hs, cond_false]) N 0 (by omega) (by omega)
    rw [List.drop_zero, eqL_refl eqr, if_pos rfl, show ((0 : Nat) : Int) = 0 from rfl] at this
    rw [this, Option.bind_some]
    show Option.bind (p_umbralaw40_works N) _ = _
    rw [works40 N (by omega), Option.bind_some]
  by_cases h : okT a b c
  · have h' := h
    obtain ⟨⟨a1, a2⟩, ⟨b1, b2⟩, ⟨c1, c2⟩⟩ := h
    obtain ⟨W, rfl⟩ := Int.eq_ofNat_of_zero_le (show 0 ≤ a by omega)
    obtain ⟨H, rfl⟩ := Int.eq_ofNat_of_zero_le (show 0 ≤ b by omega)
    obtain ⟨s, rfl⟩ := Int.eq_ofNat_of_zero_le (show 0 ≤ c by omega)
    have hnr : ncV H s ≤ 64 := Nat.le_trans (nc_le (by omega) (by omega)) (by omega)
    have hnc : ncV W s ≤ 64 := Nat.le_trans (nc_le (by omega) (by omega)) (by omega)
    have hm : ncV H s * ncV W s ≤ 64 * 64 := Nat.mul_le_mul hnr hnc
    exact key _ _ (by rw [tilesV_len]; omega) (by rw [tilesV_len]; omega) (coverP N (by omega) W H s h') (coverR N (by omega) W H s h')
  · exact key [] 2 (by simp; omega) (by simp) (coverP' N a b c h) (coverR' N a b c h)
end Go.UK
