/- A part of the proof: what the functions of the program compute. -/
import Derived.Test.YtcaadpceoajapaaZ9
namespace Go.UK
open Go Go.Proofs
set_option maxRecDepth 20000
set_option maxHeartbeats 2000000
set_option linter.all false
/-! the middle one of nine -/
def ltc (l : List Int) (v : Int) : Nat := l.countP fun x => decide (x < v)
def lec (l : List Int) (v : Int) : Nat := l.countP fun x => decide (x ≤ v)
def isMed (l : List Int) (v : Int) : Bool := decide (ltc l v < 5) && decide (4 < lec l v)
theorem med_unique {l : List Int} {a b : Int} (ha : isMed l a = true) (hb : isMed l b = true) : a = b := by
  unfold isMed at ha hb
  simp only [Bool.and_eq_true, decide_eq_true_eq] at ha hb
  have key : ∀ {a b : Int}, a < b → lec l a ≤ ltc l b := by
    intro a b h
    unfold lec ltc
    exact List.countP_mono_left (fun x _ hx => by simp only [decide_eq_true_eq] at hx ⊢; omega)
  rcases Int.lt_trichotomy a b with h | h | h
  · have := key h; omega
  · exact h
  · have := key h; omega
def medV (l : List Int) : Int := (l.find? (isMed l)).getD 0
theorem medV_e {l : List Int} {v : Int} (hv : v ∈ l) (h : isMed l v = true) : medV l = v := by
  unfold medV
  cases hf : l.find? (isMed l) with
  | none => rw [List.find?_eq_none] at hf; exact absurd h (hf v hv)
  | some w => exact med_unique (List.find?_some hf) h
theorem ltc_perm {l r : List Int} (h : l.Perm r) (v : Int) : ltc l v = ltc r v := h.countP_eq _
theorem lec_perm {l r : List Int} (h : l.Perm r) (v : Int) : lec l v = lec r v := h.countP_eq _
theorem med_sorted {l : List Int} (hl : l.length = 9) (hs : l.Pairwise (· ≤ ·)) : ∃ v, l[4]? = some v ∧ isMed l v = true := by
  match l, hl, hs with
  | [a, b, c, d, e, f, g, h, i], _, hs =>
    simp only [List.pairwise_cons, List.mem_cons, List.not_mem_nil, or_false, forall_eq_or_imp, forall_eq] at hs
    refine ⟨e, rfl, ?_⟩
    unfold isMed ltc lec
    simp only [List.countP_cons, List.countP_nil, Bool.and_eq_true, decide_eq_true_eq]
    have h1 : ¬ e < e := by omega
    have h2 : ¬ f < e := by omega
    have h3 : ¬ g < e := by omega
    have h4 : ¬ h < e := by omega
    have h5 : ¬ i < e := by omega
    have h6 : a ≤ e := by omega
    have h7 : b ≤ e := by omega
    have h8 : c ≤ e := by omega
    have h9 : d ≤ e := by omega
    rw [if_neg h1, if_neg h2, if_neg h3, if_neg h4, if_neg h5, if_pos h6, if_pos h7, if_pos h8, if_pos h9, if_pos (Int.le_refl e)]
    constructor
    · (repeat' split) <;> omega
    · omega
theorem med_perm {l r : List Int} (hl : l.length = 9) (h : l.Perm r) : medV l = medV r := by
  obtain ⟨s, hs1, hs2⟩ : ∃ s : List Int, s.Pairwise (· ≤ ·) ∧ s.Perm l := ⟨l.mergeSort (fun a b => decide (a ≤ b)), by
    have := List.pairwise_mergeSort (le := fun a b : Int => decide (a ≤ b)) (by intro a b c; simp; omega) (by intro a b; simp; omega) l
    exact this.imp (fun h => by simpa using h), List.mergeSort_perm _ _⟩
  obtain ⟨v, h1, h2⟩ := med_sorted (hs2.length_eq.trans hl) hs1
  have hm : v ∈ s := List.mem_of_getElem? h1
  have e1 : isMed l v = true := by unfold isMed at *; rw [← ltc_perm hs2, ← lec_perm hs2]; exact h2
  have e2 : isMed r v = true := by unfold isMed at *; rw [← ltc_perm h, ← lec_perm h]; exact e1
  rw [medV_e (hs2.mem_iff.1 hm) e1, medV_e (h.mem_iff.1 (hs2.mem_iff.1 hm)) e2]
theorem med_mem {l : List Int} (hl : l.length = 9) : medV l ∈ l ∧ isMed l (medV l) = true := by
  obtain ⟨s, hs1, hs2⟩ : ∃ s : List Int, s.Pairwise (· ≤ ·) ∧ s.Perm l := ⟨l.mergeSort (fun a b => decide (a ≤ b)), by
    have := List.pairwise_mergeSort (le := fun a b : Int => decide (a ≤ b)) (by intro a b c; simp; omega) (by intro a b; simp; omega) l
    exact this.imp (fun h => by simpa using h), List.mergeSort_perm _ _⟩
  obtain ⟨v, h1, h2⟩ := med_sorted (hs2.length_eq.trans hl) hs1
  have hm : v ∈ s := List.mem_of_getElem? h1
  have e1 : isMed l v = true := by unfold isMed at *; rw [← ltc_perm hs2, ← lec_perm hs2]; exact h2
  rw [medV_e (hs2.mem_iff.1 hm) e1]
  exact ⟨hs2.mem_iff.1 hm, e1⟩
def nbs (p : S_api_Plane) (w h d x y k : Nat) : List Int := (List.range 9).map (nb p w h d x y k)
theorem nbs_len (p : S_api_Plane) (w h d x y k : Nat) : (nbs p w h d x y k).length = 9 := by simp [nbs]
theorem medNum (N : Nat) (hN : 10 < N) {p : S_api_Plane} {w h d : Nat} (ok : PlaneOK p w h d) {x y k : Nat} (hx : x < 64) (hy : y < 64) (hk : k < d) :
    p_filter_Median_1_dddi N (x : Int) (y : Int) (k : Int) p = some (medV (nbs p w h d x y k)) := by
  unfold p_filter_Median_1_dddi
  obtain ⟨v, h1, h2⟩ := filterNine N (by omega) ok hx hy hk
  obtain ⟨v', h3, h4, h5⟩ := sort9 N hN v
  rw [h1, Option.bind_some, show slcB 9 0 9 = some () from rfl, Option.bind_some, h3, Option.bind_some, show inRO 4 9 = some () from rfl, Option.bind_some]
  obtain ⟨m, g1, g2⟩ := med_sorted (by simp) h4
  have hperm : v'.toList.Perm (nbs p w h d x y k) := by unfold nbs; rw [← h2]; exact h5
  rw [show (4 : Int).toNat = 4 from rfl, g1, Option.bind_some]
  congr 1
  refine (medV_e (hperm.mem_iff.1 (List.mem_of_getElem? g1)) ?_).symm
  unfold isMed at *
  rw [← ltc_perm hperm, ← lec_perm hperm]
  exact g2
theorem medianP (N : Nat) (hN : 16385 < N) {p : S_api_Plane} {w h d : Nat} (ok : PlaneOK p w h d) (hs : Small42 p N) (hc : chk p = 0) :
    p_filter_Median N p = some (mkP p w h d (fun x y k => medV (nbs p w h d x y k)), 0) := by
  unfold p_filter_Median p_filter_each_Median_1
  rw [pamCheck N p hs, hc, Option.bind_some, show ((0 : Int) != 0) = false from rfl, cond_false, letO_e, ok.W, ok.H, ok.D, dim_e ok.w2 ok.h2 ok.d2]
  have ha := ok.w2; have hb := ok.h2
  have e := eachLoop hN ok.w1 ok.w2 ok.h1 ok.h2 ok.d1 ok.d2 (fun x y k => medV (nbs p w h d x y k)) (fun x y k => p_filter_Median_1_dddi N x y k p) (fun x y k hx hy hk => medNum N (by omega) ok (by omega) (by omega) hk) (p_filter_each_Median_1_L1 N ((w * h * d : Nat) : Int) p (w : Int) p) (fun k s i => by rw [p_filter_each_Median_1_L1, ok.D])
  rw [e]
  rfl
/-! the reference's -/
theorem nb_at (N : Nat) {p : S_api_Plane} {w h d : Nat} (ok : PlaneOK p w h d) {x y k i : Nat} (hx : x < 64) (hy : y < 64) (hk : k < d) (hi : i < 9) :
    p_umbraref42_At N p (I64 (I64 ((x : Int) + (i : Int).tmod 3) - 1)) (I64 (I64 ((y : Int) + I64 ((i : Int).tdiv 3)) - 1)) (k : Int) = some ((nbs p w h d x y k)[i]'(by rw [nbs_len]; exact hi)) := by
  have e1 : (i : Int).tmod 3 = ((i % 3 : Nat) : Int) := rfl
  have e2 : I64 ((i : Int).tdiv 3) = ((i / 3 : Nat) : Int) := by rw [show (i : Int).tdiv 3 = ((i / 3 : Nat) : Int) from rfl, I64_id (by omega) (by omega)]
  rw [e1, e2, I64_id (x := (x : Int) + ((i % 3 : Nat) : Int)) (by omega) (by omega), I64_id (x := (y : Int) + ((i / 3 : Nat) : Int)) (by omega) (by omega), I64_id (x := (x : Int) + ((i % 3 : Nat) : Int) - 1) (by omega) (by omega), I64_id (x := (y : Int) + ((i / 3 : Nat) : Int) - 1) (by omega) (by omega)]
  rw [refAt N ok _ _ hk]
  unfold nbs nb
  simp
theorem refMed5 (N : Nat) {p : S_api_Plane} {w h d : Nat} (ok : PlaneOK p w h d) {x y k : Nat} (hx : x < 64) (hy : y < 64) (hk : k < d) (r : Int) : ∀ (j i a b : Nat), i ≤ 9 → 9 - i < j → a ≤ i → b ≤ i →
    p_umbraref42_Median_L5 N (x : Int) (y : Int) p (k : Int) r j (a : Int) (b : Int) (i : Int) = some (((a + ltc ((nbs p w h d x y k).drop i) r : Nat) : Int), ((b + lec ((nbs p w h d x y k).drop i) r : Nat) : Int))
  | 0, i, _, _, _, h, _, _ => by omega
  | j + 1, i, a, b, hi, hj, ha, hb => by
    have hl := nbs_len p w h d x y k
    rw [p_umbraref42_Median_L5]
    by_cases h9 : i < 9
    · rw [dt (show (i : Int) < 9 by omega), cond_true, letO_e, letO_e, nb_at N ok hx hy hk h9, Option.bind_some, List.drop_eq_getElem_cons (show i < (nbs p w h d x y k).length by omega)]
      generalize hv : (nbs p w h d x y k)[i]'(by omega) = v
      unfold ltc lec
      rw [List.countP_cons, List.countP_cons, I64_s (i := i) (by omega)]
      by_cases h1 : v < r
      · rw [dt h1, dt (show v ≤ r by omega), cond_true, Option.bind_some, cond_true, Option.bind_some]
        dsimp only
        rw [I64_s (i := a) (by omega), I64_s (i := b) (by omega), refMed5 N ok hx hy hk r j (i + 1) (a + 1) (b + 1) (by omega) (by omega) (by omega) (by omega)]
        unfold ltc lec
        simp only [if_true]
        congr 2 <;> omega
      · rw [df h1, cond_false, Option.bind_some]
        by_cases h2 : v ≤ r
        · rw [dt h2, cond_true, Option.bind_some]
          dsimp only
          rw [I64_s (i := b) (by omega), refMed5 N ok hx hy hk r j (i + 1) a (b + 1) (by omega) (by omega) (by omega) (by omega)]
          unfold ltc lec
          simp only [if_true, Bool.false_eq_true, if_false]
          congr 2 <;> omega
        · rw [df h2, cond_false, Option.bind_some]
          dsimp only
          rw [refMed5 N ok hx hy hk r j (i + 1) a b (by omega) (by omega) (by omega) (by omega)]
          unfold ltc lec
          simp
    · rw [df (by omega), cond_false, List.drop_of_length_le (by omega)]
      rfl
theorem refMed4 (N : Nat) (hN : 10 < N) {p : S_api_Plane} {w h d : Nat} (ok : PlaneOK p w h d) {x y k : Nat} (hx : x < 64) (hy : y < 64) (hk : k < d) : ∀ (j i : Nat) (s : Int), i ≤ 9 → 9 - i < j →
    p_umbraref42_Median_L4 N (x : Int) (y : Int) p (k : Int) j s (i : Int) = some (((nbs p w h d x y k).drop i).foldl (fun s n => cond (isMed (nbs p w h d x y k) n) n s) s)
  | 0, i, _, _, h => by omega
  | j + 1, i, s, hi, hj => by
    have hl := nbs_len p w h d x y k
    rw [p_umbraref42_Median_L4]
    by_cases h9 : i < 9
    · rw [dt (show (i : Int) < 9 by omega), cond_true, letO_e, letO_e, nb_at N ok hx hy hk h9, Option.bind_some, List.drop_eq_getElem_cons (show i < (nbs p w h d x y k).length by omega)]
      generalize hv : (nbs p w h d x y k)[i]'(by omega) = v
      have h5 := refMed5 N ok hx hy hk v N 0 0 0 (by omega) (by omega) (by omega) (by omega)
      rw [List.drop_zero] at h5
      rw [show p_umbraref42_Median_L5 N (x : Int) (y : Int) p (k : Int) v N 0 0 0 = _ from h5, Option.bind_some, letO_e, List.foldl_cons, I64_s (i := i) (by omega)]
      have e : cond (decide (((0 + ltc (nbs p w h d x y k) v : Nat) : Int) < 5)) (decide (((0 + lec (nbs p w h d x y k) v : Nat) : Int) > 4)) false = isMed (nbs p w h d x y k) v := by
        unfold isMed
        rw [Bool.eq_iff_iff]
        simp only [Bool.cond_eq_if, Bool.if_false_right, Bool.and_eq_true, decide_eq_true_eq]
        omega
      dsimp only
      rw [e]
      cases isMed (nbs p w h d x y k) v with
      | true => rw [cond_true, cond_true, Option.bind_some, refMed4 N hN ok hx hy hk j (i + 1) v (by omega) (by omega)]
      | false => rw [cond_false, cond_false, Option.bind_some, refMed4 N hN ok hx hy hk j (i + 1) s (by omega) (by omega)]
    · rw [df (by omega), cond_false, List.drop_of_length_le (by omega)]
      rfl
theorem fold_med {l : List Int} : ∀ (r : List Int) (s : Int), (∀ n ∈ r, isMed l n = true → n = medV l) → ((∃ n ∈ r, isMed l n = true) ∨ s = medV l) → r.foldl (fun s n => cond (isMed l n) n s) s = medV l
  | [], s, _, h => by
    rcases h with ⟨n, hn, _⟩ | h
    · cases hn
    · exact h
  | a :: r, s, hu, h => by
    rw [List.foldl_cons]
    refine fold_med r _ (fun n hn => hu n (List.mem_cons_of_mem _ hn)) ?_
    cases ha : isMed l a with
    | true => exact .inr (hu a (List.mem_cons_self ..) ha)
    | false =>
      rcases h with ⟨n, hn, hm⟩ | h
      · rcases List.mem_cons.1 hn with e | e
        · subst e; rw [ha] at hm; cases hm
        · exact .inl ⟨n, e, hm⟩
      · exact .inr h
theorem refMedian (N : Nat) (hN : 16385 < N) {p : S_api_Plane} {w h d : Nat} (ok : PlaneOK p w h d) (hs : Small42 p N) (hc : chk p = 0) :
    p_umbraref42_Median N p = some (mkP p w h d (fun x y k => medV (nbs p w h d x y k)), 0) := by
  unfold p_umbraref42_Median
  have ha := ok.w2; have hb := ok.h2
  rw [refCheck N p hs, hc, Option.bind_some, show ((0 : Int) != 0) = false from rfl, cond_false, ok.W, ok.H, ok.D]
  have e := nest (N := N) hN ok.w1 ok.w2 ok.h2 ok.d1 ok.d2 (fun x y k => medV (nbs p w h d x y k))
    (fun x y => p_umbraref42_Median_L3 N p (x : Int) (y : Int)) (fun y => p_umbraref42_Median_L2 N p (y : Int)) (p_umbraref42_Median_L1 N p)
    (fun x y hx hy k s i hi hs => by
      have h4 := refMed4 N (by omega) ok (x := x) (y := y) (by omega) (by omega) hi N 0 0 (by omega) (by omega)
      rw [List.drop_zero, fold_med _ _ (fun n hn hm => (medV_e hn hm).symm) (.inl ⟨_, med_mem (nbs_len p w h d x y i)⟩)] at h4
      rw [p_umbraref42_Median_L3, letO_e, ok.D, dt (show (i : Int) < (d : Int) by omega), cond_true, show p_umbraref42_Median_L4 N (x : Int) (y : Int) p (i : Int) N 0 0 = _ from h4, Option.bind_some, appO8 hs (by simp), Option.bind_some])
    (fun x y k s => by rw [p_umbraref42_Median_L3, letO_e, ok.D, df (by omega), cond_false])
    (fun y hy k s i hi => by rw [p_umbraref42_Median_L2, ok.W, dt (show (i : Int) < (w : Int) by omega), cond_true])
    (fun y k s => by rw [p_umbraref42_Median_L2, ok.W, df (by omega), cond_false])
    (fun k s i hi => by rw [p_umbraref42_Median_L1, ok.H, dt (show (i : Int) < (h : Int) by omega), cond_true])
    (fun k s => by rw [p_umbraref42_Median_L1, ok.H, df (by omega), cond_false])
  rw [e]
  rfl
end Go.UK
