/- A part of the proof: what the functions of the program compute. -/
import Derived.Test.YtcaadpceoajapaaV19
namespace Go.UK
open Go Go.Proofs
set_option maxRecDepth 20000
set_option maxHeartbeats 2000000
set_option linter.all false

def sin (x : S_api_Sample) : Prop := vin x.gColor ∧ in64 x.gAlpha ∧ in64 x.gDepth ∧ vin x.gNormal ∧ in64 x.gObj
def badS (s : S_api_Scene) (x : S_api_Sample) : Bool := cond (cond (decide (x.gObj < -1)) true (decide (x.gObj ≥ imin (s.gIds.length : Int) (s.gLabels.length : Int)))) true (cond (x.gAlpha != 0) (x.gAlpha != 1) false)
theorem bad_ref (s : S_api_Scene) (x : S_api_Sample) :
    cond (cond (cond (cond (decide (x.gObj < (-1))) true (decide (x.gObj ≥ ((s.gIds.length : Int))))) true (decide (x.gObj ≥ (s.gLabels.length : Int)))) true (decide (x.gAlpha < 0))) true (decide (x.gAlpha > 1)) = badS s x := by
  unfold badS imin
  rw [Bool.eq_iff_iff]
  simp only [Bool.cond_eq_if, Bool.if_true_left, Bool.if_false_right, Bool.or_eq_true, Bool.and_eq_true, decide_eq_true_eq, bne_iff_ne, ne_eq]
  split <;> omega

theorem mayL (N : Nat) (l : List S_api_Sample) (s : S_api_Scene) (hl : l.length ≤ 16) : ∀ (k i : Nat), i ≤ l.length → l.length - i < k →
    p_film_may_L1 N l s k (i : Int) = some (cond ((l.drop i).any (badS s)) (Sum.inr 5) (Sum.inl ()))
  | 0, i, _, h => by omega
  | k + 1, i, hi, hk => by
    rw [p_film_may_L1, letO_e]
    by_cases h : i < l.length
    · rw [dt (show (i : Int) < (l.length : Int) by omega), cond_true, idx_at h, List.drop_eq_getElem_cons h, List.any_cons]
      simp only [Option.bind_some, letO_e]
      have e : (cond (cond (decide (l[i].gObj < -1)) true (decide (l[i].gObj ≥ imin (s.gIds.length : Int) (s.gLabels.length : Int)))) (some true) (some (cond (l[i].gAlpha != 0) (l[i].gAlpha != 1) false))) = some (badS s l[i]) := by
        unfold badS
        cases cond (decide (l[i].gObj < -1)) true (decide (l[i].gObj ≥ imin (s.gIds.length : Int) (s.gLabels.length : Int))) <;> rfl
      rw [e]
      simp only [Option.bind_some]
      cases badS s l[i] with
      | true => rfl
      | false =>
        rw [cond_false, I64_s (by omega), mayL N l s hl k (i + 1) (by omega) (by omega)]
        rfl
    · rw [df (show ¬ (i : Int) < (l.length : Int) by omega), cond_false, List.drop_of_length_le (by omega)]
      rfl

structure PS where
  c : S_api_Vec
  n : S_api_Vec
  d : Int
  a : Int
  m : Int
  f : Int
def PS.t (p : PS) : Int × Int × Int × Int × Int × Int × Int × Int × Int × Int := (p.c.gX, p.c.gY, p.c.gZ, p.n.gX, p.n.gY, p.n.gZ, p.d, p.a, p.m, p.f)
def PS.in (p : PS) : Prop := vin p.c ∧ vin p.n ∧ in64 p.d
def pStep (p : PS) (x : S_api_Sample) : PS := ⟨vAdd p.c x.gColor, vAdd p.n x.gNormal, S64 (p.d + x.gDepth), I64 (p.a + x.gAlpha), cond (decide (x.gObj ≥ 0)) (I64 (p.m + 1)) p.m, cond (decide (x.gObj ≥ 0)) (cond (decide (p.f < 0)) x.gObj p.f) p.f⟩
theorem pStep_in (p : PS) (x : S_api_Sample) : (pStep p x).in := ⟨vAdd_in _ _, vAdd_in _ _, S64_in _⟩

theorem pixL (K : Nat) (l : List S_api_Sample) (hl : l.length ≤ 16) (hx : ∀ x ∈ l, sin x) : ∀ (k i : Nat) (p : PS), p.in → i ≤ l.length → l.length - i < k →
    p_film_Pixel_L1 (K + 3) l k p.c.gX p.c.gY p.c.gZ p.n.gX p.n.gY p.n.gZ p.d p.a p.m p.f (i : Int) = some ((l.drop i).foldl pStep p).t
  | 0, i, _, _, _, h => by omega
  | k + 1, i, p, hp, hi, hk => by
    rw [p_film_Pixel_L1, letO_e]
    by_cases h : i < l.length
    · rw [dt (show (i : Int) < (l.length : Int) by omega), cond_true, idx_at h, List.drop_eq_getElem_cons h, List.foldl_cons]
      obtain ⟨h1, h2, h3, h4, h5⟩ := hx _ (List.getElem_mem h)
      obtain ⟨q1, q2, q3⟩ := hp
      simp only [Option.bind_some]
      rw [vecAdd K (u := ⟨p.c.gX, p.c.gY, p.c.gZ⟩) q1 h1, vecAdd K (u := ⟨p.n.gX, p.n.gY, p.n.gZ⟩) q2 h4, fixAdd2 K q3 h3]
      simp only [Option.bind_some]
      rw [I64_s (by omega)]
      have ih := pixL K l hl hx k (i + 1) (pStep p l[i]) (pStep_in _ _) (by omega) (by omega)
      rw [← ih]
      unfold pStep
      cases decide (l[i].gObj ≥ 0) <;> cases decide (p.f < 0) <;> rfl
    · rw [df (show ¬ (i : Int) < (l.length : Int) by omega), cond_false, List.drop_of_length_le (by omega)]
      rfl

theorem refL (K : Nat) (l : List S_api_Sample) (s : S_api_Scene) (hl : l.length ≤ 16) (hx : ∀ x ∈ l, sin x) : ∀ (k i : Nat) (p : PS), p.in → i ≤ l.length → l.length - i < k →
    p_umbraref29_Pixel_L1 K l s k p.c.gX p.c.gY p.c.gZ p.n.gX p.n.gY p.n.gZ p.d p.a p.m p.f (i : Int) =
      some (cond ((l.drop i).any (badS s)) (Sum.inr (S_api_Image.mk 0 0 [] [] [] [] [] [], 5)) (Sum.inl ((l.drop i).foldl pStep p).t))
  | 0, i, _, _, _, h => by omega
  | k + 1, i, p, hp, hi, hk => by
    rw [p_umbraref29_Pixel_L1, letO_e]
    by_cases h : i < l.length
    · rw [dt (show (i : Int) < (l.length : Int) by omega), cond_true, idx_at h, List.drop_eq_getElem_cons h, List.foldl_cons, List.any_cons]
      obtain ⟨h1, h2, h3, h4, h5⟩ := hx _ (List.getElem_mem h)
      obtain ⟨q1, q2, q3⟩ := hp
      simp only [Option.bind_some, letO_e, bad_ref]
      cases badS s l[i] with
      | true => rfl
      | false =>
        rw [cond_false, r3Two K (u := ⟨p.c.gX, p.c.gY, p.c.gZ⟩) q1 h1, r3Two K (u := ⟨p.n.gX, p.n.gY, p.n.gZ⟩) q2 h4, rTwo K q3 h3]
        simp only [Option.bind_some]
        rw [I64_s (by omega)]
        have ih := refL K l s hl hx k (i + 1) (pStep p l[i]) (pStep_in _ _) (by omega) (by omega)
        rw [Bool.false_or, ← ih]
        unfold pStep
        cases decide (l[i].gObj ≥ 0) <;> cases decide (p.f < 0) <;> rfl
    · rw [df (show ¬ (i : Int) < (l.length : Int) by omega), cond_false, List.drop_of_length_le (by omega)]
      rfl

/-- how many were met, and the first -/
def PS.met (s : S_api_Scene) (p : PS) (n : Nat) : Prop := (p.m = 0 ∧ p.f = -1) ∨ (0 < p.m ∧ p.m ≤ n ∧ 0 ≤ p.f ∧ p.f < (s.gLabels.length : Int))
theorem pStep_met {s : S_api_Scene} {p : PS} {n : Nat} {x : S_api_Sample} (h : p.met s n) (hn : n < 1000) (hb : badS s x = false) : (pStep p x).met s (n + 1) := by
  have hx : x.gObj ≥ 0 → x.gObj < (s.gLabels.length : Int) := by
    intro h0
    by_cases hq : x.gObj ≥ imin (s.gIds.length : Int) (s.gLabels.length : Int)
    · unfold badS at hb
      rw [dt hq] at hb
      simp at hb
    · unfold imin at hq
      split at hq <;> omega
  unfold PS.met pStep at *
  dsimp only
  by_cases h0 : x.gObj ≥ 0
  · have := hx h0
    rw [dt h0]
    simp only [cond_true]
    rcases h with ⟨e1, e2⟩ | ⟨e1, e2, e3, e4⟩
    · rw [e1, e2]
      exact .inr ⟨by decide, by rw [show I64 (0 + 1) = 1 by decide]; omega, h0, this⟩
    · rw [df (show ¬ p.f < 0 by omega), I64_id (by omega) (by omega)]
      exact .inr ⟨by omega, by omega, e3, e4⟩
  · rw [df h0]
    simp only [cond_false]
    rcases h with h | ⟨e1, e2, e3, e4⟩
    · exact .inl h
    · exact .inr ⟨e1, by omega, e3, e4⟩
theorem fold_met {s : S_api_Scene} : ∀ (l : List S_api_Sample) (p : PS) (n : Nat), p.met s n → n + l.length < 1000 → l.any (badS s) = false → (l.foldl pStep p).met s (n + l.length)
  | [], p, n, h, _, _ => h
  | x :: l, p, n, h, hn, hb => by
    simp only [List.any_cons, Bool.or_eq_false_iff] at hb
    have := fold_met l (pStep p x) (n + 1) (pStep_met h (by simp at hn; omega) hb.1) (by simp at hn; omega) hb.2
    rw [List.foldl_cons, List.length_cons, show n + (l.length + 1) = n + 1 + l.length by omega]
    exact this
theorem fold_in : ∀ (l : List S_api_Sample) (p : PS), p.in → (l.foldl pStep p).in
  | [], _, h => h
  | _ :: l, _, _ => fold_in l _ (pStep_in _ _)
end Go.UK
