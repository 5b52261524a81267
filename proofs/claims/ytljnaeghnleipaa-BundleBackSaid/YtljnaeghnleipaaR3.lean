/- A part of the proof: what the functions of the program compute. -/
import Derived.Test.YtljnaeghnleipaaR2
namespace Go.UK
open Go Go.Proofs
set_option maxRecDepth 20000
set_option maxHeartbeats 4000000
set_option linter.all false
theorem isU5 : isU 5 := ⟨by decide, by decide⟩
theorem allU3 {a b c : Int} (ha : isU a) (hb : isU b) (hc : isU c) : allU (#v[a, b, c] : Vector Int 3) := by
 intro x hx
 simp at hx
 rcases hx with rfl | rfl | rfl <;> assumption
theorem numPT (N : Nat) (hN : 20 < N) (b : List Int) (h : 8 ≤ b.length) : T (p_poly_number N b) isU := by
 unfold p_poly_number
 refine T.bind (T.loop0 (n := 8) (by decide) (fun _ x => isU x) (F := p_poly_number_L1 N b) (fun k s i hi _ Q hk => ?_) (fun k s => by rw [p_poly_number_L1, df (by omega), cond_false]) (by omega) isU0) fun v h => T.ret h
 rw [p_poly_number_L1, dt (by omega), cond_true, show (8 : Int) = ((8 : Nat) : Int) from rfl, i4 (by omega)]
 refine T.bind (T.idx (by omega) (by omega)) fun e _ => ?_
 rw [shlO_ok .u64 (by omega), Option.bind_some, I64_s (by omega)]
 exact hk _ (bor_U _ _)
attribute [local irreducible] inRO idx slcO p_Add64 p_math_bits_Mul64 p_poly_number letO
theorem add_rdd_q (N : Nat) (a0 a1 : Int) (a2 : S_poly_Mac) (h1 : isU a0) (h2 : isU a1) (h3 : allU a2.gsum.gh) : T (p_poly_sum_add_rdd_q N a0 a1 a2) allU := by
 unfold p_poly_sum_add_rdd_q
 repeat' first
  | refine T.bind (T.inRO (by decide) (by decide)) fun _ _ => ?_
  | refine T.bind (T.vgetU (by repeat first | assumption | refine allU.set ?_ ?_ | exact isU_U _ | refine allU3 ?_ ?_ ?_ | exact band_U _ _) (by decide)) fun _ _ => ?_
  | refine T.bind (T.add64 (by first | assumption | exact isU_U _ | exact isU0 | exact isU5 | exact bor_U _ _ | exact band_U _ _ | exact bandn_U _ _ | (refine shr_U ?_ _; first | assumption | exact bor_U _ _)) (by first | assumption | exact isU_U _ | exact isU0 | exact isU5 | exact bor_U _ _ | exact band_U _ _ | exact bandn_U _ _ | (refine shr_U ?_ _; first | assumption | exact bor_U _ _)) (by first | assumption | exact ⟨by decide, by decide⟩)) fun _ ⟨_, _⟩ => ?_
  | refine T.bind (mul64 N _ _) fun _ ⟨_, _⟩ => ?_
  | refine T.bind (T.slc (by decide) (by decide) (by simp)) fun _ hs => T.bind (numPT N hN _ (by have := hs.2; omega)) fun _ _ => ?_
  | refine T.bind (T.idx (by decide) (by simp)) fun _ _ => ?_
  | refine T.letO fun _ hx => ?_
  | refine T.bind (T.ret trivial) fun _ _ => ?_
 exact T.ret (allU.set (allU.set (allU.set (by assumption) (by assumption)) (by assumption)) (isU_U _))
theorem add_rdd_q_q (N : Nat) (a0 a1 : Int) (a2 : S_poly_sum) (h1 : isU a0) (h2 : isU a1) (h3 : allU a2.gh) : T (p_poly_sum_add_rdd_q_q N a0 a1 a2) allU := by
 unfold p_poly_sum_add_rdd_q_q
 repeat' first
  | refine T.bind (T.inRO (by decide) (by decide)) fun _ _ => ?_
  | refine T.bind (T.vgetU (by repeat first | assumption | refine allU.set ?_ ?_ | exact isU_U _ | refine allU3 ?_ ?_ ?_ | exact band_U _ _) (by decide)) fun _ _ => ?_
  | refine T.bind (T.add64 (by first | assumption | exact isU_U _ | exact isU0 | exact isU5 | exact bor_U _ _ | exact band_U _ _ | exact bandn_U _ _ | (refine shr_U ?_ _; first | assumption | exact bor_U _ _)) (by first | assumption | exact isU_U _ | exact isU0 | exact isU5 | exact bor_U _ _ | exact band_U _ _ | exact bandn_U _ _ | (refine shr_U ?_ _; first | assumption | exact bor_U _ _)) (by first | assumption | exact ⟨by decide, by decide⟩)) fun _ ⟨_, _⟩ => ?_
  | refine T.bind (mul64 N _ _) fun _ ⟨_, _⟩ => ?_
  | refine T.bind (T.slc (by decide) (by decide) (by simp)) fun _ hs => T.bind (numPT N hN _ (by have := hs.2; omega)) fun _ _ => ?_
  | refine T.bind (T.idx (by decide) (by simp)) fun _ _ => ?_
  | refine T.letO fun _ hx => ?_
  | refine T.bind (T.ret trivial) fun _ _ => ?_
 exact T.ret (allU.set (allU.set (allU.set (by assumption) (by assumption)) (by assumption)) (isU_U _))
attribute [local irreducible] p_poly_sum_add_rdd_q p_poly_sum_add_rdd_q_q
theorem step_rddd_q (N : Nat) (hN : 20 < N) (b : Vector Int 17) (r0 r1 : Int) (m : S_poly_Mac) (hm : allU m.gsum.gh) : T (p_poly_sum_step_rddd_q N b r0 r1 m) (fun r => allU r.1 ∧ r.2 = (m.gmade, m.gr0, m.gr1, m.gs0, m.gs1, m.grest, m.gall)) := by
 unfold p_poly_sum_step_rddd_q
 repeat' first
  | refine T.bind (T.inRO (by decide) (by decide)) fun _ _ => ?_
  | refine T.bind (T.vgetU (by repeat first | assumption | refine allU.set ?_ ?_ | exact isU_U _ | refine allU3 ?_ ?_ ?_ | exact band_U _ _) (by decide)) fun _ _ => ?_
  | refine T.bind (T.add64 (by first | assumption | exact isU_U _ | exact isU0 | exact isU5 | exact bor_U _ _ | exact band_U _ _ | exact bandn_U _ _ | (refine shr_U ?_ _; first | assumption | exact bor_U _ _)) (by first | assumption | exact isU_U _ | exact isU0 | exact isU5 | exact bor_U _ _ | exact band_U _ _ | exact bandn_U _ _ | (refine shr_U ?_ _; first | assumption | exact bor_U _ _)) (by first | assumption | exact ⟨by decide, by decide⟩)) fun _ ⟨_, _⟩ => ?_
  | refine T.bind (mul64 N _ _) fun _ ⟨_, _⟩ => ?_
  | refine T.bind (T.slc (by decide) (by decide) (by simp)) fun _ hs => T.bind (numPT N hN _ (by have := hs.2; omega)) fun _ _ => ?_
  | refine T.bind (T.idx (by decide) (by simp)) fun _ _ => ?_
  | refine T.bind (add_rdd_q N _ _ _ (by first | assumption | exact isU_U _ | exact isU0 | exact isU5 | exact bor_U _ _ | (subst_vars; exact bor_U _ _) | exact band_U _ _ | exact bandn_U _ _ | (refine shr_U ?_ _; first | assumption | exact bor_U _ _)) (by first | assumption | exact isU_U _ | exact isU0 | exact isU5 | exact bor_U _ _ | exact band_U _ _ | exact bandn_U _ _ | (refine shr_U ?_ _; first | assumption | exact bor_U _ _)) (by repeat first | assumption | refine allU.set ?_ ?_ | exact isU_U _ | refine allU3 ?_ ?_ ?_ | exact band_U _ _)) fun _ _ => ?_
  | refine T.letO fun _ hx => ?_
  | refine T.bind (T.ret trivial) fun _ _ => ?_
 exact T.ret ⟨by assumption, rfl⟩
theorem step_rddd_q_q (N : Nat) (hN : 20 < N) (b : Vector Int 17) (r0 r1 : Int) (m : S_poly_sum) (hm : allU m.gh) : T (p_poly_sum_step_rddd_q_q N b r0 r1 m) allU := by
 unfold p_poly_sum_step_rddd_q_q
 repeat' first
  | refine T.bind (T.inRO (by decide) (by decide)) fun _ _ => ?_
  | refine T.bind (T.vgetU (by repeat first | assumption | refine allU.set ?_ ?_ | exact isU_U _ | refine allU3 ?_ ?_ ?_ | exact band_U _ _) (by decide)) fun _ _ => ?_
  | refine T.bind (T.add64 (by first | assumption | exact isU_U _ | exact isU0 | exact isU5 | exact bor_U _ _ | exact band_U _ _ | exact bandn_U _ _ | (refine shr_U ?_ _; first | assumption | exact bor_U _ _)) (by first | assumption | exact isU_U _ | exact isU0 | exact isU5 | exact bor_U _ _ | exact band_U _ _ | exact bandn_U _ _ | (refine shr_U ?_ _; first | assumption | exact bor_U _ _)) (by first | assumption | exact ⟨by decide, by decide⟩)) fun _ ⟨_, _⟩ => ?_
  | refine T.bind (mul64 N _ _) fun _ ⟨_, _⟩ => ?_
  | refine T.bind (T.slc (by decide) (by decide) (by simp)) fun _ hs => T.bind (numPT N hN _ (by have := hs.2; omega)) fun _ _ => ?_
  | refine T.bind (T.idx (by decide) (by simp)) fun _ _ => ?_
  | refine T.bind (add_rdd_q_q N _ _ _ (by first | assumption | exact isU_U _ | exact isU0 | exact isU5 | exact bor_U _ _ | (subst_vars; exact bor_U _ _) | exact band_U _ _ | exact bandn_U _ _ | (refine shr_U ?_ _; first | assumption | exact bor_U _ _)) (by first | assumption | exact isU_U _ | exact isU0 | exact isU5 | exact bor_U _ _ | exact band_U _ _ | exact bandn_U _ _ | (refine shr_U ?_ _; first | assumption | exact bor_U _ _)) (by repeat first | assumption | refine allU.set ?_ ?_ | exact isU_U _ | refine allU3 ?_ ?_ ?_ | exact band_U _ _)) fun _ _ => ?_
  | refine T.letO fun _ hx => ?_
  | refine T.bind (T.ret trivial) fun _ _ => ?_
 exact T.ret (by assumption)
end Go.UK

