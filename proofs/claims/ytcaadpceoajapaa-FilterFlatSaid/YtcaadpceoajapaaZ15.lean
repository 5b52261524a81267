/- A part of the proof: what the functions of the program compute. -/
import Derived.Test.YtcaadpceoajapaaZ14
namespace Go.UK
open Go Go.Proofs
set_option maxRecDepth 20000
set_option maxHeartbeats 2000000
set_option linter.all false
theorem tp_perm {κ : Nat} (hκ : κ < 4) : ((List.range 9).map (tp κ)).Perm (List.range 9) := by
  rcases cast4 hκ with e | e | e | e <;> subst e <;> decide
theorem nbs_perm {p : S_api_Plane} {w h d : Nat} (ok : PlaneOK p w h d) {κ : Nat} (hκ : κ < 4) {x y k : Nat} (hx : x < tw κ w h) (hy : y < th κ w h) (hk : k < d) :
    (nbs (flP p w h d κ) (tw κ w h) (th κ w h) d x y k).Perm (nbs p w h d (tx κ w x y).toNat (ty κ h x y).toNat k) := by
  have e : nbs (flP p w h d κ) (tw κ w h) (th κ w h) d x y k = ((List.range 9).map (tp κ)).map (nb p w h d (tx κ w x y).toNat (ty κ h x y).toNat k) := by
    unfold nbs
    rw [List.map_map]
    apply List.map_congr_left
    intro i hi
    exact nb_flP ok hκ hx hy hk (List.mem_range.1 hi)
  rw [e]
  exact (tp_perm hκ).map _
def medF (p : S_api_Plane) (w h d x y k : Nat) : Int := medV (nbs p w h d x y k)
def tentF (p : S_api_Plane) (w h d x y k : Nat) : Int := convV p w h d tent (W9 tent) x y k
def boxF (p : S_api_Plane) (w h d x y k : Nat) : Int := convV p w h d box (W9 box) x y k
theorem medF_turn {p : S_api_Plane} {w h d : Nat} (ok : PlaneOK p w h d) {κ : Nat} (hκ : κ < 4) (x y k : Nat) (hx : x < tw κ w h) (hy : y < th κ w h) (hk : k < d) :
    medF (flP p w h d κ) (tw κ w h) (th κ w h) d x y k = medF p w h d (tx κ w x y).toNat (ty κ h x y).toNat k := med_perm (nbs_len _ _ _ _ _ _ _) (nbs_perm ok hκ hx hy hk)
theorem tentF_turn {p : S_api_Plane} {w h d : Nat} (ok : PlaneOK p w h d) {κ : Nat} (hκ : κ < 4) (x y k : Nat) (hx : x < tw κ w h) (hy : y < th κ w h) (hk : k < d) :
    tentF (flP p w h d κ) (tw κ w h) (th κ w h) d x y k = tentF p w h d (tx κ w x y).toNat (ty κ h x y).toNat k := by
  unfold tentF
  rw [convV_e (flP_ok ok κ) tent_wc (by decide) hk, convV_e ok tent_wc (by decide) hk, S9_congr tent (fun i hi => nb_flP ok hκ hx hy hk hi), S9_tent (nb p w h d (tx κ w x y).toNat (ty κ h x y).toNat k) hκ]
theorem boxF_turn {p : S_api_Plane} {w h d : Nat} (ok : PlaneOK p w h d) {κ : Nat} (hκ : κ < 4) (x y k : Nat) (hx : x < tw κ w h) (hy : y < th κ w h) (hk : k < d) :
    boxF (flP p w h d κ) (tw κ w h) (th κ w h) d x y k = boxF p w h d (tx κ w x y).toNat (ty κ h x y).toNat k := by
  unfold boxF
  rw [convV_e (flP_ok ok κ) box_wc (by decide) hk, convV_e ok box_wc (by decide) hk, S9_congr box (fun i hi => nb_flP ok hκ hx hy hk hi), S9_box (nb p w h d (tx κ w x y).toNat (ty κ h x y).toNat k) hκ]
theorem medF_rng {p : S_api_Plane} {w h d : Nat} (ok : PlaneOK p w h d) (x y k : Nat) (_ : x < w) (_ : y < h) (hk : k < d) {lo hi : Int} (hf : ∀ i, i < 9 → lo ≤ nb p w h d x y k i ∧ nb p w h d x y k i ≤ hi) : lo ≤ medF p w h d x y k ∧ medF p w h d x y k ≤ hi := by
  have := (med_mem (nbs_len p w h d x y k)).1
  obtain ⟨i, hi', e⟩ := List.mem_map.1 this
  unfold medF
  rw [← e]
  exact hf i (List.mem_range.1 hi')
/-- what 'do' does, and that it may be done again -/
structure Does (N : Nat) (D : S_api_Plane → Option (S_api_Plane × Int)) (num : S_api_Plane → Nat → Nat → Nat → Nat → Nat → Nat → Int) : Prop where
  does : ∀ {p : S_api_Plane} {w h d : Nat}, PlaneOK p w h d → badName p.gName = false → D p = some (mkP p w h d (num p w h d), 0)
  rng : ∀ {p : S_api_Plane} {w h d : Nat}, PlaneOK p w h d → ∀ x y k, x < w → y < h → k < d → 0 ≤ num p w h d x y k ∧ num p w h d x y k ≤ 65535
  turn : ∀ {p : S_api_Plane} {w h d : Nat}, PlaneOK p w h d → ∀ {κ : Nat}, κ < 4 → ∀ x y k, x < tw κ w h → y < th κ w h → k < d → num (flP p w h d κ) (tw κ w h) (th κ w h) d x y k = num p w h d (tx κ w x y).toNat (ty κ h x y).toNat k
theorem doesTent (k : Nat) (hk : 16385 < k + 16) : Does (k + 16) (p_filter_Tent (k + 16)) tentF where
  does ok hn := by
    unfold p_filter_Tent
    have := convP (k + 16) hk ok (small_ok ok hn hk) (chk_ok ok hn) (tent_L1 k) (by decide)
    rw [show (#v[1, 2, 1, 2, 4, 2, 1, 2, 1] : Vector Int 9) = tent from rfl, this]
    rfl
  rng ok x y k _ _ hk := convV_bd ok tent_wc (by decide) hk (fun i _ => nb_rng ok x y hk i)
  turn ok _ hκ := tentF_turn ok hκ
theorem doesBox (k : Nat) (hk : 16385 < k + 16) : Does (k + 16) (p_filter_Box (k + 16)) boxF where
  does ok hn := by
    unfold p_filter_Box
    have := convP (k + 16) hk ok (small_ok ok hn hk) (chk_ok ok hn) (box_L1 k) (by decide)
    rw [show (#v[1, 1, 1, 1, 1, 1, 1, 1, 1] : Vector Int 9) = box from rfl, this]
    rfl
  rng ok x y k _ _ hk := convV_bd ok box_wc (by decide) hk (fun i _ => nb_rng ok x y hk i)
  turn ok _ hκ := boxF_turn ok hκ
theorem doesMed (N : Nat) (hN : 16385 < N) : Does N (p_filter_Median N) medF where
  does ok hn := medianP N hN ok (small_ok ok hn hN) (chk_ok ok hn)
  rng ok x y k hx hy hk := medF_rng ok x y k hx hy hk (fun i _ => nb_rng ok x y hk i)
  turn ok _ hκ := medF_turn ok hκ
theorem Does.both {N : Nat} {D : S_api_Plane → Option (S_api_Plane × Int)} {num : S_api_Plane → Nat → Nat → Nat → Nat → Nat → Nat → Int} (H : Does N D num) (hN : 16385 < N) {p : S_api_Plane} {w h d : Nat} (ok : PlaneOK p w h d) (hn : badName p.gName = false) {κ : Nat} (hκ : κ < 4) :
    ∃ r : S_api_Plane, r.gData.length ≤ 16384 ∧ p_filter_Flip N p (κ : Int) = some (flP p w h d κ, 0) ∧ D (flP p w h d κ) = some (r, 0) ∧ D p = some (mkP p w h d (num p w h d), 0) ∧ p_filter_Flip N (mkP p w h d (num p w h d)) (κ : Int) = some (r, 0) := by
  have hnf : badName (flP p w h d κ).gName = false := by rw [flP_name]; exact hn
  have ok2 : PlaneOK (mkP p w h d (num p w h d)) w h d := mkP_ok ok.w1 ok.w2 ok.h1 ok.h2 ok.d1 ok.d2 (fun x y k hx hy hk => H.rng ok x y k hx hy hk)
  have hn2 : badName (mkP p w h d (num p w h d)).gName = false := hn
  refine ⟨_, ?_, flipP N hN ok (small_ok ok hn hN) (chk_ok ok hn) hκ, ?_, H.does ok hn, flipP N hN ok2 (small_ok ok2 hn2 hN) (chk_ok ok2 hn2) hκ⟩
  · exact flP_len ok2 κ
  · rw [H.does (flP_ok ok κ) hnf, turn_num ok hκ num (fun x y k hx hy hk => H.turn ok hκ x y k hx hy hk)]
theorem filterTurnsT (k : Nat) (hN : 16385 < k + 16) {q : S_api_Plane} (hs : Small42 q (k + 16)) {κ : Nat} (hκ : κ < 4) {p : S_api_Plane} (hq : p_umbralaw42_few (k + 16) p = some q) {a : Int} (ha : I64 (a.tmod 4) = (κ : Int)) : p_umbralaw42_FilterTurns (k + 16) p a = some true := by
  unfold p_umbralaw42_FilterTurns
  rw [hq, Option.bind_some, ha]
  cases hc : (chk q != 0) with
  | true =>
    have e := (badAll (k + 16) hs hc (κ : Int)).2.2.2.2.1
    rw [e, Option.bind_some, show ((none42 (chk q)).2 != 0) = true from hc, cond_true, pamCheck _ q hs, Option.bind_some, show ((none42 (chk q)).2 == chk q) = true by simp [none42], cond_true, works42]
    rfl
  | false =>
    have h0 : chk q = 0 := by simpa using hc
    obtain ⟨w, h, d, ok⟩ := planeOK_of h0
    have hn := name_ok h0
    have hnf : badName (flP q w h d κ).gName = false := by rw [flP_name]; exact hn
    have okf := flP_ok ok κ
    have e1 := flipP (k + 16) hN ok hs h0 hκ
    have e2 := flipP (k + 16) hN okf (small_ok okf hnf hN) (chk_ok okf hnf) hκ
    rw [flP_flP ok hκ] at e2
    have hl : q.gData.length ≤ 16384 := by rw [ok.len]; exact dim_bd ok.w2 ok.h2 ok.d2
    have z : ((0 : Int) != 0) = false := rfl
    rw [e1, Option.bind_some, z, cond_false, e2, Option.bind_some, z, cond_false, same30Self _ _ hl hN, Option.bind_some, Bool.not_true, Option.bind_some, cond_false]
    unfold p_filter_Through_dl_FilterTurns_1_Tent_z p_filter_Through_dl_Tent_FilterTurns_1_z p_filter_Through_dl_FilterTurns_1_Box_z p_filter_Through_dl_Box_FilterTurns_1_z p_filter_Through_dl_FilterTurns_1_Median_z p_filter_Through_dl_Median_FilterTurns_1_z p_umbralaw42_FilterTurns_1_di
    obtain ⟨r1, l1, a1, b1, c1, d1⟩ := (doesTent k hN).both hN ok hn hκ
    obtain ⟨r2, l2, a2, b2, c2, d2⟩ := (doesBox k hN).both hN ok hn hκ
    obtain ⟨r3, l3, a3, b3, c3, d3⟩ := (doesMed (k + 16) hN).both hN ok hn hκ
    simp only [e1, b1, c1, d1, b2, c2, d2, b3, c3, d3, Option.bind_some, z, cond_false, letO_e, same30Self _ _ l1 hN, same30Self _ _ l2 hN, same30Self _ _ l3 hN, works42, Bool.not_true]
theorem filterTurnsFn (p : S_api_Plane) (op : p.ok) (a : Int) (oa : (Lit.int .u8 a).wf = true) : FnM Try.prog 16 [] [p.enc, k8 a] (eB true) [] := by
  have ha : 0 ≤ a ∧ a < 256 := by
    simp [Lit.wf, IntKind.min, IntKind.max, IntKind.signed, IntKind.bits] at oa
    omega
  obtain ⟨n, rfl⟩ := Int.eq_ofNat_of_zero_le ha.1
  have e : I64 ((n : Int).tmod 4) = ((n % 4 : Nat) : Int) := by
    rw [show (n : Int).tmod 4 = ((n % 4 : Nat) : Int) from rfl, I64_id (by omega) (by omega)]
  exact umbralaw42_FilterTurns_ok (filterTurnsT 16370 (by decide) (few42_small p (N := 16370 + 16) (by decide)) (Nat.mod_lt _ (by decide)) (few42_e _ p) e)
end Go.UK
