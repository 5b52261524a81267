/- A part of the proof: what the functions of the program compute. -/
import Derived.Test.YtcaadpceoajapaaZ6
import Derived.Test.YtcaadpceoajapaaGO
namespace Go.UK
open Go Go.Proofs
set_option maxRecDepth 20000
set_option maxHeartbeats 2000000
set_option linter.all false
theorem backP (N : Nat) (hN : 16385 < N) {p : S_api_Plane} {w h d : Nat} (ok : PlaneOK p w h d) (hs : Small42 p N) (hc : chk p = 0) :
    p_filter_Through_dl_Double_Half_z N p = some (if w ≤ 32 ∧ h ≤ 32 then (p, 0) else none42 2) := by
  unfold p_filter_Through_dl_Double_Half_z
  rw [doubleP N hN ok hs hc, Option.bind_some]
  have ha := ok.w1; have hb := ok.h1
  by_cases hh : w ≤ 32 ∧ h ≤ 32
  · rw [if_pos hh, if_pos hh]
    have okq : PlaneOK (mkP p (2 * w) (2 * h) d (fun x y k => atV p w h d ((x / 2 : Nat) : Int) ((y / 2 : Nat) : Int) k)) (2 * w) (2 * h) d :=
      mkP_ok (by omega) (by omega) (by omega) (by omega) ok.d1 ok.d2 (fun x y k _ _ hk => atV_rng ok _ _ hk)
    have hn : badName (mkP p (2 * w) (2 * h) d (fun x y k => atV p w h d ((x / 2 : Nat) : Int) ((y / 2 : Nat) : Int) k)).gName = false := (name_ok hc : badName p.gName = false)
    show Option.bind (p_filter_Half N (mkP p (2 * w) (2 * h) d (fun x y k => atV p w h d ((x / 2 : Nat) : Int) ((y / 2 : Nat) : Int) k))) _ = _
    rw [halfP N hN okq ha hb (small_ok okq hn hN) (chk_ok okq hn), Option.bind_some]
    have e : mkP (mkP p (2 * w) (2 * h) d (fun x y k => atV p w h d ((x / 2 : Nat) : Int) ((y / 2 : Nat) : Int) k)) w h d (halfV (mkP p (2 * w) (2 * h) d (fun x y k => atV p w h d ((x / 2 : Nat) : Int) ((y / 2 : Nat) : Int) k)) (2 * w) (2 * h) d) = p := by
      have e1 : mkP (mkP p (2 * w) (2 * h) d (fun x y k => atV p w h d ((x / 2 : Nat) : Int) ((y / 2 : Nat) : Int) k)) w h d (halfV (mkP p (2 * w) (2 * h) d (fun x y k => atV p w h d ((x / 2 : Nat) : Int) ((y / 2 : Nat) : Int) k)) (2 * w) (2 * h) d) = mkP p w h d (halfV (mkP p (2 * w) (2 * h) d (fun x y k => atV p w h d ((x / 2 : Nat) : Int) ((y / 2 : Nat) : Int) k)) (2 * w) (2 * h) d) := rfl
      rw [e1, mkP_congr (g := fun x y k => atV p w h d x y k) ok.d1 ha, mkP_self ok]
      intro x y k hx hy hk
      unfold halfV
      rw [mkP_at (by omega) (by omega) hk, mkP_at (by omega) (by omega) hk, mkP_at (by omega) (by omega) hk, mkP_at (by omega) (by omega) hk]
      rw [show 2 * x / 2 = x by omega, show 2 * y / 2 = y by omega, show (2 * x + 1) / 2 = x by omega, show (2 * y + 1) / 2 = y by omega]
      omega
    rw [e]
    rfl
  · rw [if_neg hh, if_neg hh]
    rfl
theorem filterBackT (N : Nat) (hN : 16385 < N + 16) {p : S_api_Plane} (hs : Small42 (few42 p) (N + 16)) : p_umbralaw42_FilterBack (N + 16) p = some true := by
  unfold p_umbralaw42_FilterBack
  rw [few42_e, Option.bind_some]
  generalize few42 p = q at *
  cases hc : (chk q != 0) with
  | true =>
    have e1 : p_filter_Through_dl_Double_Half_z (N + 16) q = some (none42 (chk q)) := by
      unfold p_filter_Through_dl_Double_Half_z p_filter_Double
      rw [pamCheck _ q hs, Option.bind_some, hc, cond_true, Option.bind_some]
      dsimp only
      rw [hc]
      rfl
    have e2 : p_filter_Through_dn (N + 16) q = some (none42 (chk q)) := by
      unfold p_filter_Through_dn p_filter_Flip
      rw [pamCheck _ q hs, Option.bind_some, hc]
      rfl
    rw [e1, Option.bind_some, e2, Option.bind_some, pamCheck _ q hs, Option.bind_some, hc, cond_true, letO_e]
    unfold none42
    dsimp only
    rw [show (chk q == chk q) = true by simp, works42]
    rfl
  | false =>
    have h0 : chk q = 0 := by simpa using hc
    obtain ⟨w, h, d, ok⟩ := planeOK_of h0
    have e2 : p_filter_Through_dn (N + 16) q = some (q, 0) := by
      unfold p_filter_Through_dn
      rw [flip0 _ hN ok hs h0]
      rfl
    rw [backP _ hN ok hs h0, Option.bind_some, e2, Option.bind_some, pamCheck _ q hs, h0, Option.bind_some]
    have hl : q.gData.length ≤ 16384 := by rw [ok.len]; exact dim_bd ok.w2 ok.h2 ok.d2
    rw [show ((0 : Int) != 0) = false from rfl, cond_false, cond_false, same30Self _ _ hl hN]
    simp only [Option.bind_some, Bool.not_true, cond_false]
    have hm : decide (imax (w : Int) (h : Int) > 32) = !(decide (w ≤ 32 ∧ h ≤ 32)) := by
      unfold imax
      by_cases hh : w ≤ 32 ∧ h ≤ 32
      · rw [dt hh]; simp; split <;> omega
      · rw [df hh]; simp; split <;> omega
    rw [letO_e, ok.W, ok.H, hm]
    by_cases hh : w ≤ 32 ∧ h ≤ 32
    · rw [dt hh, if_pos hh]
      rw [same30Self _ _ hl hN, works42]
      rfl
    · rw [df hh, if_neg hh, works42]
      rfl
theorem filterBackFn (p : S_api_Plane) (op : p.ok) : FnM Try.prog 6 [] [p.enc] (eB true) [] :=
  umbralaw42_FilterBack_ok (filterBackT 16370 (by decide) (few42_small p (N := 16370 + 16) (by decide)))
end Go.UK
