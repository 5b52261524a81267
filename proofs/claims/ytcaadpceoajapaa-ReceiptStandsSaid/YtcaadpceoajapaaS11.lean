/- A part of the proof: what the functions of the program compute. -/
import Derived.Test.YtcaadpceoajapaaS10
namespace Go.UK
open Go Go.Proofs
set_option maxRecDepth 20000
set_option maxHeartbeats 1000000
set_option linter.all false
def zR : S_api_Receipt := S_api_Receipt.mk 0 0 0 0 (Vector.replicate 32 0) (Vector.replicate 32 0) (Vector.replicate 32 0)
def ofV (layer : Int) (l : List S_api_Entry) (i : Nat) (e : S_api_Entry) : S_api_Receipt := S_api_Receipt.mk layer e.gSeq e.gWho e.gClock e.gSum (headV layer (l.take (i + 1))) (Vector.replicate 32 0)
def withTag (r : S_api_Receipt) (t : Vector Int 32) : S_api_Receipt := S_api_Receipt.mk r.gLayer r.gSeq r.gWho r.gClock r.gSum r.gHead t
theorem ofV_ok {layer : Int} (hl : in64 layer) {l : List S_api_Entry} {i : Nat} {e : S_api_Entry} (he : EntOK e) : RecOK (ofV layer l i e) := ⟨hl, he.seq, he.who, he.clock, he.sum, headV_bytes _ _, zero32⟩
theorem entsOK.take {l : List S_api_Entry} (h : entsOK l) (n : Nat) : entsOK (l.take n) := fun e he => h e (List.mem_of_mem_take he)
theorem ofP (N : Nat) (hN : 300 < N) (layer : Int) (hl : in64 layer) (l : List S_api_Entry) (h : entsOK l) (hlen : l.length < 100) (i : Nat) (hi : i < l.length) : p_receipt_of N layer l (i : Int) = some (ofV layer l i l[i]) := by
  unfold p_receipt_of
  rw [idx_at hi, Option.bind_some, I64_s (by omega), slcO_take (by omega), Option.bind_some, headP N (by omega) layer hl _ (h.take _) (by simp; omega) (by simp; omega), Option.bind_some]
  rfl
def issueV (key : Vector Int 32) (layer : Int) (l : List S_api_Entry) (i : Nat) (e : S_api_Entry) : S_api_Receipt × Int :=
  cond (e.gSeq != (i : Int)) (zR, 2) (cond (e.gErr != 0) (zR, 5) (withTag (ofV layer l i e) (tagV key (ofV layer l i e)), 0))
theorem issueP (N : Nat) (hN : 300 < N) (key : Vector Int 32) (hk : vbytes key) (layer : Int) (hl : in64 layer) (l : List S_api_Entry) (h : entsOK l) (hlen : l.length < 100) (i : Nat) (hi : i < l.length) : p_receipt_Issue N key layer l (i : Int) = some (issueV key layer l i l[i]) := by
  unfold p_receipt_Issue issueV
  rw [letO_e, df (show ¬ (i : Int) ≥ (l.length : Int) by omega), letO_e, df (show ¬ (i : Int) < 0 by omega), cond_false, cond_false, idx_at hi, Option.bind_some, Option.bind_some, Option.bind_some]
  cases l[i].gSeq != (i : Int) with
  | true => rfl
  | false =>
    rw [cond_false, cond_false]
    cases l[i].gErr != 0 with
    | true => rfl
    | false =>
      rw [cond_false, cond_false, ofP N hN layer hl l h hlen i hi, Option.bind_some, tagP N hN key hk _ (ofV_ok hl (h _ (List.getElem_mem hi))), Option.bind_some]
      rfl
theorem issueP' (N : Nat) (key : Vector Int 32) (layer : Int) (l : List S_api_Entry) (x : Int) (hx : x < 0 ∨ (l.length : Int) ≤ x) : p_receipt_Issue N key layer l x = some (zR, 2) := by
  unfold p_receipt_Issue
  rcases hx with hx | hx
  · rw [letO_e, dt hx, letO_e, cond_true, cond_true, Option.bind_some, cond_true]; rfl
  · rw [letO_e, dt (show x ≥ (l.length : Int) by omega), letO_e]
    cases decide (x < 0) <;> rfl
theorem issueR (N : Nat) (hN : 300 < N) (key : Vector Int 32) (hk : vbytes key) (layer : Int) (hl : in64 layer) (l : List S_api_Entry) (h : entsOK l) (hlen : l.length < 100) (i : Nat) (hi : i < l.length) : p_umbraref37_Issue N key layer l (i : Int) = some (issueV key layer l i l[i]) := by
  unfold p_umbraref37_Issue issueV
  rw [letO_e, df (show ¬ (i : Int) ≥ (l.length : Int) by omega), letO_e, df (show ¬ (i : Int) < 0 by omega), cond_false, cond_false, idx_at hi, Option.bind_some]
  cases hs : l[i].gSeq != (i : Int) with
  | true => rfl
  | false =>
    have hs : l[i].gSeq = (i : Int) := by simpa using hs
    rw [cond_false, cond_false]
    cases l[i].gErr != 0 with
    | true => rfl
    | false =>
      rw [cond_false, cond_false, I64_s (by omega), slcO_take (by omega), Option.bind_some, headR N (by omega) layer hl _ (h.take _) (by simp; omega) (by simp; omega), Option.bind_some, ← hs]
      show Option.bind (p_umbraref37_tag N key (ofV layer l i l[i])) _ = _
      rw [tagR N hN key hk _ (ofV_ok hl (h _ (List.getElem_mem hi))), Option.bind_some]
      rfl
theorem issueR' (N : Nat) (key : Vector Int 32) (layer : Int) (l : List S_api_Entry) (x : Int) (hx : x < 0 ∨ (l.length : Int) ≤ x) : p_umbraref37_Issue N key layer l x = some (zR, 2) := by
  unfold p_umbraref37_Issue
  rcases hx with hx | hx
  · rw [letO_e, dt hx, letO_e, cond_true, cond_true]; rfl
  · rw [letO_e, dt (show x ≥ (l.length : Int) by omega), letO_e]
    cases decide (x < 0) <;> rfl
/-! ### looking at a receipt -/
def checkV (key : Vector Int 32) (r : S_api_Receipt) : Int := cond (decide (r.gTag = tagV key r)) 0 6
theorem checkP (N : Nat) (hN : 300 < N) (key : Vector Int 32) (hk : vbytes key) (r : S_api_Receipt) (h : RecOK r) : p_receipt_Check N key r = some (checkV key r) := by
  unfold p_receipt_Check checkV
  rw [tagP N hN key hk r h, Option.bind_some, sameP N (by omega) r.gTag (tagV key r) h.tag (macV_bytes _ _), Option.bind_some]
  cases decide (r.gTag = tagV key r) <;> rfl
theorem checkR (N : Nat) (hN : 300 < N) (key : Vector Int 32) (hk : vbytes key) (r : S_api_Receipt) (h : RecOK r) : p_umbraref37_Check N key r = some (checkV key r) := by
  unfold p_umbraref37_Check checkV
  rw [tagR N hN key hk r h, Option.bind_some]
  have : eqV (fun a b => a == b) (tagV key r) r.gTag = decide (r.gTag = tagV key r) := by
    rw [Bool.eq_iff_iff, eqV_iff, decide_eq_true_eq]
    exact ⟨fun h => h.symm, fun h => h.symm⟩
  rw [this]
  cases decide (r.gTag = tagV key r) <;> rfl
/-- stands it against the entries? -/
def goodR (layer : Int) (l : List S_api_Entry) (i : Nat) (e : S_api_Entry) (r : S_api_Receipt) : Prop :=
  e.gErr = 0 ∧ e.gSeq = r.gSeq ∧ e.gWho = r.gWho ∧ e.gClock = r.gClock ∧ e.gSum = r.gSum ∧ headV layer (l.take (i + 1)) = r.gHead
theorem againstP (N : Nat) (hN : 300 < N) (layer : Int) (hl : in64 layer) (l : List S_api_Entry) (h : entsOK l) (hlen : l.length < 100) (r : S_api_Receipt) (hr : r.gLayer = layer) (i : Nat) (hs : r.gSeq = (i : Int)) (hi : i < l.length) :
    ∃ c : Int, p_receipt_Against N layer l r = some c ∧ (goodR layer l i l[i] r → c = 0) ∧ (¬ goodR layer l i l[i] r → c = 20) := by
  unfold p_receipt_Against
  rw [show (r.gLayer != layer) = false by simp [hr], cond_false, hs, letO_e, df (show ¬ (i : Int) ≥ (l.length : Int) by omega), letO_e, df (show ¬ (i : Int) < 0 by omega), cond_false, cond_false, idx_at hi, Option.bind_some]
  cases he : l[i].gErr != 0 with
  | true =>
    refine ⟨20, rfl, fun hg => ?_, fun _ => rfl⟩
    have := hg.1
    simp [this] at he
  | false =>
    have he : l[i].gErr = 0 := by simpa using he
    rw [cond_false, ofP N hN layer hl l h hlen i hi, Option.bind_some]
    by_cases hg : goodR layer l i l[i] r
    · refine ⟨0, ?_, fun _ => rfl, fun hn => absurd hg hn⟩
      obtain ⟨g0, g1, g2, g3, g4, g5⟩ := hg
      have : S_api_Receipt.mk (ofV layer l i l[i]).gLayer (ofV layer l i l[i]).gSeq (ofV layer l i l[i]).gWho (ofV layer l i l[i]).gClock (ofV layer l i l[i]).gSum (ofV layer l i l[i]).gHead r.gTag = r := by
        cases r
        unfold ofV
        dsimp only at *
        subst hr
        rw [g1, g2, g3, g4, g5]
      rw [this, rec_t]
      rfl
    · refine ⟨20, ?_, fun hn => absurd hn hg, fun _ => rfl⟩
      rw [rec_f]
      · rfl
      · intro e
        apply hg
        unfold ofV at e
        dsimp only at e
        refine ⟨he, ?_, ?_, ?_, ?_, ?_⟩
        · exact congrArg S_api_Receipt.gSeq e
        · exact congrArg S_api_Receipt.gWho e
        · exact congrArg S_api_Receipt.gClock e
        · exact congrArg S_api_Receipt.gSum e
        · exact congrArg S_api_Receipt.gHead e
theorem againstP13 (N : Nat) (layer : Int) (l : List S_api_Entry) (r : S_api_Receipt) (hr : r.gLayer ≠ layer) : p_receipt_Against N layer l r = some 13 := by
  unfold p_receipt_Against
  rw [show (r.gLayer != layer) = true by simp [hr], cond_true]
theorem againstP11 (N : Nat) (layer : Int) (l : List S_api_Entry) (r : S_api_Receipt) (hr : r.gLayer = layer) (hx : r.gSeq < 0 ∨ (l.length : Int) ≤ r.gSeq) : p_receipt_Against N layer l r = some 11 := by
  unfold p_receipt_Against
  rw [show (r.gLayer != layer) = false by simp [hr], cond_false]
  rcases hx with hx | hx
  · rw [letO_e, dt hx, letO_e, cond_true, cond_true]
  · rw [letO_e, dt (show r.gSeq ≥ (l.length : Int) by omega), letO_e]
    cases decide (r.gSeq < 0) <;> rfl
theorem againstR13 (N : Nat) (layer : Int) (l : List S_api_Entry) (r : S_api_Receipt) (hr : r.gLayer ≠ layer) : p_umbraref37_Against N layer l r = some 13 := by
  unfold p_umbraref37_Against
  rw [show (r.gLayer != layer) = true by simp [hr], cond_true]
theorem againstR11 (N : Nat) (layer : Int) (l : List S_api_Entry) (r : S_api_Receipt) (hr : r.gLayer = layer) (hx : r.gSeq < 0 ∨ (l.length : Int) ≤ r.gSeq) : p_umbraref37_Against N layer l r = some 11 := by
  unfold p_umbraref37_Against
  rw [show (r.gLayer != layer) = false by simp [hr], cond_false]
  rcases hx with hx | hx
  · rw [letO_e, dt hx, letO_e, cond_true, cond_true]
  · rw [letO_e, dt (show r.gSeq ≥ (l.length : Int) by omega), letO_e]
    cases decide (r.gSeq < 0) <;> rfl
theorem againstR (N : Nat) (hN : 300 < N) (layer : Int) (hl : in64 layer) (l : List S_api_Entry) (h : entsOK l) (hlen : l.length < 100) (r : S_api_Receipt) (hr : r.gLayer = layer) (i : Nat) (hs : r.gSeq = (i : Int)) (hi : i < l.length) :
    ∃ c : Int, p_umbraref37_Against N layer l r = some c ∧ (goodR layer l i l[i] r → c = 0) ∧ (¬ goodR layer l i l[i] r → c = 20) := by
  unfold p_umbraref37_Against goodR
  rw [show (r.gLayer != layer) = false by simp [hr], cond_false, hs, letO_e, df (show ¬ (i : Int) ≥ (l.length : Int) by omega), letO_e, df (show ¬ (i : Int) < 0 by omega), cond_false, cond_false, idx_at hi, Option.bind_some]
  have hb : ∀ (b : Bool), (b = true → ∃ c : Int, Option.bind (some true) (fun p4 => cond p4 (some (20 : Int)) (some 0)) = some c ∧ (c = 20)) := fun b _ => ⟨20, rfl, rfl⟩
  cases h1 : l[i].gSeq != (i : Int) with
  | true => exact ⟨20, rfl, fun hg => by have := hg.2.1; simp [this] at h1, fun _ => rfl⟩
  | false =>
    have h1 : l[i].gSeq = (i : Int) := by simpa using h1
    rw [cond_false]
    cases h2 : l[i].gWho != r.gWho with
    | true => exact ⟨20, rfl, fun hg => by have := hg.2.2.1; simp [this] at h2, fun _ => rfl⟩
    | false =>
      have h2 : l[i].gWho = r.gWho := by simpa using h2
      rw [cond_false]
      cases h3 : l[i].gClock != r.gClock with
      | true => exact ⟨20, rfl, fun hg => by have := hg.2.2.2.1; simp [this] at h3, fun _ => rfl⟩
      | false =>
        have h3 : l[i].gClock = r.gClock := by simpa using h3
        rw [cond_false, letO_e]
        cases h4 : eqV (fun a b => a == b) l[i].gSum r.gSum with
        | false => exact ⟨20, rfl, fun hg => (by have := hg.2.2.2.2.1; rw [this, (eqV_iff _ _).2 rfl] at h4; cases h4), fun _ => rfl⟩
        | true =>
          have h4 := (eqV_iff _ _).1 h4
          rw [Bool.not_true, cond_false]
          cases h5 : l[i].gErr != 0 with
          | true => exact ⟨20, rfl, fun hg => by have := hg.1; simp [this] at h5, fun _ => rfl⟩
          | false =>
            have h5 : l[i].gErr = 0 := by simpa using h5
            rw [cond_false, I64_s (by omega), slcO_take (by omega), Option.bind_some, headR N (by omega) layer hl _ (h.take _) (by simp; omega) (by simp; omega), Option.bind_some, Option.bind_some]
            cases h6 : eqV (fun a b => a == b) (headV layer (l.take (i + 1))) r.gHead with
            | false => exact ⟨20, rfl, fun hg => (by have := hg.2.2.2.2.2; rw [this, (eqV_iff _ _).2 rfl] at h6; cases h6), fun _ => rfl⟩
            | true =>
              have h6 := (eqV_iff _ _).1 h6
              exact ⟨0, rfl, fun _ => rfl, fun hn => absurd ⟨h5, h1, h2, h3, h4, h6⟩ hn⟩
theorem against_same (N : Nat) (hN : 300 < N) (layer : Int) (hl : in64 layer) (l : List S_api_Entry) (h : entsOK l) (hlen : l.length < 100) (r : S_api_Receipt) : ∃ c, p_receipt_Against N layer l r = some c ∧ p_umbraref37_Against N layer l r = some c := by
  by_cases hr : r.gLayer = layer
  · by_cases hx : r.gSeq < 0 ∨ (l.length : Int) ≤ r.gSeq
    · exact ⟨11, againstP11 N layer l r hr hx, againstR11 N layer l r hr hx⟩
    · obtain ⟨i, hi⟩ := Int.eq_ofNat_of_zero_le (show 0 ≤ r.gSeq by omega)
      obtain ⟨c, c1, c2, c3⟩ := againstP N hN layer hl l h hlen r hr i hi (by omega)
      obtain ⟨d, d1, d2, d3⟩ := againstR N hN layer hl l h hlen r hr i hi (by omega)
      refine ⟨c, c1, ?_⟩
      rw [d1]
      by_cases hg : goodR layer l i (l[i]'(by omega)) r
      · rw [c2 hg, d2 hg]
      · rw [c3 hg, d3 hg]
  · exact ⟨13, againstP13 N layer l r hr, againstR13 N layer l r hr⟩
end Go.UK
