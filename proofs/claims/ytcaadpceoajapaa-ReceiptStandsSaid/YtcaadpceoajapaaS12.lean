/- A part of the proof: what the functions of the program compute. -/
import Derived.Test.YtcaadpceoajapaaS11
namespace Go.UK
open Go Go.Proofs
set_option maxRecDepth 20000
set_option maxHeartbeats 1000000
set_option linter.all false
theorem withTag_ok {r : S_api_Receipt} (h : RecOK r) {t : Vector Int 32} (ht : vbytes t) : RecOK (withTag r t) := ⟨h.layer, h.seq, h.who, h.clock, h.sum, h.head, ht⟩
theorem checkSelf (key : Vector Int 32) (r : S_api_Receipt) : checkV key (withTag r (tagV key r)) = 0 := by
  unfold checkV
  have : (withTag r (tagV key r)).gTag = tagV key (withTag r (tagV key r)) := rfl
  rw [dt this]
  rfl
def key1 : Vector Int 32 := (Vector.replicate 32 0).setIfInBounds 0 1
theorem key1_ok : vbytes key1 := by unfold vbytes bytesL isB key1; decide
def ent0 : S_api_Entry := S_api_Entry.mk 0 0 3 0 (Vector.replicate 32 0)
theorem ent0_ok : EntOK ent0 := ⟨by unfold in64 ent0; decide, by unfold isW ent0; decide, by unfold in64 ent0; decide, by unfold in64 ent0; decide, zero32⟩
theorem ents0_ok : entsOK [ent0] := by intro e he; simp at he; subst he; exact ent0_ok
theorem in2 : in64 2 := by unfold in64; decide
theorem works37 (N : Nat) (hN : 300 < N) : p_umbralaw37_works N = some true := by
  unfold p_umbralaw37_works
  have h1 := issueP N hN key1 key1_ok 2 in2 [ent0] ents0_ok (by simp) 0 (by simp)
  have e1 : issueV key1 2 [ent0] 0 ent0 = (withTag (ofV 2 [ent0] 0 ent0) (tagV key1 (ofV 2 [ent0] 0 ent0)), 0) := rfl
  rw [show ([ent0] : List S_api_Entry)[0] = ent0 from rfl, e1, show ((0 : Nat) : Int) = 0 from rfl] at h1
  have ok : RecOK (withTag (ofV 2 [ent0] 0 ent0) (tagV key1 (ofV 2 [ent0] 0 ent0))) := withTag_ok (ofV_ok in2 ent0_ok) (macV_bytes _ _)
  generalize hr : withTag (ofV 2 [ent0] 0 ent0) (tagV key1 (ofV 2 [ent0] 0 ent0)) = r at h1 ok
  have hl : r.gLayer = 2 := by rw [← hr]; rfl
  have hs : r.gSeq = ((0 : Nat) : Int) := by rw [← hr]; rfl
  obtain ⟨c, c1, c2, _⟩ := againstP N hN 2 in2 [ent0] ents0_ok (by simp) r hl 0 hs (by simp)
  have hg : goodR 2 [ent0] 0 ([ent0] : List S_api_Entry)[0] r := by rw [← hr]; exact ⟨rfl, rfl, rfl, rfl, rfl, rfl⟩
  rw [c2 hg] at c1
  have h3 := againstP11 N 2 [] r hl (.inr (by rw [hs]; simp))
  have h4 := checkP N hN key1 key1_ok r ok
  have h5 : checkV key1 r = 0 := by rw [← hr]; exact checkSelf _ _
  have h6 := encP N (by omega) r ok
  show Option.bind (p_receipt_Issue N key1 2 [ent0] 0) _ = _
  rw [h1, Option.bind_some]
  dsimp only
  rw [show (((0 : Int)) == 0) = true from rfl, cond_true]
  show Option.bind (Option.bind (p_receipt_Against N 2 [ent0] r) _) _ = _
  rw [c1, Option.bind_some, show (((0 : Int)) == 0) = true from rfl, cond_true, h3, Option.bind_some, show (((11 : Int)) == 11) = true from rfl, cond_true]
  show Option.bind (Option.bind (p_receipt_Check N key1 r) _) _ = _
  rw [h4, h5, Option.bind_some, show (((0 : Int)) == 0) = true from rfl, cond_true, h6, Option.bind_some, letO_e, encV_len]
  rfl
theorem few37 (N : Nat) (l : List S_api_Entry) : p_umbralaw37_few N l = some (l.take 10) := by
  unfold p_umbralaw37_few
  rw [letO_e, show (10 : Int) = ((10 : Nat) : Int) from rfl, slcO_min, Option.bind_some]
theorem issue_same (N : Nat) (hN : 300 < N) (key : Vector Int 32) (hk : vbytes key) (layer : Int) (hl : in64 layer) (l : List S_api_Entry) (h : entsOK l) (hlen : l.length < 100) (x : Int) : ∃ p, p_receipt_Issue N key layer l x = some p ∧ p_umbraref37_Issue N key layer l x = some p := by
  by_cases hx : x < 0 ∨ (l.length : Int) ≤ x
  · exact ⟨_, issueP' N key layer l x hx, issueR' N key layer l x hx⟩
  · obtain ⟨i, rfl⟩ := Int.eq_ofNat_of_zero_le (show 0 ≤ x by omega)
    exact ⟨_, issueP N hN key hk layer hl l h hlen i (by omega), issueR N hN key hk layer hl l h hlen i (by omega)⟩
structure ChainOK (c : S_umbralaw37_Chain) : Prop where
  key : vbytes c.gKey
  layer : in64 c.gLayer
  l : entsOK c.gL
theorem receiptIssuesT (N : Nat) (hN : 300 < N) (c : S_umbralaw37_Chain) (hc : ChainOK c) (x : Int) (r : S_api_Receipt) (hr : RecOK r) : p_umbralaw37_ReceiptIssues N c x r = some true := by
  unfold p_umbralaw37_ReceiptIssues
  have hl : entsOK (c.gL.take 10) := hc.l.take 10
  have hlen : (c.gL.take 10).length < 100 := by simp; omega
  rw [few37, Option.bind_some]
  generalize c.gL.take 10 = l at *
  obtain ⟨p, p1, p2⟩ := issue_same N hN c.gKey hc.key c.gLayer hc.layer l hl hlen x
  obtain ⟨d, d1, d2⟩ := against_same N hN c.gLayer hc.layer l hl hlen r
  rw [p1, Option.bind_some, p2, Option.bind_some, letO_e, rec_t, cond_true, show (p.2 == p.2) = true by simp, cond_true, checkP N hN c.gKey hc.key r hr, Option.bind_some, checkR N hN c.gKey hc.key r hr, Option.bind_some, show (checkV c.gKey r == checkV c.gKey r) = true by simp, cond_true, d1, Option.bind_some, d2, Option.bind_some, show (d == d) = true by simp, cond_true, works37 N hN, Option.bind_some, Option.bind_some]
/-! ### another receipt -/
theorem xor_par (a : Nat) : (a ^^^ 1) % 2 = (a + 1) % 2 := by
  have h := Nat.xor_mod_two_pow (a := a) (b := 1) (n := 1)
  rw [show (2 : Nat) ^ 1 = 2 from rfl] at h
  rw [h]
  rcases Nat.mod_two_eq_zero_or_one a with h1 | h1
  · rw [h1, show (0 ^^^ 1 % 2) = 1 from rfl]; omega
  · rw [h1, show (1 ^^^ 1 % 2) = 0 from rfl]; omega
theorem xor1 (x : Int) : bxor .i64 x 1 ≠ x := by
  intro e
  have h1 : (BitVec.ofInt 64 x ^^^ BitVec.ofInt 64 1).toNat % 2 = ((BitVec.ofInt 64 x).toNat + 1) % 2 := by
    rw [BitVec.toNat_xor]
    exact xor_par _
  have h2 : bxor .i64 x 1 = I64 ((BitVec.ofInt 64 x ^^^ BitVec.ofInt 64 1).toNat : Int) := rfl
  rw [h2, I64_e] at e
  have h3 : ((BitVec.ofInt 64 x).toNat : Int) = x % 18446744073709551616 := by
    rw [BitVec.toNat_ofInt]
    simp
    omega
  generalize (BitVec.ofInt 64 x ^^^ BitVec.ofInt 64 1).toNat = a at *
  generalize (BitVec.ofInt 64 x).toNat = b at *
  omega
theorem xor1b (x : Int) : bxor .u8 x 1 ≠ x := by
  intro e
  have h1 : (BitVec.ofInt 8 x ^^^ BitVec.ofInt 8 1).toNat % 2 = ((BitVec.ofInt 8 x).toNat + 1) % 2 := by
    rw [BitVec.toNat_xor]
    exact xor_par _
  have h2 : bxor .u8 x 1 = U8 ((BitVec.ofInt 8 x ^^^ BitVec.ofInt 8 1).toNat : Int) := rfl
  rw [h2, U8_e] at e
  have h3 : ((BitVec.ofInt 8 x).toNat : Int) = x % 256 := by
    rw [BitVec.toNat_ofInt]
    simp
    omega
  generalize (BitVec.ofInt 8 x ^^^ BitVec.ofInt 8 1).toNat = a at *
  generalize (BitVec.ofInt 8 x).toNat = b at *
  omega
theorem remO_ok' (x : Int) {n : Nat} (h : 0 < n) : remO .i64 x (n : Int) = some (x.tmod n) := remO_nz (by omega)
theorem receiptOtherT (N : Nat) (hN : 300 < N) (c : S_umbralaw37_Chain) (hc : ChainOK c) (x : Int) (w : Int) (hw : isB w) : p_umbralaw37_ReceiptOther N c x w = some true := by
  unfold p_umbralaw37_ReceiptOther
  have hl : entsOK (c.gL.take 10) := hc.l.take 10
  have hlen : (c.gL.take 10).length < 100 := by simp; omega
  rw [few37, Option.bind_some]
  generalize c.gL.take 10 = l at *
  rw [letO_e]
  cases h0 : ((l.length : Int) == 0) with
  | true => rw [cond_true, works37 N hN, Option.bind_some]
  | false =>
    have h0 : 0 < l.length := by simp at h0; exact List.length_pos_iff.2 h0
    rw [cond_false, remO_ok' x h0, Option.bind_some, letO_e]
    have b1 : (x.tmod (l.length : Int)) < (l.length : Int) := Int.tmod_lt_of_pos x (by omega)
    have b2 : -(l.length : Int) < x.tmod (l.length : Int) := by
      have := Int.neg_tmod (a := x) (b := (l.length : Int))
      have h3 := Int.tmod_lt_of_pos (-x) (show (0 : Int) < (l.length : Int) by omega)
      omega
    rw [I64_id (by omega) (by omega), remO_ok' _ h0, Option.bind_some]
    have b3 : 0 ≤ x.tmod (l.length : Int) + (l.length : Int) := by omega
    generalize x.tmod (l.length : Int) + (l.length : Int) = y at b3
    obtain ⟨Y, rfl⟩ := Int.eq_ofNat_of_zero_le b3
    rw [tmod_nat]
    have hi : Y % l.length < l.length := Nat.mod_lt _ h0
    generalize Y % l.length = i at hi
    rw [issueP N hN c.gKey hc.key c.gLayer hc.layer l hl hlen i hi, Option.bind_some]
    have he := hl _ (List.getElem_mem hi)
    unfold issueV
    cases h1 : l[i].gSeq != (i : Int) with
    | true => show Option.bind (p_umbralaw37_works N) _ = _; rw [works37 N hN, Option.bind_some]
    | false =>
      rw [cond_false]
      cases h2 : l[i].gErr != 0 with
      | true => show Option.bind (p_umbralaw37_works N) _ = _; rw [works37 N hN, Option.bind_some]
      | false =>
        have h1 : l[i].gSeq = (i : Int) := by simpa using h1
        have h2 : l[i].gErr = 0 := by simpa using h2
        rw [cond_false]
        generalize hr : withTag (ofV c.gLayer l i l[i]) (tagV c.gKey (ofV c.gLayer l i l[i])) = r
        have rl : r.gLayer = c.gLayer := by rw [← hr]; rfl
        have rs : r.gSeq = (i : Int) := by rw [← hr]; exact h1
        have rw' : r.gWho = l[i].gWho := by rw [← hr]; rfl
        have rc : r.gClock = l[i].gClock := by rw [← hr]; rfl
        have rm : r.gSum = l[i].gSum := by rw [← hr]; rfl
        have rh : r.gHead = headV c.gLayer (l.take (i + 1)) := by rw [← hr]; rfl
        have hg : goodR c.gLayer l i l[i] r := ⟨h2, by rw [rs, h1], rw'.symm, rc.symm, rm.symm, rh.symm⟩
        obtain ⟨d, d1, d2, _⟩ := againstP N hN c.gLayer hc.layer l hl hlen r rl i rs hi
        rw [d2 hg] at d1
        dsimp only
        rw [show ((0 : Int) != 0) = false from rfl, cond_false, d1, Option.bind_some, show ((0 : Int) != 0) = false from rfl, cond_false]
        have bad : ∀ (q : S_api_Receipt), q.gLayer = c.gLayer → q.gSeq = (i : Int) → ¬ goodR c.gLayer l i l[i] q → p_receipt_Against N c.gLayer l q = some 20 := by
          intro q q1 q2 q3
          obtain ⟨d, d1, _, d3⟩ := againstP N hN c.gLayer hc.layer l hl hlen q q1 i q2 hi
          rw [d1, d3 q3]
        have fin : ∀ (t : Int × Int × Int × Vector Int 32 × Int), p_receipt_Against N c.gLayer l (S_api_Receipt.mk t.1 r.gSeq t.2.1 t.2.2.1 t.2.2.2.1 r.gHead r.gTag) = some t.2.2.2.2 → (Option.bind (Option.bind (p_receipt_Against N c.gLayer l (S_api_Receipt.mk t.1 r.gSeq t.2.1 t.2.2.1 t.2.2.2.1 r.gHead r.gTag)) fun r17 => cond (r17 == t.2.2.2.2) (Option.bind (p_umbralaw37_works N) fun r18 => some r18) (some false)) fun p16 => some p16) = some true := by
          intro t ht
          rw [ht, Option.bind_some, show (t.2.2.2.2 == t.2.2.2.2) = true by simp, cond_true, works37 N hN]
          rfl
        have m4 : Int.tmod w 4 = w % 4 := Int.tmod_eq_emod_of_nonneg hw.1
        have m32 : Int.tmod w 32 = ((w % 32).toNat : Int) := by rw [Int.tmod_eq_emod_of_nonneg hw.1]; omega
        have hw0 := hw.1
        rw [m4]
        by_cases c0 : w % 4 = 0
        · rw [show (w % 4 == 0) = true by simp [c0], cond_true, Option.bind_some]
          refine fin _ (bad _ rl rs fun hq => ?_)
          have := hq.2.2.2.1
          dsimp only at this
          rw [rc, U32_e] at this
          have := he.clock
          unfold isW at this
          omega
        · rw [show (w % 4 == 0) = false by simp [c0], cond_false]
          by_cases c1 : w % 4 = 1
          · rw [show (w % 4 == 1) = true by simp [c1], cond_true, Option.bind_some]
            refine fin _ (bad _ rl rs fun hq => ?_)
            have := hq.2.2.1
            dsimp only at this
            rw [rw'] at this
            exact xor1 _ this.symm
          · rw [show (w % 4 == 1) = false by simp [c1], cond_false]
            by_cases c2 : w % 4 = 2
            · rw [show (w % 4 == 2) = true by simp [c2], cond_true, m32]
              have hj : (w % 32).toNat < 32 := by omega
              generalize (w % 32).toNat = j at hj
              rw [inRO_ok (by omega) (by omega), Option.bind_some, Int.toNat_natCast, get_getD (by simp; omega), Option.bind_some, Option.bind_some, Option.bind_some, Option.bind_some]
              refine fin _ (bad _ rl rs fun hq => ?_)
              have := hq.2.2.2.2.1
              dsimp only at this
              rw [rm] at this
              have h5 := congrArg (fun v : Vector Int 32 => v.toList.getD j 0) this
              rw [show (l[i].gSum.setIfInBounds j (bxor .u8 (l[i].gSum.toList.getD j 0) 1)).toList = l[i].gSum.toList.set j (bxor .u8 (l[i].gSum.toList.getD j 0) 1) by simp] at h5
              have h6 : (l[i].gSum.toList.set j (bxor .u8 (l[i].gSum.toList.getD j 0) 1)).getD j 0 = bxor .u8 (l[i].gSum.toList.getD j 0) 1 := by
                rw [List.getD_eq_getElem?_getD, List.getElem?_set_self (by simp; omega)]
                rfl
              rw [h6] at h5
              exact xor1b _ h5.symm
            · have c3 : w % 4 = 3 := by omega
              rw [show (w % 4 == 2) = false by simp [c2], cond_false, show (w % 4 == 3) = true by simp [c3], cond_true, letO_e, Option.bind_some]
              refine fin _ (againstP13 N c.gLayer l _ ?_)
              show bxor .i64 r.gLayer 1 ≠ c.gLayer
              rw [rl]
              exact xor1 _
end Go.UK
