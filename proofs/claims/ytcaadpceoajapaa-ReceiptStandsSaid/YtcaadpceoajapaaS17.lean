/- A part of the proof: what the functions of the program compute. -/
import Derived.Test.YtcaadpceoajapaaS15
import Derived.Test.YtcaadpceoajapaaS16
namespace Go.UK
open Go Go.Proofs
set_option maxRecDepth 20000
set_option maxHeartbeats 1000000
set_option linter.all false
/-! ### a log -/
structure LogOK (L : List S_api_Entry) : Prop where
  ents : entsOK L
  seq : ∀ (i : Nat) (h : i < L.length), L[i].gSeq = (i : Int)
theorem logOK_nil : LogOK [] := ⟨fun e h => (by cases h), fun i h => (by simp at h)⟩
def addE (L : List S_api_Entry) (ck : Int) (e : S_api_Entry) : S_api_Entry := S_api_Entry.mk (L.length : Int) (imax e.gClock ck) e.gWho e.gErr e.gSum
theorem imaxW {a b : Int} (ha : isW a) (hb : isW b) : isW (imax a b) := by unfold imax; split <;> assumption
theorem addE_ok {L : List S_api_Entry} {ck : Int} {e : S_api_Entry} (hL : L.length < 1000) (hc : isW ck) (he : EntOK e) : EntOK (addE L ck e) :=
  ⟨⟨by show -9223372036854775808 ≤ (L.length : Int); omega, by show (L.length : Int) ≤ 9223372036854775807; omega⟩, imaxW he.clock hc, he.who, he.err, he.sum⟩
theorem LogOK.add {L : List S_api_Entry} (h : LogOK L) (hL : L.length < 1000) {ck : Int} (hc : isW ck) {e : S_api_Entry} (he : EntOK e) : LogOK (L ++ [addE L ck e]) := by
  constructor
  · intro x hx
    rcases List.mem_append.1 hx with hx | hx
    · exact h.ents x hx
    · simp at hx; rw [hx]; exact addE_ok hL hc he
  · intro i hi
    rw [List.getElem_append]
    split
    · exact h.seq i _
    · have : i = L.length := by simp at hi; omega
      subst this
      simp [addE]
theorem addP (N : Nat) (hN : 300 < N) {L : List S_api_Entry} (hL : L.length < 1000) {v : Vector Int 32} (hv : vbytes v) {ck : Int} (hc : isW ck) {e : S_api_Entry} (he : EntOK e) :
    p_chain_Log_Add_rdddd N L e.gClock e.gWho e.gErr e.gSum (S_chain_top.mk v ck true) = some (L ++ [addE L ck e], nextV v (addE L ck e), (addE L ck e).gClock, addE L ck e) := by
  unfold p_chain_Log_Add_rdddd
  rw [show p_chain_Log_none_r N L (S_chain_top.mk v ck true) = some false from rfl, Option.bind_some, cond_false, appO_ok (by simp; omega), Option.bind_some]
  unfold p_chain_top_push_rd
  have hn := nextP N (by omega) v hv (addE L ck e) (addE_ok hL hc he)
  show Option.bind (Option.bind (p_chain_Next N v (addE L ck e)) _) _ = _
  rw [hn]
  rfl
theorem nextV_bytes {v : Vector Int 32} {e : S_api_Entry} : vbytes (nextV v e) := by
  have := headV_bytes 0 [e]
  exact shaV_bytes _
theorem stL1 (N : Nat) (hN : 300 < N) (q : List S_api_Entry) (hq : entsOK q) (hql : q.length < 1000) : ∀ (k i : Nat) (L : List S_api_Entry) (v : Vector Int 32) (ck : Int), i ≤ q.length → q.length - i < k → L.length + (q.length - i) < 900 → LogOK L → vbytes v → isW ck →
    ∃ M v' ck', p_umbralaw37_ReceiptStands_L1 N q k L v ck true (i : Int) = some (L ++ M, v', ck', true) ∧ LogOK (L ++ M) ∧ vbytes v' ∧ isW ck' ∧ M.length = q.length - i
  | 0, _, _, _, _, _, h, _, _, _, _ => by omega
  | k + 1, i, L, v, ck, hi, hk, hl, h1, h2, h3 => by
    rw [p_umbralaw37_ReceiptStands_L1, letO_e]
    by_cases h : i < q.length
    · have he := hq _ (List.getElem_mem h)
      rw [dt (by omega), cond_true, idx_at h, Option.bind_some, addP N hN (by omega) h2 h3 he, Option.bind_some, I64_s (by omega)]
      obtain ⟨M, v', ck', g1, g2, g3, g4, g5⟩ := stL1 N hN q hq hql k (i + 1) (L ++ [addE L ck q[i]]) (nextV v (addE L ck q[i])) (addE L ck q[i]).gClock (by omega) (by omega) (by simp; omega) (h1.add (by omega) h3 he) nextV_bytes (addE_ok (by omega) h3 he).clock
      refine ⟨addE L ck q[i] :: M, v', ck', ?_, by simpa using g2, g3, g4, by simp; omega⟩
      rw [show L ++ addE L ck q[i] :: M = L ++ [addE L ck q[i]] ++ M by simp]
      exact g1
    · refine ⟨[], v, ck, ?_, by simpa using h1, h2, h3, by simp; omega⟩
      rw [df (by omega), cond_false, List.append_nil]
theorem stL3 (N : Nat) (hN : 300 < N) (q : List S_api_Entry) (hq : entsOK q) (hql : q.length < 1000) : ∀ (k i : Nat) (L : List S_api_Entry) (v : Vector Int 32) (ck : Int), i ≤ q.length → q.length - i < k → L.length + (q.length - i) < 900 → LogOK L → vbytes v → isW ck →
    ∃ M v' ck', p_umbralaw37_ReceiptStands_L3 N q k L (S_chain_top.mk v ck true) (i : Int) = some (L ++ M, S_chain_top.mk v' ck' true) ∧ LogOK (L ++ M) ∧ M.length = q.length - i
  | 0, _, _, _, _, _, h, _, _, _, _ => by omega
  | k + 1, i, L, v, ck, hi, hk, hl, h1, h2, h3 => by
    rw [p_umbralaw37_ReceiptStands_L3, letO_e]
    by_cases h : i < q.length
    · have he := hq _ (List.getElem_mem h)
      rw [dt (by omega), cond_true, idx_at h, Option.bind_some, addP N hN (by omega) h2 h3 he, Option.bind_some, I64_s (by omega)]
      obtain ⟨M, v', ck', g1, g2, g5⟩ := stL3 N hN q hq hql k (i + 1) (L ++ [addE L ck q[i]]) (nextV v (addE L ck q[i])) (addE L ck q[i]).gClock (by omega) (by omega) (by simp; omega) (h1.add (by omega) h3 he) nextV_bytes (addE_ok (by omega) h3 he).clock
      refine ⟨addE L ck q[i] :: M, v', ck', ?_, by simpa using g2, by simp; omega⟩
      rw [show L ++ addE L ck q[i] :: M = L ++ [addE L ck q[i]] ++ M by simp]
      exact g1
    · refine ⟨[], v, ck, ?_, by simpa using h1, by simp; omega⟩
      rw [df (by omega), cond_false, List.append_nil]
theorem entsP (N : Nat) (L : List S_api_Entry) (hL : L.length < 1000) (v : Vector Int 32) (ck : Int) : p_chain_Log_Entries_r N L (S_chain_top.mk v ck true) = some L := by
  unfold p_chain_Log_Entries_r
  rw [show p_chain_Log_none_r N L (S_chain_top.mk v ck true) = some false from rfl, Option.bind_some, cond_false]
  unfold p_slices_Clone_api_Entry_api_Entry
  rw [appO_ok (by simp; omega)]
  rfl
/-! ### the receipts of a log -/
def rcpt (key : Vector Int 32) (layer : Int) (A : List S_api_Entry) (i : Nat) (e : S_api_Entry) : S_api_Receipt := withTag (ofV layer A i e) (tagV key (ofV layer A i e))
def rcs (key : Vector Int 32) (layer : Int) (A : List S_api_Entry) : Nat → List S_api_Receipt
  | 0 => []
  | i + 1 => rcs key layer A i ++ (match A[i]? with | some e => cond (e.gErr == 0) [rcpt key layer A i e] [] | none => [])
theorem rcs_mem (key : Vector Int 32) (layer : Int) (A : List S_api_Entry) : ∀ (n : Nat) (r : S_api_Receipt), r ∈ rcs key layer A n → ∃ (i : Nat) (h : i < A.length), i < n ∧ A[i].gErr = 0 ∧ r = rcpt key layer A i A[i]
  | 0, r, h => by simp [rcs] at h
  | n + 1, r, h => by
    rcases List.mem_append.1 h with h | h
    · obtain ⟨i, h1, h2, h3, h4⟩ := rcs_mem key layer A n r h
      exact ⟨i, h1, by omega, h3, h4⟩
    · cases he : A[n]? with
      | none => rw [he] at h; cases h
      | some e =>
        rw [he] at h
        obtain ⟨hn, hen⟩ := List.getElem?_eq_some_iff.1 he
        cases hc : e.gErr == 0 with
        | false => simp only [hc, cond_false] at h; cases h
        | true =>
          simp only [hc, cond_true, List.mem_singleton] at h
          subst hen
          exact ⟨n, hn, by omega, by simpa using hc, h⟩
theorem rcs_len (key : Vector Int 32) (layer : Int) (A : List S_api_Entry) : ∀ n, (rcs key layer A n).length ≤ n
  | 0 => by simp [rcs]
  | n + 1 => by
    have := rcs_len key layer A n
    simp only [rcs, List.length_append]
    have h2 : (match A[n]? with | some e => cond (e.gErr == 0) [rcpt key layer A n e] [] | none => ([] : List S_api_Receipt)).length ≤ 1 := by
      cases A[n]? with
      | none => simp
      | some e => cases hc : e.gErr == 0 <;> simp [hc]
    omega
theorem rcs_nodup {key : Vector Int 32} {layer : Int} {A : List S_api_Entry} (hA : LogOK A) : ∀ n, (seqs (rcs key layer A n)).Nodup
  | 0 => by simp [rcs, seqs]
  | n + 1 => by
    have ih := rcs_nodup (key := key) (layer := layer) hA n
    cases he : A[n]? with
    | none => simpa [rcs, he] using ih
    | some e =>
      cases hc : e.gErr == 0 with
      | false => simp only [rcs, he, hc, cond_false, List.append_nil]; exact ih
      | true =>
        obtain ⟨hn, hen⟩ := List.getElem?_eq_some_iff.1 he
        simp only [rcs, he, hc, cond_true]
        unfold seqs
        rw [List.map_append, List.nodup_append]
        refine ⟨ih, by simp, ?_⟩
        intro a ha b hb e2
        simp at hb
        obtain ⟨r, hr, rfl⟩ := List.mem_map.1 ha
        obtain ⟨i, h1, h2, h3, h4⟩ := rcs_mem key layer A n r hr
        have e3 : r.gSeq = (i : Int) := by rw [h4]; exact hA.seq i h1
        have e4 : (rcpt key layer A n e).gSeq = (n : Int) := by subst hen; exact hA.seq n hn
        rw [e2, hb, e4] at e3
        omega
theorem rcpt_ok {key : Vector Int 32} (layer : Int) (hl : in64 layer) {A : List S_api_Entry} (hA : LogOK A) (i : Nat) (h : i < A.length) : RecOK (rcpt key layer A i A[i]) :=
  withTag_ok (ofV_ok hl (hA.ents _ (List.getElem_mem h))) (macV_bytes _ _)
theorem rcpt_against (N : Nat) (hN : 300 < N) {key : Vector Int 32} (layer : Int) (hl : in64 layer) {A M : List S_api_Entry} (hA : LogOK (A ++ M)) (hlen : (A ++ M).length < 100) (i : Nat) (h : i < A.length) (he : A[i].gErr = 0) : p_receipt_Against N layer (A ++ M) (rcpt key layer A i A[i]) = some 0 := by
  have hi : i < (A ++ M).length := by simp; omega
  have e1 : (A ++ M)[i] = A[i] := List.getElem_append_left h
  have hs : (rcpt key layer A i A[i]).gSeq = (i : Int) := by have := hA.seq i hi; rw [e1] at this; exact this
  obtain ⟨c, c1, c2, _⟩ := againstP N hN layer hl (A ++ M) hA.ents hlen (rcpt key layer A i A[i]) rfl i hs hi
  rw [c1, c2 ?_]
  rw [e1]
  refine ⟨he, rfl, rfl, rfl, rfl, ?_⟩
  rw [List.take_append_of_le_length (by omega)]
  rfl
theorem stL2 (N : Nat) (hN : 300 < N) (c : S_umbralaw37_Chain) (hc : ChainOK c) {A : List S_api_Entry} (hA : LogOK A) (hlen : A.length < 100) : ∀ (k i : Nat), i ≤ A.length → A.length - i < k →
    p_umbralaw37_ReceiptStands_L2 N A c k (rcs c.gKey c.gLayer A i) (i : Int) = some (Sum.inl (rcs c.gKey c.gLayer A A.length))
  | 0, _, _, h => by omega
  | k + 1, i, hi, hk => by
    rw [p_umbralaw37_ReceiptStands_L2, letO_e]
    by_cases h : i < A.length
    · rw [dt (by omega), cond_true, idx_at h, Option.bind_some, issueP N hN c.gKey hc.key c.gLayer hc.layer A hA.ents hlen i h, Option.bind_some]
      unfold issueV
      rw [hA.seq i h, show ((i : Int) != (i : Int)) = false by simp, cond_false]
      have ih := stL2 N hN c hc hA hlen k (i + 1) (by omega) (by omega)
      have hr : rcs c.gKey c.gLayer A (i + 1) = rcs c.gKey c.gLayer A i ++ (cond (A[i].gErr == 0) [rcpt c.gKey c.gLayer A i A[i]] []) := by
        simp only [rcs, List.getElem?_eq_getElem h]
      rw [hr] at ih
      cases he : A[i].gErr == 0 with
      | false =>
        rw [show (A[i].gErr != 0) = true by simpa using he, cond_true, letO_e]
        dsimp only
        rw [show (!(((5 : Int) == 0) == false)) = false from rfl, cond_false, show ((5 : Int) != 0) = true from rfl, cond_true, Option.bind_some]
        unfold sumC
        dsimp only
        rw [he, cond_false, List.append_nil] at ih
        rw [I64_s (by omega), ih]
      | true =>
        have he' : A[i].gErr = 0 := by simpa using he
        rw [show (A[i].gErr != 0) = false by simp [he'], cond_false, letO_e]
        dsimp only
        have ok := rcpt_ok (key := c.gKey) c.gLayer hc.layer hA i h
        have hck : checkV c.gKey (rcpt c.gKey c.gLayer A i A[i]) = 0 := checkSelf _ _
        have hl2 := rcs_len c.gKey c.gLayer A i
        rw [he, cond_true] at ih
        show Option.bind (cond (!(((0 : Int) == 0) == true)) _ (cond ((0 : Int) != 0) _ (Option.bind (p_receipt_Encode N (rcpt c.gKey c.gLayer A i A[i])) _))) _ = _
        rw [show (!(((0 : Int) == 0) == true)) = false from rfl, cond_false, show ((0 : Int) != 0) = false from rfl, cond_false, encP N (by omega) _ ok, Option.bind_some, decEnc N (by omega) _ ok, Option.bind_some]
        dsimp only
        rw [show ((0 : Int) != 0) = false from rfl, cond_false, letO_e]
        show Option.bind (Option.bind (cond (!(S_api_Receipt.eq (rcpt c.gKey c.gLayer A i A[i]) (rcpt c.gKey c.gLayer A i A[i]))) _ (Option.bind (p_receipt_Check N c.gKey (rcpt c.gKey c.gLayer A i A[i])) _)) _) _ = _
        rw [rec_t, Bool.not_true, cond_false, checkP N hN c.gKey hc.key _ ok, hck, Option.bind_some, Option.bind_some, show ((0 : Int) != 0) = false from rfl, cond_false, appO_ok (by simp; omega), Option.bind_some, Option.bind_some]
        unfold sumC
        dsimp only
        rw [I64_s (by omega)]
        exact ih
    · rw [df (by omega), cond_false, show i = A.length by omega]
theorem stL4 (N : Nat) (c : S_umbralaw37_Chain) (rs : List S_api_Receipt) (L : List S_api_Entry) (hL : L.length < 1000) (v : Vector Int 32) (ck : Int) (hrl : rs.length < 1000) (h : ∀ r ∈ rs, p_receipt_Against N c.gLayer L r = some 0) : ∀ (k i : Nat), i ≤ rs.length → rs.length - i < k →
    p_umbralaw37_ReceiptStands_L4 N rs (L, S_chain_top.mk v ck true) c k (i : Int) = some (Sum.inl ())
  | 0, _, _, h => by omega
  | k + 1, i, hi, hk => by
    rw [p_umbralaw37_ReceiptStands_L4, letO_e]
    by_cases h1 : i < rs.length
    · rw [dt (by omega), cond_true, idx_at h1, Option.bind_some]
      dsimp only
      rw [entsP N L hL, Option.bind_some, h _ (List.getElem_mem h1), Option.bind_some, show ((0 : Int) != 0) = false from rfl, cond_false, I64_s (by omega)]
      exact stL4 N c rs L hL v ck hrl h k (i + 1) (by omega) (by omega)
    · rw [df (by omega), cond_false]
/-! ### audits that go well, and the one that does not -/
theorem audOk (N : Nat) (hN : 300 < N) (key : Vector Int 32) (hk : vbytes key) (layer : Int) (l : List S_api_Entry) (rs : List S_api_Receipt) (hrs : ∀ r ∈ rs, RecOK r) (hrl : rs.length < 100) (h1 : ∀ r ∈ rs, checkV key r = 0) (h2 : ∀ r ∈ rs, p_receipt_Against N layer l r = some 0) (hn : (seqs rs).Nodup) :
    ∀ (k i : Nat), i ≤ rs.length → rs.length - i < k → p_receipt_Audit_L1 N rs key layer l k (mk (rs.take i)) (i : Int) = some (Sum.inl (mk rs))
  | 0, _, _, h => by omega
  | k + 1, i, hi, hki => by
    rw [p_receipt_Audit_L1, letO_e]
    by_cases h : i < rs.length
    · have hm := List.getElem_mem h
      have hd : rs[i].gSeq ∉ seqs (rs.take i) := by
        intro hmem
        have e : seqs rs = seqs (rs.take i) ++ seqs (rs.drop i) := by unfold seqs; rw [← List.map_append, List.take_append_drop]
        rw [e, List.nodup_append] at hn
        have hin : rs[i].gSeq ∈ seqs (rs.drop i) := by
          unfold seqs
          rw [List.drop_eq_getElem_cons h, List.map_cons]
          exact List.mem_cons_self
        exact hn.2.2 _ hmem _ hin rfl
      rw [dt (show (i : Int) < (rs.length : Int) by omega), cond_true, idx_at h, Option.bind_some, checkP N hN key hk _ (hrs _ hm), h1 _ hm, Option.bind_some, show ((0 : Int) != 0) = false from rfl, cond_false, mget_mk, df hd, cond_false, h2 _ hm, Option.bind_some, show ((0 : Int) != 0) = false from rfl, cond_false, mput_mk _ _ hd, I64_s (by omega), ← List.take_succ_eq_append_getElem h]
      exact audOk N hN key hk layer l rs hrs hrl h1 h2 hn k (i + 1) (by omega) (by omega)
    · rw [df (show ¬ (i : Int) < (rs.length : Int) by omega), cond_false, List.take_of_length_le (by omega)]
theorem auditOk (N : Nat) (hN : 300 < N) (key : Vector Int 32) (hk : vbytes key) (layer : Int) (l : List S_api_Entry) (rs : List S_api_Receipt) (hrs : ∀ r ∈ rs, RecOK r) (hrl : rs.length < 100) (h1 : ∀ r ∈ rs, checkV key r = 0) (h2 : ∀ r ∈ rs, p_receipt_Against N layer l r = some 0) (hn : (seqs rs).Nodup) :
    ∃ s : List Int, p_receipt_Audit N key layer l rs = some (s, 0) ∧ s.length = rs.length := by
  have h := audOk N hN key hk layer l rs hrs hrl h1 h2 hn N 0 (by omega) (by omega)
  have h : p_receipt_Audit_L1 N rs key layer l N [] 0 = _ := h
  unfold p_receipt_Audit
  have hs : sortO (mk rs) = some ((seqs rs).mergeSort fun x y => decide (x ≤ y)) := by
    unfold sortO
    rw [keys_mk]
    have : okKeys (seqs rs) = true := by
      unfold okKeys
      simp only [Bool.and_eq_true, decide_eq_true_eq, List.all_eq_true]
      refine ⟨hn, ?_, by simp [seqs]; omega⟩
      intro x hx
      obtain ⟨r, hr, rfl⟩ := List.mem_map.1 hx
      have h3 := (hrs r hr).seq
      have h4 := h3.1
      have h5 := h3.2
      simp [Lit.wf, IntKind.min, IntKind.max, show IntKind.i64.signed = true from rfl, show IntKind.i64.bits = 64 from rfl]
      omega
    rw [this, cond_true]
  rw [h, Option.bind_some]
  refine ⟨(seqs rs).mergeSort fun x y => decide (x ≤ y), ?_, ?_⟩
  · show Option.bind (sortO (mk rs)) _ = _
    rw [hs, Option.bind_some]
  · rw [List.length_mergeSort]; simp [seqs]
theorem audDup (N : Nat) (hN : 300 < N) (key : Vector Int 32) (hk : vbytes key) (layer : Int) (l : List S_api_Entry) (rs : List S_api_Receipt) (hrs : ∀ r ∈ rs, RecOK r) (hrl : rs.length < 100) (h1 : ∀ r ∈ rs, checkV key r = 0) (h2 : ∀ r ∈ rs, p_receipt_Against N layer l r = some 0) (hn : (seqs rs).Nodup) (r0 : S_api_Receipt) (h0 : r0 ∈ rs) :
    ∀ (k i : Nat), i ≤ rs.length → rs.length - i < k → p_receipt_Audit_L1 N (rs ++ [r0]) key layer l k (mk (rs.take i)) (i : Int) = some (Sum.inr ([], 10))
  | 0, _, _, h => by omega
  | k + 1, i, hi, hki => by
    rw [p_receipt_Audit_L1, letO_e]
    have hi2 : i < (rs ++ [r0]).length := by simp; omega
    rw [dt (show (i : Int) < ((rs ++ [r0]).length : Int) by omega), cond_true, idx_at hi2, Option.bind_some]
    by_cases h : i < rs.length
    · have hm := List.getElem_mem h
      have hd : rs[i].gSeq ∉ seqs (rs.take i) := by
        intro hmem
        have e : seqs rs = seqs (rs.take i) ++ seqs (rs.drop i) := by unfold seqs; rw [← List.map_append, List.take_append_drop]
        rw [e, List.nodup_append] at hn
        have hin : rs[i].gSeq ∈ seqs (rs.drop i) := by
          unfold seqs
          rw [List.drop_eq_getElem_cons h, List.map_cons]
          exact List.mem_cons_self
        exact hn.2.2 _ hmem _ hin rfl
      rw [List.getElem_append_left h, checkP N hN key hk _ (hrs _ hm), h1 _ hm, Option.bind_some, show ((0 : Int) != 0) = false from rfl, cond_false, mget_mk, df hd, cond_false, h2 _ hm, Option.bind_some, show ((0 : Int) != 0) = false from rfl, cond_false, mput_mk _ _ hd, I64_s (by omega), ← List.take_succ_eq_append_getElem h]
      exact audDup N hN key hk layer l rs hrs hrl h1 h2 hn r0 h0 k (i + 1) (by omega) (by omega)
    · have e : i = rs.length := by omega
      subst e
      rw [show (rs ++ [r0])[rs.length] = r0 by simp, checkP N hN key hk _ (hrs _ h0), h1 _ h0, Option.bind_some, show ((0 : Int) != 0) = false from rfl, cond_false, mget_mk, List.take_length, dt (show r0.gSeq ∈ seqs rs from List.mem_map_of_mem h0), cond_true]
theorem auditDup (N : Nat) (hN : 300 < N) (key : Vector Int 32) (hk : vbytes key) (layer : Int) (l : List S_api_Entry) (rs : List S_api_Receipt) (hrs : ∀ r ∈ rs, RecOK r) (hrl : rs.length < 100) (h1 : ∀ r ∈ rs, checkV key r = 0) (h2 : ∀ r ∈ rs, p_receipt_Against N layer l r = some 0) (hn : (seqs rs).Nodup) (r0 : S_api_Receipt) (h0 : r0 ∈ rs) :
    p_receipt_Audit N key layer l (rs ++ [r0]) = some ([], 10) := by
  have h := audDup N hN key hk layer l rs hrs hrl h1 h2 hn r0 h0 N 0 (by omega) (by omega)
  have h : p_receipt_Audit_L1 N (rs ++ [r0]) key layer l N [] 0 = _ := h
  unfold p_receipt_Audit
  rw [h]
  rfl
theorem receiptStandsT (N : Nat) (hN : 300 < N) (c : S_umbralaw37_Chain) (hc : ChainOK c) (more : List S_api_Entry) (hm : entsOK more) : p_umbralaw37_ReceiptStands N c more = some true := by
  unfold p_umbralaw37_ReceiptStands
  have hq : entsOK (c.gL.take 10) := hc.l.take 10
  have hq2 : entsOK (more.take 10) := hm.take 10
  have hql : (c.gL.take 10).length ≤ 10 := by simp; omega
  have hql2 : (more.take 10).length ≤ 10 := by simp; omega
  unfold p_chain_New
  rw [startP N (by omega) c.gLayer hc.layer, Option.bind_some, Option.bind_some, few37, Option.bind_some]
  have hsv : vbytes (startV c.gLayer) := headV_bytes c.gLayer []
  generalize c.gL.take 10 = q at *
  obtain ⟨A, v, ck, a1, a2, a3, a4, a5⟩ := stL1 N hN q hq (by omega) N 0 [] (startV c.gLayer) 0 (by omega) (by omega) (by simp; omega) logOK_nil hsv ⟨by omega, by omega⟩
  have a1 : p_umbralaw37_ReceiptStands_L1 N q N [] (startV c.gLayer) 0 true 0 = _ := a1
  rw [List.nil_append] at a1 a2
  have hAl : A.length ≤ 10 := by omega
  have b2 := stL2 N hN c hc a2 (by omega) N 0 (by omega) (by omega)
  have b2 : p_umbralaw37_ReceiptStands_L2 N A c N [] 0 = _ := b2
  rw [a1, Option.bind_some]
  dsimp only
  rw [entsP N A (by omega), Option.bind_some, b2, Option.bind_some]
  unfold sumC
  dsimp only
  rw [few37, Option.bind_some]
  generalize more.take 10 = q2 at *
  obtain ⟨M, v', ck', m1, m2, m3⟩ := stL3 N hN q2 hq2 (by omega) N 0 A v ck (by omega) (by omega) (by omega) a2 a3 a4
  have m1 : p_umbralaw37_ReceiptStands_L3 N q2 N A (S_chain_top.mk v ck true) 0 = _ := m1
  have hBl : (A ++ M).length < 100 := by simp; omega
  rw [m1, Option.bind_some]
  have hag : ∀ r ∈ rcs c.gKey c.gLayer A A.length, p_receipt_Against N c.gLayer (A ++ M) r = some 0 := by
    intro r hr
    obtain ⟨i, i1, i2, i3, rfl⟩ := rcs_mem _ _ _ _ _ hr
    exact rcpt_against N hN c.gLayer hc.layer m2 hBl i i1 i3
  have hok : ∀ r ∈ rcs c.gKey c.gLayer A A.length, RecOK r := by
    intro r hr
    obtain ⟨i, i1, i2, i3, rfl⟩ := rcs_mem _ _ _ _ _ hr
    exact rcpt_ok c.gLayer hc.layer a2 i i1
  have hck : ∀ r ∈ rcs c.gKey c.gLayer A A.length, checkV c.gKey r = 0 := by
    intro r hr
    obtain ⟨i, i1, i2, i3, rfl⟩ := rcs_mem _ _ _ _ _ hr
    exact checkSelf _ _
  have hnd := rcs_nodup (key := c.gKey) (layer := c.gLayer) a2 A.length
  have hrl := rcs_len c.gKey c.gLayer A A.length
  generalize rcs c.gKey c.gLayer A A.length = rs at *
  have b4 := stL4 N c rs (A ++ M) (by omega) v' ck' (by omega) hag N 0 (by omega) (by omega)
  have b4 : p_umbralaw37_ReceiptStands_L4 N rs (A ++ M, S_chain_top.mk v' ck' true) c N 0 = _ := b4
  rw [b4, Option.bind_some]
  dsimp only
  rw [entsP N (A ++ M) (by omega), Option.bind_some]
  obtain ⟨s, s1, s2⟩ := auditOk N hN c.gKey hc.key c.gLayer (A ++ M) rs hok (by omega) hck hag hnd
  rw [s1, Option.bind_some]
  dsimp only
  rw [s2, letO_e, show ((rs.length : Int) != (rs.length : Int)) = false by simp, show ((0 : Int) != 0) = false from rfl, cond_false, letO_e, cond_false, letO_e]
  by_cases h0 : 0 < rs.length
  · rw [dt (show (rs.length : Int) > 0 by omega), cond_true, Option.bind_some]
    have hi : idx rs 0 = some rs[0] := idx_at h0
    rw [hi, Option.bind_some, appO_ok (by simp; omega), Option.bind_some, auditDup N hN c.gKey hc.key c.gLayer (A ++ M) rs hok (by omega) hck hag hnd _ (List.getElem_mem h0), Option.bind_some]
    dsimp only
    rw [show ((10 : Int) != 10) = false from rfl, cond_false, Option.bind_some]
    dsimp only
    rw [works37 N hN]
    rfl
  · rw [df (show ¬ (rs.length : Int) > 0 by omega), cond_false, Option.bind_some]
    dsimp only
    rw [works37 N hN]
    rfl
end Go.UK
