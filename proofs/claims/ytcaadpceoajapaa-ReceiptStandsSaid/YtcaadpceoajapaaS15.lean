/- A part of the proof: what the functions of the program compute. -/
import Derived.Test.YtcaadpceoajapaaS12
namespace Go.UK
open Go Go.Proofs
set_option maxRecDepth 20000
set_option maxHeartbeats 1000000
set_option linter.all false
/-! ### all together -/
def seqs (rs : List S_api_Receipt) : List Int := rs.map fun r => r.gSeq
def mk (rs : List S_api_Receipt) : List (Int × Bool) := rs.map fun r => (r.gSeq, true)
theorem mget_mk (x : Int) : ∀ rs : List S_api_Receipt, mgetD (mk rs) x false = decide (x ∈ seqs rs)
  | [] => rfl
  | r :: rs => by
    have ih := mget_mk x rs
    unfold mgetD at ih ⊢
    show (mget ((r.gSeq, true) :: mk rs) x).getD false = _
    unfold mget
    by_cases h : r.gSeq = x
    · rw [dt h, cond_true, dt (by simp [seqs, h])]
      rfl
    · rw [df h, cond_false, ih]
      simp only [seqs, List.map_cons, List.mem_cons]
      have : ¬ x = r.gSeq := fun e => h e.symm
      simp [this]
theorem mput_mk (r0 : S_api_Receipt) : ∀ rs : List S_api_Receipt, r0.gSeq ∉ seqs rs → mput (mk rs) r0.gSeq true = mk (rs ++ [r0])
  | [], _ => rfl
  | r :: rs, h => by
    simp only [seqs, List.map_cons, List.mem_cons, not_or] at h
    show mput ((r.gSeq, true) :: mk rs) r0.gSeq true = (r.gSeq, true) :: mk (rs ++ [r0])
    unfold mput
    rw [df (fun e => h.1 e.symm), cond_false, mput_mk r0 rs h.2]
theorem keys_mk (rs : List S_api_Receipt) : keysOf (mk rs) = seqs rs := by
  unfold keysOf mk seqs
  rw [List.map_map]
  rfl
def inS (n : Nat) (x : Int) : Prop := 0 ≤ x ∧ x < (n : Int)
theorem dupR (N : Nat) (rs : List S_api_Receipt) (hl : rs.length < 100) (i : Nat) (hi : i < rs.length) : ∀ (k j : Nat), j ≤ i → i - j < k →
    p_umbraref37_Audit_L2 N (i : Int) rs k (j : Int) = some (cond (decide (rs[i].gSeq ∈ seqs ((rs.take i).drop j))) (Sum.inr (([], 10) : List Int × Int)) (Sum.inl ()))
  | 0, _, _, h => by omega
  | k + 1, j, hj, hk => by
    rw [p_umbraref37_Audit_L2]
    by_cases h : j < i
    · have hjl : j < rs.length := by omega
      rw [dt (by omega), cond_true, idx_at hjl, Option.bind_some, idx_at hi, Option.bind_some]
      have e : (rs.take i).drop j = rs[j] :: (rs.take i).drop (j + 1) := by
        rw [List.drop_eq_getElem_cons (by simp; omega)]
        simp
      rw [e]
      simp only [seqs, List.map_cons, List.mem_cons]
      by_cases h2 : rs[j].gSeq = rs[i].gSeq
      · rw [show (rs[j].gSeq == rs[i].gSeq) = true by simp [h2], cond_true, dt (.inl h2.symm), cond_true]
      · rw [show (rs[j].gSeq == rs[i].gSeq) = false by simp [h2], cond_false, I64_s (by omega), dupR N rs hl i hi k (j + 1) (by omega) (by omega)]
        congr 2
        have : ¬ rs[i].gSeq = rs[j].gSeq := fun e => h2 e.symm
        simp [seqs, this]
    · rw [df (by omega), cond_false]
      have : (rs.take i).drop j = [] := by rw [List.drop_eq_nil_iff]; simp; omega
      rw [this]
      rfl
theorem against_in (N : Nat) (layer : Int) (l : List S_api_Entry) (r : S_api_Receipt) (h : p_receipt_Against N layer l r = some 0) : inS l.length r.gSeq := by
  by_cases hr : r.gLayer = layer
  · by_cases hx : r.gSeq < 0 ∨ (l.length : Int) ≤ r.gSeq
    · rw [againstP11 N layer l r hr hx] at h; cases h
    · exact ⟨by omega, by omega⟩
  · rw [againstP13 N layer l r hr] at h; cases h
theorem auditL (N : Nat) (hN : 300 < N) (key : Vector Int 32) (hk : vbytes key) (layer : Int) (hl : in64 layer) (l : List S_api_Entry) (h : entsOK l) (hlen : l.length < 100) (rs : List S_api_Receipt) (hrs : ∀ r ∈ rs, RecOK r) (hrl : rs.length < 100) :
    ∀ (k i : Nat), i ≤ rs.length → rs.length - i < k → (seqs (rs.take i)).Nodup → (∀ x ∈ seqs (rs.take i), inS l.length x) →
    (∃ c : Int, p_receipt_Audit_L1 N rs key layer l k (mk (rs.take i)) (i : Int) = some (Sum.inr ([], c)) ∧ p_umbraref37_Audit_L1 N rs key layer l k (i : Int) = some (Sum.inr ([], c))) ∨
    (p_receipt_Audit_L1 N rs key layer l k (mk (rs.take i)) (i : Int) = some (Sum.inl (mk rs)) ∧ p_umbraref37_Audit_L1 N rs key layer l k (i : Int) = some (Sum.inl ()) ∧ (seqs rs).Nodup ∧ ∀ x ∈ seqs rs, inS l.length x)
  | 0, _, _, h, _, _ => by omega
  | k + 1, i, hi, hki, hn, hin => by
    rw [p_receipt_Audit_L1, p_umbraref37_Audit_L1, letO_e, letO_e]
    by_cases h1 : i < rs.length
    · have hr := hrs _ (List.getElem_mem h1)
      rw [dt (show (i : Int) < (rs.length : Int) by omega), cond_true, cond_true, idx_at h1, Option.bind_some, Option.bind_some, checkP N hN key hk _ hr, checkR N hN key hk _ hr, Option.bind_some, Option.bind_some]
      cases hc : checkV key rs[i] != 0 with
      | true => rw [cond_true, cond_true]; exact .inl ⟨_, rfl, rfl⟩
      | false =>
        have hdup : p_umbraref37_Audit_L2 N (i : Int) rs N 0 = _ := dupR N rs hrl i h1 N 0 (by omega) (by omega)
        rw [cond_false, cond_false, mget_mk, hdup, List.drop_zero, Option.bind_some]
        by_cases hd : rs[i].gSeq ∈ seqs (rs.take i)
        · rw [dt hd, cond_true, cond_true]
          exact .inl ⟨10, rfl, rfl⟩
        · rw [df hd, cond_false, cond_false]
          obtain ⟨c, c1, c2⟩ := against_same N hN layer hl l h hlen rs[i]
          unfold sumC
          dsimp only
          rw [c1, Option.bind_some, Option.bind_some, c2, Option.bind_some]
          cases hc0 : c != 0 with
          | true => rw [cond_true, cond_true]; exact .inl ⟨_, rfl, rfl⟩
          | false =>
            have hc0 : c = 0 := by simpa using hc0
            rw [hc0] at c1
            have hir := against_in N layer l _ c1
            have et : rs.take (i + 1) = rs.take i ++ [rs[i]] := by rw [List.take_succ_eq_append_getElem h1]
            rw [cond_false, cond_false, mput_mk _ _ hd, I64_s (by omega), ← et]
            refine auditL N hN key hk layer hl l h hlen rs hrs hrl k (i + 1) (by omega) (by omega) ?_ ?_
            · rw [et]
              unfold seqs
              rw [List.map_append, List.nodup_append]
              refine ⟨hn, by simp, ?_⟩
              intro a ha b hb e
              simp at hb
              subst e
              rw [hb] at ha
              exact hd ha
            · intro x hx
              rw [et] at hx
              unfold seqs at hx
              rw [List.map_append, List.mem_append] at hx
              rcases hx with hx | hx
              · exact hin x hx
              · simp at hx; rw [hx]; exact hir
    · have e : rs.take i = rs := List.take_of_length_le (by omega)
      rw [df (show ¬ (i : Int) < (rs.length : Int) by omega), cond_false, cond_false]
      rw [e] at hn hin ⊢
      exact .inr ⟨rfl, rfl, hn, hin⟩
/-! the reference's list of numbers -/
theorem L4 (N : Nat) (rs : List S_api_Receipt) (hl : rs.length < 100) (n : Int) : ∀ (k i : Nat) (s : List Int), i ≤ rs.length → rs.length - i < k → s.length + (rs.length - i) < 20000 →
    p_umbraref37_Audit_L4 N rs n k s (i : Int) = some (s ++ (seqs (rs.drop i)).filter (fun x => x == n))
  | 0, _, _, _, h, _ => by omega
  | k + 1, i, s, hi, hk, hs => by
    rw [p_umbraref37_Audit_L4, letO_e]
    by_cases h1 : i < rs.length
    · rw [dt (show (i : Int) < (rs.length : Int) by omega), cond_true, idx_at h1, Option.bind_some, List.drop_eq_getElem_cons h1]
      simp only [seqs, List.map_cons]
      cases hc : rs[i].gSeq == n with
      | true =>
        have hc' : rs[i].gSeq = n := by simpa using hc
        rw [cond_true, appO_ok (by simp; omega), Option.bind_some, Option.bind_some, I64_s (by omega), L4 N rs hl n k (i + 1) _ (by omega) (by omega) (by simp; omega), List.filter_cons_of_pos (by simp [hc'])]
        simp [seqs, hc']
      | false =>
        rw [cond_false, Option.bind_some, I64_s (by omega), L4 N rs hl n k (i + 1) _ (by omega) (by omega) (by omega), List.filter_cons_of_neg (by simp at hc; simp [hc])]
        rfl
    · rw [df (show ¬ (i : Int) < (rs.length : Int) by omega), cond_false, List.drop_eq_nil_of_le (by omega)]
      simp [seqs]
def upto (ks : List Int) : Nat → List Int
  | 0 => []
  | n + 1 => upto ks n ++ ks.filter (fun x => x == (n : Int))
theorem upto_len (ks : List Int) : ∀ n, (upto ks n).length ≤ n * ks.length
  | 0 => by simp [upto]
  | n + 1 => by
    have := upto_len ks n
    have h2 := List.length_filter_le (fun x => x == (n : Int)) ks
    simp only [upto, List.length_append]
    rw [Nat.succ_mul]
    omega
theorem L3 (N : Nat) (hN : 100 < N) (l : List S_api_Entry) (hll : l.length < 100) (rs : List S_api_Receipt) (hl : rs.length < 100) : ∀ (k n : Nat), n ≤ l.length → l.length - n < k →
    p_umbraref37_Audit_L3 N l rs k (upto (seqs rs) n) (n : Int) = some (upto (seqs rs) l.length)
  | 0, _, _, h => by omega
  | k + 1, n, hn, hk => by
    rw [p_umbraref37_Audit_L3, letO_e]
    by_cases h1 : n < l.length
    · have hb := upto_len (seqs rs) n
      have hsl : (seqs rs).length = rs.length := by simp [seqs]
      have hm : n * (seqs rs).length ≤ 99 * 99 := Nat.mul_le_mul (by omega) (by omega)
      rw [dt (show (n : Int) < (l.length : Int) by omega), cond_true, show (0 : Int) = ((0 : Nat) : Int) from rfl, L4 N rs hl n N 0 _ (by omega) (by omega) (by omega), Option.bind_some, I64_s (by omega), List.drop_zero]
      exact L3 N hN l hll rs hl k (n + 1) (by omega) (by omega)
    · rw [df (show ¬ (n : Int) < (l.length : Int) by omega), cond_false, show n = l.length by omega]
theorem upto_mem (ks : List Int) : ∀ (n : Nat) (x : Int), x ∈ upto ks n → x < (n : Int)
  | 0, x, h => by simp [upto] at h
  | n + 1, x, h => by
    simp only [upto, List.mem_append, List.mem_filter, beq_iff_eq] at h
    rcases h with h | h
    · have := upto_mem ks n x h; omega
    · omega
theorem upto_sorted (ks : List Int) : ∀ n, (upto ks n).Pairwise (fun a b => decide (a ≤ b) = true)
  | 0 => by simp [upto]
  | n + 1 => by
    simp only [upto]
    rw [List.pairwise_append]
    refine ⟨upto_sorted ks n, ?_, ?_⟩
    · refine List.Pairwise.imp_of_mem (R := fun _ _ => True) ?_ (List.pairwise_of_forall (by simp))
      intro a b ha hb _
      simp only [List.mem_filter, beq_iff_eq] at ha hb
      rw [ha.2, hb.2]
      simp
    · intro a ha b hb
      have := upto_mem ks n a ha
      simp only [List.mem_filter, beq_iff_eq] at hb
      rw [hb.2]
      simp
      omega
theorem upto_perm (ks : List Int) (h0 : ∀ x ∈ ks, 0 ≤ x) : ∀ n : Nat, (upto ks n).Perm (ks.filter fun x => decide (x < (n : Int)))
  | 0 => by
    have : ks.filter (fun x => decide (x < ((0 : Nat) : Int))) = [] := by
      rw [List.filter_eq_nil_iff]
      intro x hx
      have := h0 x hx
      simp
      omega
    rw [this]
    exact List.Perm.refl _
  | n + 1 => by
    simp only [upto]
    refine ((upto_perm ks h0 n).append_right _).trans ?_
    clear h0
    induction ks with
    | nil => exact List.Perm.refl _
    | cons x ks ih =>
      by_cases h1 : x < (n : Int)
      · rw [List.filter_cons_of_pos (by simpa using h1), List.filter_cons_of_neg (by simp; omega), List.filter_cons_of_pos (by simp; omega)]
        exact ih.cons x
      · by_cases h2 : x = (n : Int)
        · rw [List.filter_cons_of_neg (by simpa using h1), List.filter_cons_of_pos (by simpa using h2), List.filter_cons_of_pos (by simp; omega)]
          exact List.perm_middle.trans (ih.cons x)
        · rw [List.filter_cons_of_neg (by simpa using h1), List.filter_cons_of_neg (by simpa using h2), List.filter_cons_of_neg (by simp; omega)]
          exact ih
theorem upto_sort (ks : List Int) (n : Nat) (h : ∀ x ∈ ks, inS n x) : ks.mergeSort (fun x y => decide (x ≤ y)) = upto ks n := by
  have hp : (upto ks n).Perm ks := by
    refine (upto_perm ks (fun x hx => (h x hx).1) n).trans ?_
    rw [List.filter_eq_self.2 (fun x hx => by have := (h x hx).2; simpa using this)]
  have tr : ∀ a b c : Int, decide (a ≤ b) = true → decide (b ≤ c) = true → decide (a ≤ c) = true := fun a b c h1 h2 => by simp only [decide_eq_true_eq] at *; omega
  have to : ∀ a b : Int, (decide (a ≤ b) || decide (b ≤ a)) = true := fun a b => by simp only [Bool.or_eq_true, decide_eq_true_eq]; omega
  refine List.Perm.eq_of_pairwise (le := fun a b => decide (a ≤ b) = true) (fun a b _ _ h1 h2 => ?_) (List.pairwise_mergeSort tr to ks) (upto_sorted ks n) ((List.mergeSort_perm ks _).trans hp.symm)
  simp only [decide_eq_true_eq] at h1 h2
  omega
theorem audit_same (N : Nat) (hN : 300 < N) (key : Vector Int 32) (hk : vbytes key) (layer : Int) (hl : in64 layer) (l : List S_api_Entry) (h : entsOK l) (hlen : l.length < 100) (rs : List S_api_Receipt) (hrs : ∀ r ∈ rs, RecOK r) (hrl : rs.length < 100) :
    ∃ p : List Int × Int, p_receipt_Audit N key layer l rs = some p ∧ p_umbraref37_Audit N key layer l rs = some p ∧ p.1.length ≤ rs.length := by
  unfold p_receipt_Audit p_umbraref37_Audit
  rcases auditL N hN key hk layer hl l h hlen rs hrs hrl N 0 (by omega) (by omega) (by simp [seqs]) (by simp [seqs]) with ⟨c, c1, c2⟩ | ⟨c1, c2, c3, c4⟩
  · have c1 : p_receipt_Audit_L1 N rs key layer l N [] 0 = _ := c1
    have c2 : p_umbraref37_Audit_L1 N rs key layer l N 0 = _ := c2
    rw [c1, c2]
    exact ⟨([], c), rfl, rfl, Nat.zero_le _⟩
  · have c1 : p_receipt_Audit_L1 N rs key layer l N [] 0 = _ := c1
    have c2 : p_umbraref37_Audit_L1 N rs key layer l N 0 = _ := c2
    have h3 : p_umbraref37_Audit_L3 N l rs N [] 0 = _ := L3 N (by omega) l hlen rs hrl N 0 (by omega) (by omega)
    have hs : sortO (mk rs) = some (upto (seqs rs) l.length) := by
      unfold sortO
      rw [keys_mk, upto_sort _ _ c4]
      have : okKeys (seqs rs) = true := by
        unfold okKeys
        simp only [Bool.and_eq_true, decide_eq_true_eq, List.all_eq_true]
        refine ⟨c3, ?_, by simp [seqs]; omega⟩
        intro x hx
        have := c4 x hx
        unfold inS at this
        simp [Lit.wf, IntKind.min, IntKind.max, show IntKind.i64.signed = true from rfl, show IntKind.i64.bits = 64 from rfl]
        omega
      rw [this, cond_true]
    refine ⟨(upto (seqs rs) l.length, 0), ?_, ?_, ?_⟩
    · rw [c1, Option.bind_some]
      show Option.bind (sortO (mk rs)) _ = _
      rw [hs, Option.bind_some]
    · rw [c2, Option.bind_some]
      show Option.bind (p_umbraref37_Audit_L3 N l rs N [] 0) _ = _
      rw [h3, Option.bind_some]
    · dsimp only
      rw [← upto_sort _ _ c4, List.length_mergeSort]
      simp [seqs]
theorem intsL (N : Nat) (a : List Int) (ha : a.length < 1000000) : ∀ (k i : Nat), i ≤ a.length → a.length - i < k → p_umbraref29_Ints_L1 N a a k (i : Int) = some (Sum.inl ())
  | 0, _, _, h => by omega
  | k + 1, i, hi, hk => by
    rw [p_umbraref29_Ints_L1, letO_e]
    by_cases h : i < a.length
    · rw [dt (show (i : Int) < (a.length : Int) by omega), cond_true, idx_at h, Option.bind_some, Option.bind_some, show (a[i] != a[i]) = false by simp, cond_false, I64_s (by omega)]
      exact intsL N a ha k (i + 1) (by omega) (by omega)
    · rw [df (show ¬ (i : Int) < (a.length : Int) by omega), cond_false]
theorem ints_refl (N : Nat) (a : List Int) (ha : a.length < N) (hN : N ≤ 1000000) : p_umbraref29_Ints N a a = some true := by
  unfold p_umbraref29_Ints
  rw [letO_e, show ((a.length : Int) != (a.length : Int)) = false by simp, cond_false]
  have : p_umbraref29_Ints_L1 N a a N 0 = _ := intsL N a (by omega) N 0 (by omega) (by omega)
  rw [this]
  rfl
theorem receiptAuditsT (N : Nat) (hN : 300 < N) (hN2 : N ≤ 1000000) (c : S_umbralaw37_Chain) (hc : ChainOK c) (rs : List S_api_Receipt) (hrs : ∀ r ∈ rs, RecOK r) : p_umbralaw37_ReceiptAudits N c rs = some true := by
  unfold p_umbralaw37_ReceiptAudits
  have hl : entsOK (c.gL.take 10) := hc.l.take 10
  have hlen : (c.gL.take 10).length < 100 := by simp; omega
  have hr : ∀ r ∈ rs.take 8, RecOK r := fun r h => hrs r (List.mem_of_mem_take h)
  have hrl : (rs.take 8).length < 100 := by simp; omega
  rw [few37, Option.bind_some, letO_e, show (8 : Int) = ((8 : Nat) : Int) from rfl, slcO_min, Option.bind_some]
  generalize c.gL.take 10 = l at *
  generalize rs.take 8 = q at *
  obtain ⟨p, p1, p2, p3⟩ := audit_same N hN c.gKey hc.key c.gLayer hc.layer l hl hlen q hr hrl
  rw [p1, Option.bind_some, p2, Option.bind_some, ints_refl N p.1 (by omega) hN2, Option.bind_some, letO_e, show (p.2 == p.2) = true by simp, cond_true, cond_true, works37 N hN]
  rfl
end Go.UK
