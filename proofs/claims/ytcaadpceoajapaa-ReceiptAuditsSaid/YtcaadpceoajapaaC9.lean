/- A part of the proof: what the functions of the program compute. -/
import Derived.Test.YtcaadpceoajapaaC8
namespace Go.UK
open Go Go.Proofs
set_option maxRecDepth 20000
set_option maxHeartbeats 4000000
set_option linter.all false

attribute [local irreducible] owp awl aw FnM NatFn opS Stab TOK Big

/-! umbra/umbraref29.Ints -/
def p_umbraref29_Ints_L1 (N : Nat) (a0 : (List Int)) (a1 : (List Int)) : Nat → Int → Option (Sum (Unit) (Bool))
  | 0, _ => none
  | k + 1, s3 =>
    letO (decide (s3 < ((a0.length : Int)))) fun x4 =>
    cond x4 (
      Option.bind (idx a0 s3) fun e5 =>
      Option.bind (idx a1 s3) fun e6 =>
      cond (e5 != e6) (
        some (Sum.inr false)) (
        p_umbraref29_Ints_L1 N a0 a1 k (I64 (s3 + 1)))) (
      some (Sum.inl (())))

def p_umbraref29_Ints (N : Nat) (a0 : (List Int)) (a1 : (List Int)) : Option (Bool) :=
  letO (((a0.length : Int)) != ((a1.length : Int))) fun x1 =>
  cond x1 (
    some false) (
    Option.bind (p_umbraref29_Ints_L1 N a0 a1 N 0) fun o => sumC o (fun p2 =>
      some true) (fun r => some r))

theorem umbraref29_Ints_ok {N : Nat} {a0 : (List Int)} {a1 : (List Int)} {r : Bool} (h : p_umbraref29_Ints N a0 a1 = some r) : FnM Try.prog 67 [] [(eL 1 j64 a0), (eL 1 j64 a1)] (eB r) [] := by
  unfold p_umbraref29_Ints at h
  refine fnM_of_aw (m := 26) (lo := 0) (rs := [.tmp 4]) hT Try.func67 rfl (by kernel_rfl) rfl ?_
  refine aw_sregU hT m_no [] (by kernel_rfl) ?_
  refine aw_seq ?_
  obtain ⟨x1, hx1, h⟩ := letE h
  refine aw_sregU hT m_no [] (by kernel_rfl) ?_
  refine aw_nms [(10, (eB x1))] (by subst hx1; kernel_rfl) ?_
  refine aw_condH h (by kernel_rfl) (fun _ h => ?_) (fun _ h => ?_)
  · refine aw_sregU hT m_no [] (by kernel_rfl) ?_
    refine aw_ret (tn_r ?_)
    cases h
    exact fin_r (by kernel_rfl)
  · refine aw_skip (tn_n ?_)
    refine aw_seq ?_
    refine aw_sregU hT m_no [] (by kernel_rfl) ?_
    obtain ⟨op2, h, g2⟩ := obind h
    refine aw_joinSK (fun p2 => ⟨[], []⟩) g2 ?_ (fun p2 h => ?_)
    · refine aw_block (aw_loop (fun k s => ∃ s3, p_umbraref29_Ints_L1 N a0 a1 k s3 = some op2 ∧ JR (Fr.f 26 0) ⟨[en 0 (eL 1 j64 a0), en 1 (eL 1 j64 a1), en 5 (j64 s3)], []⟩ s) (fun k s hI => ?_) N _ ⟨_, h, jr (by kernel_rfl)⟩)
      obtain ⟨s3, h, hj⟩ := hI
      cases k with
      | zero => cases h
      | succ k =>
        refine aw_jr hj ?_
        refine aw_seq ?_
        obtain ⟨x4, hx4, h⟩ := letE h
        refine aw_sregU hT m_no [] (by kernel_rfl) ?_
        refine aw_nms [(14, (eB x4))] (by subst hx4; kernel_rfl) ?_
        refine aw_condH h (by kernel_rfl) (fun _ h => ?_) (fun _ h => ?_)
        · refine aw_skip (tn_n ?_)
          refine aw_seq ?_
          refine aw_block ?_
          obtain ⟨e5, he5, h⟩ := obind h
          obtain ⟨e6, he6, h⟩ := obind h
          refine aw_sdrawV hT hmo m_no [(2, (.im (j64 e5))), (6, (.im (j64 e6)))] [] (by kernel_rfl) (by kernel_rfl) (by kernel_rfl) ⟨fun _ => big_idx hT j64 he5 (by kernel_rfl) (by kernel_rfl), fun _ => big_idx hT j64 he6 (by kernel_rfl) (by kernel_rfl), trivial⟩ trivial ?_
          refine aw_condH h (by kernel_rfl) (fun _ h => ?_) (fun _ h => ?_)
          · refine aw_sregU hT m_no [] (by kernel_rfl) ?_
            cases h
            have h := g2
            refine aw_ret (inB_r (tn_r (tn_r (inB_r (tn_r (tn_r ?_))))))
            obtain rfl := sum_e h
            exact fin_r (by kernel_rfl)
          · refine aw_skip (inB_n (tn_n ?_))
            refine aw_regU hT m_no [] (by kernel_rfl) (tn_n ?_)
            exact ⟨k, Nat.lt_succ_self k, _, h, jr (by kernel_rfl)⟩
        · refine aw_exit (tn_x (tn_x (inB_e (tn_n ?_))))
          cases h
          exact ⟨_, rfl, jr (by kernel_rfl)⟩
    · refine (tn_n ?_)
      refine aw_sregU hT m_no [] (by kernel_rfl) ?_
      refine aw_ret ?_
      cases h
      exact fin_r (by kernel_rfl)

theorem umbraref29_Ints_ok_c : callable Try.prog 67 := ⟨_, Try.func67, by decide, rfl⟩

/-! umbra/umbralaw37.ReceiptAudits -/
def m_umbralaw37_ReceiptAudits : Nat → Bool := imL [2]

def p_umbralaw37_ReceiptAudits (N : Nat) (a0 : S_umbralaw37_Chain) (a1 : (List S_api_Receipt)) : Option (Bool) :=
  Option.bind (p_umbralaw37_few N a0.gL) fun r1 =>
  letO (imin ((a1.length : Int)) 8) fun x3 =>
  Option.bind (slcO a1 0 x3) fun s4 =>
  Option.bind (p_receipt_Audit N a0.gKey a0.gLayer r1 s4) fun r5 =>
  Option.bind (p_umbraref37_Audit N a0.gKey a0.gLayer r1 s4) fun r6 =>
  Option.bind (Option.bind (p_umbraref29_Ints N r5.1 r6.1) fun r8 =>
  letO (cond r8 (r5.2 == r6.2) false) fun x9 =>
  cond x9 (
    Option.bind (p_umbralaw37_works N ) fun r10 =>
    some r10) (
    some false)) fun p7 =>
  some p7

theorem umbralaw37_ReceiptAudits_ok {N : Nat} {a0 : S_umbralaw37_Chain} {a1 : (List S_api_Receipt)} {r : Bool} (h : p_umbralaw37_ReceiptAudits N a0 a1 = some r) : FnM Try.prog 17 [] [(S_umbralaw37_Chain.enc a0), (eL 100 S_api_Receipt.enc a1)] (eB r) [] := by
  unfold p_umbralaw37_ReceiptAudits at h
  refine fnM_of_aw (m := 49) (lo := 0) (rs := [.tmp 4]) hT Try.func17 rfl (by kernel_rfl) rfl ?_
  refine aw_sregU hT m_umbralaw37_ReceiptAudits [] (by kernel_rfl) ?_
  refine aw_sreg ?_
  refine awl_u hT m_umbralaw37_ReceiptAudits [] 2 (by kernel_rfl) ?_
  obtain ⟨r1, hr1, h⟩ := obind h
  refine awl_big (big_call [] (umbralaw37_few_ok hr1) umbralaw37_few_ok_c (by kernel_rfl) (by kernel_rfl)) (by kernel_rfl) ?_
  first | refine awl_to ⟨[en 1 (eL 100 S_api_Receipt.enc a1), en 2 (.im (S_umbralaw37_Chain.enc a0)), en 12 (eL 36 S_api_Entry.enc r1)], []⟩ (by kernel_rfl) ?_ | skip
  refine awl_u hT m_umbralaw37_ReceiptAudits [] 1 (by kernel_rfl) ?_
  refine awl_nil ?_
  refine aw_sreg ?_
  obtain ⟨x3, hx3, h⟩ := letE h
  refine awl_u hT m_umbralaw37_ReceiptAudits [] 4 (by kernel_rfl) ?_
  refine awl_nms [(16, (j64 x3))] (by subst hx3; kernel_rfl) ?_
  obtain ⟨s4, hs4, h⟩ := obind h
  refine awl_big (big_slc hT (k := 100) S_api_Receipt.enc hs4 (by kernel_rfl) (by kernel_rfl)) (by kernel_rfl) ?_
  refine awl_u hT m_umbralaw37_ReceiptAudits [] 1 (by kernel_rfl) ?_
  refine awl_nil ?_
  refine aw_sreg ?_
  refine awl_u hT m_umbralaw37_ReceiptAudits [] 6 (by kernel_rfl) ?_
  obtain ⟨r5, hr5, h⟩ := obind h
  refine awl_big (big_call [] (receipt_Audit_ok hr5) receipt_Audit_ok_c (by kernel_rfl) (by kernel_rfl)) (by kernel_rfl) ?_
  refine awl_u hT m_umbralaw37_ReceiptAudits [] 5 (by kernel_rfl) ?_
  refine awl_nil ?_
  refine aw_sreg ?_
  refine awl_u hT m_umbralaw37_ReceiptAudits [] 6 (by kernel_rfl) ?_
  obtain ⟨r6, hr6, h⟩ := obind h
  refine awl_big (big_call [] (umbraref37_Audit_ok hr6) umbraref37_Audit_ok_c (by kernel_rfl) (by kernel_rfl)) (by kernel_rfl) ?_
  refine awl_u hT m_umbralaw37_ReceiptAudits [] 5 (by kernel_rfl) ?_
  refine awl_nil ?_
  obtain ⟨p7, h, g7⟩ := obind h
  refine aw_joinT ⟨[en 4 (eB p7)], []⟩ ?_ ?_
  · refine aw_region ?_
    refine awl_u hT m_umbralaw37_ReceiptAudits [] 2 (by kernel_rfl) ?_
    obtain ⟨r8, hr8, h⟩ := obind h
    refine awl_big (big_call [] (umbraref29_Ints_ok hr8) umbraref29_Ints_ok_c (by kernel_rfl) (by kernel_rfl)) (by kernel_rfl) ?_
    obtain ⟨x9, hx9, h⟩ := letE h
    refine awl_u hT m_umbralaw37_ReceiptAudits [] 6 (by kernel_rfl) ?_
    refine awl_nms [(46, (eB x9))] (by subst hx9; kernel_rfl) ?_
    refine awl_split 46 h (by kernel_rfl) (fun h => ?_) (fun h => ?_)
    · obtain ⟨r10, hr10, h⟩ := obind h
      refine awl_big (big_call [] (umbralaw37_works_ok hr10) umbralaw37_works_ok_c (by kernel_rfl) (by kernel_rfl)) (by kernel_rfl) ?_
      refine awl_u hT m_umbralaw37_ReceiptAudits [46] 2 (by kernel_rfl) ?_
      refine awl_nil (tn_n ?_)
      cases h
      exact jr (by kernel_rfl)
    · refine awl_u hT m_umbralaw37_ReceiptAudits [46] 3 (by kernel_rfl) ?_
      refine awl_nil (tn_n ?_)
      cases h
      exact jr (by kernel_rfl)
  · have h := g7
    refine aw_ret ?_
    cases h
    exact fin_r (by kernel_rfl)

theorem umbralaw37_ReceiptAudits_ok_c : callable Try.prog 17 := ⟨_, Try.func17, by decide, rfl⟩

end Go.UK
