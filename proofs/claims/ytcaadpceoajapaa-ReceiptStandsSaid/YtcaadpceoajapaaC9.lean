/- A part of the proof: what the functions of the program compute. -/
import Derived.Test.YtcaadpceoajapaaC8
namespace Go.UK
open Go Go.Proofs
set_option maxRecDepth 20000
set_option maxHeartbeats 4000000
set_option linter.all false

attribute [local irreducible] owp awl aw FnM NatFn opS Stab TOK Big

/-! umbra/umbraref29.Ints -/
def p_umbraref29_Ints_L1 (N : Nat) (a0 : (List Int)) (a1 : (List Int)) : Nat → Int → Option (Sum (Unit) (Bool))
  | 0, _ => none
  | k + 1, s3 =>
    letO (decide (s3 < ((a0.length : Int)))) fun x4 =>
    cond x4 (
      Option.bind (idx a0 s3) fun e5 =>
      Option.bind (idx a1 s3) fun e6 =>
      cond (e5 != e6) (
        some (Sum.inr false)) (
        p_umbraref29_Ints_L1 N a0 a1 k (I64 (s3 + 1)))) (
      some (Sum.inl (())))

def p_umbraref29_Ints (N : Nat) (a0 : (List Int)) (a1 : (List Int)) : Option (Bool) :=
  letO (((a0.length : Int)) != ((a1.length : Int))) fun x1 =>
  cond x1 (
    some false) (
    Option.bind (p_umbraref29_Ints_L1 N a0 a1 N 0) fun o => sumC o (fun p2 =>
      some true) (fun r => some r))

theorem umbraref29_Ints_ok {N : Nat} {a0 : (List Int)} {a1 : (List Int)} {r : Bool} (h : p_umbraref29_Ints N a0 a1 = some r) : FnM Try.prog 67 [] [(eL 1 j64 a0), (eL 1 j64 a1)] (eB r) [] := by
  unfold p_umbraref29_Ints at h
  refine fnM_of_aw (m := 26) (lo := 0) (rs := [.tmp 4]) hT Try.func67 rfl (by kernel_rfl) rfl ?_
  refine aw_sregU hT m_no [] (by kernel_rfl) ?_
  refine aw_seq ?_
  obtain ⟨x1, hx1, h⟩ := letE h
  refine aw_sregU hT m_no [] (by kernel_rfl) ?_
  refine aw_nms [(10, (eB x1))] (by subst hx1; kernel_rfl) ?_
  refine aw_condH h (by kernel_rfl) (fun _ h => ?_) (fun _ h => ?_)
  · refine aw_sregU hT m_no [] (by kernel_rfl) ?_
    refine aw_ret (tn_r ?_)
    cases h
    exact fin_r (by kernel_rfl)
  · refine aw_skip (tn_n ?_)
    refine aw_seq ?_
    refine aw_sregU hT m_no [] (by kernel_rfl) ?_
    obtain ⟨op2, h, g2⟩ := obind h
    refine aw_joinSK (fun p2 => ⟨[], []⟩) g2 ?_ (fun p2 h => ?_)
    · refine aw_block (aw_loop (fun k s => ∃ s3, p_umbraref29_Ints_L1 N a0 a1 k s3 = some op2 ∧ JR (Fr.f 26 0) ⟨[en 0 (eL 1 j64 a0), en 1 (eL 1 j64 a1), en 5 (j64 s3)], []⟩ s) (fun k s hI => ?_) N _ ⟨_, h, jr (by kernel_rfl)⟩)
      obtain ⟨s3, h, hj⟩ := hI
      cases k with
      | zero => cases h
      | succ k =>
        refine aw_jr hj ?_
        refine aw_seq ?_
        obtain ⟨x4, hx4, h⟩ := letE h
        refine aw_sregU hT m_no [] (by kernel_rfl) ?_
        refine aw_nms [(14, (eB x4))] (by subst hx4; kernel_rfl) ?_
        refine aw_condH h (by kernel_rfl) (fun _ h => ?_) (fun _ h => ?_)
        · refine aw_skip (tn_n ?_)
          refine aw_seq ?_
          refine aw_block ?_
          obtain ⟨e5, he5, h⟩ := obind h
          obtain ⟨e6, he6, h⟩ := obind h
          refine aw_sdrawV hT hmo m_no [(2, (.im (j64 e5))), (6, (.im (j64 e6)))] [] (by kernel_rfl) (by kernel_rfl) (by kernel_rfl) ⟨fun _ => big_idx hT j64 he5 (by kernel_rfl) (by kernel_rfl), fun _ => big_idx hT j64 he6 (by kernel_rfl) (by kernel_rfl), trivial⟩ trivial ?_
          refine aw_condH h (by kernel_rfl) (fun _ h => ?_) (fun _ h => ?_)
          · refine aw_sregU hT m_no [] (by kernel_rfl) ?_
            cases h
            have h := g2
            refine aw_ret (inB_r (tn_r (tn_r (inB_r (tn_r (tn_r ?_))))))
            obtain rfl := sum_e h
            exact fin_r (by kernel_rfl)
          · refine aw_skip (inB_n (tn_n ?_))
            refine aw_regU hT m_no [] (by kernel_rfl) (tn_n ?_)
            exact ⟨k, Nat.lt_succ_self k, _, h, jr (by kernel_rfl)⟩
        · refine aw_exit (tn_x (tn_x (inB_e (tn_n ?_))))
          cases h
          exact ⟨_, rfl, jr (by kernel_rfl)⟩
    · refine (tn_n ?_)
      refine aw_sregU hT m_no [] (by kernel_rfl) ?_
      refine aw_ret ?_
      cases h
      exact fin_r (by kernel_rfl)

theorem umbraref29_Ints_ok_c : callable Try.prog 67 := ⟨_, Try.func67, by decide, rfl⟩

/-! umbra/umbralaw37.ReceiptAudits -/
def m_umbralaw37_ReceiptAudits : Nat → Bool := imL [2]

def p_umbralaw37_ReceiptAudits (N : Nat) (a0 : S_umbralaw37_Chain) (a1 : (List S_api_Receipt)) : Option (Bool) :=
  Option.bind (p_umbralaw37_few N a0.gL) fun r1 =>
  letO (imin ((a1.length : Int)) 8) fun x3 =>
  Option.bind (slcO a1 0 x3) fun s4 =>
  Option.bind (p_receipt_Audit N a0.gKey a0.gLayer r1 s4) fun r5 =>
  Option.bind (p_umbraref37_Audit N a0.gKey a0.gLayer r1 s4) fun r6 =>
  Option.bind (Option.bind (p_umbraref29_Ints N r5.1 r6.1) fun r8 =>
  letO (cond r8 (r5.2 == r6.2) false) fun x9 =>
  cond x9 (
    Option.bind (p_umbralaw37_works N ) fun r10 =>
    some r10) (
    some false)) fun p7 =>
  some p7

theorem umbralaw37_ReceiptAudits_ok {N : Nat} {a0 : S_umbralaw37_Chain} {a1 : (List S_api_Receipt)} {r : Bool} (h : p_umbralaw37_ReceiptAudits N a0 a1 = some r) : FnM Try.prog 17 [] [(S_umbralaw37_Chain.enc a0), (eL 100 S_api_Receipt.enc a1)] (eB r) [] := by
  unfold p_umbralaw37_ReceiptAudits at h
  refine fnM_of_aw (m := 49) (lo := 0) (rs := [.tmp 4]) hT Try.func17 rfl (by kernel_rfl) rfl ?_
  refine aw_sregU hT m_umbralaw37_ReceiptAudits [] (by kernel_rfl) ?_
  refine aw_sreg ?_
  refine awl_u hT m_umbralaw37_ReceiptAudits [] 2 (by kernel_rfl) ?_
  obtain ⟨r1, hr1, h⟩ := obind h
  refine awl_big (big_call [] (umbralaw37_few_ok hr1) umbralaw37_few_ok_c (by kernel_rfl) (by kernel_rfl)) (by kernel_rfl) ?_
  first | refine awl_to ⟨[en 1 (eL 100 S_api_Receipt.enc a1), en 2 (.im (S_umbralaw37_Chain.enc a0)), en 12 (eL 36 S_api_Entry.enc r1)], []⟩ (by kernel_rfl) ?_ | skip
  refine awl_u hT m_umbralaw37_ReceiptAudits [] 1 (by kernel_rfl) ?_
  refine awl_nil ?_
  refine aw_sreg ?_
  obtain ⟨x3, hx3, h⟩ := letE h
  refine awl_u hT m_umbralaw37_ReceiptAudits [] 4 (by kernel_rfl) ?_
  refine awl_nms [(16, (j64 x3))] (by subst hx3; kernel_rfl) ?_
  obtain ⟨s4, hs4, h⟩ := obind h
  refine awl_big (big_slc hT (k := 100) S_api_Receipt.enc hs4 (by kernel_rfl) (by kernel_rfl)) (by kernel_rfl) ?_
  refine awl_u hT m_umbralaw37_ReceiptAudits [] 1 (by kernel_rfl) ?_
  refine awl_nil ?_
  refine aw_sreg ?_
  refine awl_u hT m_umbralaw37_ReceiptAudits [] 6 (by kernel_rfl) ?_
  obtain ⟨r5, hr5, h⟩ := obind h
  refine awl_big (big_call [] (receipt_Audit_ok hr5) receipt_Audit_ok_c (by kernel_rfl) (by kernel_rfl)) (by kernel_rfl) ?_
  refine awl_u hT m_umbralaw37_ReceiptAudits [] 5 (by kernel_rfl) ?_
  refine awl_nil ?_
  refine aw_sreg ?_
  refine awl_u hT m_umbralaw37_ReceiptAudits [] 6 (by kernel_rfl) ?_
  obtain ⟨r6, hr6, h⟩ := obind h
  refine awl_big (big_call [] (umbraref37_Audit_ok hr6) umbraref37_Audit_ok_c (by kernel_rfl) (by kernel_rfl)) (by kernel_rfl) ?_
  refine awl_u hT m_umbralaw37_ReceiptAudits [] 5 (by kernel_rfl) ?_
  refine awl_nil ?_
  obtain ⟨p7, h, g7⟩ := obind h
  refine aw_joinT ⟨[en 4 (eB p7)], []⟩ ?_ ?_
  · refine aw_region ?_
    refine awl_u hT m_umbralaw37_ReceiptAudits [] 2 (by kernel_rfl) ?_
    obtain ⟨r8, hr8, h⟩ := obind h
    refine awl_big (big_call [] (umbraref29_Ints_ok hr8) umbraref29_Ints_ok_c (by kernel_rfl) (by kernel_rfl)) (by kernel_rfl) ?_
    obtain ⟨x9, hx9, h⟩ := letE h
    refine awl_u hT m_umbralaw37_ReceiptAudits [] 6 (by kernel_rfl) ?_
    refine awl_nms [(46, (eB x9))] (by subst hx9; kernel_rfl) ?_
    refine awl_split 46 h (by kernel_rfl) (fun h => ?_) (fun h => ?_)
    · obtain ⟨r10, hr10, h⟩ := obind h
      refine awl_big (big_call [] (umbralaw37_works_ok hr10) umbralaw37_works_ok_c (by kernel_rfl) (by kernel_rfl)) (by kernel_rfl) ?_
      refine awl_u hT m_umbralaw37_ReceiptAudits [46] 2 (by kernel_rfl) ?_
      refine awl_nil (tn_n ?_)
      cases h
      exact jr (by kernel_rfl)
    · refine awl_u hT m_umbralaw37_ReceiptAudits [46] 3 (by kernel_rfl) ?_
      refine awl_nil (tn_n ?_)
      cases h
      exact jr (by kernel_rfl)
  · have h := g7
    refine aw_ret ?_
    cases h
    exact fin_r (by kernel_rfl)

theorem umbralaw37_ReceiptAudits_ok_c : callable Try.prog 17 := ⟨_, Try.func17, by decide, rfl⟩

/-! umbra/chain.New -/
def p_chain_New (N : Nat) (a0 : Int) : Option ((Vector Int 32)) :=
  Option.bind (p_chain_Start N a0) fun r1 =>
  some r1

theorem chain_New_ok {N : Nat} {a0 : Int} {r : (Vector Int 32)} (h : p_chain_New N a0 = some r) : FnM Try.prog 68 [] [(j64 a0)] (.ref 0 [] 0) [.var (.st 35 [(.st 34 [(eA 32 1 k8 r), (k32 0), (eB true)]), (.v (.slice none 0 0))])] := by
  unfold p_chain_New at h
  refine fnM_of_aw (m := 8) (lo := 0) (rs := [.tmp 2]) hT Try.func68 rfl (by kernel_rfl) rfl ?_
  refine aw_sregU hT m_no [] (by kernel_rfl) ?_
  refine aw_sreg ?_
  refine awl_u hT m_no [] 1 (by kernel_rfl) ?_
  obtain ⟨r1, hr1, h⟩ := obind h
  refine awl_big (big_call [] (chain_Start_ok hr1) chain_Start_ok_c (by kernel_rfl) (by kernel_rfl)) (by kernel_rfl) ?_
  refine awl_u hT m_no [] 4 (by kernel_rfl) ?_
  refine awl_nil ?_
  refine aw_ret ?_
  cases h
  exact fin_r (by kernel_rfl)

theorem chain_New_ok_c : callable Try.prog 68 := ⟨_, Try.func68, by decide, rfl⟩

/-! (*umbra/chain.Log).none -/
def p_chain_Log_none_r (N : Nat) (b1 : (List S_api_Entry)) (a1 : S_chain_top) : Option (Bool) :=
  some (!a1.gmade)

theorem chain_Log_none_r_ok {N : Nat} {b1 : (List S_api_Entry)} {a1 : S_chain_top} {r : Bool} (h : p_chain_Log_none_r N b1 a1 = some r) : FnM Try.prog 135 [.var (.st 35 [(S_chain_top.enc a1), (eO 1 36 S_api_Entry.enc b1)]), .tail (b1.length * 36)] [(.ref 0 [] 0)] (eB r) [.var (.st 35 [(S_chain_top.enc a1), (eO 1 36 S_api_Entry.enc b1)]), .tail (b1.length * 36)] := by
  unfold p_chain_Log_none_r at h
  refine fnM_of_aw (m := 13) (lo := 2) (rs := [.tmp 2]) hT Try.func135 rfl (by kernel_rfl) rfl ?_
  refine aw_sregU hT m_no [] (by kernel_rfl) ?_
  refine aw_sreg ?_
  refine awl_u hT m_no [] 1 (by kernel_rfl) ?_
  refine awl_big (big_eqp hT (t := 112) (x := (.ref 0 [] 0)) (b := true) (by kernel_rfl) rfl rfl (by kernel_rfl)) (by kernel_rfl) ?_
  refine awl_u hT m_no [5] 9 (by kernel_rfl) ?_
  refine awl_nil ?_
  refine aw_ret ?_
  cases h
  exact fin_r (by kernel_rfl)

theorem chain_Log_none_r_ok_c : callable Try.prog 135 := ⟨_, Try.func135, by decide, rfl⟩

/-! (*umbra/chain.top).push -/
def m_chain_top_push_rd : Nat → Bool := imL [3]

def p_chain_top_push_rd (N : Nat) (b1 : (List S_api_Entry)) (a1 : S_api_Entry) (a2 : S_chain_top) : Option ((Vector Int 32)) :=
  Option.bind (p_chain_Next N a2.ghead a1) fun r1 =>
  some r1

theorem chain_top_push_rd_ok {N : Nat} {b1 : (List S_api_Entry)} {a1 : S_api_Entry} {a2 : S_chain_top} {r : (Vector Int 32)} (h : p_chain_top_push_rd N b1 a1 a2 = some r) : FnM Try.prog 136 [.var (.st 35 [(S_chain_top.enc a2), (eO 1 36 S_api_Entry.enc b1)]), .tail (b1.length * 36)] [(.ref 0 [0] 0), (S_api_Entry.enc a1)] (.tup []) [.var (.st 35 [(.st 34 [(eA 32 1 k8 r), (k32 a1.gClock), (eB a2.gmade)]), (eO 1 36 S_api_Entry.enc b1)]), .tail (b1.length * 36)] := by
  unfold p_chain_top_push_rd at h
  refine fnM_of_aw (m := 18) (lo := 2) (rs := []) hT Try.func136 rfl (by kernel_rfl) rfl ?_
  refine aw_sregU hT m_chain_top_push_rd [] (by kernel_rfl) ?_
  obtain ⟨r1, hr1, h⟩ := obind h
  refine aw_drawM hT hmo m_chain_top_push_rd [(7, (eA 32 1 k8 r1))] [] (by kernel_rfl) (by kernel_rfl) (by kernel_rfl) ⟨fun _ => big_call0 (chain_Next_ok hr1) chain_Next_ok_c (by kernel_rfl) (by kernel_rfl) (by kernel_rfl), trivial⟩ trivial ?_
  cases h
  exact fin_n (by kernel_rfl)

theorem chain_top_push_rd_ok_c : callable Try.prog 136 := ⟨_, Try.func136, by decide, rfl⟩

/-! (*umbra/chain.Log).Add -/
def m_chain_Log_Add_rdddd : Nat → Bool := imL [9]

def p_chain_Log_Add_rdddd (N : Nat) (b1 : (List S_api_Entry)) (a1 : Int) (a2 : Int) (a3 : Int) (a4 : (Vector Int 32)) (a5 : S_chain_top) : Option ((List S_api_Entry) × (Vector Int 32) × Int × S_api_Entry) :=
  Option.bind (p_chain_Log_none_r N b1 a5) fun r1 =>
  cond r1 (
    some ((b1, a5.ghead, a5.gclock, S_api_Entry.mk 0 0 0 0 (Vector.replicate 32 0)))) (
    Option.bind (appO 64 b1 (([S_api_Entry.mk ((b1.length : Int)) (imax a1 a5.gclock) a2 a3 a4] : List S_api_Entry))) fun z2 =>
    Option.bind (p_chain_top_push_rd N z2 (S_api_Entry.mk ((b1.length : Int)) (imax a1 a5.gclock) a2 a3 a4) a5) fun r3 =>
    some ((z2, r3, (S_api_Entry.mk ((b1.length : Int)) (imax a1 a5.gclock) a2 a3 a4).gClock, S_api_Entry.mk ((b1.length : Int)) (imax a1 a5.gclock) a2 a3 a4)))

theorem chain_Log_Add_rdddd_ok {N : Nat} {b1 : (List S_api_Entry)} {a1 : Int} {a2 : Int} {a3 : Int} {a4 : (Vector Int 32)} {a5 : S_chain_top} {r : (List S_api_Entry) × (Vector Int 32) × Int × S_api_Entry} (h : p_chain_Log_Add_rdddd N b1 a1 a2 a3 a4 a5 = some r) : FnM Try.prog 69 [.var (.st 35 [(S_chain_top.enc a5), (eO 1 36 S_api_Entry.enc b1)]), .tail (b1.length * 36)] [(.ref 0 [] 0), (k32 a1), (j64 a2), (j64 a3), (eA 32 1 k8 a4)] (S_api_Entry.enc r.2.2.2) [.var (.st 35 [(.st 34 [(eA 32 1 k8 r.2.1), (k32 r.2.2.1), (eB a5.gmade)]), (eO 1 36 S_api_Entry.enc r.1)]), .tail (r.1.length * 36)] := by
  unfold p_chain_Log_Add_rdddd at h
  refine fnM_of_aw (m := 47) (lo := 2) (rs := [.cell 10 115]) hT Try.func69 rfl (by kernel_rfl) rfl ?_
  refine aw_sregU hT m_chain_Log_Add_rdddd [] (by kernel_rfl) ?_
  refine aw_seq ?_
  refine aw_sreg ?_
  refine awl_u hT m_chain_Log_Add_rdddd [] 1 (by kernel_rfl) ?_
  obtain ⟨r1, hr1, h⟩ := obind h
  refine awl_big (big_call [0, 1] (chain_Log_none_r_ok hr1) chain_Log_none_r_ok_c (by kernel_rfl) (by kernel_rfl)) (by kernel_rfl) ?_
  refine awl_nil ?_
  refine aw_condH h (by kernel_rfl) (fun _ h => ?_) (fun _ h => ?_)
  · refine aw_sregU hT m_chain_Log_Add_rdddd [] (by kernel_rfl) ?_
    refine aw_ret (tn_r ?_)
    cases h
    exact fin_r (by kernel_rfl)
  · refine aw_skip (tn_n ?_)
    refine aw_sdrawV hT hmo m_chain_Log_Add_rdddd [] [] (by kernel_rfl) (by kernel_rfl) (by kernel_rfl) trivial trivial ?_
    obtain ⟨z2, hz2, h⟩ := obind h
    refine aw_sdrawV hT hmo m_chain_Log_Add_rdddd [(6, (.sl 36 1 [(.st 36 [(j64 ((b1.length : Int))), (k32 (imax a1 a5.gclock)), (j64 a2), (j64 a3), (eA 32 1 k8 a4)])]))] [(7, fun _ => ((eO 1 36 S_api_Entry.enc z2), [.var (.st 35 [(S_chain_top.enc a5), (eO 1 36 S_api_Entry.enc b1)]), .tail (z2.length * 36), .var (.st 36 [(j64 0), (k32 0), (j64 0), (j64 0), (eA 32 1 k8 (Vector.replicate 32 0))]), .var (.st 36 [(j64 ((b1.length : Int))), (k32 (imax a1 a5.gclock)), (j64 a2), (j64 a3), (eA 32 1 k8 a4)])]))] (by kernel_rfl) (by kernel_rfl) (by kernel_rfl) ⟨fun _ => big_row hT (x := (.sl 36 1 [(.st 36 [(j64 ((b1.length : Int))), (k32 (imax a1 a5.gclock)), (j64 a2), (j64 a3), (eA 32 1 k8 a4)])])) (by kernel_rfl) (by kernel_rfl), trivial⟩ ⟨big_at (big_app hT S_api_Entry.enc (id := 1) (k := 36) hz2 (by kernel_rfl) (by kernel_rfl)) (by kernel_rfl), trivial⟩ ?_
    obtain ⟨r3, hr3, h⟩ := obind h
    refine aw_sdrawV hT hmo m_chain_Log_Add_rdddd [] [(4, fun _ => ((.tup []), [.var (.st 35 [(.st 34 [(eA 32 1 k8 r3), (k32 ((S_api_Entry.mk ((b1.length : Int)) (imax a1 a5.gclock) a2 a3 a4).gClock)), (eB a5.gmade)]), (eO 1 36 S_api_Entry.enc z2)]), .tail (z2.length * 36), .var (.st 36 [(j64 0), (k32 0), (j64 0), (j64 0), (eA 32 1 k8 (Vector.replicate 32 0))]), .var (.st 36 [(j64 ((b1.length : Int))), (k32 (imax a1 a5.gclock)), (j64 a2), (j64 a3), (eA 32 1 k8 a4)])]))] (by kernel_rfl) (by kernel_rfl) (by kernel_rfl) trivial ⟨big_at (big_call [0, 1] (chain_top_push_rd_ok hr3) chain_top_push_rd_ok_c (by kernel_rfl) (by kernel_rfl)) (by kernel_rfl), trivial⟩ ?_
    refine aw_sregU hT m_chain_Log_Add_rdddd [] (by kernel_rfl) ?_
    refine aw_ret ?_
    cases h
    exact fin_r (by kernel_rfl)

theorem chain_Log_Add_rdddd_ok_c : callable Try.prog 69 := ⟨_, Try.func69, by decide, rfl⟩

/-! slices.Clone[[]umbra/api.Entry,umbra/api.Entry] -/
def p_slices_Clone_api_Entry_api_Entry (N : Nat) (a0 : (List S_api_Entry)) : Option ((List S_api_Entry)) :=
  Option.bind (appO 64 (([] : List S_api_Entry)) a0) fun z1 =>
  some z1

theorem slices_Clone_api_Entry_api_Entry_ok {N : Nat} {a0 : (List S_api_Entry)} {r : (List S_api_Entry)} (h : p_slices_Clone_api_Entry_api_Entry N a0 = some r) : FnM Try.prog 137 [] [(eL 36 S_api_Entry.enc a0)] (eL 36 S_api_Entry.enc r) [] := by
  unfold p_slices_Clone_api_Entry_api_Entry at h
  refine fnM_of_aw (m := 8) (lo := 0) (rs := [.tmp 2]) hT Try.func137 rfl (by kernel_rfl) rfl ?_
  refine aw_sregU hT m_no [] (by kernel_rfl) ?_
  refine aw_seq ?_
  refine aw_sreg ?_
  refine awl_u hT m_no [] 1 (by kernel_rfl) ?_
  refine awl_eqn hT (d := 4) (t := 54) (e := 115) (k := 36) (x := (eL 36 S_api_Entry.enc a0)) (es := List.map S_api_Entry.enc a0) rfl rfl (by kernel_rfl) rfl (by kernel_rfl) (by kernel_rfl) ?_ (fun he => ?_)
  · refine awl_nil ?_
    refine aw_condB (b := false) (c := false) rfl (by kernel_rfl) ?_
    refine aw_skip (tn_n ?_)
    refine aw_sreg ?_
    refine awl_big (big_rowO hT S_api_Entry.enc (k := 36) ([] : List S_api_Entry) (by kernel_rfl) (by kernel_rfl)) (by kernel_rfl) ?_
    refine awl_u hT m_no [] 1 (by kernel_rfl) ?_
    obtain ⟨z1, hz1, h⟩ := obind h
    refine awl_big (big_app hT S_api_Entry.enc (id := 0) (k := 36) hz1 (by kernel_rfl) (by kernel_rfl)) (by kernel_rfl) ?_
    refine awl_u hT m_no [] 1 (by kernel_rfl) ?_
    refine awl_nil ?_
    refine aw_ret ?_
    cases h
    exact fin_r (by kernel_rfl)
  · have h0 : a0 = [] := List.map_eq_nil_iff.1 he
    subst h0
    change some [] = _ at h
    refine awl_nil ?_
    refine aw_condB (b := true) (c := true) rfl (by kernel_rfl) ?_
    refine aw_sregU hT m_no [] (by kernel_rfl) ?_
    refine aw_ret (tn_r ?_)
    cases h
    exact fin_r (by kernel_rfl)

theorem slices_Clone_api_Entry_api_Entry_ok_c : callable Try.prog 137 := ⟨_, Try.func137, by decide, rfl⟩

/-! (*umbra/chain.Log).Entries -/
def p_chain_Log_Entries_r (N : Nat) (b1 : (List S_api_Entry)) (a1 : S_chain_top) : Option ((List S_api_Entry)) :=
  Option.bind (p_chain_Log_none_r N b1 a1) fun r1 =>
  cond r1 (
    some []) (
    Option.bind (p_slices_Clone_api_Entry_api_Entry N b1) fun r2 =>
    some r2)

theorem chain_Log_Entries_r_ok {N : Nat} {b1 : (List S_api_Entry)} {a1 : S_chain_top} {r : (List S_api_Entry)} (h : p_chain_Log_Entries_r N b1 a1 = some r) : FnM Try.prog 70 [.var (.st 35 [(S_chain_top.enc a1), (eO 1 36 S_api_Entry.enc b1)]), .tail (b1.length * 36)] [(.ref 0 [] 0)] (eL 36 S_api_Entry.enc r) [.var (.st 35 [(S_chain_top.enc a1), (eO 1 36 S_api_Entry.enc b1)]), .tail (b1.length * 36)] := by
  unfold p_chain_Log_Entries_r at h
  refine fnM_of_aw (m := 10) (lo := 2) (rs := [.tmp 2]) hT Try.func70 rfl (by kernel_rfl) rfl ?_
  refine aw_sregU hT m_no [] (by kernel_rfl) ?_
  refine aw_seq ?_
  refine aw_sreg ?_
  refine awl_u hT m_no [] 1 (by kernel_rfl) ?_
  obtain ⟨r1, hr1, h⟩ := obind h
  refine awl_big (big_call [0, 1] (chain_Log_none_r_ok hr1) chain_Log_none_r_ok_c (by kernel_rfl) (by kernel_rfl)) (by kernel_rfl) ?_
  refine awl_nil ?_
  refine aw_condH h (by kernel_rfl) (fun _ h => ?_) (fun _ h => ?_)
  · refine aw_sregU hT m_no [] (by kernel_rfl) ?_
    refine aw_ret (tn_r ?_)
    cases h
    exact fin_r (by kernel_rfl)
  · refine aw_skip (tn_n ?_)
    refine aw_sreg ?_
    refine awl_u hT m_no [] 4 (by kernel_rfl) ?_
    obtain ⟨r2, hr2, h⟩ := obind h
    refine awl_big (big_call [] (slices_Clone_api_Entry_api_Entry_ok hr2) slices_Clone_api_Entry_api_Entry_ok_c (by kernel_rfl) (by kernel_rfl)) (by kernel_rfl) ?_
    refine awl_u hT m_no [] 1 (by kernel_rfl) ?_
    refine awl_nil ?_
    refine aw_ret ?_
    cases h
    exact fin_r (by kernel_rfl)

theorem chain_Log_Entries_r_ok_c : callable Try.prog 70 := ⟨_, Try.func70, by decide, rfl⟩

/-! umbra/umbralaw37.ReceiptStands -/
def m_umbralaw37_ReceiptStands : Nat → Bool := imL [2]

def p_umbralaw37_ReceiptStands_L1 (N : Nat) (r2 : (List S_api_Entry)) : Nat → (List S_api_Entry) → (Vector Int 32) → Int → Bool → Int → Option ((List S_api_Entry) × (Vector Int 32) × Int × Bool)
  | 0, _, _, _, _, _ => none
  | k + 1, s4, s5, s6, s7, s8 =>
    letO (decide (s8 < ((r2.length : Int)))) fun x9 =>
    cond x9 (
      Option.bind (idx r2 s8) fun e10 =>
      Option.bind (p_chain_Log_Add_rdddd N s4 e10.gClock e10.gWho e10.gErr e10.gSum (S_chain_top.mk s5 s6 s7)) fun r11 =>
      p_umbralaw37_ReceiptStands_L1 N r2 k r11.1 r11.2.1 r11.2.2.1 ((S_chain_top.mk s5 s6 s7).gmade) (I64 (s8 + 1))) (
      some ((s4, s5, s6, s7)))

def p_umbralaw37_ReceiptStands_L2 (N : Nat) (r12 : (List S_api_Entry)) (a0 : S_umbralaw37_Chain) : Nat → (List S_api_Receipt) → Int → Option (Sum ((List S_api_Receipt)) (Bool))
  | 0, _, _ => none
  | k + 1, s14, s15 =>
    letO (decide (s15 < ((r12.length : Int)))) fun x16 =>
    cond x16 (
      Option.bind (Option.bind (idx r12 s15) fun e18 =>
      Option.bind (p_receipt_Issue N a0.gKey a0.gLayer r12 s15) fun r19 =>
      letO (!((r19.2 == 0) == (e18.gErr == 0))) fun x20 =>
      cond x20 (
        some (Sum.inr false)) (
        cond (r19.2 != 0) (
          some (Sum.inl ((s14, e18, r19.1)))) (
          Option.bind (p_receipt_Encode N r19.1) fun r21 =>
          Option.bind (p_receipt_Decode N r21) fun r22 =>
          Option.bind (cond (r22.2 != 0) (
            some true) (
            letO (!(S_api_Receipt.eq r22.1 r19.1)) fun x24 =>
            cond x24 (
              some true) (
              Option.bind (p_receipt_Check N a0.gKey r19.1) fun r25 =>
              some (r25 != 0)))) fun p23 =>
          cond p23 (
            some (Sum.inr false)) (
            Option.bind (appO 128 s14 (([r19.1] : List S_api_Receipt))) fun z26 =>
            some (Sum.inl ((z26, e18, r19.1))))))) fun o => sumC o (fun p17 =>
        p_umbralaw37_ReceiptStands_L2 N r12 a0 k p17.1 (I64 (s15 + 1))) (fun r => some (Sum.inr r))) (
      some (Sum.inl s14))

def p_umbralaw37_ReceiptStands_L3 (N : Nat) (r27 : (List S_api_Entry)) : Nat → (List S_api_Entry) → S_chain_top → Int → Option ((List S_api_Entry) × S_chain_top)
  | 0, _, _, _ => none
  | k + 1, s29, s30, s31 =>
    letO (decide (s31 < ((r27.length : Int)))) fun x32 =>
    cond x32 (
      Option.bind (idx r27 s31) fun e33 =>
      Option.bind (p_chain_Log_Add_rdddd N s29 e33.gClock e33.gWho e33.gErr e33.gSum s30) fun r34 =>
      p_umbralaw37_ReceiptStands_L3 N r27 k r34.1 (S_chain_top.mk r34.2.1 r34.2.2.1 s30.gmade) (I64 (s31 + 1))) (
      some ((s29, s30)))

def p_umbralaw37_ReceiptStands_L4 (N : Nat) (p13 : (List S_api_Receipt)) (p28 : (List S_api_Entry) × S_chain_top) (a0 : S_umbralaw37_Chain) : Nat → Int → Option (Sum (Unit) (Bool))
  | 0, _ => none
  | k + 1, s36 =>
    letO (decide (s36 < ((p13.length : Int)))) fun x37 =>
    cond x37 (
      Option.bind (idx p13 s36) fun e38 =>
      Option.bind (p_chain_Log_Entries_r N p28.1 p28.2) fun r39 =>
      Option.bind (p_receipt_Against N a0.gLayer r39 e38) fun r40 =>
      cond (r40 != 0) (
        some (Sum.inr false)) (
        p_umbralaw37_ReceiptStands_L4 N p13 p28 a0 k (I64 (s36 + 1)))) (
      some (Sum.inl (())))

def p_umbralaw37_ReceiptStands (N : Nat) (a0 : S_umbralaw37_Chain) (a1 : (List S_api_Entry)) : Option (Bool) :=
  Option.bind (p_chain_New N a0.gLayer) fun r1 =>
  Option.bind (p_umbralaw37_few N a0.gL) fun r2 =>
  Option.bind (p_umbralaw37_ReceiptStands_L1 N r2 N [] r1 0 true 0) fun p3 =>
  Option.bind (p_chain_Log_Entries_r N p3.1 (S_chain_top.mk p3.2.1 p3.2.2.1 p3.2.2.2)) fun r12 =>
  Option.bind (p_umbralaw37_ReceiptStands_L2 N r12 a0 N [] 0) fun o => sumC o (fun p13 =>
    Option.bind (p_umbralaw37_few N a1) fun r27 =>
    Option.bind (p_umbralaw37_ReceiptStands_L3 N r27 N p3.1 ((S_chain_top.mk p3.2.1 p3.2.2.1 p3.2.2.2)) 0) fun p28 =>
    Option.bind (p_umbralaw37_ReceiptStands_L4 N p13 p28 a0 N 0) fun o => sumC o (fun p35 =>
      Option.bind (p_chain_Log_Entries_r N p28.1 p28.2) fun r41 =>
      Option.bind (p_receipt_Audit N a0.gKey a0.gLayer r41 p13) fun r42 =>
      letO (((r42.1.length : Int)) != ((p13.length : Int))) fun x43 =>
      letO (cond (r42.2 != 0) true x43) fun x44 =>
      cond x44 (
        some false) (
        Option.bind (letO (decide (((p13.length : Int)) > 0)) fun x46 =>
        cond x46 (
          Option.bind (p_chain_Log_Entries_r N p28.1 p28.2) fun r47 =>
          Option.bind (idx p13 0) fun e48 =>
          Option.bind (appO 128 p13 (([e48] : List S_api_Receipt))) fun z49 =>
          Option.bind (p_receipt_Audit N a0.gKey a0.gLayer r47 z49) fun r50 =>
          cond (r50.2 != 10) (some (Sum.inr false)) (some (Sum.inl z49))) (
          some (Sum.inl p13))) fun o => sumC o (fun p45 =>
          Option.bind (p_umbralaw37_works N ) fun r51 =>
          some r51) (fun r => some r))) (fun r => some r)) (fun r => some r)

theorem umbralaw37_ReceiptStands_ok {N : Nat} {a0 : S_umbralaw37_Chain} {a1 : (List S_api_Entry)} {r : Bool} (h : p_umbralaw37_ReceiptStands N a0 a1 = some r) : FnM Try.prog 18 [] [(S_umbralaw37_Chain.enc a0), (eL 36 S_api_Entry.enc a1)] (eB r) [] := by
  unfold p_umbralaw37_ReceiptStands at h
  refine fnM_of_aw (m := 174) (lo := 0) (rs := [.tmp 4]) hT Try.func18 rfl (by kernel_rfl) rfl ?_
  refine aw_sregU hT m_umbralaw37_ReceiptStands [] (by kernel_rfl) ?_
  refine aw_sreg ?_
  refine awl_u hT m_umbralaw37_ReceiptStands [] 2 (by kernel_rfl) ?_
  obtain ⟨r1, hr1, h⟩ := obind h
  refine awl_big (big_call [] (chain_New_ok hr1) chain_New_ok_c (by kernel_rfl) (by kernel_rfl)) (by kernel_rfl) ?_
  refine awl_u hT m_umbralaw37_ReceiptStands [] 1 (by kernel_rfl) ?_
  refine awl_nil ?_
  refine aw_seq ?_
  refine aw_sreg ?_
  refine awl_u hT m_umbralaw37_ReceiptStands [] 1 (by kernel_rfl) ?_
  refine awl_big (big_eqp hT (t := 112) (x := (.ref 0 [] 0)) (b := true) (by kernel_rfl) rfl rfl (by kernel_rfl)) (by kernel_rfl) ?_
  refine awl_nil ?_
  refine aw_condB (b := false) (c := false) rfl (by kernel_rfl) ?_
  refine aw_skip (tn_n ?_)
  refine aw_seq ?_
  refine aw_sreg ?_
  refine awl_u hT m_umbralaw37_ReceiptStands [] 2 (by kernel_rfl) ?_
  obtain ⟨r2, hr2, h⟩ := obind h
  refine awl_big (big_call [] (umbralaw37_few_ok hr2) umbralaw37_few_ok_c (by kernel_rfl) (by kernel_rfl)) (by kernel_rfl) ?_
  refine awl_u hT m_umbralaw37_ReceiptStands [] 2 (by kernel_rfl) ?_
  refine awl_nil ?_
  refine aw_own_box 0 36 [1] ?_
  obtain ⟨p3, h, g3⟩ := obind h
  refine aw_joinTK ⟨[en 1 (eL 36 S_api_Entry.enc a1), en 2 (.im (S_umbralaw37_Chain.enc a0)), en 5 (.ref 0 [] 0)], [.var (.st 35 [(.st 34 [(eA 32 1 k8 p3.2.1), (k32 p3.2.2.1), (eB p3.2.2.2)]), (eO 1 36 S_api_Entry.enc p3.1)]), .tail (p3.1.length * 36)]⟩ ?_ ?_
  · refine aw_block (aw_loop (fun k s => ∃ s4 s5 s6 s7 s8, p_umbralaw37_ReceiptStands_L1 N r2 k s4 s5 s6 s7 s8 = some p3 ∧ JR (Fr.f 174 0) ⟨[en 1 (eL 36 S_api_Entry.enc a1), en 2 (.im (S_umbralaw37_Chain.enc a0)), en 5 (.ref 0 [] 0), en 31 (eL 36 S_api_Entry.enc r2), en 32 (j64 ((r2.length : Int))), en 33 (j64 s8)], [.var (.st 35 [(.st 34 [(eA 32 1 k8 s5), (k32 s6), (eB s7)]), (eO 1 36 S_api_Entry.enc s4)]), .tail (s4.length * 36)]⟩ s) (fun k s hI => ?_) N _ ⟨_, _, _, _, _, h, jr (by kernel_rfl)⟩)
    obtain ⟨s4, s5, s6, s7, s8, h, hj⟩ := hI
    cases k with
    | zero => cases h
    | succ k =>
      refine aw_jr hj ?_
      obtain ⟨x9, hx9, h⟩ := letE h
      refine aw_sregU hT m_umbralaw37_ReceiptStands [] (by kernel_rfl) ?_
      refine aw_nms [(34, (eB x9))] (by subst hx9; kernel_rfl) ?_
      refine aw_seq ?_
      refine aw_condH h (by kernel_rfl) (fun _ h => ?_) (fun _ h => ?_)
      · refine aw_skip (tn_n ?_)
        refine aw_seq ?_
        refine aw_block ?_
        refine aw_sreg ?_
        obtain ⟨e10, he10, h⟩ := obind h
        refine awl_big (big_idx hT S_api_Entry.enc he10 (by kernel_rfl) (by kernel_rfl)) (by kernel_rfl) ?_
        refine awl_u hT m_umbralaw37_ReceiptStands [] 3 (by kernel_rfl) ?_
        refine awl_nil ?_
        refine aw_region ?_
        refine awl_u hT m_umbralaw37_ReceiptStands [] 9 (by kernel_rfl) ?_
        obtain ⟨r11, hr11, h⟩ := obind h
        refine awl_big (big_call [0, 1] (chain_Log_Add_rdddd_ok hr11) chain_Log_Add_rdddd_ok_c (by kernel_rfl) (by kernel_rfl)) (by kernel_rfl) ?_
        refine awl_nil (inB_n (tn_n ?_))
        refine aw_regU hT m_umbralaw37_ReceiptStands [] (by kernel_rfl) (tn_n ?_)
        exact ⟨k, Nat.lt_succ_self k, _, _, _, _, _, h, jr (by kernel_rfl)⟩
      · refine aw_exit (tn_x (tn_x (inB_e (tn_n ?_))))
        cases h
        exact jr (by kernel_rfl)
  · have h := g3
    refine (tn_n ?_)
    refine aw_sreg ?_
    refine awl_u hT m_umbralaw37_ReceiptStands [] 1 (by kernel_rfl) ?_
    obtain ⟨r12, hr12, h⟩ := obind h
    refine awl_big (big_call [0, 1] (chain_Log_Entries_r_ok hr12) chain_Log_Entries_r_ok_c (by kernel_rfl) (by kernel_rfl)) (by kernel_rfl) ?_
    refine awl_u hT m_umbralaw37_ReceiptStands [] 1 (by kernel_rfl) ?_
    refine awl_nil ?_
    refine aw_sregU hT m_umbralaw37_ReceiptStands [] (by kernel_rfl) ?_
    refine aw_seq ?_
    refine aw_sregU hT m_umbralaw37_ReceiptStands [] (by kernel_rfl) ?_
    refine aw_own_nil 9 100 (by kernel_rfl) ?_
    obtain ⟨op13, h, g13⟩ := obind h
    refine aw_joinSK (fun p13 => ⟨[en 1 (eL 36 S_api_Entry.enc a1), en 2 (.im (S_umbralaw37_Chain.enc a0)), en 5 (.ref 0 [] 0), en 9 (eO 2 100 S_api_Receipt.enc p13)], [.var (.st 35 [(S_chain_top.enc ((S_chain_top.mk p3.2.1 p3.2.2.1 p3.2.2.2))), (eO 1 36 S_api_Entry.enc p3.1)]), .tail (p3.1.length * 36), .tail (p13.length * 100)]⟩) g13 ?_ (fun p13 h => ?_)
    · refine aw_block (aw_loop (fun k s => ∃ s14 s15, p_umbralaw37_ReceiptStands_L2 N r12 a0 k s14 s15 = some op13 ∧ JR (Fr.f 174 0) ⟨[en 1 (eL 36 S_api_Entry.enc a1), en 2 (.im (S_umbralaw37_Chain.enc a0)), en 5 (.ref 0 [] 0), en 8 (eL 36 S_api_Entry.enc r12), en 9 (eO 2 100 S_api_Receipt.enc s14), en 50 (eL 36 S_api_Entry.enc r12), en 51 (j64 ((r12.length : Int))), en 52 (j64 s15)], [.var (.st 35 [(S_chain_top.enc ((S_chain_top.mk p3.2.1 p3.2.2.1 p3.2.2.2))), (eO 1 36 S_api_Entry.enc p3.1)]), .tail (p3.1.length * 36), .tail (s14.length * 100)]⟩ s) (fun k s hI => ?_) N _ ⟨_, _, h, jr (by kernel_rfl)⟩)
      obtain ⟨s14, s15, h, hj⟩ := hI
      cases k with
      | zero => cases h
      | succ k =>
        refine aw_jr hj ?_
        obtain ⟨x16, hx16, h⟩ := letE h
        refine aw_sregU hT m_umbralaw37_ReceiptStands [] (by kernel_rfl) ?_
        refine aw_nms [(53, (eB x16))] (by subst hx16; kernel_rfl) ?_
        refine aw_seq ?_
        refine aw_condH h (by kernel_rfl) (fun _ h => ?_) (fun _ h => ?_)
        · refine aw_skip (tn_n ?_)
          obtain ⟨op17, h, g17⟩ := obind h
          refine aw_joinS (fun p17 => ⟨[en 1 (eL 36 S_api_Entry.enc a1), en 2 (.im (S_umbralaw37_Chain.enc a0)), en 5 (.ref 0 [] 0), en 8 (eL 36 S_api_Entry.enc r12), en 9 (eO 2 100 S_api_Receipt.enc p17.1), en 50 (eL 36 S_api_Entry.enc r12), en 51 (j64 ((r12.length : Int))), en 52 (j64 s15)], [.var (.st 35 [(S_chain_top.enc ((S_chain_top.mk p3.2.1 p3.2.2.1 p3.2.2.2))), (eO 1 36 S_api_Entry.enc p3.1)]), .tail (p3.1.length * 36), .tail (p17.1.length * 100), .var (S_api_Entry.enc p17.2.1), .var (S_api_Receipt.enc p17.2.2)]⟩) g17 ?_ (fun p17 h => ?_)
          · refine aw_block ?_
            refine aw_sreg ?_
            refine awl_u hT m_umbralaw37_ReceiptStands [] 1 (by kernel_rfl) ?_
            obtain ⟨e18, he18, h⟩ := obind h
            refine awl_big (big_idx hT S_api_Entry.enc he18 (by kernel_rfl) (by kernel_rfl)) (by kernel_rfl) ?_
            refine awl_u hT m_umbralaw37_ReceiptStands [] 4 (by kernel_rfl) ?_
            refine awl_nil ?_
            refine aw_sreg ?_
            refine awl_u hT m_umbralaw37_ReceiptStands [] 6 (by kernel_rfl) ?_
            obtain ⟨r19, hr19, h⟩ := obind h
            refine awl_big (big_call [] (receipt_Issue_ok hr19) receipt_Issue_ok_c (by kernel_rfl) (by kernel_rfl)) (by kernel_rfl) ?_
            refine awl_u hT m_umbralaw37_ReceiptStands [] 6 (by kernel_rfl) ?_
            refine awl_nil ?_
            refine aw_seq ?_
            obtain ⟨x20, hx20, h⟩ := letE h
            refine aw_sregU hT m_umbralaw37_ReceiptStands [] (by kernel_rfl) ?_
            refine aw_nms [(72, (eB x20))] (by subst hx20; kernel_rfl) ?_
            refine aw_condH h (by kernel_rfl) (fun _ h => ?_) (fun _ h => ?_)
            · refine aw_sregU hT m_umbralaw37_ReceiptStands [] (by kernel_rfl) ?_
              cases h
              have h := g17
              obtain rfl := sum_r h
              have h := g13
              refine aw_ret (tn_r (inB_r (tn_r (tn_r (inB_r (tn_r (tn_r ?_)))))))
              obtain rfl := sum_e h
              exact fin_r (by kernel_rfl)
            · refine aw_skip (tn_n ?_)
              refine aw_seq ?_
              refine aw_sregU hT m_umbralaw37_ReceiptStands [] (by kernel_rfl) ?_
              refine aw_condH h (by kernel_rfl) (fun _ h => ?_) (fun _ h => ?_)
              · refine aw_exit (tn_x (inB_e (tn_n ?_)))
                cases h
                exact ⟨_, rfl, jr (by kernel_rfl)⟩
              · refine aw_skip (tn_n ?_)
                refine aw_sreg ?_
                refine awl_u hT m_umbralaw37_ReceiptStands [] 1 (by kernel_rfl) ?_
                obtain ⟨r21, hr21, h⟩ := obind h
                refine awl_big (big_call [] (receipt_Encode_ok hr21) receipt_Encode_ok_c (by kernel_rfl) (by kernel_rfl)) (by kernel_rfl) ?_
                obtain ⟨r22, hr22, h⟩ := obind h
                refine awl_big (big_call [] (receipt_Decode_ok hr22) receipt_Decode_ok_c (by kernel_rfl) (by kernel_rfl)) (by kernel_rfl) ?_
                refine awl_u hT m_umbralaw37_ReceiptStands [] 6 (by kernel_rfl) ?_
                refine awl_nil ?_
                refine aw_seq ?_
                obtain ⟨p23, h, g23⟩ := obind h
                refine aw_joinT ⟨[en 1 (eL 36 S_api_Entry.enc a1), en 2 (.im (S_umbralaw37_Chain.enc a0)), en 5 (.ref 0 [] 0), en 8 (eL 36 S_api_Entry.enc r12), en 9 (eO 2 100 S_api_Receipt.enc s14), en 12 (.ref 4 [] 0), en 50 (eL 36 S_api_Entry.enc r12), en 51 (j64 ((r12.length : Int))), en 52 (j64 s15), en 94 (eB p23)], [.var (.st 35 [(S_chain_top.enc ((S_chain_top.mk p3.2.1 p3.2.2.1 p3.2.2.2))), (eO 1 36 S_api_Entry.enc p3.1)]), .tail (p3.1.length * 36), .tail (s14.length * 100), .var (S_api_Entry.enc e18), .var (S_api_Receipt.enc r19.1), .var (S_api_Receipt.enc r22.1)]⟩ ?_ ?_
                · refine aw_region ?_
                  refine awl_u hT m_umbralaw37_ReceiptStands [] 3 (by kernel_rfl) ?_
                  refine awl_split 83 h (by kernel_rfl) (fun h => ?_) (fun h => ?_)
                  · refine awl_u hT m_umbralaw37_ReceiptStands [83, 88] 11 (by kernel_rfl) ?_
                    refine awl_nil (tn_n ?_)
                    cases h
                    exact jr (by kernel_rfl)
                  · refine awl_u hT m_umbralaw37_ReceiptStands [83] 2 (by kernel_rfl) ?_
                    refine awl_big (big_neq eqT_59 (r22.1 : S_api_Receipt) (r19.1 : S_api_Receipt) (by kernel_rfl) (by kernel_rfl) (fun _ => rfl) (fun _ => rfl) (by kernel_rfl) (by kernel_rfl)) (by kernel_rfl) ?_
                    obtain ⟨x24, hx24, h⟩ := letE h
                    refine awl_u hT m_umbralaw37_ReceiptStands [83] 2 (by kernel_rfl) ?_
                    refine awl_nms [(88, (eB x24))] (by subst hx24; kernel_rfl) ?_
                    refine awl_split 88 h (by kernel_rfl) (fun h => ?_) (fun h => ?_)
                    · refine awl_u hT m_umbralaw37_ReceiptStands [88] 6 (by kernel_rfl) ?_
                      refine awl_nil (tn_n ?_)
                      cases h
                      exact jr (by kernel_rfl)
                    · refine awl_u hT m_umbralaw37_ReceiptStands [88] 3 (by kernel_rfl) ?_
                      obtain ⟨r25, hr25, h⟩ := obind h
                      refine awl_big (big_call [] (receipt_Check_ok hr25) receipt_Check_ok_c (by kernel_rfl) (by kernel_rfl)) (by kernel_rfl) ?_
                      refine awl_u hT m_umbralaw37_ReceiptStands [88] 2 (by kernel_rfl) ?_
                      refine awl_nil (tn_n ?_)
                      cases h
                      exact jr (by kernel_rfl)
                · have h := g23
                  refine aw_condH h (by kernel_rfl) (fun _ h => ?_) (fun _ h => ?_)
                  · refine aw_sregU hT m_umbralaw37_ReceiptStands [] (by kernel_rfl) ?_
                    cases h
                    have h := g17
                    obtain rfl := sum_r h
                    have h := g13
                    refine aw_ret (tn_r (inB_r (tn_r (tn_r (inB_r (tn_r (tn_r ?_)))))))
                    obtain rfl := sum_e h
                    exact fin_r (by kernel_rfl)
                  · refine aw_skip (tn_n ?_)
                    refine aw_region ?_
                    refine awl_u hT m_umbralaw37_ReceiptStands [] 2 (by kernel_rfl) ?_
                    refine awl_big (big_row hT (x := (.sl 100 1 [(S_api_Receipt.enc r19.1)])) (by kernel_rfl) (by kernel_rfl)) (by kernel_rfl) ?_
                    obtain ⟨z26, hz26, h⟩ := obind h
                    refine awl_big (big_app hT S_api_Receipt.enc (id := 2) (k := 100) hz26 (by kernel_rfl) (by kernel_rfl)) (by kernel_rfl) ?_
                    refine awl_u hT m_umbralaw37_ReceiptStands [] 1 (by kernel_rfl) ?_
                    refine awl_nil (inB_n (tn_n ?_))
                    cases h
                    exact ⟨_, rfl, jr (by kernel_rfl)⟩
          · refine aw_regU hT m_umbralaw37_ReceiptStands [] (by kernel_rfl) (tn_n ?_)
            exact ⟨k, Nat.lt_succ_self k, _, _, h, jr (by kernel_rfl)⟩
        · refine aw_exit (tn_x (tn_x (inB_e (tn_n ?_))))
          cases h
          exact ⟨_, rfl, jr (by kernel_rfl)⟩
    · refine (tn_n ?_)
      refine aw_seq ?_
      refine aw_sreg ?_
      refine awl_u hT m_umbralaw37_ReceiptStands [] 1 (by kernel_rfl) ?_
      obtain ⟨r27, hr27, h⟩ := obind h
      refine awl_big (big_call [] (umbralaw37_few_ok hr27) umbralaw37_few_ok_c (by kernel_rfl) (by kernel_rfl)) (by kernel_rfl) ?_
      refine awl_u hT m_umbralaw37_ReceiptStands [] 2 (by kernel_rfl) ?_
      refine awl_nil ?_
      obtain ⟨p28, h, g28⟩ := obind h
      refine aw_joinTK ⟨[en 2 (.im (S_umbralaw37_Chain.enc a0)), en 5 (.ref 0 [] 0), en 9 (eO 2 100 S_api_Receipt.enc p13)], [.var (.st 35 [(S_chain_top.enc p28.2), (eO 1 36 S_api_Entry.enc p28.1)]), .tail (p28.1.length * 36), .tail (p13.length * 100)]⟩ ?_ ?_
      · refine aw_block (aw_loop (fun k s => ∃ s29 s30 s31, p_umbralaw37_ReceiptStands_L3 N r27 k s29 s30 s31 = some p28 ∧ JR (Fr.f 174 0) ⟨[en 2 (.im (S_umbralaw37_Chain.enc a0)), en 5 (.ref 0 [] 0), en 9 (eO 2 100 S_api_Receipt.enc p13), en 101 (eL 36 S_api_Entry.enc r27), en 102 (j64 ((r27.length : Int))), en 103 (j64 s31)], [.var (.st 35 [(S_chain_top.enc s30), (eO 1 36 S_api_Entry.enc s29)]), .tail (s29.length * 36), .tail (p13.length * 100)]⟩ s) (fun k s hI => ?_) N _ ⟨_, _, _, h, jr (by kernel_rfl)⟩)
        obtain ⟨s29, s30, s31, h, hj⟩ := hI
        cases k with
        | zero => cases h
        | succ k =>
          refine aw_jr hj ?_
          obtain ⟨x32, hx32, h⟩ := letE h
          refine aw_sregU hT m_umbralaw37_ReceiptStands [] (by kernel_rfl) ?_
          refine aw_nms [(104, (eB x32))] (by subst hx32; kernel_rfl) ?_
          refine aw_seq ?_
          refine aw_condH h (by kernel_rfl) (fun _ h => ?_) (fun _ h => ?_)
          · refine aw_skip (tn_n ?_)
            refine aw_seq ?_
            refine aw_block ?_
            refine aw_sreg ?_
            obtain ⟨e33, he33, h⟩ := obind h
            refine awl_big (big_idx hT S_api_Entry.enc he33 (by kernel_rfl) (by kernel_rfl)) (by kernel_rfl) ?_
            refine awl_u hT m_umbralaw37_ReceiptStands [] 3 (by kernel_rfl) ?_
            refine awl_nil ?_
            refine aw_region ?_
            refine awl_u hT m_umbralaw37_ReceiptStands [] 9 (by kernel_rfl) ?_
            obtain ⟨r34, hr34, h⟩ := obind h
            refine awl_big (big_call [0, 1] (chain_Log_Add_rdddd_ok hr34) chain_Log_Add_rdddd_ok_c (by kernel_rfl) (by kernel_rfl)) (by kernel_rfl) ?_
            refine awl_nil (inB_n (tn_n ?_))
            refine aw_regU hT m_umbralaw37_ReceiptStands [] (by kernel_rfl) (tn_n ?_)
            exact ⟨k, Nat.lt_succ_self k, _, _, _, h, jr (by kernel_rfl)⟩
          · refine aw_exit (tn_x (tn_x (inB_e (tn_n ?_))))
            cases h
            exact jr (by kernel_rfl)
      · have h := g28
        refine (tn_n ?_)
        refine aw_seq ?_
        refine aw_sregU hT m_umbralaw37_ReceiptStands [] (by kernel_rfl) ?_
        obtain ⟨op35, h, g35⟩ := obind h
        refine aw_joinSK (fun p35 => ⟨[en 2 (.im (S_umbralaw37_Chain.enc a0)), en 5 (.ref 0 [] 0), en 9 (eO 2 100 S_api_Receipt.enc p13)], [.var (.st 35 [(S_chain_top.enc p28.2), (eO 1 36 S_api_Entry.enc p28.1)]), .tail (p28.1.length * 36), .tail (p13.length * 100)]⟩) g35 ?_ (fun p35 h => ?_)
        · refine aw_block (aw_loop (fun k s => ∃ s36, p_umbralaw37_ReceiptStands_L4 N p13 p28 a0 k s36 = some op35 ∧ JR (Fr.f 174 0) ⟨[en 2 (.im (S_umbralaw37_Chain.enc a0)), en 5 (.ref 0 [] 0), en 9 (eO 2 100 S_api_Receipt.enc p13), en 118 (eO 2 100 S_api_Receipt.enc p13), en 119 (j64 ((p13.length : Int))), en 120 (j64 s36)], [.var (.st 35 [(S_chain_top.enc p28.2), (eO 1 36 S_api_Entry.enc p28.1)]), .tail (p28.1.length * 36), .tail (p13.length * 100)]⟩ s) (fun k s hI => ?_) N _ ⟨_, h, jr (by kernel_rfl)⟩)
          obtain ⟨s36, h, hj⟩ := hI
          cases k with
          | zero => cases h
          | succ k =>
            refine aw_jr hj ?_
            obtain ⟨x37, hx37, h⟩ := letE h
            refine aw_sregU hT m_umbralaw37_ReceiptStands [] (by kernel_rfl) ?_
            refine aw_nms [(121, (eB x37))] (by subst hx37; kernel_rfl) ?_
            refine aw_seq ?_
            refine aw_condH h (by kernel_rfl) (fun _ h => ?_) (fun _ h => ?_)
            · refine aw_skip (tn_n ?_)
              refine aw_seq ?_
              refine aw_block ?_
              refine aw_sreg ?_
              obtain ⟨e38, he38, h⟩ := obind h
              refine awl_big (big_idx hT S_api_Receipt.enc he38 (by kernel_rfl) (by kernel_rfl)) (by kernel_rfl) ?_
              refine awl_u hT m_umbralaw37_ReceiptStands [] 3 (by kernel_rfl) ?_
              refine awl_nil ?_
              obtain ⟨r39, hr39, h⟩ := obind h
              obtain ⟨r40, hr40, h⟩ := obind h
              refine aw_sdrawV hT hmo m_umbralaw37_ReceiptStands [(5, (j64 r40))] [(3, fun _ => ((eL 36 S_api_Entry.enc r39), [.var (.st 35 [(S_chain_top.enc p28.2), (eO 1 36 S_api_Entry.enc p28.1)]), .tail (p28.1.length * 36), .tail (p13.length * 100), .var (S_api_Receipt.enc e38)]))] (by kernel_rfl) (by kernel_rfl) (by kernel_rfl) ⟨fun _ => big_call0 (receipt_Against_ok hr40) receipt_Against_ok_c (by kernel_rfl) (by kernel_rfl) (by kernel_rfl), trivial⟩ ⟨big_at (big_call [0, 1] (chain_Log_Entries_r_ok hr39) chain_Log_Entries_r_ok_c (by kernel_rfl) (by kernel_rfl)) (by kernel_rfl), trivial⟩ ?_
              refine aw_condH h (by kernel_rfl) (fun _ h => ?_) (fun _ h => ?_)
              · refine aw_sregU hT m_umbralaw37_ReceiptStands [] (by kernel_rfl) ?_
                cases h
                have h := g35
                refine aw_ret (inB_r (tn_r (tn_r (inB_r (tn_r (tn_r ?_))))))
                obtain rfl := sum_e h
                exact fin_r (by kernel_rfl)
              · refine aw_skip (inB_n (tn_n ?_))
                refine aw_regU hT m_umbralaw37_ReceiptStands [] (by kernel_rfl) (tn_n ?_)
                exact ⟨k, Nat.lt_succ_self k, _, h, jr (by kernel_rfl)⟩
            · refine aw_exit (tn_x (tn_x (inB_e (tn_n ?_))))
              cases h
              exact ⟨_, rfl, jr (by kernel_rfl)⟩
        · refine (tn_n ?_)
          obtain ⟨r41, hr41, h⟩ := obind h
          obtain ⟨r42, hr42, h⟩ := obind h
          refine aw_sdrawV hT hmo m_umbralaw37_ReceiptStands [(7, (.tup [(eL 1 j64 r42.1), (j64 r42.2)]))] [(5, fun _ => ((eL 36 S_api_Entry.enc r41), [.var (.st 35 [(S_chain_top.enc p28.2), (eO 1 36 S_api_Entry.enc p28.1)]), .tail (p28.1.length * 36), .tail (p13.length * 100)]))] (by kernel_rfl) (by kernel_rfl) (by kernel_rfl) ⟨fun _ => big_call0 (receipt_Audit_ok hr42) receipt_Audit_ok_c (by kernel_rfl) (by kernel_rfl) (by kernel_rfl), trivial⟩ ⟨big_at (big_call [0, 1] (chain_Log_Entries_r_ok hr41) chain_Log_Entries_r_ok_c (by kernel_rfl) (by kernel_rfl)) (by kernel_rfl), trivial⟩ ?_
          refine aw_seq ?_
          obtain ⟨x43, hx43, h⟩ := letE h
          obtain ⟨x44, hx44, h⟩ := letE h
          refine aw_sregU hT m_umbralaw37_ReceiptStands [] (by kernel_rfl) ?_
          refine aw_nms [(151, (eB x44))] (by subst hx44 hx43; kernel_rfl) ?_
          refine aw_condH h (by kernel_rfl) (fun _ h => ?_) (fun _ h => ?_)
          · refine aw_sregU hT m_umbralaw37_ReceiptStands [] (by kernel_rfl) ?_
            refine aw_ret (tn_r ?_)
            cases h
            exact fin_r (by kernel_rfl)
          · refine aw_skip (tn_n ?_)
            obtain ⟨op45, h, g45⟩ := obind h
            refine aw_joinS (fun p45 => ⟨[], [.var (.st 35 [(S_chain_top.enc p28.2), (eO 1 36 S_api_Entry.enc p28.1)]), .tail (p28.1.length * 36), .tail (p45.length * 100)]⟩) g45 ?_ (fun p45 h => ?_)
            · obtain ⟨x46, hx46, h⟩ := letE h
              refine aw_sregU hT m_umbralaw37_ReceiptStands [] (by kernel_rfl) ?_
              refine aw_nms [(154, (eB x46))] (by subst hx46; kernel_rfl) ?_
              refine aw_condH h (by kernel_rfl) (fun _ h => ?_) (fun _ h => ?_)
              · obtain ⟨r47, hr47, h⟩ := obind h
                obtain ⟨e48, he48, h⟩ := obind h
                obtain ⟨z49, hz49, h⟩ := obind h
                obtain ⟨r50, hr50, h⟩ := obind h
                refine aw_sdrawV hT hmo m_umbralaw37_ReceiptStands [(8, (.im (S_api_Receipt.enc e48))), (10, (.sl 100 1 [(S_api_Receipt.enc e48)])), (12, (.tup [(eL 1 j64 r50.1), (j64 r50.2)]))] [(5, fun _ => ((eL 36 S_api_Entry.enc r47), [.var (.st 35 [(S_chain_top.enc p28.2), (eO 1 36 S_api_Entry.enc p28.1)]), .tail (p28.1.length * 36), .tail (p13.length * 100)])), (11, fun _ => ((eO 2 100 S_api_Receipt.enc z49), [.var (.st 35 [(S_chain_top.enc p28.2), (eO 1 36 S_api_Entry.enc p28.1)]), .tail (p28.1.length * 36), .tail (z49.length * 100)]))] (by kernel_rfl) (by kernel_rfl) (by kernel_rfl) ⟨fun _ => big_idx hT S_api_Receipt.enc he48 (by kernel_rfl) (by kernel_rfl), fun _ => big_row hT (x := (.sl 100 1 [(S_api_Receipt.enc e48)])) (by kernel_rfl) (by kernel_rfl), fun _ => big_call0 (receipt_Audit_ok hr50) receipt_Audit_ok_c (by kernel_rfl) (by kernel_rfl) (by kernel_rfl), trivial⟩ ⟨big_at (big_call [0, 1] (chain_Log_Entries_r_ok hr47) chain_Log_Entries_r_ok_c (by kernel_rfl) (by kernel_rfl)) (by kernel_rfl), big_at (big_app hT S_api_Receipt.enc (id := 2) (k := 100) hz49 (by kernel_rfl) (by kernel_rfl)) (by kernel_rfl), trivial⟩ ?_
                refine aw_sregU hT m_umbralaw37_ReceiptStands [] (by kernel_rfl) ?_
                refine aw_condH h (by kernel_rfl) (fun _ h => ?_) (fun _ h => ?_)
                · refine aw_sregU hT m_umbralaw37_ReceiptStands [] (by kernel_rfl) ?_
                  cases h
                  have h := g45
                  refine aw_ret (tn_r ?_)
                  obtain rfl := sum_e h
                  exact fin_r (by kernel_rfl)
                · refine aw_skip (tn_n ?_)
                  cases h
                  exact ⟨_, rfl, jr (by kernel_rfl)⟩
              · refine aw_skip (tn_n ?_)
                cases h
                exact ⟨_, rfl, jr (by kernel_rfl)⟩
            · refine aw_sreg ?_
              obtain ⟨r51, hr51, h⟩ := obind h
              refine awl_big (big_call [] (umbralaw37_works_ok hr51) umbralaw37_works_ok_c (by kernel_rfl) (by kernel_rfl)) (by kernel_rfl) ?_
              refine awl_u hT m_umbralaw37_ReceiptStands [] 1 (by kernel_rfl) ?_
              refine awl_nil ?_
              refine aw_ret ?_
              cases h
              exact fin_r (by kernel_rfl)

theorem umbralaw37_ReceiptStands_ok_c : callable Try.prog 18 := ⟨_, Try.func18, by decide, rfl⟩

end Go.UK
