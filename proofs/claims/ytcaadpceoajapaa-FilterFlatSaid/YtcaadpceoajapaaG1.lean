/- A part of the proof: what the functions of the program compute. -/
import Derived.Test.YtcaadpceoajapaaGT
namespace Go.UK
open Go Go.Proofs
set_option maxRecDepth 20000
set_option maxHeartbeats 4000000
set_option linter.all false

attribute [local irreducible] owp awl aw FnM NatFn opS Stab TOK Big

/-! umbra/umbralaw42.few -/
def p_umbralaw42_few (N : Nat) (a0 : S_api_Plane) : Option (S_api_Plane) :=
  letO ((a0.gData.length : Int)) fun x1 =>
  Option.bind (slcO a0.gData 0 (imin x1 150)) fun s2 =>
  letO ((ByteArray.size a0.gName : Int)) fun x3 =>
  Option.bind (slcS a0.gName 0 (imin x3 20)) fun s4 =>
  some (S_api_Plane.mk a0.gW a0.gH a0.gDeep s4 s2)

theorem umbralaw42_few_ok {N : Nat} {a0 : S_api_Plane} {r : S_api_Plane} (h : p_umbralaw42_few N a0 = some r) : FnM Try.prog 22 [] [(S_api_Plane.enc a0)] (S_api_Plane.enc r) [] := by
  unfold p_umbralaw42_few at h
  refine fnM_of_aw (m := 20) (lo := 0) (rs := [.cell 2 34]) hT Try.func22 rfl (by kernel_rfl) rfl ?_
  refine aw_sregU hT m_no [] (by kernel_rfl) ?_
  obtain ⟨x1, hx1, h⟩ := letE h
  obtain ⟨s2, hs2, h⟩ := obind h
  obtain ⟨x3, hx3, h⟩ := letE h
  obtain ⟨s4, hs4, h⟩ := obind h
  refine aw_sdrawV hT hmo m_no [(6, (eL 1 j64 s2)), (13, (eS s4))] [] (by subst hx3 hx1; kernel_rfl) (by subst hx3 hx1; kernel_rfl) (by kernel_rfl) ⟨fun _ => big_slc hT (k := 1) j64 hs2 (by subst hx1; kernel_rfl) (by subst hx1; kernel_rfl), fun _ => big_slS hT hs4 (by subst hx3 hx1; kernel_rfl) (by subst hx3 hx1; kernel_rfl), trivial⟩ trivial ?_
  refine aw_sregU hT m_no [] (by kernel_rfl) ?_
  refine aw_ret ?_
  cases h
  exact fin_r (by kernel_rfl)

theorem umbralaw42_few_ok_c : callable Try.prog 22 := ⟨_, Try.func22, by decide, rfl⟩

/-! umbra/pam.between -/
def p_pam_between (N : Nat) (a0 : Int) (a1 : Int) (a2 : Int) : Option (Bool) :=
  letO (cond (decide (a0 ≥ a1)) (decide (a0 ≤ a2)) false) fun x1 =>
  some x1

theorem pam_between_ok {N : Nat} {a0 : Int} {a1 : Int} {a2 : Int} {r : Bool} (h : p_pam_between N a0 a1 a2 = some r) : FnM Try.prog 81 [] [(j64 a0), (j64 a1), (j64 a2)] (eB r) [] := by
  unfold p_pam_between at h
  refine fnM_of_aw (m := 15) (lo := 0) (rs := [.tmp 6]) hT Try.func81 rfl (by kernel_rfl) rfl ?_
  refine aw_sregU hT m_no [] (by kernel_rfl) ?_
  obtain ⟨x1, hx1, h⟩ := letE h
  refine aw_sregU hT m_no [] (by kernel_rfl) ?_
  refine aw_nms [(6, (eB x1))] (by subst hx1; kernel_rfl) ?_
  refine aw_ret ?_
  cases h
  exact fin_r (by kernel_rfl)

theorem pam_between_ok_c : callable Try.prog 81 := ⟨_, Try.func81, by decide, rfl⟩

/-! umbra/pam.named -/
def p_pam_named_L1 (N : Nat) (x1 : Int) (a0 : ByteArray) : Nat → Int → Option (Sum (Unit) (Bool))
  | 0, _ => none
  | k + 1, s3 =>
    cond (decide (s3 < x1)) (
      Option.bind (idx (bytesI a0) s3) fun e4 =>
      letO (cond (decide (e4 < 65)) true (decide (e4 > 90))) fun x5 =>
      cond x5 (some (Sum.inr false)) (p_pam_named_L1 N x1 a0 k (I64 (s3 + 1)))) (
      some (Sum.inl (())))

def p_pam_named (N : Nat) (a0 : ByteArray) : Option (Bool) :=
  letO (((bytesI a0).length : Int)) fun x1 =>
  Option.bind (p_pam_named_L1 N x1 a0 N 0) fun o => sumC o (fun p2 =>
    letO ((ByteArray.size a0 : Int)) fun x7 =>
    Option.bind (p_pam_between N x7 1 16) fun r8 =>
    some r8) (fun r => some r)

theorem pam_named_ok {N : Nat} {a0 : ByteArray} {r : Bool} (h : p_pam_named N a0 = some r) : FnM Try.prog 82 [] [(eS a0)] (eB r) [] := by
  unfold p_pam_named at h
  refine fnM_of_aw (m := 22) (lo := 0) (rs := [.tmp 2]) hT Try.func82 rfl (by kernel_rfl) rfl ?_
  refine aw_sregU hT m_no [] (by kernel_rfl) ?_
  refine aw_seq ?_
  refine aw_sreg ?_
  refine awl_u hT m_no [] 1 (by kernel_rfl) ?_
  refine awl_big (big_s2b hT a0 (e := 5) (by kernel_rfl) (by kernel_rfl)) (by kernel_rfl) ?_
  obtain ⟨x1, hx1, h⟩ := letE h
  refine awl_u hT m_no [] 2 (by kernel_rfl) ?_
  refine awl_nms [(7, (j64 x1))] (by subst hx1; kernel_rfl) ?_
  refine awl_nil ?_
  obtain ⟨op2, h, g2⟩ := obind h
  refine aw_joinSK (fun p2 => ⟨[en 0 (eS a0)], []⟩) g2 ?_ (fun p2 h => ?_)
  · refine aw_block (aw_loop (fun k s => ∃ s3, p_pam_named_L1 N x1 a0 k s3 = some op2 ∧ JR (Fr.f 22 0) ⟨[en 0 (eS a0), en 6 (eL 1 k8 (bytesI a0)), en 7 (j64 x1), en 8 (j64 s3)], []⟩ s) (fun k s hI => ?_) N _ ⟨_, h, jr (by kernel_rfl)⟩)
    obtain ⟨s3, h, hj⟩ := hI
    cases k with
    | zero => cases h
    | succ k =>
      refine aw_to _ hj ?_
      refine aw_sregU hT m_no [] (by kernel_rfl) ?_
      refine aw_seq ?_
      refine aw_condH h (by kernel_rfl) (fun _ h => ?_) (fun _ h => ?_)
      · refine aw_skip (tn_n ?_)
        refine aw_seq ?_
        refine aw_block ?_
        refine aw_sreg ?_
        obtain ⟨e4, he4, h⟩ := obind h
        refine awl_big (big_idx hT k8 he4 (by kernel_rfl) (by kernel_rfl)) (by kernel_rfl) ?_
        refine awl_u hT m_no [] 2 (by kernel_rfl) ?_
        refine awl_nil ?_
        obtain ⟨x5, hx5, h⟩ := letE h
        refine aw_sregU hT m_no [] (by kernel_rfl) ?_
        refine aw_nms [(17, (eB x5))] (by subst hx5; kernel_rfl) ?_
        refine aw_condH h (by kernel_rfl) (fun _ h => ?_) (fun _ h => ?_)
        · refine aw_sregU hT m_no [] (by kernel_rfl) ?_
          cases h
          have h := g2
          refine aw_ret (inB_r (tn_r (tn_r (inB_r (tn_r (tn_r ?_))))))
          obtain rfl := sum_e h
          exact fin_r (by kernel_rfl)
        · refine aw_skip (inB_n (tn_n ?_))
          refine aw_regU hT m_no [] (by kernel_rfl) (tn_n ?_)
          exact ⟨k, Nat.lt_succ_self k, _, h, jr (by kernel_rfl)⟩
      · refine aw_exit (tn_x (tn_x (inB_e (tn_n ?_))))
        cases h
        exact ⟨_, rfl, jr (by kernel_rfl)⟩
  · refine (tn_n ?_)
    refine aw_sreg ?_
    obtain ⟨x7, hx7, h⟩ := letE h
    refine awl_u hT m_no [] 2 (by kernel_rfl) ?_
    refine awl_nms [(20, (j64 x7))] (by subst hx7; kernel_rfl) ?_
    obtain ⟨r8, hr8, h⟩ := obind h
    refine awl_big (big_call [] (pam_between_ok hr8) pam_between_ok_c (by kernel_rfl) (by kernel_rfl)) (by kernel_rfl) ?_
    refine awl_u hT m_no [] 1 (by kernel_rfl) ?_
    refine awl_nil ?_
    refine aw_ret ?_
    cases h
    exact fin_r (by kernel_rfl)

theorem pam_named_ok_c : callable Try.prog 82 := ⟨_, Try.func82, by decide, rfl⟩

/-! umbra/pam.Check -/
def m_pam_Check : Nat → Bool := imL [1]

def p_pam_Check_L1 (N : Nat) (x9 : Int) (a0 : S_api_Plane) : Nat → Int → Option (Sum (Unit) (Int))
  | 0, _ => none
  | k + 1, s11 =>
    cond (decide (s11 < x9)) (
      Option.bind (idx a0.gData s11) fun e12 =>
      Option.bind (p_pam_between N e12 0 65535) fun r13 =>
      cond (!r13) (some (Sum.inr 5)) (p_pam_Check_L1 N x9 a0 k (I64 (s11 + 1)))) (
      some (Sum.inl (())))

def p_pam_Check (N : Nat) (a0 : S_api_Plane) : Option (Int) :=
  Option.bind (Option.bind (p_pam_between N a0.gW 1 64) fun r2 =>
  cond (!r2) (
    some true) (
    Option.bind (p_pam_between N a0.gH 1 64) fun r3 =>
    cond (!r3) (
      some true) (
      Option.bind (p_pam_between N a0.gDeep 1 4) fun r4 =>
      some (!r4)))) fun p1 =>
  cond p1 (
    some 2) (
    Option.bind (p_pam_named N a0.gName) fun r5 =>
    letO ((a0.gData.length : Int)) fun x6 =>
    letO (I64 ((I64 (a0.gW * a0.gH)) * a0.gDeep)) fun x7 =>
    letO (cond (!r5) true (x6 != x7)) fun x8 =>
    cond x8 (
      some 5) (
      letO ((a0.gData.length : Int)) fun x9 =>
      Option.bind (p_pam_Check_L1 N x9 a0 N 0) fun o => sumC o (fun p10 =>
        some 0) (fun r => some r)))

theorem pam_Check_ok {N : Nat} {a0 : S_api_Plane} {r : Int} (h : p_pam_Check N a0 = some r) : FnM Try.prog 32 [] [(S_api_Plane.enc a0)] (j64 r) [] := by
  unfold p_pam_Check at h
  refine fnM_of_aw (m := 50) (lo := 0) (rs := [.tmp 2]) hT Try.func32 rfl (by kernel_rfl) rfl ?_
  refine aw_sregU hT m_pam_Check [] (by kernel_rfl) ?_
  refine aw_seq ?_
  obtain ⟨p1, h, g1⟩ := obind h
  refine aw_joinT ⟨[en 1 (.im (S_api_Plane.enc a0)), en 20 (eB p1)], []⟩ ?_ ?_
  · refine aw_region ?_
    refine awl_u hT m_pam_Check [] 2 (by kernel_rfl) ?_
    obtain ⟨r2, hr2, h⟩ := obind h
    refine awl_big (big_call [] (pam_between_ok hr2) pam_between_ok_c (by kernel_rfl) (by kernel_rfl)) (by kernel_rfl) ?_
    refine awl_u hT m_pam_Check [] 2 (by kernel_rfl) ?_
    refine awl_split 9 h (by kernel_rfl) (fun h => ?_) (fun h => ?_)
    · refine awl_u hT m_pam_Check [9, 15] 11 (by kernel_rfl) ?_
      refine awl_nil (tn_n ?_)
      cases h
      exact jr (by kernel_rfl)
    · refine awl_u hT m_pam_Check [9] 2 (by kernel_rfl) ?_
      obtain ⟨r3, hr3, h⟩ := obind h
      refine awl_big (big_call [] (pam_between_ok hr3) pam_between_ok_c (by kernel_rfl) (by kernel_rfl)) (by kernel_rfl) ?_
      refine awl_u hT m_pam_Check [9] 3 (by kernel_rfl) ?_
      refine awl_split 15 h (by kernel_rfl) (fun h => ?_) (fun h => ?_)
      · refine awl_u hT m_pam_Check [15] 5 (by kernel_rfl) ?_
        refine awl_nil (tn_n ?_)
        cases h
        exact jr (by kernel_rfl)
      · refine awl_u hT m_pam_Check [15] 2 (by kernel_rfl) ?_
        obtain ⟨r4, hr4, h⟩ := obind h
        refine awl_big (big_call [] (pam_between_ok hr4) pam_between_ok_c (by kernel_rfl) (by kernel_rfl)) (by kernel_rfl) ?_
        refine awl_u hT m_pam_Check [15] 2 (by kernel_rfl) ?_
        refine awl_nil (tn_n ?_)
        cases h
        exact jr (by kernel_rfl)
  · have h := g1
    refine aw_condH h (by kernel_rfl) (fun _ h => ?_) (fun _ h => ?_)
    · refine aw_sregU hT m_pam_Check [] (by kernel_rfl) ?_
      refine aw_ret (tn_r ?_)
      cases h
      exact fin_r (by kernel_rfl)
    · refine aw_skip (tn_n ?_)
      refine aw_seq ?_
      refine aw_sreg ?_
      refine awl_u hT m_pam_Check [] 2 (by kernel_rfl) ?_
      obtain ⟨r5, hr5, h⟩ := obind h
      refine awl_big (big_call [] (pam_named_ok hr5) pam_named_ok_c (by kernel_rfl) (by kernel_rfl)) (by kernel_rfl) ?_
      obtain ⟨x6, hx6, h⟩ := letE h
      obtain ⟨x7, hx7, h⟩ := letE h
      obtain ⟨x8, hx8, h⟩ := letE h
      refine awl_u hT m_pam_Check [] 15 (by kernel_rfl) ?_
      refine awl_nms [(38, (eB x8))] (by subst hx8 hx7 hx6; kernel_rfl) ?_
      refine awl_nil ?_
      refine aw_condH h (by kernel_rfl) (fun _ h => ?_) (fun _ h => ?_)
      · refine aw_sregU hT m_pam_Check [] (by kernel_rfl) ?_
        refine aw_ret (tn_r ?_)
        cases h
        exact fin_r (by kernel_rfl)
      · refine aw_skip (tn_n ?_)
        refine aw_seq ?_
        obtain ⟨x9, hx9, h⟩ := letE h
        refine aw_sregU hT m_pam_Check [] (by kernel_rfl) ?_
        refine aw_nms [(41, (j64 x9))] (by subst hx9; kernel_rfl) ?_
        obtain ⟨op10, h, g10⟩ := obind h
        refine aw_joinSK (fun p10 => ⟨[], []⟩) g10 ?_ (fun p10 h => ?_)
        · refine aw_block (aw_loop (fun k s => ∃ s11, p_pam_Check_L1 N x9 a0 k s11 = some op10 ∧ JR (Fr.f 50 0) ⟨[en 40 (eL 1 j64 a0.gData), en 41 (j64 x9), en 42 (j64 s11)], []⟩ s) (fun k s hI => ?_) N _ ⟨_, h, jr (by kernel_rfl)⟩)
          obtain ⟨s11, h, hj⟩ := hI
          cases k with
          | zero => cases h
          | succ k =>
            refine aw_to _ hj ?_
            refine aw_sregU hT m_pam_Check [] (by kernel_rfl) ?_
            refine aw_seq ?_
            refine aw_condH h (by kernel_rfl) (fun _ h => ?_) (fun _ h => ?_)
            · refine aw_skip (tn_n ?_)
              refine aw_seq ?_
              refine aw_block ?_
              refine aw_sreg ?_
              obtain ⟨e12, he12, h⟩ := obind h
              refine awl_big (big_idx hT j64 he12 (by kernel_rfl) (by kernel_rfl)) (by kernel_rfl) ?_
              refine awl_u hT m_pam_Check [] 2 (by kernel_rfl) ?_
              refine awl_nil ?_
              refine aw_sreg ?_
              refine awl_u hT m_pam_Check [] 1 (by kernel_rfl) ?_
              obtain ⟨r13, hr13, h⟩ := obind h
              refine awl_big (big_call [] (pam_between_ok hr13) pam_between_ok_c (by kernel_rfl) (by kernel_rfl)) (by kernel_rfl) ?_
              refine awl_u hT m_pam_Check [] 1 (by kernel_rfl) ?_
              refine awl_nil ?_
              refine aw_condH h (by kernel_rfl) (fun _ h => ?_) (fun _ h => ?_)
              · refine aw_sregU hT m_pam_Check [] (by kernel_rfl) ?_
                cases h
                have h := g10
                refine aw_ret (inB_r (tn_r (tn_r (inB_r (tn_r (tn_r ?_))))))
                obtain rfl := sum_e h
                exact fin_r (by kernel_rfl)
              · refine aw_skip (inB_n (tn_n ?_))
                refine aw_regU hT m_pam_Check [] (by kernel_rfl) (tn_n ?_)
                exact ⟨k, Nat.lt_succ_self k, _, h, jr (by kernel_rfl)⟩
            · refine aw_exit (tn_x (tn_x (inB_e (tn_n ?_))))
              cases h
              exact ⟨_, rfl, jr (by kernel_rfl)⟩
        · refine (tn_n ?_)
          refine aw_sregU hT m_pam_Check [] (by kernel_rfl) ?_
          refine aw_ret ?_
          cases h
          exact fin_r (by kernel_rfl)

theorem pam_Check_ok_c : callable Try.prog 32 := ⟨_, Try.func32, by decide, rfl⟩

/-! umbra/filter.at -/
def m_filter_at : Nat → Bool := imL [4]

def p_filter_at (N : Nat) (a0 : S_api_Plane) (a1 : Int) (a2 : Int) (a3 : Int) : Option (Int) :=
  letO (imin (imax a1 0) (I64 (a0.gW - 1))) fun x1 =>
  letO (imin (imax a2 0) (I64 (a0.gH - 1))) fun x2 =>
  letO (I64 ((I64 (x2 * a0.gW)) + x1)) fun x5 =>
  letO (I64 ((I64 (x5 * a0.gDeep)) + a3)) fun x6 =>
  Option.bind (idx a0.gData x6) fun e7 =>
  some e7

theorem filter_at_ok {N : Nat} {a0 : S_api_Plane} {a1 : Int} {a2 : Int} {a3 : Int} {r : Int} (h : p_filter_at N a0 a1 a2 a3 = some r) : FnM Try.prog 79 [] [(S_api_Plane.enc a0), (j64 a1), (j64 a2), (j64 a3)] (j64 r) [] := by
  unfold p_filter_at at h
  refine fnM_of_aw (m := 36) (lo := 0) (rs := [.tmp 8]) hT Try.func79 rfl (by kernel_rfl) rfl ?_
  refine aw_sregU hT m_filter_at [] (by kernel_rfl) ?_
  obtain ⟨x1, hx1, h⟩ := letE h
  obtain ⟨x2, hx2, h⟩ := letE h
  refine aw_sdrawV hT hmo m_filter_at [] [] (by subst hx2 hx1; kernel_rfl) (by subst hx2 hx1; kernel_rfl) (by kernel_rfl) trivial trivial ?_
  refine aw_nms [(1, (j64 x1)), (2, (j64 x2))] (by subst hx2 hx1; kernel_rfl) ?_
  refine aw_sreg ?_
  obtain ⟨x5, hx5, h⟩ := letE h
  obtain ⟨x6, hx6, h⟩ := letE h
  refine awl_u hT m_filter_at [] 13 (by kernel_rfl) ?_
  refine awl_nms [(33, (j64 x6))] (by subst hx6 hx5; kernel_rfl) ?_
  obtain ⟨e7, he7, h⟩ := obind h
  refine awl_big (big_idx hT j64 he7 (by kernel_rfl) (by kernel_rfl)) (by kernel_rfl) ?_
  refine awl_u hT m_filter_at [] 2 (by kernel_rfl) ?_
  refine awl_nil ?_
  refine aw_ret ?_
  cases h
  exact fin_r (by kernel_rfl)

theorem filter_at_ok_c : callable Try.prog 79 := ⟨_, Try.func79, by decide, rfl⟩

/-! umbra/filter.Double$1 -/
def p_filter_Double_1_dddi (N : Nat) (a0 : Int) (a1 : Int) (a2 : Int) (a3 : S_api_Plane) : Option (Int) :=
  Option.bind (p_filter_at N a3 (I64 (Int.tdiv a0 2)) (I64 (Int.tdiv a1 2)) a2) fun r1 =>
  some r1

theorem filter_Double_1_dddi_ok {N : Nat} {a0 : Int} {a1 : Int} {a2 : Int} {a3 : S_api_Plane} {r : Int} (h : p_filter_Double_1_dddi N a0 a1 a2 a3 = some r) : FnM Try.prog 78 [] [(j64 a0), (j64 a1), (j64 a2), (.im (S_api_Plane.enc a3))] (j64 r) [] := by
  unfold p_filter_Double_1_dddi at h
  refine fnM_of_aw (m := 15) (lo := 0) (rs := [.tmp 7]) hT Try.func78 rfl (by kernel_rfl) rfl ?_
  refine aw_sregU hT m_no [] (by kernel_rfl) ?_
  refine aw_sreg ?_
  refine awl_u hT m_no [] 6 (by kernel_rfl) ?_
  obtain ⟨r1, hr1, h⟩ := obind h
  refine awl_big (big_call [] (filter_at_ok hr1) filter_at_ok_c (by kernel_rfl) (by kernel_rfl)) (by kernel_rfl) ?_
  refine awl_u hT m_no [] 1 (by kernel_rfl) ?_
  refine awl_nil ?_
  refine aw_ret ?_
  cases h
  exact fin_r (by kernel_rfl)

theorem filter_Double_1_dddi_ok_c : callable Try.prog 78 := ⟨_, Try.func78, by decide, rfl⟩

/-! umbra/filter.each -/
def m_filter_each_Double_1 : Nat → Bool := imL [4]

def p_filter_each_Double_1_L1 (N : Nat) (x1 : Int) (a0 : S_api_Plane) (a1 : Int) (a3 : S_api_Plane) : Nat → (List Int) → Int → Option ((List Int))
  | 0, _, _ => none
  | k + 1, s3, s4 =>
    cond (decide (s4 < x1)) (
      Option.bind (quoO .i64 s4 a0.gDeep) fun x5 =>
      Option.bind (remO .i64 x5 a1) fun x6 =>
      Option.bind (quoO .i64 s4 a0.gDeep) fun x7 =>
      Option.bind (quoO .i64 x7 a1) fun x8 =>
      Option.bind (remO .i64 s4 a0.gDeep) fun x9 =>
      Option.bind (p_filter_Double_1_dddi N x6 x8 x9 a3) fun r10 =>
      Option.bind (appO 8 s3 (([r10] : List Int))) fun a11 =>
      p_filter_each_Double_1_L1 N x1 a0 a1 a3 k a11 (I64 (s4 + 1))) (
      some s3)

def p_filter_each_Double_1 (N : Nat) (a0 : S_api_Plane) (a1 : Int) (a2 : Int) (a3 : S_api_Plane) : Option (S_api_Plane) :=
  letO (I64 ((I64 (a1 * a2)) * a0.gDeep)) fun x1 =>
  Option.bind (p_filter_each_Double_1_L1 N x1 a0 a1 a3 N [] 0) fun p2 =>
  some (S_api_Plane.mk a1 a2 a0.gDeep a0.gName p2)

theorem filter_each_Double_1_ok {N : Nat} {a0 : S_api_Plane} {a1 : Int} {a2 : Int} {a3 : S_api_Plane} {r : S_api_Plane} (h : p_filter_each_Double_1 N a0 a1 a2 a3 = some r) : FnM Try.prog 73 [] [(S_api_Plane.enc a0), (j64 a1), (j64 a2), (.fn (.func 78) [] [(.im (S_api_Plane.enc a3))])] (S_api_Plane.enc r) [] := by
  unfold p_filter_each_Double_1 at h
  refine fnM_of_aw (m := 52) (lo := 0) (rs := [.cell 8 34]) hT Try.func73 rfl (by kernel_rfl) rfl ?_
  refine aw_sregU hT m_filter_each_Double_1 [] (by kernel_rfl) ?_
  refine aw_sregU hT m_filter_each_Double_1 [] (by kernel_rfl) ?_
  refine aw_seq ?_
  obtain ⟨x1, hx1, h⟩ := letE h
  refine aw_sregU hT m_filter_each_Double_1 [] (by kernel_rfl) ?_
  refine aw_nms [(23, (j64 x1))] (by subst hx1; kernel_rfl) ?_
  refine aw_own_box 1 1 [4] ?_
  obtain ⟨p2, h, g2⟩ := obind h
  refine aw_joinTK ⟨[en 8 (.ref 0 [] 0), en 9 (.ref 1 [] 0)], [.var (.st 5 [(j64 0), (j64 0), (j64 0), (eS (ByteArray.mk #[])), (.v (.slice none 0 0))]), .var (.st 5 [(j64 a1), (j64 a2), (j64 a0.gDeep), (eS a0.gName), (eO 2 1 j64 p2)]), .tail (p2.length * 1)]⟩ ?_ ?_
  · refine aw_block (aw_loop (fun k s => ∃ s3 s4, p_filter_each_Double_1_L1 N x1 a0 a1 a3 k s3 s4 = some p2 ∧ JR (Fr.f 52 0) ⟨[en 1 (j64 a1), en 3 (.fn (.func 78) [] [(.im (S_api_Plane.enc a3))]), en 4 (.im (S_api_Plane.enc a0)), en 8 (.ref 0 [] 0), en 9 (.ref 1 [] 0), en 23 (j64 x1), en 24 (j64 s4)], [.var (.st 5 [(j64 0), (j64 0), (j64 0), (eS (ByteArray.mk #[])), (.v (.slice none 0 0))]), .var (.st 5 [(j64 a1), (j64 a2), (j64 a0.gDeep), (eS a0.gName), (eO 2 1 j64 s3)]), .tail (s3.length * 1)]⟩ s) (fun k s hI => ?_) N _ ⟨_, _, h, jr (by kernel_rfl)⟩)
    obtain ⟨s3, s4, h, hj⟩ := hI
    cases k with
    | zero => cases h
    | succ k =>
      refine aw_to _ hj ?_
      refine aw_sregU hT m_filter_each_Double_1 [] (by kernel_rfl) ?_
      refine aw_seq ?_
      refine aw_condH h (by kernel_rfl) (fun _ h => ?_) (fun _ h => ?_)
      · refine aw_skip (tn_n ?_)
        refine aw_seq ?_
        refine aw_block ?_
        refine aw_sregU hT m_filter_each_Double_1 [] (by kernel_rfl) ?_
        obtain ⟨x5, hx5, h⟩ := obind h
        obtain ⟨x6, hx6, h⟩ := obind h
        obtain ⟨x7, hx7, h⟩ := obind h
        obtain ⟨x8, hx8, h⟩ := obind h
        obtain ⟨x9, hx9, h⟩ := obind h
        obtain ⟨r10, hr10, h⟩ := obind h
        obtain ⟨a11, ha11, h⟩ := obind h
        refine aw_drawM hT hmo m_filter_each_Double_1 [(6, (j64 x5)), (8, (j64 x6)), (12, (j64 x7)), (14, (j64 x8)), (18, (j64 x9)), (19, (j64 r10)), (20, (.sl 1 1 [(j64 r10)]))] [(21, fun _ => ((eO 2 1 j64 a11), [.var (.st 5 [(j64 0), (j64 0), (j64 0), (eS (ByteArray.mk #[])), (.v (.slice none 0 0))]), .var (.st 5 [(j64 a1), (j64 a2), (j64 a0.gDeep), (eS a0.gName), (eO 2 1 j64 s3)]), .tail (a11.length * 1)]))] (by kernel_rfl) (by kernel_rfl) (by kernel_rfl) ⟨fun _ => big_quo hT hx5 (by kernel_rfl) (by kernel_rfl), fun _ => big_rem hT hx6 (by kernel_rfl) (by kernel_rfl), fun _ => big_quo hT hx7 (by kernel_rfl) (by kernel_rfl), fun _ => big_quo hT hx8 (by kernel_rfl) (by kernel_rfl), fun _ => big_rem hT hx9 (by kernel_rfl) (by kernel_rfl), fun _ => big_call0 (filter_Double_1_dddi_ok hr10) filter_Double_1_dddi_ok_c (by kernel_rfl) (by kernel_rfl) (by kernel_rfl), fun _ => big_row hT (x := (.sl 1 1 [(j64 r10)])) (by kernel_rfl) (by kernel_rfl), trivial⟩ ⟨big_at (big_app hT j64 (id := 2) (k := 1) ha11 (by kernel_rfl) (by kernel_rfl)) (by kernel_rfl), trivial⟩ (inB_n (tn_n ?_))
        refine aw_regU hT m_filter_each_Double_1 [] (by kernel_rfl) (tn_n ?_)
        exact ⟨k, Nat.lt_succ_self k, _, _, h, jr (by kernel_rfl)⟩
      · refine aw_exit (tn_x (tn_x (inB_e (tn_n ?_))))
        cases h
        exact jr (by kernel_rfl)
  · have h := g2
    refine (tn_n ?_)
    refine aw_sregU hT m_filter_each_Double_1 [] (by kernel_rfl) ?_
    refine aw_ret ?_
    cases h
    exact fin_r (by kernel_rfl)

theorem filter_each_Double_1_ok_c : callable Try.prog 73 := ⟨_, Try.func73, by decide, rfl⟩

/-! umbra/filter.Double -/
def m_filter_Double : Nat → Bool := imL [1]

def p_filter_Double (N : Nat) (a0 : S_api_Plane) : Option (S_api_Plane × Int) :=
  Option.bind (p_pam_Check N a0) fun r1 =>
  cond (r1 != 0) (
    some ((S_api_Plane.mk 0 0 0 (ByteArray.mk #[]) [], r1))) (
    letO (decide ((imax a0.gW a0.gH) > 32)) fun x2 =>
    cond x2 (
      some ((S_api_Plane.mk 0 0 0 (ByteArray.mk #[]) [], 2))) (
      Option.bind (p_filter_each_Double_1 N a0 (I64 (2 * a0.gW)) (I64 (2 * a0.gH)) a0) fun r3 =>
      some ((r3, 0))))

theorem filter_Double_ok {N : Nat} {a0 : S_api_Plane} {r : S_api_Plane × Int} (h : p_filter_Double N a0 = some r) : FnM Try.prog 30 [] [(S_api_Plane.enc a0)] (.tup [(S_api_Plane.enc r.1), (j64 r.2)]) [] := by
  unfold p_filter_Double at h
  refine fnM_of_aw (m := 27) (lo := 0) (rs := [.cell 2 34, .tmp 3]) hT Try.func30 rfl (by kernel_rfl) rfl ?_
  refine aw_sregU hT m_filter_Double [] (by kernel_rfl) ?_
  refine aw_seq ?_
  refine aw_sreg ?_
  refine awl_u hT m_filter_Double [] 1 (by kernel_rfl) ?_
  obtain ⟨r1, hr1, h⟩ := obind h
  refine awl_big (big_call [] (pam_Check_ok hr1) pam_Check_ok_c (by kernel_rfl) (by kernel_rfl)) (by kernel_rfl) ?_
  refine awl_u hT m_filter_Double [] 1 (by kernel_rfl) ?_
  refine awl_nil ?_
  refine aw_sregU hT m_filter_Double [] (by kernel_rfl) ?_
  refine aw_condH h (by kernel_rfl) (fun _ h => ?_) (fun _ h => ?_)
  · refine aw_sregU hT m_filter_Double [] (by kernel_rfl) ?_
    refine aw_ret (tn_r ?_)
    cases h
    exact fin_r (by kernel_rfl)
  · refine aw_skip (tn_n ?_)
    refine aw_seq ?_
    obtain ⟨x2, hx2, h⟩ := letE h
    refine aw_sregU hT m_filter_Double [] (by kernel_rfl) ?_
    refine aw_nms [(16, (eB x2))] (by subst hx2; kernel_rfl) ?_
    refine aw_condH h (by kernel_rfl) (fun _ h => ?_) (fun _ h => ?_)
    · refine aw_sregU hT m_filter_Double [] (by kernel_rfl) ?_
      refine aw_ret (tn_r ?_)
      cases h
      exact fin_r (by kernel_rfl)
    · refine aw_skip (tn_n ?_)
      refine aw_sreg ?_
      refine awl_u hT m_filter_Double [] 7 (by kernel_rfl) ?_
      refine awl_big (big_mkf (x := (.fn (.func 78) [] [(.im (S_api_Plane.enc a0))])) (by kernel_rfl) (by kernel_rfl)) (by kernel_rfl) ?_
      obtain ⟨r3, hr3, h⟩ := obind h
      refine awl_big (big_call [] (filter_each_Double_1_ok hr3) filter_each_Double_1_ok_c (by kernel_rfl) (by kernel_rfl)) (by kernel_rfl) ?_
      refine awl_u hT m_filter_Double [] 2 (by kernel_rfl) ?_
      refine awl_nil ?_
      refine aw_ret ?_
      cases h
      exact fin_r (by kernel_rfl)

theorem filter_Double_ok_c : callable Try.prog 30 := ⟨_, Try.func30, by decide, rfl⟩

/-! umbra/filter.Half$1 -/
def p_filter_Half_1_dddi (N : Nat) (a0 : Int) (a1 : Int) (a2 : Int) (a3 : S_api_Plane) : Option (Int) :=
  Option.bind (p_filter_at N a3 (I64 (2 * a0)) (I64 (2 * a1)) a2) fun r1 =>
  letO (I64 ((I64 (2 * a0)) + 1)) fun x2 =>
  Option.bind (p_filter_at N a3 x2 (I64 (2 * a1)) a2) fun r3 =>
  letO (I64 ((I64 (2 * a1)) + 1)) fun x4 =>
  Option.bind (p_filter_at N a3 (I64 (2 * a0)) x4 a2) fun r5 =>
  letO (I64 ((I64 (r1 + r3)) + r5)) fun x6 =>
  letO (I64 ((I64 (2 * a0)) + 1)) fun x7 =>
  letO (I64 ((I64 (2 * a1)) + 1)) fun x8 =>
  Option.bind (p_filter_at N a3 x7 x8 a2) fun r9 =>
  letO (I64 ((I64 (x6 + r9)) + 2)) fun x10 =>
  some (I64 (Int.tdiv x10 4))

theorem filter_Half_1_dddi_ok {N : Nat} {a0 : Int} {a1 : Int} {a2 : Int} {a3 : S_api_Plane} {r : Int} (h : p_filter_Half_1_dddi N a0 a1 a2 a3 = some r) : FnM Try.prog 80 [] [(j64 a0), (j64 a1), (j64 a2), (.im (S_api_Plane.enc a3))] (j64 r) [] := by
  unfold p_filter_Half_1_dddi at h
  refine fnM_of_aw (m := 45) (lo := 0) (rs := [.tmp 7]) hT Try.func80 rfl (by kernel_rfl) rfl ?_
  refine aw_sregU hT m_no [] (by kernel_rfl) ?_
  obtain ⟨r1, hr1, h⟩ := obind h
  obtain ⟨x2, hx2, h⟩ := letE h
  obtain ⟨r3, hr3, h⟩ := obind h
  obtain ⟨x4, hx4, h⟩ := letE h
  obtain ⟨r5, hr5, h⟩ := obind h
  obtain ⟨x6, hx6, h⟩ := letE h
  obtain ⟨x7, hx7, h⟩ := letE h
  obtain ⟨x8, hx8, h⟩ := letE h
  obtain ⟨r9, hr9, h⟩ := obind h
  obtain ⟨x10, hx10, h⟩ := letE h
  refine aw_sdrawV hT hmo m_no [(6, (j64 r1)), (14, (j64 r3)), (23, (j64 r5)), (33, (j64 r9))] [] (by subst hx10 hx8 hx7 hx6 hx4 hx2; kernel_rfl) (by subst hx10 hx8 hx7 hx6 hx4 hx2; kernel_rfl) (by kernel_rfl) ⟨fun _ => big_call0 (filter_at_ok hr1) filter_at_ok_c (by kernel_rfl) (by kernel_rfl) (by kernel_rfl), fun _ => big_call0 (filter_at_ok hr3) filter_at_ok_c (by subst hx2; kernel_rfl) (by subst hx2; kernel_rfl) (by subst hx2; kernel_rfl), fun _ => big_call0 (filter_at_ok hr5) filter_at_ok_c (by subst hx4 hx2; kernel_rfl) (by subst hx4 hx2; kernel_rfl) (by subst hx4 hx2; kernel_rfl), fun _ => big_call0 (filter_at_ok hr9) filter_at_ok_c (by subst hx8 hx7 hx6 hx4 hx2; kernel_rfl) (by subst hx8 hx7 hx6 hx4 hx2; kernel_rfl) (by subst hx8 hx7 hx6 hx4 hx2; kernel_rfl), trivial⟩ trivial ?_
  refine aw_nms [(7, (j64 (I64 (Int.tdiv x10 4))))] (by subst hx10 hx8 hx7 hx6 hx4 hx2; kernel_rfl) ?_
  refine aw_ret ?_
  cases h
  exact fin_r (by kernel_rfl)

theorem filter_Half_1_dddi_ok_c : callable Try.prog 80 := ⟨_, Try.func80, by decide, rfl⟩

/-! umbra/filter.each -/
def m_filter_each_Half_1 : Nat → Bool := imL [4]

def p_filter_each_Half_1_L1 (N : Nat) (x1 : Int) (a0 : S_api_Plane) (a1 : Int) (a3 : S_api_Plane) : Nat → (List Int) → Int → Option ((List Int))
  | 0, _, _ => none
  | k + 1, s3, s4 =>
    cond (decide (s4 < x1)) (
      Option.bind (quoO .i64 s4 a0.gDeep) fun x5 =>
      Option.bind (remO .i64 x5 a1) fun x6 =>
      Option.bind (quoO .i64 s4 a0.gDeep) fun x7 =>
      Option.bind (quoO .i64 x7 a1) fun x8 =>
      Option.bind (remO .i64 s4 a0.gDeep) fun x9 =>
      Option.bind (p_filter_Half_1_dddi N x6 x8 x9 a3) fun r10 =>
      Option.bind (appO 8 s3 (([r10] : List Int))) fun a11 =>
      p_filter_each_Half_1_L1 N x1 a0 a1 a3 k a11 (I64 (s4 + 1))) (
      some s3)

def p_filter_each_Half_1 (N : Nat) (a0 : S_api_Plane) (a1 : Int) (a2 : Int) (a3 : S_api_Plane) : Option (S_api_Plane) :=
  letO (I64 ((I64 (a1 * a2)) * a0.gDeep)) fun x1 =>
  Option.bind (p_filter_each_Half_1_L1 N x1 a0 a1 a3 N [] 0) fun p2 =>
  some (S_api_Plane.mk a1 a2 a0.gDeep a0.gName p2)

theorem filter_each_Half_1_ok {N : Nat} {a0 : S_api_Plane} {a1 : Int} {a2 : Int} {a3 : S_api_Plane} {r : S_api_Plane} (h : p_filter_each_Half_1 N a0 a1 a2 a3 = some r) : FnM Try.prog 73 [] [(S_api_Plane.enc a0), (j64 a1), (j64 a2), (.fn (.func 80) [] [(.im (S_api_Plane.enc a3))])] (S_api_Plane.enc r) [] := by
  unfold p_filter_each_Half_1 at h
  refine fnM_of_aw (m := 52) (lo := 0) (rs := [.cell 8 34]) hT Try.func73 rfl (by kernel_rfl) rfl ?_
  refine aw_sregU hT m_filter_each_Half_1 [] (by kernel_rfl) ?_
  refine aw_sregU hT m_filter_each_Half_1 [] (by kernel_rfl) ?_
  refine aw_seq ?_
  obtain ⟨x1, hx1, h⟩ := letE h
  refine aw_sregU hT m_filter_each_Half_1 [] (by kernel_rfl) ?_
  refine aw_nms [(23, (j64 x1))] (by subst hx1; kernel_rfl) ?_
  refine aw_own_box 1 1 [4] ?_
  obtain ⟨p2, h, g2⟩ := obind h
  refine aw_joinTK ⟨[en 8 (.ref 0 [] 0), en 9 (.ref 1 [] 0)], [.var (.st 5 [(j64 0), (j64 0), (j64 0), (eS (ByteArray.mk #[])), (.v (.slice none 0 0))]), .var (.st 5 [(j64 a1), (j64 a2), (j64 a0.gDeep), (eS a0.gName), (eO 2 1 j64 p2)]), .tail (p2.length * 1)]⟩ ?_ ?_
  · refine aw_block (aw_loop (fun k s => ∃ s3 s4, p_filter_each_Half_1_L1 N x1 a0 a1 a3 k s3 s4 = some p2 ∧ JR (Fr.f 52 0) ⟨[en 1 (j64 a1), en 3 (.fn (.func 80) [] [(.im (S_api_Plane.enc a3))]), en 4 (.im (S_api_Plane.enc a0)), en 8 (.ref 0 [] 0), en 9 (.ref 1 [] 0), en 23 (j64 x1), en 24 (j64 s4)], [.var (.st 5 [(j64 0), (j64 0), (j64 0), (eS (ByteArray.mk #[])), (.v (.slice none 0 0))]), .var (.st 5 [(j64 a1), (j64 a2), (j64 a0.gDeep), (eS a0.gName), (eO 2 1 j64 s3)]), .tail (s3.length * 1)]⟩ s) (fun k s hI => ?_) N _ ⟨_, _, h, jr (by kernel_rfl)⟩)
    obtain ⟨s3, s4, h, hj⟩ := hI
    cases k with
    | zero => cases h
    | succ k =>
      refine aw_to _ hj ?_
      refine aw_sregU hT m_filter_each_Half_1 [] (by kernel_rfl) ?_
      refine aw_seq ?_
      refine aw_condH h (by kernel_rfl) (fun _ h => ?_) (fun _ h => ?_)
      · refine aw_skip (tn_n ?_)
        refine aw_seq ?_
        refine aw_block ?_
        refine aw_sregU hT m_filter_each_Half_1 [] (by kernel_rfl) ?_
        obtain ⟨x5, hx5, h⟩ := obind h
        obtain ⟨x6, hx6, h⟩ := obind h
        obtain ⟨x7, hx7, h⟩ := obind h
        obtain ⟨x8, hx8, h⟩ := obind h
        obtain ⟨x9, hx9, h⟩ := obind h
        obtain ⟨r10, hr10, h⟩ := obind h
        obtain ⟨a11, ha11, h⟩ := obind h
        refine aw_drawM hT hmo m_filter_each_Half_1 [(6, (j64 x5)), (8, (j64 x6)), (12, (j64 x7)), (14, (j64 x8)), (18, (j64 x9)), (19, (j64 r10)), (20, (.sl 1 1 [(j64 r10)]))] [(21, fun _ => ((eO 2 1 j64 a11), [.var (.st 5 [(j64 0), (j64 0), (j64 0), (eS (ByteArray.mk #[])), (.v (.slice none 0 0))]), .var (.st 5 [(j64 a1), (j64 a2), (j64 a0.gDeep), (eS a0.gName), (eO 2 1 j64 s3)]), .tail (a11.length * 1)]))] (by kernel_rfl) (by kernel_rfl) (by kernel_rfl) ⟨fun _ => big_quo hT hx5 (by kernel_rfl) (by kernel_rfl), fun _ => big_rem hT hx6 (by kernel_rfl) (by kernel_rfl), fun _ => big_quo hT hx7 (by kernel_rfl) (by kernel_rfl), fun _ => big_quo hT hx8 (by kernel_rfl) (by kernel_rfl), fun _ => big_rem hT hx9 (by kernel_rfl) (by kernel_rfl), fun _ => big_call0 (filter_Half_1_dddi_ok hr10) filter_Half_1_dddi_ok_c (by kernel_rfl) (by kernel_rfl) (by kernel_rfl), fun _ => big_row hT (x := (.sl 1 1 [(j64 r10)])) (by kernel_rfl) (by kernel_rfl), trivial⟩ ⟨big_at (big_app hT j64 (id := 2) (k := 1) ha11 (by kernel_rfl) (by kernel_rfl)) (by kernel_rfl), trivial⟩ (inB_n (tn_n ?_))
        refine aw_regU hT m_filter_each_Half_1 [] (by kernel_rfl) (tn_n ?_)
        exact ⟨k, Nat.lt_succ_self k, _, _, h, jr (by kernel_rfl)⟩
      · refine aw_exit (tn_x (tn_x (inB_e (tn_n ?_))))
        cases h
        exact jr (by kernel_rfl)
  · have h := g2
    refine (tn_n ?_)
    refine aw_sregU hT m_filter_each_Half_1 [] (by kernel_rfl) ?_
    refine aw_ret ?_
    cases h
    exact fin_r (by kernel_rfl)

theorem filter_each_Half_1_ok_c : callable Try.prog 73 := ⟨_, Try.func73, by decide, rfl⟩

/-! umbra/filter.Half -/
def m_filter_Half : Nat → Bool := imL [1]

def p_filter_Half (N : Nat) (a0 : S_api_Plane) : Option (S_api_Plane × Int) :=
  Option.bind (p_pam_Check N a0) fun r1 =>
  cond (r1 != 0) (
    some ((S_api_Plane.mk 0 0 0 (ByteArray.mk #[]) [], r1))) (
    letO ((Int.tmod a0.gW 2) == 1) fun x2 =>
    letO ((Int.tmod a0.gH 2) == 1) fun x3 =>
    cond (cond x2 true x3) (
      some ((S_api_Plane.mk 0 0 0 (ByteArray.mk #[]) [], 2))) (
      Option.bind (p_filter_each_Half_1 N a0 (I64 (Int.tdiv a0.gW 2)) (I64 (Int.tdiv a0.gH 2)) a0) fun r4 =>
      some ((r4, 0))))

theorem filter_Half_ok {N : Nat} {a0 : S_api_Plane} {r : S_api_Plane × Int} (h : p_filter_Half N a0 = some r) : FnM Try.prog 31 [] [(S_api_Plane.enc a0)] (.tup [(S_api_Plane.enc r.1), (j64 r.2)]) [] := by
  unfold p_filter_Half at h
  refine fnM_of_aw (m := 31) (lo := 0) (rs := [.cell 2 34, .tmp 3]) hT Try.func31 rfl (by kernel_rfl) rfl ?_
  refine aw_sregU hT m_filter_Half [] (by kernel_rfl) ?_
  refine aw_seq ?_
  refine aw_sreg ?_
  refine awl_u hT m_filter_Half [] 1 (by kernel_rfl) ?_
  obtain ⟨r1, hr1, h⟩ := obind h
  refine awl_big (big_call [] (pam_Check_ok hr1) pam_Check_ok_c (by kernel_rfl) (by kernel_rfl)) (by kernel_rfl) ?_
  refine awl_u hT m_filter_Half [] 1 (by kernel_rfl) ?_
  refine awl_nil ?_
  refine aw_sregU hT m_filter_Half [] (by kernel_rfl) ?_
  refine aw_condH h (by kernel_rfl) (fun _ h => ?_) (fun _ h => ?_)
  · refine aw_sregU hT m_filter_Half [] (by kernel_rfl) ?_
    refine aw_ret (tn_r ?_)
    cases h
    exact fin_r (by kernel_rfl)
  · refine aw_skip (tn_n ?_)
    refine aw_seq ?_
    obtain ⟨x2, hx2, h⟩ := letE h
    obtain ⟨x3, hx3, h⟩ := letE h
    refine aw_sregU hT m_filter_Half [] (by kernel_rfl) ?_
    refine aw_nms [(20, (eB (cond x2 true x3)))] (by subst hx3 hx2; kernel_rfl) ?_
    refine aw_condH h (by kernel_rfl) (fun _ h => ?_) (fun _ h => ?_)
    · refine aw_sregU hT m_filter_Half [] (by kernel_rfl) ?_
      refine aw_ret (tn_r ?_)
      cases h
      exact fin_r (by kernel_rfl)
    · refine aw_skip (tn_n ?_)
      refine aw_sreg ?_
      refine awl_u hT m_filter_Half [] 7 (by kernel_rfl) ?_
      refine awl_big (big_mkf (x := (.fn (.func 80) [] [(.im (S_api_Plane.enc a0))])) (by kernel_rfl) (by kernel_rfl)) (by kernel_rfl) ?_
      obtain ⟨r4, hr4, h⟩ := obind h
      refine awl_big (big_call [] (filter_each_Half_1_ok hr4) filter_each_Half_1_ok_c (by kernel_rfl) (by kernel_rfl)) (by kernel_rfl) ?_
      refine awl_u hT m_filter_Half [] 2 (by kernel_rfl) ?_
      refine awl_nil ?_
      refine aw_ret ?_
      cases h
      exact fin_r (by kernel_rfl)

theorem filter_Half_ok_c : callable Try.prog 31 := ⟨_, Try.func31, by decide, rfl⟩

/-! umbra/filter.Through -/
def p_filter_Through_dl_Double_Half_z (N : Nat) (a0 : S_api_Plane) : Option (S_api_Plane × Int) :=
  Option.bind (p_filter_Double N a0) fun r1 =>
  cond (r1.2 != 0) (
    some ((S_api_Plane.mk 0 0 0 (ByteArray.mk #[]) [], r1.2))) (
    Option.bind (p_filter_Half N r1.1) fun r2 =>
    cond (r2.2 != 0) (
      some ((S_api_Plane.mk 0 0 0 (ByteArray.mk #[]) [], r2.2))) (
      some ((r2.1, 0))))

theorem filter_Through_dl_Double_Half_z_ok {N : Nat} {a0 : S_api_Plane} {r : S_api_Plane × Int} (h : p_filter_Through_dl_Double_Half_z N a0 = some r) : FnM Try.prog 29 [] [(S_api_Plane.enc a0), (.sl 1 2 [(.fn (.func 30) [] []), (.fn (.func 31) [] [])])] (.tup [(S_api_Plane.enc r.1), (j64 r.2)]) [] := by
  unfold p_filter_Through_dl_Double_Half_z at h
  refine fnM_of_aw (m := 36) (lo := 0) (rs := [.cell 4 34, .tmp 5]) hT Try.func29 rfl (by kernel_rfl) rfl ?_
  refine aw_sregU hT m_no [] (by kernel_rfl) ?_
  refine aw_seq ?_
  refine aw_sregU hT m_no [] (by kernel_rfl) ?_
  refine aw_condB (b := false) (c := false) rfl (by kernel_rfl) ?_
  refine aw_skip (tn_n ?_)
  refine aw_seq ?_
  refine aw_sregU hT m_no [] (by kernel_rfl) ?_
  refine aw_block ?_
  refine aw_unroll 40 ?_
  refine unr_s ?_
  refine aw_sregU hT m_no [] (by kernel_rfl) ?_
  refine aw_seq ?_
  refine aw_condB (b := true) (c := true) rfl (by kernel_rfl) ?_
  refine aw_skip (tn_n ?_)
  refine aw_seq ?_
  refine aw_block ?_
  refine aw_sreg ?_
  refine awl_big (big_idx hT (α := AV) id (l := [(.fn (.func 30) [] []), (.fn (.func 31) [] [])]) (i := 0) (e := (.fn (.func 30) [] [])) rfl (by kernel_rfl) (by kernel_rfl)) (by kernel_rfl) ?_
  refine awl_u hT m_no [] 2 (by kernel_rfl) ?_
  refine awl_nil ?_
  refine aw_sreg ?_
  refine awl_u hT m_no [] 2 (by kernel_rfl) ?_
  obtain ⟨r1, hr1, h⟩ := obind h
  refine awl_big (big_call [] (filter_Double_ok hr1) filter_Double_ok_c (by kernel_rfl) (by kernel_rfl)) (by kernel_rfl) ?_
  refine awl_u hT m_no [] 6 (by kernel_rfl) ?_
  refine awl_nil ?_
  refine aw_seq ?_
  refine aw_sregU hT m_no [] (by kernel_rfl) ?_
  refine aw_condH h (by kernel_rfl) (fun _ h => ?_) (fun _ h => ?_)
  · refine aw_sregU hT m_no [] (by kernel_rfl) ?_
    refine aw_ret (tn_r (inB_r (tn_r (tn_r (inB_r (tn_r ?_))))))
    cases h
    exact fin_r (by kernel_rfl)
  · refine aw_skip (tn_n ?_)
    refine aw_regU hT m_no [] (by kernel_rfl) (inB_n (tn_n ?_))
    refine aw_regU hT m_no [] (by kernel_rfl) (tn_n ?_)
    refine unr_s ?_
    refine aw_sregU hT m_no [] (by kernel_rfl) ?_
    refine aw_seq ?_
    refine aw_condB (b := true) (c := true) rfl (by kernel_rfl) ?_
    refine aw_skip (tn_n ?_)
    refine aw_seq ?_
    refine aw_block ?_
    refine aw_sreg ?_
    refine awl_big (big_idx hT (α := AV) id (l := [(.fn (.func 30) [] []), (.fn (.func 31) [] [])]) (i := 1) (e := (.fn (.func 31) [] [])) rfl (by kernel_rfl) (by kernel_rfl)) (by kernel_rfl) ?_
    refine awl_u hT m_no [] 2 (by kernel_rfl) ?_
    refine awl_nil ?_
    refine aw_sreg ?_
    refine awl_u hT m_no [] 2 (by kernel_rfl) ?_
    obtain ⟨r2, hr2, h⟩ := obind h
    refine awl_big (big_call [] (filter_Half_ok hr2) filter_Half_ok_c (by kernel_rfl) (by kernel_rfl)) (by kernel_rfl) ?_
    refine awl_u hT m_no [] 6 (by kernel_rfl) ?_
    refine awl_nil ?_
    refine aw_seq ?_
    refine aw_sregU hT m_no [] (by kernel_rfl) ?_
    refine aw_condH h (by kernel_rfl) (fun _ h => ?_) (fun _ h => ?_)
    · refine aw_sregU hT m_no [] (by kernel_rfl) ?_
      refine aw_ret (tn_r (inB_r (tn_r (tn_r (inB_r (tn_r ?_))))))
      cases h
      exact fin_r (by kernel_rfl)
    · refine aw_skip (tn_n ?_)
      refine aw_regU hT m_no [] (by kernel_rfl) (inB_n (tn_n ?_))
      refine aw_regU hT m_no [] (by kernel_rfl) (tn_n ?_)
      refine unr_s ?_
      refine aw_sregU hT m_no [] (by kernel_rfl) ?_
      refine aw_seq ?_
      refine aw_condB (b := false) (c := false) rfl (by kernel_rfl) ?_
      refine aw_exit (tn_x (tn_x (inB_e (tn_n ?_))))
      refine aw_sregU hT m_no [] (by kernel_rfl) ?_
      refine aw_ret ?_
      cases h
      exact fin_r (by kernel_rfl)

theorem filter_Through_dl_Double_Half_z_ok_c : callable Try.prog 29 := ⟨_, Try.func29, by decide, rfl⟩

/-! umbra/filter.Flip$1 -/
def p_filter_Flip_1_dddi (N : Nat) (a0 : Int) (a1 : Int) (a2 : Int) (a3 : S_api_Plane) : Option (Int) :=
  Option.bind (p_filter_at N a3 a0 a1 a2) fun r1 =>
  some r1

theorem filter_Flip_1_dddi_ok {N : Nat} {a0 : Int} {a1 : Int} {a2 : Int} {a3 : S_api_Plane} {r : Int} (h : p_filter_Flip_1_dddi N a0 a1 a2 a3 = some r) : FnM Try.prog 128 [] [(j64 a0), (j64 a1), (j64 a2), (.im (S_api_Plane.enc a3))] (j64 r) [] := by
  unfold p_filter_Flip_1_dddi at h
  refine fnM_of_aw (m := 13) (lo := 0) (rs := [.tmp 7]) hT Try.func128 rfl (by kernel_rfl) rfl ?_
  refine aw_sregU hT m_no [] (by kernel_rfl) ?_
  refine aw_sreg ?_
  refine awl_u hT m_no [] 4 (by kernel_rfl) ?_
  obtain ⟨r1, hr1, h⟩ := obind h
  refine awl_big (big_call [] (filter_at_ok hr1) filter_at_ok_c (by kernel_rfl) (by kernel_rfl)) (by kernel_rfl) ?_
  refine awl_u hT m_no [] 1 (by kernel_rfl) ?_
  refine awl_nil ?_
  refine aw_ret ?_
  cases h
  exact fin_r (by kernel_rfl)

theorem filter_Flip_1_dddi_ok_c : callable Try.prog 128 := ⟨_, Try.func128, by decide, rfl⟩

/-! umbra/filter.each -/
def m_filter_each_Flip_1 : Nat → Bool := imL [4]

def p_filter_each_Flip_1_L1 (N : Nat) (x1 : Int) (a0 : S_api_Plane) (a1 : Int) (a3 : S_api_Plane) : Nat → (List Int) → Int → Option ((List Int))
  | 0, _, _ => none
  | k + 1, s3, s4 =>
    cond (decide (s4 < x1)) (
      Option.bind (quoO .i64 s4 a0.gDeep) fun x5 =>
      Option.bind (remO .i64 x5 a1) fun x6 =>
      Option.bind (quoO .i64 s4 a0.gDeep) fun x7 =>
      Option.bind (quoO .i64 x7 a1) fun x8 =>
      Option.bind (remO .i64 s4 a0.gDeep) fun x9 =>
      Option.bind (p_filter_Flip_1_dddi N x6 x8 x9 a3) fun r10 =>
      Option.bind (appO 8 s3 (([r10] : List Int))) fun a11 =>
      p_filter_each_Flip_1_L1 N x1 a0 a1 a3 k a11 (I64 (s4 + 1))) (
      some s3)

def p_filter_each_Flip_1 (N : Nat) (a0 : S_api_Plane) (a1 : Int) (a2 : Int) (a3 : S_api_Plane) : Option (S_api_Plane) :=
  letO (I64 ((I64 (a1 * a2)) * a0.gDeep)) fun x1 =>
  Option.bind (p_filter_each_Flip_1_L1 N x1 a0 a1 a3 N [] 0) fun p2 =>
  some (S_api_Plane.mk a1 a2 a0.gDeep a0.gName p2)

theorem filter_each_Flip_1_ok {N : Nat} {a0 : S_api_Plane} {a1 : Int} {a2 : Int} {a3 : S_api_Plane} {r : S_api_Plane} (h : p_filter_each_Flip_1 N a0 a1 a2 a3 = some r) : FnM Try.prog 73 [] [(S_api_Plane.enc a0), (j64 a1), (j64 a2), (.fn (.func 128) [] [(.im (S_api_Plane.enc a3))])] (S_api_Plane.enc r) [] := by
  unfold p_filter_each_Flip_1 at h
  refine fnM_of_aw (m := 52) (lo := 0) (rs := [.cell 8 34]) hT Try.func73 rfl (by kernel_rfl) rfl ?_
  refine aw_sregU hT m_filter_each_Flip_1 [] (by kernel_rfl) ?_
  refine aw_sregU hT m_filter_each_Flip_1 [] (by kernel_rfl) ?_
  refine aw_seq ?_
  obtain ⟨x1, hx1, h⟩ := letE h
  refine aw_sregU hT m_filter_each_Flip_1 [] (by kernel_rfl) ?_
  refine aw_nms [(23, (j64 x1))] (by subst hx1; kernel_rfl) ?_
  refine aw_own_box 1 1 [4] ?_
  obtain ⟨p2, h, g2⟩ := obind h
  refine aw_joinTK ⟨[en 8 (.ref 0 [] 0), en 9 (.ref 1 [] 0)], [.var (.st 5 [(j64 0), (j64 0), (j64 0), (eS (ByteArray.mk #[])), (.v (.slice none 0 0))]), .var (.st 5 [(j64 a1), (j64 a2), (j64 a0.gDeep), (eS a0.gName), (eO 2 1 j64 p2)]), .tail (p2.length * 1)]⟩ ?_ ?_
  · refine aw_block (aw_loop (fun k s => ∃ s3 s4, p_filter_each_Flip_1_L1 N x1 a0 a1 a3 k s3 s4 = some p2 ∧ JR (Fr.f 52 0) ⟨[en 1 (j64 a1), en 3 (.fn (.func 128) [] [(.im (S_api_Plane.enc a3))]), en 4 (.im (S_api_Plane.enc a0)), en 8 (.ref 0 [] 0), en 9 (.ref 1 [] 0), en 23 (j64 x1), en 24 (j64 s4)], [.var (.st 5 [(j64 0), (j64 0), (j64 0), (eS (ByteArray.mk #[])), (.v (.slice none 0 0))]), .var (.st 5 [(j64 a1), (j64 a2), (j64 a0.gDeep), (eS a0.gName), (eO 2 1 j64 s3)]), .tail (s3.length * 1)]⟩ s) (fun k s hI => ?_) N _ ⟨_, _, h, jr (by kernel_rfl)⟩)
    obtain ⟨s3, s4, h, hj⟩ := hI
    cases k with
    | zero => cases h
    | succ k =>
      refine aw_to _ hj ?_
      refine aw_sregU hT m_filter_each_Flip_1 [] (by kernel_rfl) ?_
      refine aw_seq ?_
      refine aw_condH h (by kernel_rfl) (fun _ h => ?_) (fun _ h => ?_)
      · refine aw_skip (tn_n ?_)
        refine aw_seq ?_
        refine aw_block ?_
        refine aw_sregU hT m_filter_each_Flip_1 [] (by kernel_rfl) ?_
        obtain ⟨x5, hx5, h⟩ := obind h
        obtain ⟨x6, hx6, h⟩ := obind h
        obtain ⟨x7, hx7, h⟩ := obind h
        obtain ⟨x8, hx8, h⟩ := obind h
        obtain ⟨x9, hx9, h⟩ := obind h
        obtain ⟨r10, hr10, h⟩ := obind h
        obtain ⟨a11, ha11, h⟩ := obind h
        refine aw_drawM hT hmo m_filter_each_Flip_1 [(6, (j64 x5)), (8, (j64 x6)), (12, (j64 x7)), (14, (j64 x8)), (18, (j64 x9)), (19, (j64 r10)), (20, (.sl 1 1 [(j64 r10)]))] [(21, fun _ => ((eO 2 1 j64 a11), [.var (.st 5 [(j64 0), (j64 0), (j64 0), (eS (ByteArray.mk #[])), (.v (.slice none 0 0))]), .var (.st 5 [(j64 a1), (j64 a2), (j64 a0.gDeep), (eS a0.gName), (eO 2 1 j64 s3)]), .tail (a11.length * 1)]))] (by kernel_rfl) (by kernel_rfl) (by kernel_rfl) ⟨fun _ => big_quo hT hx5 (by kernel_rfl) (by kernel_rfl), fun _ => big_rem hT hx6 (by kernel_rfl) (by kernel_rfl), fun _ => big_quo hT hx7 (by kernel_rfl) (by kernel_rfl), fun _ => big_quo hT hx8 (by kernel_rfl) (by kernel_rfl), fun _ => big_rem hT hx9 (by kernel_rfl) (by kernel_rfl), fun _ => big_call0 (filter_Flip_1_dddi_ok hr10) filter_Flip_1_dddi_ok_c (by kernel_rfl) (by kernel_rfl) (by kernel_rfl), fun _ => big_row hT (x := (.sl 1 1 [(j64 r10)])) (by kernel_rfl) (by kernel_rfl), trivial⟩ ⟨big_at (big_app hT j64 (id := 2) (k := 1) ha11 (by kernel_rfl) (by kernel_rfl)) (by kernel_rfl), trivial⟩ (inB_n (tn_n ?_))
        refine aw_regU hT m_filter_each_Flip_1 [] (by kernel_rfl) (tn_n ?_)
        exact ⟨k, Nat.lt_succ_self k, _, _, h, jr (by kernel_rfl)⟩
      · refine aw_exit (tn_x (tn_x (inB_e (tn_n ?_))))
        cases h
        exact jr (by kernel_rfl)
  · have h := g2
    refine (tn_n ?_)
    refine aw_sregU hT m_filter_each_Flip_1 [] (by kernel_rfl) ?_
    refine aw_ret ?_
    cases h
    exact fin_r (by kernel_rfl)

theorem filter_each_Flip_1_ok_c : callable Try.prog 73 := ⟨_, Try.func73, by decide, rfl⟩

end Go.UK
