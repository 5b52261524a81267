/- A part of the proof: what the functions of the program compute. -/
import Derived.Test.YtcaadpceoajapaaA2
namespace Go.UK
open Go Go.Proofs
set_option maxRecDepth 20000
set_option maxHeartbeats 4000000
set_option linter.all false

attribute [local irreducible] owp awl aw FnM NatFn opS Stab TOK Big

/-! umbra/filter.Half -/
def m_filter_Half : Nat → Bool := imL [1]

def p_filter_Half (N : Nat) (a0 : S_api_Plane) : Option (S_api_Plane × Int) :=
  Option.bind (p_pam_Check N a0) fun r1 =>
  cond (r1 != 0) (
    some ((S_api_Plane.mk 0 0 0 (ByteArray.mk #[]) [], r1))) (
    letO ((Int.tmod a0.gW 2) == 1) fun x2 =>
    letO ((Int.tmod a0.gH 2) == 1) fun x3 =>
    cond (cond x2 true x3) (
      some ((S_api_Plane.mk 0 0 0 (ByteArray.mk #[]) [], 2))) (
      Option.bind (p_filter_each_v1 N a0 (I64 (Int.tdiv a0.gW 2)) (I64 (Int.tdiv a0.gH 2)) a0) fun r4 =>
      some ((r4, 0))))

theorem filter_Half_ok {N : Nat} {a0 : S_api_Plane} {r : S_api_Plane × Int} (h : p_filter_Half N a0 = some r) : FnM Try.prog 31 [] [(S_api_Plane.enc a0)] (.tup [(S_api_Plane.enc r.1), (j64 r.2)]) [] := by
  unfold p_filter_Half at h
  refine fnM_of_aw (m := 31) (lo := 0) (rs := [.cell 2 34, .tmp 3]) hT Try.func31 rfl (by kernel_rfl) rfl ?_
  refine aw_sregU hT m_filter_Half [] (by kernel_rfl) ?_
  refine aw_seq ?_
  refine aw_sreg ?_
  refine awl_u hT m_filter_Half [] 1 (by kernel_rfl) ?_
  obtain ⟨r1, hr1, h⟩ := obind h
  refine awl_big (big_call [] (pam_Check_ok hr1) pam_Check_ok_c (by kernel_rfl) (by kernel_rfl)) (by kernel_rfl) ?_
  refine awl_u hT m_filter_Half [] 1 (by kernel_rfl) ?_
  refine awl_nil ?_
  refine aw_sregU hT m_filter_Half [] (by kernel_rfl) ?_
  refine aw_condH h (by kernel_rfl) (fun _ h => ?_) (fun _ h => ?_)
  · refine aw_sregU hT m_filter_Half [] (by kernel_rfl) ?_
    refine aw_ret (tn_r ?_)
    cases h
    exact fin_r (by kernel_rfl)
  · refine aw_skip (tn_n ?_)
    refine aw_seq ?_
    obtain ⟨x2, hx2, h⟩ := letE h
    obtain ⟨x3, hx3, h⟩ := letE h
    refine aw_sregU hT m_filter_Half [] (by kernel_rfl) ?_
    refine aw_nms [(20, (eB (cond x2 true x3)))] (by subst hx3 hx2; kernel_rfl) ?_
    refine aw_condH h (by kernel_rfl) (fun _ h => ?_) (fun _ h => ?_)
    · refine aw_sregU hT m_filter_Half [] (by kernel_rfl) ?_
      refine aw_ret (tn_r ?_)
      cases h
      exact fin_r (by kernel_rfl)
    · refine aw_skip (tn_n ?_)
      refine aw_sreg ?_
      refine awl_u hT m_filter_Half [] 7 (by kernel_rfl) ?_
      refine awl_big (big_mkf (x := (.fn (.func 80) [] [(.im (S_api_Plane.enc a0))])) (by kernel_rfl) (by kernel_rfl)) (by kernel_rfl) ?_
      obtain ⟨r4, hr4, h⟩ := obind h
      refine awl_big (big_call [] (filter_each_v1_ok hr4) filter_each_v1_ok_c (by kernel_rfl) (by kernel_rfl)) (by kernel_rfl) ?_
      refine awl_u hT m_filter_Half [] 2 (by kernel_rfl) ?_
      refine awl_nil ?_
      refine aw_ret ?_
      cases h
      exact fin_r (by kernel_rfl)

theorem filter_Half_ok_c : callable Try.prog 31 := ⟨_, Try.func31, by decide, rfl⟩

/-! umbra/umbralaw42.works -/
def p_umbralaw42_works (N : Nat) : Option (Bool) :=
  Option.bind (p_filter_Half N (S_api_Plane.mk 2 2 1 (ByteArray.mk #[65]) ([0, 1, 2, 4]))) fun r1 =>
  Option.bind (letO (cond (r1.2 == 0) (r1.1.gW == 1) false) fun x3 =>
  letO ((r1.1.gData.length : Int)) fun x4 =>
  letO (cond x3 (x4 == 1) false) fun x5 =>
  cond x5 (
    Option.bind (idx r1.1.gData 0) fun e6 =>
    some (e6 == 2)) (
    some false)) fun p2 =>
  some p2

theorem umbralaw42_works_ok {N : Nat} {r : Bool} (h : p_umbralaw42_works N = some r) : FnM Try.prog 28 [] [] (eB r) [] := by
  unfold p_umbralaw42_works at h
  refine fnM_of_aw (m := 29) (lo := 0) (rs := [.tmp 0]) hT Try.func28 rfl (by kernel_rfl) rfl ?_
  refine aw_sregU hT m_no [] (by kernel_rfl) ?_
  refine aw_sreg ?_
  refine awl_big (big_row hT (x := (.sl 1 4 [(j64 0), (j64 1), (j64 2), (j64 4)])) (by kernel_rfl) (by kernel_rfl)) (by kernel_rfl) ?_
  refine awl_u hT m_no [] 1 (by kernel_rfl) ?_
  obtain ⟨r1, hr1, h⟩ := obind h
  refine awl_big (big_call [] (filter_Half_ok hr1) filter_Half_ok_c (by kernel_rfl) (by kernel_rfl)) (by kernel_rfl) ?_
  refine awl_u hT m_no [] 6 (by kernel_rfl) ?_
  refine awl_nil ?_
  obtain ⟨p2, h, g2⟩ := obind h
  refine aw_joinT ⟨[en 0 (eB p2)], [.var (S_api_Plane.enc r1.1)]⟩ ?_ ?_
  · refine aw_region ?_
    obtain ⟨x3, hx3, h⟩ := letE h
    obtain ⟨x4, hx4, h⟩ := letE h
    obtain ⟨x5, hx5, h⟩ := letE h
    refine awl_u hT m_no [] 14 (by kernel_rfl) ?_
    refine awl_nms [(22, (eB x5))] (by subst hx5 hx4 hx3; kernel_rfl) ?_
    refine awl_split 22 h (by kernel_rfl) (fun h => ?_) (fun h => ?_)
    · refine awl_u hT m_no [22] 2 (by kernel_rfl) ?_
      obtain ⟨e6, he6, h⟩ := obind h
      refine awl_big (big_idx hT j64 he6 (by kernel_rfl) (by kernel_rfl)) (by kernel_rfl) ?_
      refine awl_u hT m_no [22] 4 (by kernel_rfl) ?_
      refine awl_nil (tn_n ?_)
      cases h
      exact jr (by kernel_rfl)
    · refine awl_u hT m_no [22] 7 (by kernel_rfl) ?_
      refine awl_nil (tn_n ?_)
      cases h
      exact jr (by kernel_rfl)
  · have h := g2
    refine aw_ret ?_
    cases h
    exact fin_r (by kernel_rfl)

theorem umbralaw42_works_ok_c : callable Try.prog 28 := ⟨_, Try.func28, by decide, rfl⟩

/-! umbra/umbralaw42.FilterWeighs -/
def m_umbralaw42_FilterWeighs : Nat → Bool := imL [3]

def p_umbralaw42_FilterWeighs (N : Nat) (a0 : S_api_Plane) (a1 : (Vector Int 9)) : Option (Bool) :=
  Option.bind (p_umbralaw42_few N a0) fun r1 =>
  Option.bind (p_filter_Convolve N r1 a1) fun r2 =>
  Option.bind (p_umbraref42_Convolve N r1 a1) fun r3 =>
  Option.bind (p_filter_Tent N r1) fun r4 =>
  Option.bind (p_umbraref42_Convolve N r1 (#v[1, 2, 1, 2, 4, 2, 1, 2, 1])) fun r5 =>
  Option.bind (p_filter_Box N r1) fun r6 =>
  Option.bind (p_umbraref42_Convolve N r1 (#v[1, 1, 1, 1, 1, 1, 1, 1, 1])) fun r7 =>
  Option.bind (Option.bind (p_umbraref30_Same N r2.1 r3.1) fun r9 =>
  letO (cond r9 (r2.2 == r3.2) false) fun x10 =>
  cond x10 (
    Option.bind (p_umbraref30_Same N r4.1 r5.1) fun r11 =>
    letO (cond r11 (r4.2 == r5.2) false) fun x12 =>
    cond x12 (
      Option.bind (p_umbraref30_Same N r6.1 r7.1) fun r13 =>
      letO (cond r13 (r6.2 == r7.2) false) fun x14 =>
      cond x14 (
        Option.bind (p_umbralaw42_works N ) fun r15 =>
        some r15) (
        some false)) (
      some false)) (
    some false)) fun p8 =>
  some p8

theorem umbralaw42_FilterWeighs_ok {N : Nat} {a0 : S_api_Plane} {a1 : (Vector Int 9)} {r : Bool} (h : p_umbralaw42_FilterWeighs N a0 a1 = some r) : FnM Try.prog 5 [] [(S_api_Plane.enc a0), (eA 9 1 j64 a1)] (eB r) [] := by
  unfold p_umbralaw42_FilterWeighs at h
  refine fnM_of_aw (m := 84) (lo := 0) (rs := [.tmp 4]) hT Try.func5 rfl (by kernel_rfl) rfl ?_
  refine aw_sregU hT m_umbralaw42_FilterWeighs [] (by kernel_rfl) ?_
  refine aw_sreg ?_
  refine awl_u hT m_umbralaw42_FilterWeighs [] 1 (by kernel_rfl) ?_
  obtain ⟨r1, hr1, h⟩ := obind h
  refine awl_big (big_call [] (umbralaw42_few_ok hr1) umbralaw42_few_ok_c (by kernel_rfl) (by kernel_rfl)) (by kernel_rfl) ?_
  refine awl_u hT m_umbralaw42_FilterWeighs [] 1 (by kernel_rfl) ?_
  refine awl_nil ?_
  refine aw_sreg ?_
  refine awl_u hT m_umbralaw42_FilterWeighs [] 2 (by kernel_rfl) ?_
  obtain ⟨r2, hr2, h⟩ := obind h
  refine awl_big (big_call [] (filter_Convolve_ok hr2) filter_Convolve_ok_c (by kernel_rfl) (by kernel_rfl)) (by kernel_rfl) ?_
  refine awl_u hT m_umbralaw42_FilterWeighs [] 6 (by kernel_rfl) ?_
  refine awl_nil ?_
  refine aw_sreg ?_
  refine awl_u hT m_umbralaw42_FilterWeighs [] 2 (by kernel_rfl) ?_
  obtain ⟨r3, hr3, h⟩ := obind h
  refine awl_big (big_call [] (umbraref42_Convolve_ok hr3) umbraref42_Convolve_ok_c (by kernel_rfl) (by kernel_rfl)) (by kernel_rfl) ?_
  refine awl_u hT m_umbralaw42_FilterWeighs [] 6 (by kernel_rfl) ?_
  refine awl_nil ?_
  refine aw_sreg ?_
  refine awl_u hT m_umbralaw42_FilterWeighs [] 1 (by kernel_rfl) ?_
  obtain ⟨r4, hr4, h⟩ := obind h
  refine awl_big (big_call [] (filter_Tent_ok hr4) filter_Tent_ok_c (by kernel_rfl) (by kernel_rfl)) (by kernel_rfl) ?_
  refine awl_u hT m_umbralaw42_FilterWeighs [] 6 (by kernel_rfl) ?_
  refine awl_nil ?_
  refine aw_sreg ?_
  refine awl_u hT m_umbralaw42_FilterWeighs [] 2 (by kernel_rfl) ?_
  obtain ⟨r5, hr5, h⟩ := obind h
  refine awl_big (big_call [] (umbraref42_Convolve_ok hr5) umbraref42_Convolve_ok_c (by kernel_rfl) (by kernel_rfl)) (by kernel_rfl) ?_
  refine awl_u hT m_umbralaw42_FilterWeighs [] 6 (by kernel_rfl) ?_
  refine awl_nil ?_
  refine aw_sreg ?_
  refine awl_u hT m_umbralaw42_FilterWeighs [] 1 (by kernel_rfl) ?_
  obtain ⟨r6, hr6, h⟩ := obind h
  refine awl_big (big_call [] (filter_Box_ok hr6) filter_Box_ok_c (by kernel_rfl) (by kernel_rfl)) (by kernel_rfl) ?_
  refine awl_u hT m_umbralaw42_FilterWeighs [] 6 (by kernel_rfl) ?_
  refine awl_nil ?_
  refine aw_sreg ?_
  refine awl_u hT m_umbralaw42_FilterWeighs [] 2 (by kernel_rfl) ?_
  obtain ⟨r7, hr7, h⟩ := obind h
  refine awl_big (big_call [] (umbraref42_Convolve_ok hr7) umbraref42_Convolve_ok_c (by kernel_rfl) (by kernel_rfl)) (by kernel_rfl) ?_
  refine awl_u hT m_umbralaw42_FilterWeighs [] 6 (by kernel_rfl) ?_
  refine awl_nil ?_
  obtain ⟨p8, h, g8⟩ := obind h
  refine aw_joinT ⟨[en 4 (eB p8)], [.var (S_api_Plane.enc r1), .var (S_api_Plane.enc r2.1), .var (S_api_Plane.enc r3.1), .var (S_api_Plane.enc r4.1), .var (S_api_Plane.enc r5.1), .var (S_api_Plane.enc r6.1), .var (S_api_Plane.enc r7.1)]⟩ ?_ ?_
  · refine aw_region ?_
    refine awl_u hT m_umbralaw42_FilterWeighs [] 2 (by kernel_rfl) ?_
    obtain ⟨r9, hr9, h⟩ := obind h
    refine awl_big (big_call [] (umbraref30_Same_ok hr9) umbraref30_Same_ok_c (by kernel_rfl) (by kernel_rfl)) (by kernel_rfl) ?_
    obtain ⟨x10, hx10, h⟩ := letE h
    refine awl_u hT m_umbralaw42_FilterWeighs [] 6 (by kernel_rfl) ?_
    refine awl_nms [(61, (eB x10))] (by subst hx10; kernel_rfl) ?_
    refine awl_split 61 h (by kernel_rfl) (fun h => ?_) (fun h => ?_)
    · refine awl_u hT m_umbralaw42_FilterWeighs [61] 2 (by kernel_rfl) ?_
      obtain ⟨r11, hr11, h⟩ := obind h
      refine awl_big (big_call [] (umbraref30_Same_ok hr11) umbraref30_Same_ok_c (by kernel_rfl) (by kernel_rfl)) (by kernel_rfl) ?_
      obtain ⟨x12, hx12, h⟩ := letE h
      refine awl_u hT m_umbralaw42_FilterWeighs [61] 7 (by kernel_rfl) ?_
      refine awl_nms [(71, (eB x12))] (by subst hx12; kernel_rfl) ?_
      refine awl_split 71 h (by kernel_rfl) (fun h => ?_) (fun h => ?_)
      · refine awl_u hT m_umbralaw42_FilterWeighs [71] 2 (by kernel_rfl) ?_
        obtain ⟨r13, hr13, h⟩ := obind h
        refine awl_big (big_call [] (umbraref30_Same_ok hr13) umbraref30_Same_ok_c (by kernel_rfl) (by kernel_rfl)) (by kernel_rfl) ?_
        obtain ⟨x14, hx14, h⟩ := letE h
        refine awl_u hT m_umbralaw42_FilterWeighs [71] 7 (by kernel_rfl) ?_
        refine awl_nms [(81, (eB x14))] (by subst hx14; kernel_rfl) ?_
        refine awl_split 81 h (by kernel_rfl) (fun h => ?_) (fun h => ?_)
        · obtain ⟨r15, hr15, h⟩ := obind h
          refine awl_big (big_call [] (umbralaw42_works_ok hr15) umbralaw42_works_ok_c (by kernel_rfl) (by kernel_rfl)) (by kernel_rfl) ?_
          refine awl_u hT m_umbralaw42_FilterWeighs [81] 2 (by kernel_rfl) ?_
          refine awl_nil (tn_n ?_)
          cases h
          exact jr (by kernel_rfl)
        · refine awl_u hT m_umbralaw42_FilterWeighs [81] 3 (by kernel_rfl) ?_
          refine awl_nil (tn_n ?_)
          cases h
          exact jr (by kernel_rfl)
      · refine awl_u hT m_umbralaw42_FilterWeighs [71, 76, 81] 13 (by kernel_rfl) ?_
        refine awl_nil (tn_n ?_)
        cases h
        exact jr (by kernel_rfl)
    · refine awl_u hT m_umbralaw42_FilterWeighs [61, 66, 71, 76, 81] 23 (by kernel_rfl) ?_
      refine awl_nil (tn_n ?_)
      cases h
      exact jr (by kernel_rfl)
  · have h := g8
    refine aw_ret ?_
    cases h
    exact fin_r (by kernel_rfl)

theorem umbralaw42_FilterWeighs_ok_c : callable Try.prog 5 := ⟨_, Try.func5, by decide, rfl⟩

end Go.UK
