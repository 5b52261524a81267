/- A part of the proof: what the functions of the program compute. -/
import Derived.Test.YtcaadpceoajapaaG5
namespace Go.UK
open Go Go.Proofs
set_option maxRecDepth 20000
set_option maxHeartbeats 4000000
set_option linter.all false

attribute [local irreducible] owp awl aw FnM NatFn opS Stab TOK Big

/-! umbra/umbralaw42.FilterSizes -/
def p_umbralaw42_FilterSizes (N : Nat) (a0 : S_api_Plane) (a1 : Int) : Option (Bool) :=
  Option.bind (p_umbralaw42_few N a0) fun r1 =>
  Option.bind (p_filter_Half N r1) fun r2 =>
  Option.bind (p_umbraref42_Half N r1) fun r3 =>
  Option.bind (p_filter_Double N r1) fun r4 =>
  Option.bind (p_umbraref42_Double N r1) fun r5 =>
  Option.bind (Option.bind (p_umbraref30_Same N r2.1 r3.1) fun r7 =>
  letO (cond (!r7) true (r2.2 != r3.2)) fun x8 =>
  cond x8 (
    some true) (
    Option.bind (p_umbraref30_Same N r4.1 r5.1) fun r9 =>
    letO (cond (!r9) true (r4.2 != r5.2)) fun x10 =>
    some x10)) fun p6 =>
  cond p6 (
    some false) (
    Option.bind (p_filter_Flip N r1 a1) fun r11 =>
    Option.bind (p_umbraref42_Flip N r1 a1) fun r12 =>
    Option.bind (p_filter_Median N r1) fun r13 =>
    Option.bind (p_umbraref42_Median N r1) fun r14 =>
    Option.bind (Option.bind (p_umbraref30_Same N r11.1 r12.1) fun r16 =>
    letO (cond r16 (r11.2 == r12.2) false) fun x17 =>
    cond x17 (
      Option.bind (p_umbraref30_Same N r13.1 r14.1) fun r18 =>
      letO (cond r18 (r13.2 == r14.2) false) fun x19 =>
      cond x19 (
        Option.bind (p_umbralaw42_works N ) fun r20 =>
        some r20) (
        some false)) (
      some false)) fun p15 =>
    some p15)

theorem umbralaw42_FilterSizes_ok {N : Nat} {a0 : S_api_Plane} {a1 : Int} {r : Bool} (h : p_umbralaw42_FilterSizes N a0 a1 = some r) : FnM Try.prog 15 [] [(S_api_Plane.enc a0), (j64 a1)] (eB r) [] := by
  unfold p_umbralaw42_FilterSizes at h
  refine fnM_of_aw (m := 104) (lo := 0) (rs := [.tmp 4]) hT Try.func15 rfl (by kernel_rfl) rfl ?_
  refine aw_sregU hT m_no [] (by kernel_rfl) ?_
  refine aw_sreg ?_
  refine awl_u hT m_no [] 1 (by kernel_rfl) ?_
  obtain ⟨r1, hr1, h⟩ := obind h
  refine awl_big (big_call [] (umbralaw42_few_ok hr1) umbralaw42_few_ok_c (by kernel_rfl) (by kernel_rfl)) (by kernel_rfl) ?_
  refine awl_u hT m_no [] 1 (by kernel_rfl) ?_
  refine awl_nil ?_
  refine aw_sreg ?_
  refine awl_u hT m_no [] 1 (by kernel_rfl) ?_
  obtain ⟨r2, hr2, h⟩ := obind h
  refine awl_big (big_call [] (filter_Half_ok hr2) filter_Half_ok_c (by kernel_rfl) (by kernel_rfl)) (by kernel_rfl) ?_
  refine awl_u hT m_no [] 6 (by kernel_rfl) ?_
  refine awl_nil ?_
  refine aw_sreg ?_
  refine awl_u hT m_no [] 1 (by kernel_rfl) ?_
  obtain ⟨r3, hr3, h⟩ := obind h
  refine awl_big (big_call [] (umbraref42_Half_ok hr3) umbraref42_Half_ok_c (by kernel_rfl) (by kernel_rfl)) (by kernel_rfl) ?_
  refine awl_u hT m_no [] 6 (by kernel_rfl) ?_
  refine awl_nil ?_
  refine aw_sreg ?_
  refine awl_u hT m_no [] 1 (by kernel_rfl) ?_
  obtain ⟨r4, hr4, h⟩ := obind h
  refine awl_big (big_call [] (filter_Double_ok hr4) filter_Double_ok_c (by kernel_rfl) (by kernel_rfl)) (by kernel_rfl) ?_
  refine awl_u hT m_no [] 6 (by kernel_rfl) ?_
  refine awl_nil ?_
  refine aw_sreg ?_
  refine awl_u hT m_no [] 1 (by kernel_rfl) ?_
  obtain ⟨r5, hr5, h⟩ := obind h
  refine awl_big (big_call [] (umbraref42_Double_ok hr5) umbraref42_Double_ok_c (by kernel_rfl) (by kernel_rfl)) (by kernel_rfl) ?_
  refine awl_u hT m_no [] 6 (by kernel_rfl) ?_
  refine awl_nil ?_
  refine aw_seq ?_
  obtain ⟨p6, h, g6⟩ := obind h
  refine aw_joinT ⟨[en 1 (j64 a1), en 2 (.ref 0 [] 0), en 60 (eB p6)], [.var (S_api_Plane.enc r1), .var (S_api_Plane.enc r2.1), .var (S_api_Plane.enc r3.1), .var (S_api_Plane.enc r4.1), .var (S_api_Plane.enc r5.1)]⟩ ?_ ?_
  · refine aw_region ?_
    refine awl_u hT m_no [] 2 (by kernel_rfl) ?_
    obtain ⟨r7, hr7, h⟩ := obind h
    refine awl_big (big_call [] (umbraref30_Same_ok hr7) umbraref30_Same_ok_c (by kernel_rfl) (by kernel_rfl)) (by kernel_rfl) ?_
    obtain ⟨x8, hx8, h⟩ := letE h
    refine awl_u hT m_no [] 7 (by kernel_rfl) ?_
    refine awl_nms [(50, (eB x8))] (by subst hx8; kernel_rfl) ?_
    refine awl_split 50 h (by kernel_rfl) (fun h => ?_) (fun h => ?_)
    · refine awl_u hT m_no [50, 56] 10 (by kernel_rfl) ?_
      refine awl_nil (tn_n ?_)
      cases h
      exact jr (by kernel_rfl)
    · refine awl_u hT m_no [50] 2 (by kernel_rfl) ?_
      obtain ⟨r9, hr9, h⟩ := obind h
      refine awl_big (big_call [] (umbraref30_Same_ok hr9) umbraref30_Same_ok_c (by kernel_rfl) (by kernel_rfl)) (by kernel_rfl) ?_
      obtain ⟨x10, hx10, h⟩ := letE h
      refine awl_u hT m_no [50] 7 (by kernel_rfl) ?_
      refine awl_nms [(60, (eB x10))] (by subst hx10; kernel_rfl) ?_
      refine awl_nil (tn_n ?_)
      cases h
      exact jr (by kernel_rfl)
  · have h := g6
    refine aw_condH h (by kernel_rfl) (fun _ h => ?_) (fun _ h => ?_)
    · refine aw_sregU hT m_no [] (by kernel_rfl) ?_
      refine aw_ret (tn_r ?_)
      cases h
      exact fin_r (by kernel_rfl)
    · refine aw_skip (tn_n ?_)
      refine aw_sreg ?_
      refine awl_u hT m_no [] 2 (by kernel_rfl) ?_
      obtain ⟨r11, hr11, h⟩ := obind h
      refine awl_big (big_call [] (filter_Flip_ok hr11) filter_Flip_ok_c (by kernel_rfl) (by kernel_rfl)) (by kernel_rfl) ?_
      refine awl_u hT m_no [] 6 (by kernel_rfl) ?_
      refine awl_nil ?_
      refine aw_sreg ?_
      refine awl_u hT m_no [] 2 (by kernel_rfl) ?_
      obtain ⟨r12, hr12, h⟩ := obind h
      refine awl_big (big_call [] (umbraref42_Flip_ok hr12) umbraref42_Flip_ok_c (by kernel_rfl) (by kernel_rfl)) (by kernel_rfl) ?_
      refine awl_u hT m_no [] 6 (by kernel_rfl) ?_
      refine awl_nil ?_
      refine aw_sreg ?_
      refine awl_u hT m_no [] 1 (by kernel_rfl) ?_
      obtain ⟨r13, hr13, h⟩ := obind h
      refine awl_big (big_call [] (filter_Median_ok hr13) filter_Median_ok_c (by kernel_rfl) (by kernel_rfl)) (by kernel_rfl) ?_
      refine awl_u hT m_no [] 6 (by kernel_rfl) ?_
      refine awl_nil ?_
      refine aw_sreg ?_
      refine awl_u hT m_no [] 1 (by kernel_rfl) ?_
      obtain ⟨r14, hr14, h⟩ := obind h
      refine awl_big (big_call [] (umbraref42_Median_ok hr14) umbraref42_Median_ok_c (by kernel_rfl) (by kernel_rfl)) (by kernel_rfl) ?_
      refine awl_u hT m_no [] 6 (by kernel_rfl) ?_
      refine awl_nil ?_
      obtain ⟨p15, h, g15⟩ := obind h
      refine aw_joinT ⟨[en 4 (eB p15)], [.var (S_api_Plane.enc r1), .var (S_api_Plane.enc r2.1), .var (S_api_Plane.enc r3.1), .var (S_api_Plane.enc r4.1), .var (S_api_Plane.enc r5.1), .var (S_api_Plane.enc r11.1), .var (S_api_Plane.enc r12.1), .var (S_api_Plane.enc r13.1), .var (S_api_Plane.enc r14.1)]⟩ ?_ ?_
      · refine aw_region ?_
        refine awl_u hT m_no [] 2 (by kernel_rfl) ?_
        obtain ⟨r16, hr16, h⟩ := obind h
        refine awl_big (big_call [] (umbraref30_Same_ok hr16) umbraref30_Same_ok_c (by kernel_rfl) (by kernel_rfl)) (by kernel_rfl) ?_
        obtain ⟨x17, hx17, h⟩ := letE h
        refine awl_u hT m_no [] 6 (by kernel_rfl) ?_
        refine awl_nms [(91, (eB x17))] (by subst hx17; kernel_rfl) ?_
        refine awl_split 91 h (by kernel_rfl) (fun h => ?_) (fun h => ?_)
        · refine awl_u hT m_no [91] 2 (by kernel_rfl) ?_
          obtain ⟨r18, hr18, h⟩ := obind h
          refine awl_big (big_call [] (umbraref30_Same_ok hr18) umbraref30_Same_ok_c (by kernel_rfl) (by kernel_rfl)) (by kernel_rfl) ?_
          obtain ⟨x19, hx19, h⟩ := letE h
          refine awl_u hT m_no [91] 7 (by kernel_rfl) ?_
          refine awl_nms [(101, (eB x19))] (by subst hx19; kernel_rfl) ?_
          refine awl_split 101 h (by kernel_rfl) (fun h => ?_) (fun h => ?_)
          · obtain ⟨r20, hr20, h⟩ := obind h
            refine awl_big (big_call [] (umbralaw42_works_ok hr20) umbralaw42_works_ok_c (by kernel_rfl) (by kernel_rfl)) (by kernel_rfl) ?_
            refine awl_u hT m_no [101] 2 (by kernel_rfl) ?_
            refine awl_nil (tn_n ?_)
            cases h
            exact jr (by kernel_rfl)
          · refine awl_u hT m_no [101] 3 (by kernel_rfl) ?_
            refine awl_nil (tn_n ?_)
            cases h
            exact jr (by kernel_rfl)
        · refine awl_u hT m_no [91, 96, 101] 13 (by kernel_rfl) ?_
          refine awl_nil (tn_n ?_)
          cases h
          exact jr (by kernel_rfl)
      · have h := g15
        refine aw_ret ?_
        cases h
        exact fin_r (by kernel_rfl)

theorem umbralaw42_FilterSizes_ok_c : callable Try.prog 15 := ⟨_, Try.func15, by decide, rfl⟩

/-! umbra/umbralaw42.FilterTurns$1 -/
def m_umbralaw42_FilterTurns_1_di : Nat → Bool := imL [2]

def p_umbralaw42_FilterTurns_1_di (N : Nat) (a0 : S_api_Plane) (a1 : Int) : Option (S_api_Plane × Int) :=
  Option.bind (p_filter_Flip N a0 a1) fun r1 =>
  some ((r1.1, r1.2))

theorem umbralaw42_FilterTurns_1_di_ok {N : Nat} {a0 : S_api_Plane} {a1 : Int} {r : S_api_Plane × Int} (h : p_umbralaw42_FilterTurns_1_di N a0 a1 = some r) : FnM Try.prog 64 [] [(S_api_Plane.enc a0), (.im (j64 a1))] (.tup [(S_api_Plane.enc r.1), (j64 r.2)]) [] := by
  unfold p_umbralaw42_FilterTurns_1_di at h
  refine fnM_of_aw (m := 10) (lo := 0) (rs := [.cell 3 34, .tmp 4]) hT Try.func64 rfl (by kernel_rfl) rfl ?_
  refine aw_sregU hT m_umbralaw42_FilterTurns_1_di [] (by kernel_rfl) ?_
  refine aw_sreg ?_
  refine awl_u hT m_umbralaw42_FilterTurns_1_di [] 2 (by kernel_rfl) ?_
  obtain ⟨r1, hr1, h⟩ := obind h
  refine awl_big (big_call [] (filter_Flip_ok hr1) filter_Flip_ok_c (by kernel_rfl) (by kernel_rfl)) (by kernel_rfl) ?_
  refine awl_u hT m_umbralaw42_FilterTurns_1_di [] 4 (by kernel_rfl) ?_
  refine awl_nil ?_
  refine aw_ret ?_
  cases h
  exact fin_r (by kernel_rfl)

theorem umbralaw42_FilterTurns_1_di_ok_c : callable Try.prog 64 := ⟨_, Try.func64, by decide, rfl⟩

/-! umbra/filter.Through -/
def p_filter_Through_dl_FilterTurns_1_Tent_z (N : Nat) (a0 : S_api_Plane) (a1 : Int) : Option (S_api_Plane × Int) :=
  Option.bind (p_umbralaw42_FilterTurns_1_di N a0 a1) fun r1 =>
  cond (r1.2 != 0) (
    some ((S_api_Plane.mk 0 0 0 (ByteArray.mk #[]) [], r1.2))) (
    Option.bind (p_filter_Tent N r1.1) fun r2 =>
    cond (r2.2 != 0) (
      some ((S_api_Plane.mk 0 0 0 (ByteArray.mk #[]) [], r2.2))) (
      some ((r2.1, 0))))

theorem filter_Through_dl_FilterTurns_1_Tent_z_ok {N : Nat} {a0 : S_api_Plane} {a1 : Int} {r : S_api_Plane × Int} (h : p_filter_Through_dl_FilterTurns_1_Tent_z N a0 a1 = some r) : FnM Try.prog 29 [] [(S_api_Plane.enc a0), (.sl 1 2 [(.fn (.func 64) [] [(.im (j64 a1))]), (.fn (.func 25) [] [])])] (.tup [(S_api_Plane.enc r.1), (j64 r.2)]) [] := by
  unfold p_filter_Through_dl_FilterTurns_1_Tent_z at h
  refine fnM_of_aw (m := 36) (lo := 0) (rs := [.cell 4 34, .tmp 5]) hT Try.func29 rfl (by kernel_rfl) rfl ?_
  refine aw_sregU hT m_no [] (by kernel_rfl) ?_
  refine aw_seq ?_
  refine aw_sregU hT m_no [] (by kernel_rfl) ?_
  refine aw_condB (b := false) (c := false) rfl (by kernel_rfl) ?_
  refine aw_skip (tn_n ?_)
  refine aw_seq ?_
  refine aw_sregU hT m_no [] (by kernel_rfl) ?_
  refine aw_block ?_
  refine aw_unroll 40 ?_
  refine unr_s ?_
  refine aw_sregU hT m_no [] (by kernel_rfl) ?_
  refine aw_seq ?_
  refine aw_condB (b := true) (c := true) rfl (by kernel_rfl) ?_
  refine aw_skip (tn_n ?_)
  refine aw_seq ?_
  refine aw_block ?_
  refine aw_sreg ?_
  refine awl_big (big_idx hT (α := AV) id (l := [(.fn (.func 64) [] [(.im (j64 a1))]), (.fn (.func 25) [] [])]) (i := 0) (e := (.fn (.func 64) [] [(.im (j64 a1))])) rfl (by kernel_rfl) (by kernel_rfl)) (by kernel_rfl) ?_
  refine awl_u hT m_no [] 2 (by kernel_rfl) ?_
  refine awl_nil ?_
  refine aw_sreg ?_
  refine awl_u hT m_no [] 2 (by kernel_rfl) ?_
  obtain ⟨r1, hr1, h⟩ := obind h
  refine awl_big (big_call [] (umbralaw42_FilterTurns_1_di_ok hr1) umbralaw42_FilterTurns_1_di_ok_c (by kernel_rfl) (by kernel_rfl)) (by kernel_rfl) ?_
  refine awl_u hT m_no [] 6 (by kernel_rfl) ?_
  refine awl_nil ?_
  refine aw_seq ?_
  refine aw_sregU hT m_no [] (by kernel_rfl) ?_
  refine aw_condH h (by kernel_rfl) (fun _ h => ?_) (fun _ h => ?_)
  · refine aw_sregU hT m_no [] (by kernel_rfl) ?_
    refine aw_ret (tn_r (inB_r (tn_r (tn_r (inB_r (tn_r ?_))))))
    cases h
    exact fin_r (by kernel_rfl)
  · refine aw_skip (tn_n ?_)
    refine aw_regU hT m_no [] (by kernel_rfl) (inB_n (tn_n ?_))
    refine aw_regU hT m_no [] (by kernel_rfl) (tn_n ?_)
    refine unr_s ?_
    refine aw_sregU hT m_no [] (by kernel_rfl) ?_
    refine aw_seq ?_
    refine aw_condB (b := true) (c := true) rfl (by kernel_rfl) ?_
    refine aw_skip (tn_n ?_)
    refine aw_seq ?_
    refine aw_block ?_
    refine aw_sreg ?_
    refine awl_big (big_idx hT (α := AV) id (l := [(.fn (.func 64) [] [(.im (j64 a1))]), (.fn (.func 25) [] [])]) (i := 1) (e := (.fn (.func 25) [] [])) rfl (by kernel_rfl) (by kernel_rfl)) (by kernel_rfl) ?_
    refine awl_u hT m_no [] 2 (by kernel_rfl) ?_
    refine awl_nil ?_
    refine aw_sreg ?_
    refine awl_u hT m_no [] 2 (by kernel_rfl) ?_
    obtain ⟨r2, hr2, h⟩ := obind h
    refine awl_big (big_call [] (filter_Tent_ok hr2) filter_Tent_ok_c (by kernel_rfl) (by kernel_rfl)) (by kernel_rfl) ?_
    refine awl_u hT m_no [] 6 (by kernel_rfl) ?_
    refine awl_nil ?_
    refine aw_seq ?_
    refine aw_sregU hT m_no [] (by kernel_rfl) ?_
    refine aw_condH h (by kernel_rfl) (fun _ h => ?_) (fun _ h => ?_)
    · refine aw_sregU hT m_no [] (by kernel_rfl) ?_
      refine aw_ret (tn_r (inB_r (tn_r (tn_r (inB_r (tn_r ?_))))))
      cases h
      exact fin_r (by kernel_rfl)
    · refine aw_skip (tn_n ?_)
      refine aw_regU hT m_no [] (by kernel_rfl) (inB_n (tn_n ?_))
      refine aw_regU hT m_no [] (by kernel_rfl) (tn_n ?_)
      refine unr_s ?_
      refine aw_sregU hT m_no [] (by kernel_rfl) ?_
      refine aw_seq ?_
      refine aw_condB (b := false) (c := false) rfl (by kernel_rfl) ?_
      refine aw_exit (tn_x (tn_x (inB_e (tn_n ?_))))
      refine aw_sregU hT m_no [] (by kernel_rfl) ?_
      refine aw_ret ?_
      cases h
      exact fin_r (by kernel_rfl)

theorem filter_Through_dl_FilterTurns_1_Tent_z_ok_c : callable Try.prog 29 := ⟨_, Try.func29, by decide, rfl⟩

/-! umbra/filter.Through -/
def p_filter_Through_dl_Tent_FilterTurns_1_z (N : Nat) (a0 : S_api_Plane) (a1 : Int) : Option (S_api_Plane × Int) :=
  Option.bind (p_filter_Tent N a0) fun r1 =>
  cond (r1.2 != 0) (
    some ((S_api_Plane.mk 0 0 0 (ByteArray.mk #[]) [], r1.2))) (
    Option.bind (p_umbralaw42_FilterTurns_1_di N r1.1 a1) fun r2 =>
    cond (r2.2 != 0) (
      some ((S_api_Plane.mk 0 0 0 (ByteArray.mk #[]) [], r2.2))) (
      some ((r2.1, 0))))

theorem filter_Through_dl_Tent_FilterTurns_1_z_ok {N : Nat} {a0 : S_api_Plane} {a1 : Int} {r : S_api_Plane × Int} (h : p_filter_Through_dl_Tent_FilterTurns_1_z N a0 a1 = some r) : FnM Try.prog 29 [] [(S_api_Plane.enc a0), (.sl 1 2 [(.fn (.func 25) [] []), (.fn (.func 64) [] [(.im (j64 a1))])])] (.tup [(S_api_Plane.enc r.1), (j64 r.2)]) [] := by
  unfold p_filter_Through_dl_Tent_FilterTurns_1_z at h
  refine fnM_of_aw (m := 36) (lo := 0) (rs := [.cell 4 34, .tmp 5]) hT Try.func29 rfl (by kernel_rfl) rfl ?_
  refine aw_sregU hT m_no [] (by kernel_rfl) ?_
  refine aw_seq ?_
  refine aw_sregU hT m_no [] (by kernel_rfl) ?_
  refine aw_condB (b := false) (c := false) rfl (by kernel_rfl) ?_
  refine aw_skip (tn_n ?_)
  refine aw_seq ?_
  refine aw_sregU hT m_no [] (by kernel_rfl) ?_
  refine aw_block ?_
  refine aw_unroll 40 ?_
  refine unr_s ?_
  refine aw_sregU hT m_no [] (by kernel_rfl) ?_
  refine aw_seq ?_
  refine aw_condB (b := true) (c := true) rfl (by kernel_rfl) ?_
  refine aw_skip (tn_n ?_)
  refine aw_seq ?_
  refine aw_block ?_
  refine aw_sreg ?_
  refine awl_big (big_idx hT (α := AV) id (l := [(.fn (.func 25) [] []), (.fn (.func 64) [] [(.im (j64 a1))])]) (i := 0) (e := (.fn (.func 25) [] [])) rfl (by kernel_rfl) (by kernel_rfl)) (by kernel_rfl) ?_
  refine awl_u hT m_no [] 2 (by kernel_rfl) ?_
  refine awl_nil ?_
  refine aw_sreg ?_
  refine awl_u hT m_no [] 2 (by kernel_rfl) ?_
  obtain ⟨r1, hr1, h⟩ := obind h
  refine awl_big (big_call [] (filter_Tent_ok hr1) filter_Tent_ok_c (by kernel_rfl) (by kernel_rfl)) (by kernel_rfl) ?_
  refine awl_u hT m_no [] 6 (by kernel_rfl) ?_
  refine awl_nil ?_
  refine aw_seq ?_
  refine aw_sregU hT m_no [] (by kernel_rfl) ?_
  refine aw_condH h (by kernel_rfl) (fun _ h => ?_) (fun _ h => ?_)
  · refine aw_sregU hT m_no [] (by kernel_rfl) ?_
    refine aw_ret (tn_r (inB_r (tn_r (tn_r (inB_r (tn_r ?_))))))
    cases h
    exact fin_r (by kernel_rfl)
  · refine aw_skip (tn_n ?_)
    refine aw_regU hT m_no [] (by kernel_rfl) (inB_n (tn_n ?_))
    refine aw_regU hT m_no [] (by kernel_rfl) (tn_n ?_)
    refine unr_s ?_
    refine aw_sregU hT m_no [] (by kernel_rfl) ?_
    refine aw_seq ?_
    refine aw_condB (b := true) (c := true) rfl (by kernel_rfl) ?_
    refine aw_skip (tn_n ?_)
    refine aw_seq ?_
    refine aw_block ?_
    refine aw_sreg ?_
    refine awl_big (big_idx hT (α := AV) id (l := [(.fn (.func 25) [] []), (.fn (.func 64) [] [(.im (j64 a1))])]) (i := 1) (e := (.fn (.func 64) [] [(.im (j64 a1))])) rfl (by kernel_rfl) (by kernel_rfl)) (by kernel_rfl) ?_
    refine awl_u hT m_no [] 2 (by kernel_rfl) ?_
    refine awl_nil ?_
    refine aw_sreg ?_
    refine awl_u hT m_no [] 2 (by kernel_rfl) ?_
    obtain ⟨r2, hr2, h⟩ := obind h
    refine awl_big (big_call [] (umbralaw42_FilterTurns_1_di_ok hr2) umbralaw42_FilterTurns_1_di_ok_c (by kernel_rfl) (by kernel_rfl)) (by kernel_rfl) ?_
    refine awl_u hT m_no [] 6 (by kernel_rfl) ?_
    refine awl_nil ?_
    refine aw_seq ?_
    refine aw_sregU hT m_no [] (by kernel_rfl) ?_
    refine aw_condH h (by kernel_rfl) (fun _ h => ?_) (fun _ h => ?_)
    · refine aw_sregU hT m_no [] (by kernel_rfl) ?_
      refine aw_ret (tn_r (inB_r (tn_r (tn_r (inB_r (tn_r ?_))))))
      cases h
      exact fin_r (by kernel_rfl)
    · refine aw_skip (tn_n ?_)
      refine aw_regU hT m_no [] (by kernel_rfl) (inB_n (tn_n ?_))
      refine aw_regU hT m_no [] (by kernel_rfl) (tn_n ?_)
      refine unr_s ?_
      refine aw_sregU hT m_no [] (by kernel_rfl) ?_
      refine aw_seq ?_
      refine aw_condB (b := false) (c := false) rfl (by kernel_rfl) ?_
      refine aw_exit (tn_x (tn_x (inB_e (tn_n ?_))))
      refine aw_sregU hT m_no [] (by kernel_rfl) ?_
      refine aw_ret ?_
      cases h
      exact fin_r (by kernel_rfl)

theorem filter_Through_dl_Tent_FilterTurns_1_z_ok_c : callable Try.prog 29 := ⟨_, Try.func29, by decide, rfl⟩

/-! umbra/filter.Through -/
def p_filter_Through_dl_FilterTurns_1_Box_z (N : Nat) (a0 : S_api_Plane) (a1 : Int) : Option (S_api_Plane × Int) :=
  Option.bind (p_umbralaw42_FilterTurns_1_di N a0 a1) fun r1 =>
  cond (r1.2 != 0) (
    some ((S_api_Plane.mk 0 0 0 (ByteArray.mk #[]) [], r1.2))) (
    Option.bind (p_filter_Box N r1.1) fun r2 =>
    cond (r2.2 != 0) (
      some ((S_api_Plane.mk 0 0 0 (ByteArray.mk #[]) [], r2.2))) (
      some ((r2.1, 0))))

theorem filter_Through_dl_FilterTurns_1_Box_z_ok {N : Nat} {a0 : S_api_Plane} {a1 : Int} {r : S_api_Plane × Int} (h : p_filter_Through_dl_FilterTurns_1_Box_z N a0 a1 = some r) : FnM Try.prog 29 [] [(S_api_Plane.enc a0), (.sl 1 2 [(.fn (.func 64) [] [(.im (j64 a1))]), (.fn (.func 26) [] [])])] (.tup [(S_api_Plane.enc r.1), (j64 r.2)]) [] := by
  unfold p_filter_Through_dl_FilterTurns_1_Box_z at h
  refine fnM_of_aw (m := 36) (lo := 0) (rs := [.cell 4 34, .tmp 5]) hT Try.func29 rfl (by kernel_rfl) rfl ?_
  refine aw_sregU hT m_no [] (by kernel_rfl) ?_
  refine aw_seq ?_
  refine aw_sregU hT m_no [] (by kernel_rfl) ?_
  refine aw_condB (b := false) (c := false) rfl (by kernel_rfl) ?_
  refine aw_skip (tn_n ?_)
  refine aw_seq ?_
  refine aw_sregU hT m_no [] (by kernel_rfl) ?_
  refine aw_block ?_
  refine aw_unroll 40 ?_
  refine unr_s ?_
  refine aw_sregU hT m_no [] (by kernel_rfl) ?_
  refine aw_seq ?_
  refine aw_condB (b := true) (c := true) rfl (by kernel_rfl) ?_
  refine aw_skip (tn_n ?_)
  refine aw_seq ?_
  refine aw_block ?_
  refine aw_sreg ?_
  refine awl_big (big_idx hT (α := AV) id (l := [(.fn (.func 64) [] [(.im (j64 a1))]), (.fn (.func 26) [] [])]) (i := 0) (e := (.fn (.func 64) [] [(.im (j64 a1))])) rfl (by kernel_rfl) (by kernel_rfl)) (by kernel_rfl) ?_
  refine awl_u hT m_no [] 2 (by kernel_rfl) ?_
  refine awl_nil ?_
  refine aw_sreg ?_
  refine awl_u hT m_no [] 2 (by kernel_rfl) ?_
  obtain ⟨r1, hr1, h⟩ := obind h
  refine awl_big (big_call [] (umbralaw42_FilterTurns_1_di_ok hr1) umbralaw42_FilterTurns_1_di_ok_c (by kernel_rfl) (by kernel_rfl)) (by kernel_rfl) ?_
  refine awl_u hT m_no [] 6 (by kernel_rfl) ?_
  refine awl_nil ?_
  refine aw_seq ?_
  refine aw_sregU hT m_no [] (by kernel_rfl) ?_
  refine aw_condH h (by kernel_rfl) (fun _ h => ?_) (fun _ h => ?_)
  · refine aw_sregU hT m_no [] (by kernel_rfl) ?_
    refine aw_ret (tn_r (inB_r (tn_r (tn_r (inB_r (tn_r ?_))))))
    cases h
    exact fin_r (by kernel_rfl)
  · refine aw_skip (tn_n ?_)
    refine aw_regU hT m_no [] (by kernel_rfl) (inB_n (tn_n ?_))
    refine aw_regU hT m_no [] (by kernel_rfl) (tn_n ?_)
    refine unr_s ?_
    refine aw_sregU hT m_no [] (by kernel_rfl) ?_
    refine aw_seq ?_
    refine aw_condB (b := true) (c := true) rfl (by kernel_rfl) ?_
    refine aw_skip (tn_n ?_)
    refine aw_seq ?_
    refine aw_block ?_
    refine aw_sreg ?_
    refine awl_big (big_idx hT (α := AV) id (l := [(.fn (.func 64) [] [(.im (j64 a1))]), (.fn (.func 26) [] [])]) (i := 1) (e := (.fn (.func 26) [] [])) rfl (by kernel_rfl) (by kernel_rfl)) (by kernel_rfl) ?_
    refine awl_u hT m_no [] 2 (by kernel_rfl) ?_
    refine awl_nil ?_
    refine aw_sreg ?_
    refine awl_u hT m_no [] 2 (by kernel_rfl) ?_
    obtain ⟨r2, hr2, h⟩ := obind h
    refine awl_big (big_call [] (filter_Box_ok hr2) filter_Box_ok_c (by kernel_rfl) (by kernel_rfl)) (by kernel_rfl) ?_
    refine awl_u hT m_no [] 6 (by kernel_rfl) ?_
    refine awl_nil ?_
    refine aw_seq ?_
    refine aw_sregU hT m_no [] (by kernel_rfl) ?_
    refine aw_condH h (by kernel_rfl) (fun _ h => ?_) (fun _ h => ?_)
    · refine aw_sregU hT m_no [] (by kernel_rfl) ?_
      refine aw_ret (tn_r (inB_r (tn_r (tn_r (inB_r (tn_r ?_))))))
      cases h
      exact fin_r (by kernel_rfl)
    · refine aw_skip (tn_n ?_)
      refine aw_regU hT m_no [] (by kernel_rfl) (inB_n (tn_n ?_))
      refine aw_regU hT m_no [] (by kernel_rfl) (tn_n ?_)
      refine unr_s ?_
      refine aw_sregU hT m_no [] (by kernel_rfl) ?_
      refine aw_seq ?_
      refine aw_condB (b := false) (c := false) rfl (by kernel_rfl) ?_
      refine aw_exit (tn_x (tn_x (inB_e (tn_n ?_))))
      refine aw_sregU hT m_no [] (by kernel_rfl) ?_
      refine aw_ret ?_
      cases h
      exact fin_r (by kernel_rfl)

theorem filter_Through_dl_FilterTurns_1_Box_z_ok_c : callable Try.prog 29 := ⟨_, Try.func29, by decide, rfl⟩

/-! umbra/filter.Through -/
def p_filter_Through_dl_Box_FilterTurns_1_z (N : Nat) (a0 : S_api_Plane) (a1 : Int) : Option (S_api_Plane × Int) :=
  Option.bind (p_filter_Box N a0) fun r1 =>
  cond (r1.2 != 0) (
    some ((S_api_Plane.mk 0 0 0 (ByteArray.mk #[]) [], r1.2))) (
    Option.bind (p_umbralaw42_FilterTurns_1_di N r1.1 a1) fun r2 =>
    cond (r2.2 != 0) (
      some ((S_api_Plane.mk 0 0 0 (ByteArray.mk #[]) [], r2.2))) (
      some ((r2.1, 0))))

theorem filter_Through_dl_Box_FilterTurns_1_z_ok {N : Nat} {a0 : S_api_Plane} {a1 : Int} {r : S_api_Plane × Int} (h : p_filter_Through_dl_Box_FilterTurns_1_z N a0 a1 = some r) : FnM Try.prog 29 [] [(S_api_Plane.enc a0), (.sl 1 2 [(.fn (.func 26) [] []), (.fn (.func 64) [] [(.im (j64 a1))])])] (.tup [(S_api_Plane.enc r.1), (j64 r.2)]) [] := by
  unfold p_filter_Through_dl_Box_FilterTurns_1_z at h
  refine fnM_of_aw (m := 36) (lo := 0) (rs := [.cell 4 34, .tmp 5]) hT Try.func29 rfl (by kernel_rfl) rfl ?_
  refine aw_sregU hT m_no [] (by kernel_rfl) ?_
  refine aw_seq ?_
  refine aw_sregU hT m_no [] (by kernel_rfl) ?_
  refine aw_condB (b := false) (c := false) rfl (by kernel_rfl) ?_
  refine aw_skip (tn_n ?_)
  refine aw_seq ?_
  refine aw_sregU hT m_no [] (by kernel_rfl) ?_
  refine aw_block ?_
  refine aw_unroll 40 ?_
  refine unr_s ?_
  refine aw_sregU hT m_no [] (by kernel_rfl) ?_
  refine aw_seq ?_
  refine aw_condB (b := true) (c := true) rfl (by kernel_rfl) ?_
  refine aw_skip (tn_n ?_)
  refine aw_seq ?_
  refine aw_block ?_
  refine aw_sreg ?_
  refine awl_big (big_idx hT (α := AV) id (l := [(.fn (.func 26) [] []), (.fn (.func 64) [] [(.im (j64 a1))])]) (i := 0) (e := (.fn (.func 26) [] [])) rfl (by kernel_rfl) (by kernel_rfl)) (by kernel_rfl) ?_
  refine awl_u hT m_no [] 2 (by kernel_rfl) ?_
  refine awl_nil ?_
  refine aw_sreg ?_
  refine awl_u hT m_no [] 2 (by kernel_rfl) ?_
  obtain ⟨r1, hr1, h⟩ := obind h
  refine awl_big (big_call [] (filter_Box_ok hr1) filter_Box_ok_c (by kernel_rfl) (by kernel_rfl)) (by kernel_rfl) ?_
  refine awl_u hT m_no [] 6 (by kernel_rfl) ?_
  refine awl_nil ?_
  refine aw_seq ?_
  refine aw_sregU hT m_no [] (by kernel_rfl) ?_
  refine aw_condH h (by kernel_rfl) (fun _ h => ?_) (fun _ h => ?_)
  · refine aw_sregU hT m_no [] (by kernel_rfl) ?_
    refine aw_ret (tn_r (inB_r (tn_r (tn_r (inB_r (tn_r ?_))))))
    cases h
    exact fin_r (by kernel_rfl)
  · refine aw_skip (tn_n ?_)
    refine aw_regU hT m_no [] (by kernel_rfl) (inB_n (tn_n ?_))
    refine aw_regU hT m_no [] (by kernel_rfl) (tn_n ?_)
    refine unr_s ?_
    refine aw_sregU hT m_no [] (by kernel_rfl) ?_
    refine aw_seq ?_
    refine aw_condB (b := true) (c := true) rfl (by kernel_rfl) ?_
    refine aw_skip (tn_n ?_)
    refine aw_seq ?_
    refine aw_block ?_
    refine aw_sreg ?_
    refine awl_big (big_idx hT (α := AV) id (l := [(.fn (.func 26) [] []), (.fn (.func 64) [] [(.im (j64 a1))])]) (i := 1) (e := (.fn (.func 64) [] [(.im (j64 a1))])) rfl (by kernel_rfl) (by kernel_rfl)) (by kernel_rfl) ?_
    refine awl_u hT m_no [] 2 (by kernel_rfl) ?_
    refine awl_nil ?_
    refine aw_sreg ?_
    refine awl_u hT m_no [] 2 (by kernel_rfl) ?_
    obtain ⟨r2, hr2, h⟩ := obind h
    refine awl_big (big_call [] (umbralaw42_FilterTurns_1_di_ok hr2) umbralaw42_FilterTurns_1_di_ok_c (by kernel_rfl) (by kernel_rfl)) (by kernel_rfl) ?_
    refine awl_u hT m_no [] 6 (by kernel_rfl) ?_
    refine awl_nil ?_
    refine aw_seq ?_
    refine aw_sregU hT m_no [] (by kernel_rfl) ?_
    refine aw_condH h (by kernel_rfl) (fun _ h => ?_) (fun _ h => ?_)
    · refine aw_sregU hT m_no [] (by kernel_rfl) ?_
      refine aw_ret (tn_r (inB_r (tn_r (tn_r (inB_r (tn_r ?_))))))
      cases h
      exact fin_r (by kernel_rfl)
    · refine aw_skip (tn_n ?_)
      refine aw_regU hT m_no [] (by kernel_rfl) (inB_n (tn_n ?_))
      refine aw_regU hT m_no [] (by kernel_rfl) (tn_n ?_)
      refine unr_s ?_
      refine aw_sregU hT m_no [] (by kernel_rfl) ?_
      refine aw_seq ?_
      refine aw_condB (b := false) (c := false) rfl (by kernel_rfl) ?_
      refine aw_exit (tn_x (tn_x (inB_e (tn_n ?_))))
      refine aw_sregU hT m_no [] (by kernel_rfl) ?_
      refine aw_ret ?_
      cases h
      exact fin_r (by kernel_rfl)

theorem filter_Through_dl_Box_FilterTurns_1_z_ok_c : callable Try.prog 29 := ⟨_, Try.func29, by decide, rfl⟩

/-! umbra/filter.Through -/
def p_filter_Through_dl_FilterTurns_1_Median_z (N : Nat) (a0 : S_api_Plane) (a1 : Int) : Option (S_api_Plane × Int) :=
  Option.bind (p_umbralaw42_FilterTurns_1_di N a0 a1) fun r1 =>
  cond (r1.2 != 0) (
    some ((S_api_Plane.mk 0 0 0 (ByteArray.mk #[]) [], r1.2))) (
    Option.bind (p_filter_Median N r1.1) fun r2 =>
    cond (r2.2 != 0) (
      some ((S_api_Plane.mk 0 0 0 (ByteArray.mk #[]) [], r2.2))) (
      some ((r2.1, 0))))

theorem filter_Through_dl_FilterTurns_1_Median_z_ok {N : Nat} {a0 : S_api_Plane} {a1 : Int} {r : S_api_Plane × Int} (h : p_filter_Through_dl_FilterTurns_1_Median_z N a0 a1 = some r) : FnM Try.prog 29 [] [(S_api_Plane.enc a0), (.sl 1 2 [(.fn (.func 64) [] [(.im (j64 a1))]), (.fn (.func 58) [] [])])] (.tup [(S_api_Plane.enc r.1), (j64 r.2)]) [] := by
  unfold p_filter_Through_dl_FilterTurns_1_Median_z at h
  refine fnM_of_aw (m := 36) (lo := 0) (rs := [.cell 4 34, .tmp 5]) hT Try.func29 rfl (by kernel_rfl) rfl ?_
  refine aw_sregU hT m_no [] (by kernel_rfl) ?_
  refine aw_seq ?_
  refine aw_sregU hT m_no [] (by kernel_rfl) ?_
  refine aw_condB (b := false) (c := false) rfl (by kernel_rfl) ?_
  refine aw_skip (tn_n ?_)
  refine aw_seq ?_
  refine aw_sregU hT m_no [] (by kernel_rfl) ?_
  refine aw_block ?_
  refine aw_unroll 40 ?_
  refine unr_s ?_
  refine aw_sregU hT m_no [] (by kernel_rfl) ?_
  refine aw_seq ?_
  refine aw_condB (b := true) (c := true) rfl (by kernel_rfl) ?_
  refine aw_skip (tn_n ?_)
  refine aw_seq ?_
  refine aw_block ?_
  refine aw_sreg ?_
  refine awl_big (big_idx hT (α := AV) id (l := [(.fn (.func 64) [] [(.im (j64 a1))]), (.fn (.func 58) [] [])]) (i := 0) (e := (.fn (.func 64) [] [(.im (j64 a1))])) rfl (by kernel_rfl) (by kernel_rfl)) (by kernel_rfl) ?_
  refine awl_u hT m_no [] 2 (by kernel_rfl) ?_
  refine awl_nil ?_
  refine aw_sreg ?_
  refine awl_u hT m_no [] 2 (by kernel_rfl) ?_
  obtain ⟨r1, hr1, h⟩ := obind h
  refine awl_big (big_call [] (umbralaw42_FilterTurns_1_di_ok hr1) umbralaw42_FilterTurns_1_di_ok_c (by kernel_rfl) (by kernel_rfl)) (by kernel_rfl) ?_
  refine awl_u hT m_no [] 6 (by kernel_rfl) ?_
  refine awl_nil ?_
  refine aw_seq ?_
  refine aw_sregU hT m_no [] (by kernel_rfl) ?_
  refine aw_condH h (by kernel_rfl) (fun _ h => ?_) (fun _ h => ?_)
  · refine aw_sregU hT m_no [] (by kernel_rfl) ?_
    refine aw_ret (tn_r (inB_r (tn_r (tn_r (inB_r (tn_r ?_))))))
    cases h
    exact fin_r (by kernel_rfl)
  · refine aw_skip (tn_n ?_)
    refine aw_regU hT m_no [] (by kernel_rfl) (inB_n (tn_n ?_))
    refine aw_regU hT m_no [] (by kernel_rfl) (tn_n ?_)
    refine unr_s ?_
    refine aw_sregU hT m_no [] (by kernel_rfl) ?_
    refine aw_seq ?_
    refine aw_condB (b := true) (c := true) rfl (by kernel_rfl) ?_
    refine aw_skip (tn_n ?_)
    refine aw_seq ?_
    refine aw_block ?_
    refine aw_sreg ?_
    refine awl_big (big_idx hT (α := AV) id (l := [(.fn (.func 64) [] [(.im (j64 a1))]), (.fn (.func 58) [] [])]) (i := 1) (e := (.fn (.func 58) [] [])) rfl (by kernel_rfl) (by kernel_rfl)) (by kernel_rfl) ?_
    refine awl_u hT m_no [] 2 (by kernel_rfl) ?_
    refine awl_nil ?_
    refine aw_sreg ?_
    refine awl_u hT m_no [] 2 (by kernel_rfl) ?_
    obtain ⟨r2, hr2, h⟩ := obind h
    refine awl_big (big_call [] (filter_Median_ok hr2) filter_Median_ok_c (by kernel_rfl) (by kernel_rfl)) (by kernel_rfl) ?_
    refine awl_u hT m_no [] 6 (by kernel_rfl) ?_
    refine awl_nil ?_
    refine aw_seq ?_
    refine aw_sregU hT m_no [] (by kernel_rfl) ?_
    refine aw_condH h (by kernel_rfl) (fun _ h => ?_) (fun _ h => ?_)
    · refine aw_sregU hT m_no [] (by kernel_rfl) ?_
      refine aw_ret (tn_r (inB_r (tn_r (tn_r (inB_r (tn_r ?_))))))
      cases h
      exact fin_r (by kernel_rfl)
    · refine aw_skip (tn_n ?_)
      refine aw_regU hT m_no [] (by kernel_rfl) (inB_n (tn_n ?_))
      refine aw_regU hT m_no [] (by kernel_rfl) (tn_n ?_)
      refine unr_s ?_
      refine aw_sregU hT m_no [] (by kernel_rfl) ?_
      refine aw_seq ?_
      refine aw_condB (b := false) (c := false) rfl (by kernel_rfl) ?_
      refine aw_exit (tn_x (tn_x (inB_e (tn_n ?_))))
      refine aw_sregU hT m_no [] (by kernel_rfl) ?_
      refine aw_ret ?_
      cases h
      exact fin_r (by kernel_rfl)

theorem filter_Through_dl_FilterTurns_1_Median_z_ok_c : callable Try.prog 29 := ⟨_, Try.func29, by decide, rfl⟩

/-! umbra/filter.Through -/
def p_filter_Through_dl_Median_FilterTurns_1_z (N : Nat) (a0 : S_api_Plane) (a1 : Int) : Option (S_api_Plane × Int) :=
  Option.bind (p_filter_Median N a0) fun r1 =>
  cond (r1.2 != 0) (
    some ((S_api_Plane.mk 0 0 0 (ByteArray.mk #[]) [], r1.2))) (
    Option.bind (p_umbralaw42_FilterTurns_1_di N r1.1 a1) fun r2 =>
    cond (r2.2 != 0) (
      some ((S_api_Plane.mk 0 0 0 (ByteArray.mk #[]) [], r2.2))) (
      some ((r2.1, 0))))

theorem filter_Through_dl_Median_FilterTurns_1_z_ok {N : Nat} {a0 : S_api_Plane} {a1 : Int} {r : S_api_Plane × Int} (h : p_filter_Through_dl_Median_FilterTurns_1_z N a0 a1 = some r) : FnM Try.prog 29 [] [(S_api_Plane.enc a0), (.sl 1 2 [(.fn (.func 58) [] []), (.fn (.func 64) [] [(.im (j64 a1))])])] (.tup [(S_api_Plane.enc r.1), (j64 r.2)]) [] := by
  unfold p_filter_Through_dl_Median_FilterTurns_1_z at h
  refine fnM_of_aw (m := 36) (lo := 0) (rs := [.cell 4 34, .tmp 5]) hT Try.func29 rfl (by kernel_rfl) rfl ?_
  refine aw_sregU hT m_no [] (by kernel_rfl) ?_
  refine aw_seq ?_
  refine aw_sregU hT m_no [] (by kernel_rfl) ?_
  refine aw_condB (b := false) (c := false) rfl (by kernel_rfl) ?_
  refine aw_skip (tn_n ?_)
  refine aw_seq ?_
  refine aw_sregU hT m_no [] (by kernel_rfl) ?_
  refine aw_block ?_
  refine aw_unroll 40 ?_
  refine unr_s ?_
  refine aw_sregU hT m_no [] (by kernel_rfl) ?_
  refine aw_seq ?_
  refine aw_condB (b := true) (c := true) rfl (by kernel_rfl) ?_
  refine aw_skip (tn_n ?_)
  refine aw_seq ?_
  refine aw_block ?_
  refine aw_sreg ?_
  refine awl_big (big_idx hT (α := AV) id (l := [(.fn (.func 58) [] []), (.fn (.func 64) [] [(.im (j64 a1))])]) (i := 0) (e := (.fn (.func 58) [] [])) rfl (by kernel_rfl) (by kernel_rfl)) (by kernel_rfl) ?_
  refine awl_u hT m_no [] 2 (by kernel_rfl) ?_
  refine awl_nil ?_
  refine aw_sreg ?_
  refine awl_u hT m_no [] 2 (by kernel_rfl) ?_
  obtain ⟨r1, hr1, h⟩ := obind h
  refine awl_big (big_call [] (filter_Median_ok hr1) filter_Median_ok_c (by kernel_rfl) (by kernel_rfl)) (by kernel_rfl) ?_
  refine awl_u hT m_no [] 6 (by kernel_rfl) ?_
  refine awl_nil ?_
  refine aw_seq ?_
  refine aw_sregU hT m_no [] (by kernel_rfl) ?_
  refine aw_condH h (by kernel_rfl) (fun _ h => ?_) (fun _ h => ?_)
  · refine aw_sregU hT m_no [] (by kernel_rfl) ?_
    refine aw_ret (tn_r (inB_r (tn_r (tn_r (inB_r (tn_r ?_))))))
    cases h
    exact fin_r (by kernel_rfl)
  · refine aw_skip (tn_n ?_)
    refine aw_regU hT m_no [] (by kernel_rfl) (inB_n (tn_n ?_))
    refine aw_regU hT m_no [] (by kernel_rfl) (tn_n ?_)
    refine unr_s ?_
    refine aw_sregU hT m_no [] (by kernel_rfl) ?_
    refine aw_seq ?_
    refine aw_condB (b := true) (c := true) rfl (by kernel_rfl) ?_
    refine aw_skip (tn_n ?_)
    refine aw_seq ?_
    refine aw_block ?_
    refine aw_sreg ?_
    refine awl_big (big_idx hT (α := AV) id (l := [(.fn (.func 58) [] []), (.fn (.func 64) [] [(.im (j64 a1))])]) (i := 1) (e := (.fn (.func 64) [] [(.im (j64 a1))])) rfl (by kernel_rfl) (by kernel_rfl)) (by kernel_rfl) ?_
    refine awl_u hT m_no [] 2 (by kernel_rfl) ?_
    refine awl_nil ?_
    refine aw_sreg ?_
    refine awl_u hT m_no [] 2 (by kernel_rfl) ?_
    obtain ⟨r2, hr2, h⟩ := obind h
    refine awl_big (big_call [] (umbralaw42_FilterTurns_1_di_ok hr2) umbralaw42_FilterTurns_1_di_ok_c (by kernel_rfl) (by kernel_rfl)) (by kernel_rfl) ?_
    refine awl_u hT m_no [] 6 (by kernel_rfl) ?_
    refine awl_nil ?_
    refine aw_seq ?_
    refine aw_sregU hT m_no [] (by kernel_rfl) ?_
    refine aw_condH h (by kernel_rfl) (fun _ h => ?_) (fun _ h => ?_)
    · refine aw_sregU hT m_no [] (by kernel_rfl) ?_
      refine aw_ret (tn_r (inB_r (tn_r (tn_r (inB_r (tn_r ?_))))))
      cases h
      exact fin_r (by kernel_rfl)
    · refine aw_skip (tn_n ?_)
      refine aw_regU hT m_no [] (by kernel_rfl) (inB_n (tn_n ?_))
      refine aw_regU hT m_no [] (by kernel_rfl) (tn_n ?_)
      refine unr_s ?_
      refine aw_sregU hT m_no [] (by kernel_rfl) ?_
      refine aw_seq ?_
      refine aw_condB (b := false) (c := false) rfl (by kernel_rfl) ?_
      refine aw_exit (tn_x (tn_x (inB_e (tn_n ?_))))
      refine aw_sregU hT m_no [] (by kernel_rfl) ?_
      refine aw_ret ?_
      cases h
      exact fin_r (by kernel_rfl)

theorem filter_Through_dl_Median_FilterTurns_1_z_ok_c : callable Try.prog 29 := ⟨_, Try.func29, by decide, rfl⟩

/-! umbra/umbralaw42.FilterTurns -/
def p_umbralaw42_FilterTurns (N : Nat) (a0 : S_api_Plane) (a1 : Int) : Option (Bool) :=
  Option.bind (p_umbralaw42_few N a0) fun r1 =>
  Option.bind (p_filter_Flip N r1 (I64 (Int.tmod a1 4))) fun r2 =>
  cond (r2.2 != 0) (
    Option.bind (Option.bind (p_pam_Check N r1) fun r4 =>
    cond (r2.2 == r4) (
      Option.bind (p_umbralaw42_works N ) fun r5 =>
      some r5) (
      some false)) fun p3 =>
    some p3) (
    Option.bind (p_filter_Flip N r2.1 (I64 (Int.tmod a1 4))) fun r6 =>
    Option.bind (cond (r6.2 != 0) (
      some true) (
      Option.bind (p_umbraref30_Same N r6.1 r1) fun r8 =>
      some (!r8))) fun p7 =>
    cond p7 (
      some false) (
      Option.bind (p_filter_Through_dl_FilterTurns_1_Tent_z N r1 (I64 (Int.tmod a1 4))) fun r9 =>
      Option.bind (p_filter_Through_dl_Tent_FilterTurns_1_z N r1 (I64 (Int.tmod a1 4))) fun r10 =>
      Option.bind (letO (cond (r9.2 != 0) true (r10.2 != 0)) fun x12 =>
      cond x12 (
        some true) (
        Option.bind (p_umbraref30_Same N r9.1 r10.1) fun r13 =>
        some (!r13))) fun p11 =>
      cond p11 (
        some false) (
        Option.bind (p_filter_Through_dl_FilterTurns_1_Box_z N r1 (I64 (Int.tmod a1 4))) fun r14 =>
        Option.bind (p_filter_Through_dl_Box_FilterTurns_1_z N r1 (I64 (Int.tmod a1 4))) fun r15 =>
        Option.bind (letO (cond (r14.2 != 0) true (r15.2 != 0)) fun x17 =>
        cond x17 (
          some true) (
          Option.bind (p_umbraref30_Same N r14.1 r15.1) fun r18 =>
          some (!r18))) fun p16 =>
        cond p16 (
          some false) (
          Option.bind (p_filter_Through_dl_FilterTurns_1_Median_z N r1 (I64 (Int.tmod a1 4))) fun r19 =>
          Option.bind (p_filter_Through_dl_Median_FilterTurns_1_z N r1 (I64 (Int.tmod a1 4))) fun r20 =>
          Option.bind (letO (cond (r19.2 != 0) true (r20.2 != 0)) fun x22 =>
          cond x22 (
            some true) (
            Option.bind (p_umbraref30_Same N r19.1 r20.1) fun r23 =>
            some (!r23))) fun p21 =>
          cond p21 (
            some false) (
            Option.bind (p_umbralaw42_works N ) fun r24 =>
            some r24)))))

theorem umbralaw42_FilterTurns_ok {N : Nat} {a0 : S_api_Plane} {a1 : Int} {r : Bool} (h : p_umbralaw42_FilterTurns N a0 a1 = some r) : FnM Try.prog 16 [] [(S_api_Plane.enc a0), (k8 a1)] (eB r) [] := by
  unfold p_umbralaw42_FilterTurns at h
  refine fnM_of_aw (m := 88) (lo := 0) (rs := [.tmp 4]) hT Try.func16 rfl (by kernel_rfl) rfl ?_
  refine aw_sregU hT m_no [] (by kernel_rfl) ?_
  refine aw_sreg ?_
  refine awl_u hT m_no [] 1 (by kernel_rfl) ?_
  obtain ⟨r1, hr1, h⟩ := obind h
  refine awl_big (big_call [] (umbralaw42_few_ok hr1) umbralaw42_few_ok_c (by kernel_rfl) (by kernel_rfl)) (by kernel_rfl) ?_
  refine awl_u hT m_no [] 1 (by kernel_rfl) ?_
  refine awl_nil ?_
  refine aw_sregU hT m_no [] (by kernel_rfl) ?_
  refine aw_sreg ?_
  refine awl_u hT m_no [] 2 (by kernel_rfl) ?_
  obtain ⟨r2, hr2, h⟩ := obind h
  refine awl_big (big_call [] (filter_Flip_ok hr2) filter_Flip_ok_c (by kernel_rfl) (by kernel_rfl)) (by kernel_rfl) ?_
  refine awl_u hT m_no [] 6 (by kernel_rfl) ?_
  refine awl_nil ?_
  refine aw_seq ?_
  refine aw_sregU hT m_no [] (by kernel_rfl) ?_
  refine aw_condH h (by kernel_rfl) (fun _ h => ?_) (fun _ h => ?_)
  · obtain ⟨p3, h, g3⟩ := obind h
    refine aw_joinT ⟨[en 4 (eB p3)], [.var (S_api_Plane.enc r1), .var (j64 (I64 (Int.tmod a1 4))), .var (S_api_Plane.enc r2.1)]⟩ ?_ ?_
    · refine aw_region ?_
      refine awl_u hT m_no [] 2 (by kernel_rfl) ?_
      obtain ⟨r4, hr4, h⟩ := obind h
      refine awl_big (big_call [] (pam_Check_ok hr4) pam_Check_ok_c (by kernel_rfl) (by kernel_rfl)) (by kernel_rfl) ?_
      refine awl_u hT m_no [] 2 (by kernel_rfl) ?_
      refine awl_split 34 h (by kernel_rfl) (fun h => ?_) (fun h => ?_)
      · obtain ⟨r5, hr5, h⟩ := obind h
        refine awl_big (big_call [] (umbralaw42_works_ok hr5) umbralaw42_works_ok_c (by kernel_rfl) (by kernel_rfl)) (by kernel_rfl) ?_
        refine awl_u hT m_no [34] 2 (by kernel_rfl) ?_
        refine awl_nil (tn_n ?_)
        cases h
        exact jr (by kernel_rfl)
      · refine awl_u hT m_no [34] 3 (by kernel_rfl) ?_
        refine awl_nil (tn_n ?_)
        cases h
        exact jr (by kernel_rfl)
    · have h := g3
      refine aw_ret (tn_r ?_)
      cases h
      exact fin_r (by kernel_rfl)
  · refine aw_skip (tn_n ?_)
    refine aw_sreg ?_
    refine awl_u hT m_no [] 2 (by kernel_rfl) ?_
    obtain ⟨r6, hr6, h⟩ := obind h
    refine awl_big (big_call [] (filter_Flip_ok hr6) filter_Flip_ok_c (by kernel_rfl) (by kernel_rfl)) (by kernel_rfl) ?_
    refine awl_u hT m_no [] 6 (by kernel_rfl) ?_
    refine awl_nil ?_
    refine aw_seq ?_
    obtain ⟨p7, h, g7⟩ := obind h
    refine aw_joinT ⟨[en 2 (.ref 0 [] 0), en 5 (.ref 1 [] 0), en 50 (eB p7)], [.var (S_api_Plane.enc r1), .var (j64 (I64 (Int.tmod a1 4))), .var (S_api_Plane.enc r2.1), .var (S_api_Plane.enc r6.1)]⟩ ?_ ?_
    · refine aw_region ?_
      refine awl_u hT m_no [] 3 (by kernel_rfl) ?_
      refine awl_split 45 h (by kernel_rfl) (fun h => ?_) (fun h => ?_)
      · refine awl_u hT m_no [45] 5 (by kernel_rfl) ?_
        refine awl_nil (tn_n ?_)
        cases h
        exact jr (by kernel_rfl)
      · refine awl_u hT m_no [45] 2 (by kernel_rfl) ?_
        obtain ⟨r8, hr8, h⟩ := obind h
        refine awl_big (big_call [] (umbraref30_Same_ok hr8) umbraref30_Same_ok_c (by kernel_rfl) (by kernel_rfl)) (by kernel_rfl) ?_
        refine awl_u hT m_no [45] 2 (by kernel_rfl) ?_
        refine awl_nil (tn_n ?_)
        cases h
        exact jr (by kernel_rfl)
    · have h := g7
      refine aw_condH h (by kernel_rfl) (fun _ h => ?_) (fun _ h => ?_)
      · refine aw_sregU hT m_no [] (by kernel_rfl) ?_
        refine aw_ret (tn_r ?_)
        cases h
        exact fin_r (by kernel_rfl)
      · refine aw_skip (tn_n ?_)
        refine aw_sreg ?_
        refine awl_gz 1 ((j64 (I64 (Int.tmod a1 4)))) (by kernel_rfl) (by kernel_rfl) ?_
        refine awl_big (big_mkf (x := (.fn (.func 64) [] [(.im (j64 (I64 (Int.tmod a1 4))))])) (by kernel_rfl) (by kernel_rfl)) (by kernel_rfl) ?_
        refine awl_u hT m_no [] 1 (by kernel_rfl) ?_
        refine awl_nil ?_
        refine aw_seq ?_
        refine aw_sreg ?_
        refine awl_big (big_row hT (x := (.sl 1 3 [(.fn (.func 25) [] []), (.fn (.func 26) [] []), (.fn (.func 58) [] [])])) (by kernel_rfl) (by kernel_rfl)) (by kernel_rfl) ?_
        refine awl_u hT m_no [] 2 (by kernel_rfl) ?_
        refine awl_nil ?_
        refine aw_block ?_
        refine aw_unroll 40 ?_
        refine unr_s ?_
        refine aw_sregU hT m_no [] (by kernel_rfl) ?_
        refine aw_seq ?_
        refine aw_condB (b := true) (c := true) rfl (by kernel_rfl) ?_
        refine aw_skip (tn_n ?_)
        refine aw_seq ?_
        refine aw_block ?_
        refine aw_sreg ?_
        refine awl_big (big_idx hT (α := AV) id (l := [(.fn (.func 25) [] []), (.fn (.func 26) [] []), (.fn (.func 58) [] [])]) (i := 0) (e := (.fn (.func 25) [] [])) rfl (by kernel_rfl) (by kernel_rfl)) (by kernel_rfl) ?_
        refine awl_u hT m_no [] 2 (by kernel_rfl) ?_
        refine awl_nil ?_
        refine aw_sreg ?_
        refine awl_u hT m_no [] 3 (by kernel_rfl) ?_
        refine awl_big (big_row hT (x := (.sl 1 2 [(.fn (.func 64) [] [(.im (j64 (I64 (Int.tmod a1 4))))]), (.fn (.func 25) [] [])])) (by kernel_rfl) (by kernel_rfl)) (by kernel_rfl) ?_
        obtain ⟨r9, hr9, h⟩ := obind h
        refine awl_big (big_call [] (filter_Through_dl_FilterTurns_1_Tent_z_ok hr9) filter_Through_dl_FilterTurns_1_Tent_z_ok_c (by kernel_rfl) (by kernel_rfl)) (by kernel_rfl) ?_
        refine awl_u hT m_no [] 6 (by kernel_rfl) ?_
        refine awl_nil ?_
        refine aw_sreg ?_
        refine awl_u hT m_no [] 3 (by kernel_rfl) ?_
        refine awl_big (big_row hT (x := (.sl 1 2 [(.fn (.func 25) [] []), (.fn (.func 64) [] [(.im (j64 (I64 (Int.tmod a1 4))))])])) (by kernel_rfl) (by kernel_rfl)) (by kernel_rfl) ?_
        obtain ⟨r10, hr10, h⟩ := obind h
        refine awl_big (big_call [] (filter_Through_dl_Tent_FilterTurns_1_z_ok hr10) filter_Through_dl_Tent_FilterTurns_1_z_ok_c (by kernel_rfl) (by kernel_rfl)) (by kernel_rfl) ?_
        refine awl_u hT m_no [] 6 (by kernel_rfl) ?_
        refine awl_nil ?_
        obtain ⟨p11, h, g11⟩ := obind h
        refine aw_joinT ⟨[en 2 (.ref 0 [] 0), en 10 (.fn (.func 64) [] [(.im (j64 (I64 (Int.tmod a1 4))))]), en 52 (.sl 1 3 [(.fn (.func 25) [] []), (.fn (.func 26) [] []), (.fn (.func 58) [] [])]), en 53 (j64 3), en 54 (j64 0), en 85 (eB p11)], [.var (S_api_Plane.enc r1), .dead, .var (S_api_Plane.enc r2.1), .var (S_api_Plane.enc r6.1), .var (S_api_Plane.enc r9.1), .var (S_api_Plane.enc r10.1)]⟩ ?_ ?_
        · refine aw_region ?_
          obtain ⟨x12, hx12, h⟩ := letE h
          refine awl_u hT m_no [] 7 (by kernel_rfl) ?_
          refine awl_nms [(80, (eB x12))] (by subst hx12; kernel_rfl) ?_
          refine awl_split 80 h (by kernel_rfl) (fun h => ?_) (fun h => ?_)
          · refine awl_u hT m_no [80] 5 (by kernel_rfl) ?_
            refine awl_nil (tn_n ?_)
            cases h
            exact jr (by kernel_rfl)
          · refine awl_u hT m_no [80] 2 (by kernel_rfl) ?_
            obtain ⟨r13, hr13, h⟩ := obind h
            refine awl_big (big_call [] (umbraref30_Same_ok hr13) umbraref30_Same_ok_c (by kernel_rfl) (by kernel_rfl)) (by kernel_rfl) ?_
            refine awl_u hT m_no [80] 2 (by kernel_rfl) ?_
            refine awl_nil (tn_n ?_)
            cases h
            exact jr (by kernel_rfl)
        · have h := g11
          refine aw_condH h (by kernel_rfl) (fun _ h => ?_) (fun _ h => ?_)
          · refine aw_sregU hT m_no [] (by kernel_rfl) ?_
            refine aw_ret (inB_r (tn_r (tn_r (inB_r (tn_r ?_)))))
            cases h
            exact fin_r (by kernel_rfl)
          · refine aw_skip (inB_n (tn_n ?_))
            refine aw_regU hT m_no [] (by kernel_rfl) (tn_n ?_)
            refine unr_s ?_
            refine aw_sregU hT m_no [] (by kernel_rfl) ?_
            refine aw_seq ?_
            refine aw_condB (b := true) (c := true) rfl (by kernel_rfl) ?_
            refine aw_skip (tn_n ?_)
            refine aw_seq ?_
            refine aw_block ?_
            refine aw_sreg ?_
            refine awl_big (big_idx hT (α := AV) id (l := [(.fn (.func 25) [] []), (.fn (.func 26) [] []), (.fn (.func 58) [] [])]) (i := 1) (e := (.fn (.func 26) [] [])) rfl (by kernel_rfl) (by kernel_rfl)) (by kernel_rfl) ?_
            refine awl_u hT m_no [] 2 (by kernel_rfl) ?_
            refine awl_nil ?_
            refine aw_sreg ?_
            refine awl_u hT m_no [] 3 (by kernel_rfl) ?_
            refine awl_big (big_row hT (x := (.sl 1 2 [(.fn (.func 64) [] [(.im (j64 (I64 (Int.tmod a1 4))))]), (.fn (.func 26) [] [])])) (by kernel_rfl) (by kernel_rfl)) (by kernel_rfl) ?_
            obtain ⟨r14, hr14, h⟩ := obind h
            refine awl_big (big_call [] (filter_Through_dl_FilterTurns_1_Box_z_ok hr14) filter_Through_dl_FilterTurns_1_Box_z_ok_c (by kernel_rfl) (by kernel_rfl)) (by kernel_rfl) ?_
            refine awl_u hT m_no [] 6 (by kernel_rfl) ?_
            refine awl_nil ?_
            refine aw_sreg ?_
            refine awl_u hT m_no [] 3 (by kernel_rfl) ?_
            refine awl_big (big_row hT (x := (.sl 1 2 [(.fn (.func 26) [] []), (.fn (.func 64) [] [(.im (j64 (I64 (Int.tmod a1 4))))])])) (by kernel_rfl) (by kernel_rfl)) (by kernel_rfl) ?_
            obtain ⟨r15, hr15, h⟩ := obind h
            refine awl_big (big_call [] (filter_Through_dl_Box_FilterTurns_1_z_ok hr15) filter_Through_dl_Box_FilterTurns_1_z_ok_c (by kernel_rfl) (by kernel_rfl)) (by kernel_rfl) ?_
            refine awl_u hT m_no [] 6 (by kernel_rfl) ?_
            refine awl_nil ?_
            obtain ⟨p16, h, g16⟩ := obind h
            refine aw_joinT ⟨[en 2 (.ref 0 [] 0), en 10 (.fn (.func 64) [] [(.im (j64 (I64 (Int.tmod a1 4))))]), en 52 (.sl 1 3 [(.fn (.func 25) [] []), (.fn (.func 26) [] []), (.fn (.func 58) [] [])]), en 53 (j64 3), en 54 (j64 1), en 85 (eB p16)], [.var (S_api_Plane.enc r1), .dead, .var (S_api_Plane.enc r2.1), .var (S_api_Plane.enc r6.1), .var (S_api_Plane.enc r9.1), .var (S_api_Plane.enc r10.1), .var (S_api_Plane.enc r14.1), .var (S_api_Plane.enc r15.1)]⟩ ?_ ?_
            · refine aw_region ?_
              obtain ⟨x17, hx17, h⟩ := letE h
              refine awl_u hT m_no [] 7 (by kernel_rfl) ?_
              refine awl_nms [(80, (eB x17))] (by subst hx17; kernel_rfl) ?_
              refine awl_split 80 h (by kernel_rfl) (fun h => ?_) (fun h => ?_)
              · refine awl_u hT m_no [80] 5 (by kernel_rfl) ?_
                refine awl_nil (tn_n ?_)
                cases h
                exact jr (by kernel_rfl)
              · refine awl_u hT m_no [80] 2 (by kernel_rfl) ?_
                obtain ⟨r18, hr18, h⟩ := obind h
                refine awl_big (big_call [] (umbraref30_Same_ok hr18) umbraref30_Same_ok_c (by kernel_rfl) (by kernel_rfl)) (by kernel_rfl) ?_
                refine awl_u hT m_no [80] 2 (by kernel_rfl) ?_
                refine awl_nil (tn_n ?_)
                cases h
                exact jr (by kernel_rfl)
            · have h := g16
              refine aw_condH h (by kernel_rfl) (fun _ h => ?_) (fun _ h => ?_)
              · refine aw_sregU hT m_no [] (by kernel_rfl) ?_
                refine aw_ret (inB_r (tn_r (tn_r (inB_r (tn_r ?_)))))
                cases h
                exact fin_r (by kernel_rfl)
              · refine aw_skip (inB_n (tn_n ?_))
                refine aw_regU hT m_no [] (by kernel_rfl) (tn_n ?_)
                refine unr_s ?_
                refine aw_sregU hT m_no [] (by kernel_rfl) ?_
                refine aw_seq ?_
                refine aw_condB (b := true) (c := true) rfl (by kernel_rfl) ?_
                refine aw_skip (tn_n ?_)
                refine aw_seq ?_
                refine aw_block ?_
                refine aw_sreg ?_
                refine awl_big (big_idx hT (α := AV) id (l := [(.fn (.func 25) [] []), (.fn (.func 26) [] []), (.fn (.func 58) [] [])]) (i := 2) (e := (.fn (.func 58) [] [])) rfl (by kernel_rfl) (by kernel_rfl)) (by kernel_rfl) ?_
                refine awl_u hT m_no [] 2 (by kernel_rfl) ?_
                refine awl_nil ?_
                refine aw_sreg ?_
                refine awl_u hT m_no [] 3 (by kernel_rfl) ?_
                refine awl_big (big_row hT (x := (.sl 1 2 [(.fn (.func 64) [] [(.im (j64 (I64 (Int.tmod a1 4))))]), (.fn (.func 58) [] [])])) (by kernel_rfl) (by kernel_rfl)) (by kernel_rfl) ?_
                obtain ⟨r19, hr19, h⟩ := obind h
                refine awl_big (big_call [] (filter_Through_dl_FilterTurns_1_Median_z_ok hr19) filter_Through_dl_FilterTurns_1_Median_z_ok_c (by kernel_rfl) (by kernel_rfl)) (by kernel_rfl) ?_
                refine awl_u hT m_no [] 6 (by kernel_rfl) ?_
                refine awl_nil ?_
                refine aw_sreg ?_
                refine awl_u hT m_no [] 3 (by kernel_rfl) ?_
                refine awl_big (big_row hT (x := (.sl 1 2 [(.fn (.func 58) [] []), (.fn (.func 64) [] [(.im (j64 (I64 (Int.tmod a1 4))))])])) (by kernel_rfl) (by kernel_rfl)) (by kernel_rfl) ?_
                obtain ⟨r20, hr20, h⟩ := obind h
                refine awl_big (big_call [] (filter_Through_dl_Median_FilterTurns_1_z_ok hr20) filter_Through_dl_Median_FilterTurns_1_z_ok_c (by kernel_rfl) (by kernel_rfl)) (by kernel_rfl) ?_
                refine awl_u hT m_no [] 6 (by kernel_rfl) ?_
                refine awl_nil ?_
                obtain ⟨p21, h, g21⟩ := obind h
                refine aw_joinT ⟨[en 2 (.ref 0 [] 0), en 10 (.fn (.func 64) [] [(.im (j64 (I64 (Int.tmod a1 4))))]), en 52 (.sl 1 3 [(.fn (.func 25) [] []), (.fn (.func 26) [] []), (.fn (.func 58) [] [])]), en 53 (j64 3), en 54 (j64 2), en 85 (eB p21)], [.var (S_api_Plane.enc r1), .dead, .var (S_api_Plane.enc r2.1), .var (S_api_Plane.enc r6.1), .var (S_api_Plane.enc r9.1), .var (S_api_Plane.enc r10.1), .var (S_api_Plane.enc r14.1), .var (S_api_Plane.enc r15.1), .var (S_api_Plane.enc r19.1), .var (S_api_Plane.enc r20.1)]⟩ ?_ ?_
                · refine aw_region ?_
                  obtain ⟨x22, hx22, h⟩ := letE h
                  refine awl_u hT m_no [] 7 (by kernel_rfl) ?_
                  refine awl_nms [(80, (eB x22))] (by subst hx22; kernel_rfl) ?_
                  refine awl_split 80 h (by kernel_rfl) (fun h => ?_) (fun h => ?_)
                  · refine awl_u hT m_no [80] 5 (by kernel_rfl) ?_
                    refine awl_nil (tn_n ?_)
                    cases h
                    exact jr (by kernel_rfl)
                  · refine awl_u hT m_no [80] 2 (by kernel_rfl) ?_
                    obtain ⟨r23, hr23, h⟩ := obind h
                    refine awl_big (big_call [] (umbraref30_Same_ok hr23) umbraref30_Same_ok_c (by kernel_rfl) (by kernel_rfl)) (by kernel_rfl) ?_
                    refine awl_u hT m_no [80] 2 (by kernel_rfl) ?_
                    refine awl_nil (tn_n ?_)
                    cases h
                    exact jr (by kernel_rfl)
                · have h := g21
                  refine aw_condH h (by kernel_rfl) (fun _ h => ?_) (fun _ h => ?_)
                  · refine aw_sregU hT m_no [] (by kernel_rfl) ?_
                    refine aw_ret (inB_r (tn_r (tn_r (inB_r (tn_r ?_)))))
                    cases h
                    exact fin_r (by kernel_rfl)
                  · refine aw_skip (inB_n (tn_n ?_))
                    refine aw_regU hT m_no [] (by kernel_rfl) (tn_n ?_)
                    refine unr_s ?_
                    refine aw_sregU hT m_no [] (by kernel_rfl) ?_
                    refine aw_seq ?_
                    refine aw_condB (b := false) (c := false) rfl (by kernel_rfl) ?_
                    refine aw_exit (tn_x (tn_x (inB_e (tn_n ?_))))
                    refine aw_sreg ?_
                    obtain ⟨r24, hr24, h⟩ := obind h
                    refine awl_big (big_call [] (umbralaw42_works_ok hr24) umbralaw42_works_ok_c (by kernel_rfl) (by kernel_rfl)) (by kernel_rfl) ?_
                    refine awl_u hT m_no [] 1 (by kernel_rfl) ?_
                    refine awl_nil ?_
                    refine aw_ret ?_
                    cases h
                    exact fin_r (by kernel_rfl)

theorem umbralaw42_FilterTurns_ok_c : callable Try.prog 16 := ⟨_, Try.func16, by decide, rfl⟩

end Go.UK
