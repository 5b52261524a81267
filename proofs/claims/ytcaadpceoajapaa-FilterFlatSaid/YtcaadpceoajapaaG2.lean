/- A part of the proof: what the functions of the program compute. -/
import Derived.Test.YtcaadpceoajapaaG1
namespace Go.UK
open Go Go.Proofs
set_option maxRecDepth 20000
set_option maxHeartbeats 4000000
set_option linter.all false

attribute [local irreducible] owp awl aw FnM NatFn opS Stab TOK Big

/-! umbra/filter.Flip$2 -/
def p_filter_Flip_2_dddi (N : Nat) (a0 : Int) (a1 : Int) (a2 : Int) (a3 : S_api_Plane) : Option (Int) :=
  letO (I64 ((I64 (a3.gW - 1)) - a0)) fun x2 =>
  Option.bind (p_filter_at N a3 x2 a1 a2) fun r3 =>
  some r3

theorem filter_Flip_2_dddi_ok {N : Nat} {a0 : Int} {a1 : Int} {a2 : Int} {a3 : S_api_Plane} {r : Int} (h : p_filter_Flip_2_dddi N a0 a1 a2 a3 = some r) : FnM Try.prog 129 [] [(j64 a0), (j64 a1), (j64 a2), (.im (S_api_Plane.enc a3))] (j64 r) [] := by
  unfold p_filter_Flip_2_dddi at h
  refine fnM_of_aw (m := 17) (lo := 0) (rs := [.tmp 7]) hT Try.func129 rfl (by kernel_rfl) rfl ?_
  refine aw_sregU hT m_no [] (by kernel_rfl) ?_
  refine aw_sreg ?_
  obtain ⟨x2, hx2, h⟩ := letE h
  refine awl_u hT m_no [] 8 (by kernel_rfl) ?_
  refine awl_nms [(13, (j64 x2))] (by subst hx2; kernel_rfl) ?_
  obtain ⟨r3, hr3, h⟩ := obind h
  refine awl_big (big_call [] (filter_at_ok hr3) filter_at_ok_c (by kernel_rfl) (by kernel_rfl)) (by kernel_rfl) ?_
  refine awl_u hT m_no [] 1 (by kernel_rfl) ?_
  refine awl_nil ?_
  refine aw_ret ?_
  cases h
  exact fin_r (by kernel_rfl)

theorem filter_Flip_2_dddi_ok_c : callable Try.prog 129 := ⟨_, Try.func129, by decide, rfl⟩

/-! umbra/filter.each -/
def m_filter_each_Flip_2 : Nat → Bool := imL [4]

def p_filter_each_Flip_2_L1 (N : Nat) (x1 : Int) (a0 : S_api_Plane) (a1 : Int) (a3 : S_api_Plane) : Nat → (List Int) → Int → Option ((List Int))
  | 0, _, _ => none
  | k + 1, s3, s4 =>
    cond (decide (s4 < x1)) (
      Option.bind (quoO .i64 s4 a0.gDeep) fun x5 =>
      Option.bind (remO .i64 x5 a1) fun x6 =>
      Option.bind (quoO .i64 s4 a0.gDeep) fun x7 =>
      Option.bind (quoO .i64 x7 a1) fun x8 =>
      Option.bind (remO .i64 s4 a0.gDeep) fun x9 =>
      Option.bind (p_filter_Flip_2_dddi N x6 x8 x9 a3) fun r10 =>
      Option.bind (appO 8 s3 (([r10] : List Int))) fun a11 =>
      p_filter_each_Flip_2_L1 N x1 a0 a1 a3 k a11 (I64 (s4 + 1))) (
      some s3)

def p_filter_each_Flip_2 (N : Nat) (a0 : S_api_Plane) (a1 : Int) (a2 : Int) (a3 : S_api_Plane) : Option (S_api_Plane) :=
  letO (I64 ((I64 (a1 * a2)) * a0.gDeep)) fun x1 =>
  Option.bind (p_filter_each_Flip_2_L1 N x1 a0 a1 a3 N [] 0) fun p2 =>
  some (S_api_Plane.mk a1 a2 a0.gDeep a0.gName p2)

theorem filter_each_Flip_2_ok {N : Nat} {a0 : S_api_Plane} {a1 : Int} {a2 : Int} {a3 : S_api_Plane} {r : S_api_Plane} (h : p_filter_each_Flip_2 N a0 a1 a2 a3 = some r) : FnM Try.prog 73 [] [(S_api_Plane.enc a0), (j64 a1), (j64 a2), (.fn (.func 129) [] [(.im (S_api_Plane.enc a3))])] (S_api_Plane.enc r) [] := by
  unfold p_filter_each_Flip_2 at h
  refine fnM_of_aw (m := 52) (lo := 0) (rs := [.cell 8 34]) hT Try.func73 rfl (by kernel_rfl) rfl ?_
  refine aw_sregU hT m_filter_each_Flip_2 [] (by kernel_rfl) ?_
  refine aw_sregU hT m_filter_each_Flip_2 [] (by kernel_rfl) ?_
  refine aw_seq ?_
  obtain ⟨x1, hx1, h⟩ := letE h
  refine aw_sregU hT m_filter_each_Flip_2 [] (by kernel_rfl) ?_
  refine aw_nms [(23, (j64 x1))] (by subst hx1; kernel_rfl) ?_
  refine aw_own_box 1 1 [4] ?_
  obtain ⟨p2, h, g2⟩ := obind h
  refine aw_joinTK ⟨[en 8 (.ref 0 [] 0), en 9 (.ref 1 [] 0)], [.var (.st 5 [(j64 0), (j64 0), (j64 0), (eS (ByteArray.mk #[])), (.v (.slice none 0 0))]), .var (.st 5 [(j64 a1), (j64 a2), (j64 a0.gDeep), (eS a0.gName), (eO 2 1 j64 p2)]), .tail (p2.length * 1)]⟩ ?_ ?_
  · refine aw_block (aw_loop (fun k s => ∃ s3 s4, p_filter_each_Flip_2_L1 N x1 a0 a1 a3 k s3 s4 = some p2 ∧ JR (Fr.f 52 0) ⟨[en 1 (j64 a1), en 3 (.fn (.func 129) [] [(.im (S_api_Plane.enc a3))]), en 4 (.im (S_api_Plane.enc a0)), en 8 (.ref 0 [] 0), en 9 (.ref 1 [] 0), en 23 (j64 x1), en 24 (j64 s4)], [.var (.st 5 [(j64 0), (j64 0), (j64 0), (eS (ByteArray.mk #[])), (.v (.slice none 0 0))]), .var (.st 5 [(j64 a1), (j64 a2), (j64 a0.gDeep), (eS a0.gName), (eO 2 1 j64 s3)]), .tail (s3.length * 1)]⟩ s) (fun k s hI => ?_) N _ ⟨_, _, h, jr (by kernel_rfl)⟩)
    obtain ⟨s3, s4, h, hj⟩ := hI
    cases k with
    | zero => cases h
    | succ k =>
      refine aw_to _ hj ?_
      refine aw_sregU hT m_filter_each_Flip_2 [] (by kernel_rfl) ?_
      refine aw_seq ?_
      refine aw_condH h (by kernel_rfl) (fun _ h => ?_) (fun _ h => ?_)
      · refine aw_skip (tn_n ?_)
        refine aw_seq ?_
        refine aw_block ?_
        refine aw_sregU hT m_filter_each_Flip_2 [] (by kernel_rfl) ?_
        obtain ⟨x5, hx5, h⟩ := obind h
        obtain ⟨x6, hx6, h⟩ := obind h
        obtain ⟨x7, hx7, h⟩ := obind h
        obtain ⟨x8, hx8, h⟩ := obind h
        obtain ⟨x9, hx9, h⟩ := obind h
        obtain ⟨r10, hr10, h⟩ := obind h
        obtain ⟨a11, ha11, h⟩ := obind h
        refine aw_drawM hT hmo m_filter_each_Flip_2 [(6, (j64 x5)), (8, (j64 x6)), (12, (j64 x7)), (14, (j64 x8)), (18, (j64 x9)), (19, (j64 r10)), (20, (.sl 1 1 [(j64 r10)]))] [(21, fun _ => ((eO 2 1 j64 a11), [.var (.st 5 [(j64 0), (j64 0), (j64 0), (eS (ByteArray.mk #[])), (.v (.slice none 0 0))]), .var (.st 5 [(j64 a1), (j64 a2), (j64 a0.gDeep), (eS a0.gName), (eO 2 1 j64 s3)]), .tail (a11.length * 1)]))] (by kernel_rfl) (by kernel_rfl) (by kernel_rfl) ⟨fun _ => big_quo hT hx5 (by kernel_rfl) (by kernel_rfl), fun _ => big_rem hT hx6 (by kernel_rfl) (by kernel_rfl), fun _ => big_quo hT hx7 (by kernel_rfl) (by kernel_rfl), fun _ => big_quo hT hx8 (by kernel_rfl) (by kernel_rfl), fun _ => big_rem hT hx9 (by kernel_rfl) (by kernel_rfl), fun _ => big_call0 (filter_Flip_2_dddi_ok hr10) filter_Flip_2_dddi_ok_c (by kernel_rfl) (by kernel_rfl) (by kernel_rfl), fun _ => big_row hT (x := (.sl 1 1 [(j64 r10)])) (by kernel_rfl) (by kernel_rfl), trivial⟩ ⟨big_at (big_app hT j64 (id := 2) (k := 1) ha11 (by kernel_rfl) (by kernel_rfl)) (by kernel_rfl), trivial⟩ (inB_n (tn_n ?_))
        refine aw_regU hT m_filter_each_Flip_2 [] (by kernel_rfl) (tn_n ?_)
        exact ⟨k, Nat.lt_succ_self k, _, _, h, jr (by kernel_rfl)⟩
      · refine aw_exit (tn_x (tn_x (inB_e (tn_n ?_))))
        cases h
        exact jr (by kernel_rfl)
  · have h := g2
    refine (tn_n ?_)
    refine aw_sregU hT m_filter_each_Flip_2 [] (by kernel_rfl) ?_
    refine aw_ret ?_
    cases h
    exact fin_r (by kernel_rfl)

theorem filter_each_Flip_2_ok_c : callable Try.prog 73 := ⟨_, Try.func73, by decide, rfl⟩

/-! umbra/filter.Flip$3 -/
def p_filter_Flip_3_dddi (N : Nat) (a0 : Int) (a1 : Int) (a2 : Int) (a3 : S_api_Plane) : Option (Int) :=
  letO (I64 ((I64 (a3.gH - 1)) - a1)) fun x2 =>
  Option.bind (p_filter_at N a3 a0 x2 a2) fun r3 =>
  some r3

theorem filter_Flip_3_dddi_ok {N : Nat} {a0 : Int} {a1 : Int} {a2 : Int} {a3 : S_api_Plane} {r : Int} (h : p_filter_Flip_3_dddi N a0 a1 a2 a3 = some r) : FnM Try.prog 130 [] [(j64 a0), (j64 a1), (j64 a2), (.im (S_api_Plane.enc a3))] (j64 r) [] := by
  unfold p_filter_Flip_3_dddi at h
  refine fnM_of_aw (m := 17) (lo := 0) (rs := [.tmp 7]) hT Try.func130 rfl (by kernel_rfl) rfl ?_
  refine aw_sregU hT m_no [] (by kernel_rfl) ?_
  refine aw_sreg ?_
  obtain ⟨x2, hx2, h⟩ := letE h
  refine awl_u hT m_no [] 8 (by kernel_rfl) ?_
  refine awl_nms [(14, (j64 x2))] (by subst hx2; kernel_rfl) ?_
  obtain ⟨r3, hr3, h⟩ := obind h
  refine awl_big (big_call [] (filter_at_ok hr3) filter_at_ok_c (by kernel_rfl) (by kernel_rfl)) (by kernel_rfl) ?_
  refine awl_u hT m_no [] 1 (by kernel_rfl) ?_
  refine awl_nil ?_
  refine aw_ret ?_
  cases h
  exact fin_r (by kernel_rfl)

theorem filter_Flip_3_dddi_ok_c : callable Try.prog 130 := ⟨_, Try.func130, by decide, rfl⟩

/-! umbra/filter.each -/
def m_filter_each_Flip_3 : Nat → Bool := imL [4]

def p_filter_each_Flip_3_L1 (N : Nat) (x1 : Int) (a0 : S_api_Plane) (a1 : Int) (a3 : S_api_Plane) : Nat → (List Int) → Int → Option ((List Int))
  | 0, _, _ => none
  | k + 1, s3, s4 =>
    cond (decide (s4 < x1)) (
      Option.bind (quoO .i64 s4 a0.gDeep) fun x5 =>
      Option.bind (remO .i64 x5 a1) fun x6 =>
      Option.bind (quoO .i64 s4 a0.gDeep) fun x7 =>
      Option.bind (quoO .i64 x7 a1) fun x8 =>
      Option.bind (remO .i64 s4 a0.gDeep) fun x9 =>
      Option.bind (p_filter_Flip_3_dddi N x6 x8 x9 a3) fun r10 =>
      Option.bind (appO 8 s3 (([r10] : List Int))) fun a11 =>
      p_filter_each_Flip_3_L1 N x1 a0 a1 a3 k a11 (I64 (s4 + 1))) (
      some s3)

def p_filter_each_Flip_3 (N : Nat) (a0 : S_api_Plane) (a1 : Int) (a2 : Int) (a3 : S_api_Plane) : Option (S_api_Plane) :=
  letO (I64 ((I64 (a1 * a2)) * a0.gDeep)) fun x1 =>
  Option.bind (p_filter_each_Flip_3_L1 N x1 a0 a1 a3 N [] 0) fun p2 =>
  some (S_api_Plane.mk a1 a2 a0.gDeep a0.gName p2)

theorem filter_each_Flip_3_ok {N : Nat} {a0 : S_api_Plane} {a1 : Int} {a2 : Int} {a3 : S_api_Plane} {r : S_api_Plane} (h : p_filter_each_Flip_3 N a0 a1 a2 a3 = some r) : FnM Try.prog 73 [] [(S_api_Plane.enc a0), (j64 a1), (j64 a2), (.fn (.func 130) [] [(.im (S_api_Plane.enc a3))])] (S_api_Plane.enc r) [] := by
  unfold p_filter_each_Flip_3 at h
  refine fnM_of_aw (m := 52) (lo := 0) (rs := [.cell 8 34]) hT Try.func73 rfl (by kernel_rfl) rfl ?_
  refine aw_sregU hT m_filter_each_Flip_3 [] (by kernel_rfl) ?_
  refine aw_sregU hT m_filter_each_Flip_3 [] (by kernel_rfl) ?_
  refine aw_seq ?_
  obtain ⟨x1, hx1, h⟩ := letE h
  refine aw_sregU hT m_filter_each_Flip_3 [] (by kernel_rfl) ?_
  refine aw_nms [(23, (j64 x1))] (by subst hx1; kernel_rfl) ?_
  refine aw_own_box 1 1 [4] ?_
  obtain ⟨p2, h, g2⟩ := obind h
  refine aw_joinTK ⟨[en 8 (.ref 0 [] 0), en 9 (.ref 1 [] 0)], [.var (.st 5 [(j64 0), (j64 0), (j64 0), (eS (ByteArray.mk #[])), (.v (.slice none 0 0))]), .var (.st 5 [(j64 a1), (j64 a2), (j64 a0.gDeep), (eS a0.gName), (eO 2 1 j64 p2)]), .tail (p2.length * 1)]⟩ ?_ ?_
  · refine aw_block (aw_loop (fun k s => ∃ s3 s4, p_filter_each_Flip_3_L1 N x1 a0 a1 a3 k s3 s4 = some p2 ∧ JR (Fr.f 52 0) ⟨[en 1 (j64 a1), en 3 (.fn (.func 130) [] [(.im (S_api_Plane.enc a3))]), en 4 (.im (S_api_Plane.enc a0)), en 8 (.ref 0 [] 0), en 9 (.ref 1 [] 0), en 23 (j64 x1), en 24 (j64 s4)], [.var (.st 5 [(j64 0), (j64 0), (j64 0), (eS (ByteArray.mk #[])), (.v (.slice none 0 0))]), .var (.st 5 [(j64 a1), (j64 a2), (j64 a0.gDeep), (eS a0.gName), (eO 2 1 j64 s3)]), .tail (s3.length * 1)]⟩ s) (fun k s hI => ?_) N _ ⟨_, _, h, jr (by kernel_rfl)⟩)
    obtain ⟨s3, s4, h, hj⟩ := hI
    cases k with
    | zero => cases h
    | succ k =>
      refine aw_to _ hj ?_
      refine aw_sregU hT m_filter_each_Flip_3 [] (by kernel_rfl) ?_
      refine aw_seq ?_
      refine aw_condH h (by kernel_rfl) (fun _ h => ?_) (fun _ h => ?_)
      · refine aw_skip (tn_n ?_)
        refine aw_seq ?_
        refine aw_block ?_
        refine aw_sregU hT m_filter_each_Flip_3 [] (by kernel_rfl) ?_
        obtain ⟨x5, hx5, h⟩ := obind h
        obtain ⟨x6, hx6, h⟩ := obind h
        obtain ⟨x7, hx7, h⟩ := obind h
        obtain ⟨x8, hx8, h⟩ := obind h
        obtain ⟨x9, hx9, h⟩ := obind h
        obtain ⟨r10, hr10, h⟩ := obind h
        obtain ⟨a11, ha11, h⟩ := obind h
        refine aw_drawM hT hmo m_filter_each_Flip_3 [(6, (j64 x5)), (8, (j64 x6)), (12, (j64 x7)), (14, (j64 x8)), (18, (j64 x9)), (19, (j64 r10)), (20, (.sl 1 1 [(j64 r10)]))] [(21, fun _ => ((eO 2 1 j64 a11), [.var (.st 5 [(j64 0), (j64 0), (j64 0), (eS (ByteArray.mk #[])), (.v (.slice none 0 0))]), .var (.st 5 [(j64 a1), (j64 a2), (j64 a0.gDeep), (eS a0.gName), (eO 2 1 j64 s3)]), .tail (a11.length * 1)]))] (by kernel_rfl) (by kernel_rfl) (by kernel_rfl) ⟨fun _ => big_quo hT hx5 (by kernel_rfl) (by kernel_rfl), fun _ => big_rem hT hx6 (by kernel_rfl) (by kernel_rfl), fun _ => big_quo hT hx7 (by kernel_rfl) (by kernel_rfl), fun _ => big_quo hT hx8 (by kernel_rfl) (by kernel_rfl), fun _ => big_rem hT hx9 (by kernel_rfl) (by kernel_rfl), fun _ => big_call0 (filter_Flip_3_dddi_ok hr10) filter_Flip_3_dddi_ok_c (by kernel_rfl) (by kernel_rfl) (by kernel_rfl), fun _ => big_row hT (x := (.sl 1 1 [(j64 r10)])) (by kernel_rfl) (by kernel_rfl), trivial⟩ ⟨big_at (big_app hT j64 (id := 2) (k := 1) ha11 (by kernel_rfl) (by kernel_rfl)) (by kernel_rfl), trivial⟩ (inB_n (tn_n ?_))
        refine aw_regU hT m_filter_each_Flip_3 [] (by kernel_rfl) (tn_n ?_)
        exact ⟨k, Nat.lt_succ_self k, _, _, h, jr (by kernel_rfl)⟩
      · refine aw_exit (tn_x (tn_x (inB_e (tn_n ?_))))
        cases h
        exact jr (by kernel_rfl)
  · have h := g2
    refine (tn_n ?_)
    refine aw_sregU hT m_filter_each_Flip_3 [] (by kernel_rfl) ?_
    refine aw_ret ?_
    cases h
    exact fin_r (by kernel_rfl)

theorem filter_each_Flip_3_ok_c : callable Try.prog 73 := ⟨_, Try.func73, by decide, rfl⟩

/-! umbra/filter.Flip$4 -/
def p_filter_Flip_4_dddi (N : Nat) (a0 : Int) (a1 : Int) (a2 : Int) (a3 : S_api_Plane) : Option (Int) :=
  Option.bind (p_filter_at N a3 a1 a0 a2) fun r1 =>
  some r1

theorem filter_Flip_4_dddi_ok {N : Nat} {a0 : Int} {a1 : Int} {a2 : Int} {a3 : S_api_Plane} {r : Int} (h : p_filter_Flip_4_dddi N a0 a1 a2 a3 = some r) : FnM Try.prog 131 [] [(j64 a0), (j64 a1), (j64 a2), (.im (S_api_Plane.enc a3))] (j64 r) [] := by
  unfold p_filter_Flip_4_dddi at h
  refine fnM_of_aw (m := 13) (lo := 0) (rs := [.tmp 7]) hT Try.func131 rfl (by kernel_rfl) rfl ?_
  refine aw_sregU hT m_no [] (by kernel_rfl) ?_
  refine aw_sreg ?_
  refine awl_u hT m_no [] 4 (by kernel_rfl) ?_
  obtain ⟨r1, hr1, h⟩ := obind h
  refine awl_big (big_call [] (filter_at_ok hr1) filter_at_ok_c (by kernel_rfl) (by kernel_rfl)) (by kernel_rfl) ?_
  refine awl_u hT m_no [] 1 (by kernel_rfl) ?_
  refine awl_nil ?_
  refine aw_ret ?_
  cases h
  exact fin_r (by kernel_rfl)

theorem filter_Flip_4_dddi_ok_c : callable Try.prog 131 := ⟨_, Try.func131, by decide, rfl⟩

/-! umbra/filter.each -/
def m_filter_each_Flip_4 : Nat → Bool := imL [4]

def p_filter_each_Flip_4_L1 (N : Nat) (x1 : Int) (a0 : S_api_Plane) (a1 : Int) (a3 : S_api_Plane) : Nat → (List Int) → Int → Option ((List Int))
  | 0, _, _ => none
  | k + 1, s3, s4 =>
    cond (decide (s4 < x1)) (
      Option.bind (quoO .i64 s4 a0.gDeep) fun x5 =>
      Option.bind (remO .i64 x5 a1) fun x6 =>
      Option.bind (quoO .i64 s4 a0.gDeep) fun x7 =>
      Option.bind (quoO .i64 x7 a1) fun x8 =>
      Option.bind (remO .i64 s4 a0.gDeep) fun x9 =>
      Option.bind (p_filter_Flip_4_dddi N x6 x8 x9 a3) fun r10 =>
      Option.bind (appO 8 s3 (([r10] : List Int))) fun a11 =>
      p_filter_each_Flip_4_L1 N x1 a0 a1 a3 k a11 (I64 (s4 + 1))) (
      some s3)

def p_filter_each_Flip_4 (N : Nat) (a0 : S_api_Plane) (a1 : Int) (a2 : Int) (a3 : S_api_Plane) : Option (S_api_Plane) :=
  letO (I64 ((I64 (a1 * a2)) * a0.gDeep)) fun x1 =>
  Option.bind (p_filter_each_Flip_4_L1 N x1 a0 a1 a3 N [] 0) fun p2 =>
  some (S_api_Plane.mk a1 a2 a0.gDeep a0.gName p2)

theorem filter_each_Flip_4_ok {N : Nat} {a0 : S_api_Plane} {a1 : Int} {a2 : Int} {a3 : S_api_Plane} {r : S_api_Plane} (h : p_filter_each_Flip_4 N a0 a1 a2 a3 = some r) : FnM Try.prog 73 [] [(S_api_Plane.enc a0), (j64 a1), (j64 a2), (.fn (.func 131) [] [(.im (S_api_Plane.enc a3))])] (S_api_Plane.enc r) [] := by
  unfold p_filter_each_Flip_4 at h
  refine fnM_of_aw (m := 52) (lo := 0) (rs := [.cell 8 34]) hT Try.func73 rfl (by kernel_rfl) rfl ?_
  refine aw_sregU hT m_filter_each_Flip_4 [] (by kernel_rfl) ?_
  refine aw_sregU hT m_filter_each_Flip_4 [] (by kernel_rfl) ?_
  refine aw_seq ?_
  obtain ⟨x1, hx1, h⟩ := letE h
  refine aw_sregU hT m_filter_each_Flip_4 [] (by kernel_rfl) ?_
  refine aw_nms [(23, (j64 x1))] (by subst hx1; kernel_rfl) ?_
  refine aw_own_box 1 1 [4] ?_
  obtain ⟨p2, h, g2⟩ := obind h
  refine aw_joinTK ⟨[en 8 (.ref 0 [] 0), en 9 (.ref 1 [] 0)], [.var (.st 5 [(j64 0), (j64 0), (j64 0), (eS (ByteArray.mk #[])), (.v (.slice none 0 0))]), .var (.st 5 [(j64 a1), (j64 a2), (j64 a0.gDeep), (eS a0.gName), (eO 2 1 j64 p2)]), .tail (p2.length * 1)]⟩ ?_ ?_
  · refine aw_block (aw_loop (fun k s => ∃ s3 s4, p_filter_each_Flip_4_L1 N x1 a0 a1 a3 k s3 s4 = some p2 ∧ JR (Fr.f 52 0) ⟨[en 1 (j64 a1), en 3 (.fn (.func 131) [] [(.im (S_api_Plane.enc a3))]), en 4 (.im (S_api_Plane.enc a0)), en 8 (.ref 0 [] 0), en 9 (.ref 1 [] 0), en 23 (j64 x1), en 24 (j64 s4)], [.var (.st 5 [(j64 0), (j64 0), (j64 0), (eS (ByteArray.mk #[])), (.v (.slice none 0 0))]), .var (.st 5 [(j64 a1), (j64 a2), (j64 a0.gDeep), (eS a0.gName), (eO 2 1 j64 s3)]), .tail (s3.length * 1)]⟩ s) (fun k s hI => ?_) N _ ⟨_, _, h, jr (by kernel_rfl)⟩)
    obtain ⟨s3, s4, h, hj⟩ := hI
    cases k with
    | zero => cases h
    | succ k =>
      refine aw_to _ hj ?_
      refine aw_sregU hT m_filter_each_Flip_4 [] (by kernel_rfl) ?_
      refine aw_seq ?_
      refine aw_condH h (by kernel_rfl) (fun _ h => ?_) (fun _ h => ?_)
      · refine aw_skip (tn_n ?_)
        refine aw_seq ?_
        refine aw_block ?_
        refine aw_sregU hT m_filter_each_Flip_4 [] (by kernel_rfl) ?_
        obtain ⟨x5, hx5, h⟩ := obind h
        obtain ⟨x6, hx6, h⟩ := obind h
        obtain ⟨x7, hx7, h⟩ := obind h
        obtain ⟨x8, hx8, h⟩ := obind h
        obtain ⟨x9, hx9, h⟩ := obind h
        obtain ⟨r10, hr10, h⟩ := obind h
        obtain ⟨a11, ha11, h⟩ := obind h
        refine aw_drawM hT hmo m_filter_each_Flip_4 [(6, (j64 x5)), (8, (j64 x6)), (12, (j64 x7)), (14, (j64 x8)), (18, (j64 x9)), (19, (j64 r10)), (20, (.sl 1 1 [(j64 r10)]))] [(21, fun _ => ((eO 2 1 j64 a11), [.var (.st 5 [(j64 0), (j64 0), (j64 0), (eS (ByteArray.mk #[])), (.v (.slice none 0 0))]), .var (.st 5 [(j64 a1), (j64 a2), (j64 a0.gDeep), (eS a0.gName), (eO 2 1 j64 s3)]), .tail (a11.length * 1)]))] (by kernel_rfl) (by kernel_rfl) (by kernel_rfl) ⟨fun _ => big_quo hT hx5 (by kernel_rfl) (by kernel_rfl), fun _ => big_rem hT hx6 (by kernel_rfl) (by kernel_rfl), fun _ => big_quo hT hx7 (by kernel_rfl) (by kernel_rfl), fun _ => big_quo hT hx8 (by kernel_rfl) (by kernel_rfl), fun _ => big_rem hT hx9 (by kernel_rfl) (by kernel_rfl), fun _ => big_call0 (filter_Flip_4_dddi_ok hr10) filter_Flip_4_dddi_ok_c (by kernel_rfl) (by kernel_rfl) (by kernel_rfl), fun _ => big_row hT (x := (.sl 1 1 [(j64 r10)])) (by kernel_rfl) (by kernel_rfl), trivial⟩ ⟨big_at (big_app hT j64 (id := 2) (k := 1) ha11 (by kernel_rfl) (by kernel_rfl)) (by kernel_rfl), trivial⟩ (inB_n (tn_n ?_))
        refine aw_regU hT m_filter_each_Flip_4 [] (by kernel_rfl) (tn_n ?_)
        exact ⟨k, Nat.lt_succ_self k, _, _, h, jr (by kernel_rfl)⟩
      · refine aw_exit (tn_x (tn_x (inB_e (tn_n ?_))))
        cases h
        exact jr (by kernel_rfl)
  · have h := g2
    refine (tn_n ?_)
    refine aw_sregU hT m_filter_each_Flip_4 [] (by kernel_rfl) ?_
    refine aw_ret ?_
    cases h
    exact fin_r (by kernel_rfl)

theorem filter_each_Flip_4_ok_c : callable Try.prog 73 := ⟨_, Try.func73, by decide, rfl⟩

/-! umbra/filter.Flip -/
def m_filter_Flip : Nat → Bool := imL [2]

def p_filter_Flip (N : Nat) (a0 : S_api_Plane) (a1 : Int) : Option (S_api_Plane × Int) :=
  Option.bind (p_pam_Check N a0) fun r1 =>
  cond (r1 != 0) (
    some ((S_api_Plane.mk 0 0 0 (ByteArray.mk #[]) [], r1))) (
    cond (a1 == 0) (
      Option.bind (p_filter_each_Flip_1 N a0 a0.gW a0.gH a0) fun r2 =>
      some ((r2, 0))) (
      cond (a1 == 1) (
        Option.bind (p_filter_each_Flip_2 N a0 a0.gW a0.gH a0) fun r3 =>
        some ((r3, 0))) (
        cond (a1 == 2) (
          Option.bind (p_filter_each_Flip_3 N a0 a0.gW a0.gH a0) fun r4 =>
          some ((r4, 0))) (
          cond (a1 == 3) (
            Option.bind (p_filter_each_Flip_4 N a0 a0.gH a0.gW a0) fun r5 =>
            some ((r5, 0))) (
            some ((S_api_Plane.mk 0 0 0 (ByteArray.mk #[]) [], 2)))))))

theorem filter_Flip_ok {N : Nat} {a0 : S_api_Plane} {a1 : Int} {r : S_api_Plane × Int} (h : p_filter_Flip N a0 a1 = some r) : FnM Try.prog 61 [] [(S_api_Plane.enc a0), (j64 a1)] (.tup [(S_api_Plane.enc r.1), (j64 r.2)]) [] := by
  unfold p_filter_Flip at h
  refine fnM_of_aw (m := 51) (lo := 0) (rs := [.cell 4 34, .tmp 5]) hT Try.func61 rfl (by kernel_rfl) rfl ?_
  refine aw_sregU hT m_filter_Flip [] (by kernel_rfl) ?_
  refine aw_seq ?_
  refine aw_sreg ?_
  refine awl_u hT m_filter_Flip [] 1 (by kernel_rfl) ?_
  obtain ⟨r1, hr1, h⟩ := obind h
  refine awl_big (big_call [] (pam_Check_ok hr1) pam_Check_ok_c (by kernel_rfl) (by kernel_rfl)) (by kernel_rfl) ?_
  refine awl_u hT m_filter_Flip [] 1 (by kernel_rfl) ?_
  refine awl_nil ?_
  refine aw_sregU hT m_filter_Flip [] (by kernel_rfl) ?_
  refine aw_condH h (by kernel_rfl) (fun _ h => ?_) (fun _ h => ?_)
  · refine aw_sregU hT m_filter_Flip [] (by kernel_rfl) ?_
    refine aw_ret (tn_r ?_)
    cases h
    exact fin_r (by kernel_rfl)
  · refine aw_skip (tn_n ?_)
    refine aw_seq ?_
    refine aw_sregU hT m_filter_Flip [] (by kernel_rfl) ?_
    refine aw_block ?_
    refine aw_sregU hT m_filter_Flip [] (by kernel_rfl) ?_
    refine aw_condH h (by kernel_rfl) (fun _ h => ?_) (fun _ h => ?_)
    · refine aw_sreg ?_
      refine awl_u hT m_filter_Flip [] 5 (by kernel_rfl) ?_
      refine awl_big (big_mkf (x := (.fn (.func 128) [] [(.im (S_api_Plane.enc a0))])) (by kernel_rfl) (by kernel_rfl)) (by kernel_rfl) ?_
      obtain ⟨r2, hr2, h⟩ := obind h
      refine awl_big (big_call [] (filter_each_Flip_1_ok hr2) filter_each_Flip_1_ok_c (by kernel_rfl) (by kernel_rfl)) (by kernel_rfl) ?_
      refine awl_u hT m_filter_Flip [] 2 (by kernel_rfl) ?_
      refine awl_nil ?_
      refine aw_ret (inB_r (tn_r ?_))
      cases h
      exact fin_r (by kernel_rfl)
    · refine aw_sregU hT m_filter_Flip [] (by kernel_rfl) ?_
      refine aw_condH h (by kernel_rfl) (fun _ h => ?_) (fun _ h => ?_)
      · refine aw_sreg ?_
        refine awl_u hT m_filter_Flip [] 5 (by kernel_rfl) ?_
        refine awl_big (big_mkf (x := (.fn (.func 129) [] [(.im (S_api_Plane.enc a0))])) (by kernel_rfl) (by kernel_rfl)) (by kernel_rfl) ?_
        obtain ⟨r3, hr3, h⟩ := obind h
        refine awl_big (big_call [] (filter_each_Flip_2_ok hr3) filter_each_Flip_2_ok_c (by kernel_rfl) (by kernel_rfl)) (by kernel_rfl) ?_
        refine awl_u hT m_filter_Flip [] 2 (by kernel_rfl) ?_
        refine awl_nil ?_
        refine aw_ret (inB_r (tn_r ?_))
        cases h
        exact fin_r (by kernel_rfl)
      · refine aw_sregU hT m_filter_Flip [] (by kernel_rfl) ?_
        refine aw_condH h (by kernel_rfl) (fun _ h => ?_) (fun _ h => ?_)
        · refine aw_sreg ?_
          refine awl_u hT m_filter_Flip [] 5 (by kernel_rfl) ?_
          refine awl_big (big_mkf (x := (.fn (.func 130) [] [(.im (S_api_Plane.enc a0))])) (by kernel_rfl) (by kernel_rfl)) (by kernel_rfl) ?_
          obtain ⟨r4, hr4, h⟩ := obind h
          refine awl_big (big_call [] (filter_each_Flip_3_ok hr4) filter_each_Flip_3_ok_c (by kernel_rfl) (by kernel_rfl)) (by kernel_rfl) ?_
          refine awl_u hT m_filter_Flip [] 2 (by kernel_rfl) ?_
          refine awl_nil ?_
          refine aw_ret (inB_r (tn_r ?_))
          cases h
          exact fin_r (by kernel_rfl)
        · refine aw_sregU hT m_filter_Flip [] (by kernel_rfl) ?_
          refine aw_condH h (by kernel_rfl) (fun _ h => ?_) (fun _ h => ?_)
          · refine aw_sreg ?_
            refine awl_u hT m_filter_Flip [] 5 (by kernel_rfl) ?_
            refine awl_big (big_mkf (x := (.fn (.func 131) [] [(.im (S_api_Plane.enc a0))])) (by kernel_rfl) (by kernel_rfl)) (by kernel_rfl) ?_
            obtain ⟨r5, hr5, h⟩ := obind h
            refine awl_big (big_call [] (filter_each_Flip_4_ok hr5) filter_each_Flip_4_ok_c (by kernel_rfl) (by kernel_rfl)) (by kernel_rfl) ?_
            refine awl_u hT m_filter_Flip [] 2 (by kernel_rfl) ?_
            refine awl_nil ?_
            refine aw_ret (inB_r (tn_r ?_))
            cases h
            exact fin_r (by kernel_rfl)
          · refine aw_skip (inB_n (tn_n ?_))
            refine aw_sregU hT m_filter_Flip [] (by kernel_rfl) ?_
            refine aw_ret ?_
            cases h
            exact fin_r (by kernel_rfl)

theorem filter_Flip_ok_c : callable Try.prog 61 := ⟨_, Try.func61, by decide, rfl⟩

/-! umbra/filter.Through -/
def p_filter_Through_dn (N : Nat) (a0 : S_api_Plane) : Option (S_api_Plane × Int) :=
  Option.bind (p_filter_Flip N a0 0) fun r1 =>
  some ((r1.1, r1.2))

theorem filter_Through_dn_ok {N : Nat} {a0 : S_api_Plane} {r : S_api_Plane × Int} (h : p_filter_Through_dn N a0 = some r) : FnM Try.prog 29 [] [(S_api_Plane.enc a0), (.v (.slice none 0 0))] (.tup [(S_api_Plane.enc r.1), (j64 r.2)]) [] := by
  unfold p_filter_Through_dn at h
  refine fnM_of_aw (m := 36) (lo := 0) (rs := [.cell 4 34, .tmp 5]) hT Try.func29 rfl (by kernel_rfl) rfl ?_
  refine aw_sregU hT m_no [] (by kernel_rfl) ?_
  refine aw_seq ?_
  refine aw_sregU hT m_no [] (by kernel_rfl) ?_
  refine aw_condB (b := true) (c := true) rfl (by kernel_rfl) ?_
  refine aw_sreg ?_
  refine awl_u hT m_no [] 1 (by kernel_rfl) ?_
  obtain ⟨r1, hr1, h⟩ := obind h
  refine awl_big (big_call [] (filter_Flip_ok hr1) filter_Flip_ok_c (by kernel_rfl) (by kernel_rfl)) (by kernel_rfl) ?_
  refine awl_u hT m_no [] 4 (by kernel_rfl) ?_
  refine awl_nil ?_
  refine aw_ret (tn_r ?_)
  cases h
  exact fin_r (by kernel_rfl)

theorem filter_Through_dn_ok_c : callable Try.prog 29 := ⟨_, Try.func29, by decide, rfl⟩

/-! umbra/umbralaw42.works -/
def p_umbralaw42_works (N : Nat) : Option (Bool) :=
  Option.bind (p_filter_Half N (S_api_Plane.mk 2 2 1 (ByteArray.mk #[65]) ([0, 1, 2, 4]))) fun r1 =>
  Option.bind (letO (cond (r1.2 == 0) (r1.1.gW == 1) false) fun x3 =>
  letO ((r1.1.gData.length : Int)) fun x4 =>
  letO (cond x3 (x4 == 1) false) fun x5 =>
  cond x5 (
    Option.bind (idx r1.1.gData 0) fun e6 =>
    some (e6 == 2)) (
    some false)) fun p2 =>
  some p2

theorem umbralaw42_works_ok {N : Nat} {r : Bool} (h : p_umbralaw42_works N = some r) : FnM Try.prog 28 [] [] (eB r) [] := by
  unfold p_umbralaw42_works at h
  refine fnM_of_aw (m := 29) (lo := 0) (rs := [.tmp 0]) hT Try.func28 rfl (by kernel_rfl) rfl ?_
  refine aw_sregU hT m_no [] (by kernel_rfl) ?_
  refine aw_sreg ?_
  refine awl_big (big_row hT (x := (.sl 1 4 [(j64 0), (j64 1), (j64 2), (j64 4)])) (by kernel_rfl) (by kernel_rfl)) (by kernel_rfl) ?_
  refine awl_u hT m_no [] 1 (by kernel_rfl) ?_
  obtain ⟨r1, hr1, h⟩ := obind h
  refine awl_big (big_call [] (filter_Half_ok hr1) filter_Half_ok_c (by kernel_rfl) (by kernel_rfl)) (by kernel_rfl) ?_
  refine awl_u hT m_no [] 6 (by kernel_rfl) ?_
  refine awl_nil ?_
  obtain ⟨p2, h, g2⟩ := obind h
  refine aw_joinT ⟨[en 0 (eB p2)], [.var (S_api_Plane.enc r1.1)]⟩ ?_ ?_
  · refine aw_region ?_
    obtain ⟨x3, hx3, h⟩ := letE h
    obtain ⟨x4, hx4, h⟩ := letE h
    obtain ⟨x5, hx5, h⟩ := letE h
    refine awl_u hT m_no [] 14 (by kernel_rfl) ?_
    refine awl_nms [(22, (eB x5))] (by subst hx5 hx4 hx3; kernel_rfl) ?_
    refine awl_split 22 h (by kernel_rfl) (fun h => ?_) (fun h => ?_)
    · refine awl_u hT m_no [22] 2 (by kernel_rfl) ?_
      obtain ⟨e6, he6, h⟩ := obind h
      refine awl_big (big_idx hT j64 he6 (by kernel_rfl) (by kernel_rfl)) (by kernel_rfl) ?_
      refine awl_u hT m_no [22] 4 (by kernel_rfl) ?_
      refine awl_nil (tn_n ?_)
      cases h
      exact jr (by kernel_rfl)
    · refine awl_u hT m_no [22] 7 (by kernel_rfl) ?_
      refine awl_nil (tn_n ?_)
      cases h
      exact jr (by kernel_rfl)
  · have h := g2
    refine aw_ret ?_
    cases h
    exact fin_r (by kernel_rfl)

theorem umbralaw42_works_ok_c : callable Try.prog 28 := ⟨_, Try.func28, by decide, rfl⟩

/-! umbra/umbraref29.Ints -/
def p_umbraref29_Ints_L1 (N : Nat) (a0 : (List Int)) (a1 : (List Int)) : Nat → Int → Option (Sum (Unit) (Bool))
  | 0, _ => none
  | k + 1, s3 =>
    letO (decide (s3 < ((a0.length : Int)))) fun x4 =>
    cond x4 (
      Option.bind (idx a0 s3) fun e5 =>
      Option.bind (idx a1 s3) fun e6 =>
      cond (e5 != e6) (
        some (Sum.inr false)) (
        p_umbraref29_Ints_L1 N a0 a1 k (I64 (s3 + 1)))) (
      some (Sum.inl (())))

def p_umbraref29_Ints (N : Nat) (a0 : (List Int)) (a1 : (List Int)) : Option (Bool) :=
  letO (((a0.length : Int)) != ((a1.length : Int))) fun x1 =>
  cond x1 (
    some false) (
    Option.bind (p_umbraref29_Ints_L1 N a0 a1 N 0) fun o => sumC o (fun p2 =>
      some true) (fun r => some r))

theorem umbraref29_Ints_ok {N : Nat} {a0 : (List Int)} {a1 : (List Int)} {r : Bool} (h : p_umbraref29_Ints N a0 a1 = some r) : FnM Try.prog 67 [] [(eL 1 j64 a0), (eL 1 j64 a1)] (eB r) [] := by
  unfold p_umbraref29_Ints at h
  refine fnM_of_aw (m := 26) (lo := 0) (rs := [.tmp 4]) hT Try.func67 rfl (by kernel_rfl) rfl ?_
  refine aw_sregU hT m_no [] (by kernel_rfl) ?_
  refine aw_seq ?_
  obtain ⟨x1, hx1, h⟩ := letE h
  refine aw_sregU hT m_no [] (by kernel_rfl) ?_
  refine aw_nms [(10, (eB x1))] (by subst hx1; kernel_rfl) ?_
  refine aw_condH h (by kernel_rfl) (fun _ h => ?_) (fun _ h => ?_)
  · refine aw_sregU hT m_no [] (by kernel_rfl) ?_
    refine aw_ret (tn_r ?_)
    cases h
    exact fin_r (by kernel_rfl)
  · refine aw_skip (tn_n ?_)
    refine aw_seq ?_
    refine aw_sregU hT m_no [] (by kernel_rfl) ?_
    obtain ⟨op2, h, g2⟩ := obind h
    refine aw_joinSK (fun p2 => ⟨[], []⟩) g2 ?_ (fun p2 h => ?_)
    · refine aw_block (aw_loop (fun k s => ∃ s3, p_umbraref29_Ints_L1 N a0 a1 k s3 = some op2 ∧ JR (Fr.f 26 0) ⟨[en 0 (eL 1 j64 a0), en 1 (eL 1 j64 a1), en 5 (j64 s3)], []⟩ s) (fun k s hI => ?_) N _ ⟨_, h, jr (by kernel_rfl)⟩)
      obtain ⟨s3, h, hj⟩ := hI
      cases k with
      | zero => cases h
      | succ k =>
        refine aw_to _ hj ?_
        refine aw_seq ?_
        obtain ⟨x4, hx4, h⟩ := letE h
        refine aw_sregU hT m_no [] (by kernel_rfl) ?_
        refine aw_nms [(14, (eB x4))] (by subst hx4; kernel_rfl) ?_
        refine aw_condH h (by kernel_rfl) (fun _ h => ?_) (fun _ h => ?_)
        · refine aw_skip (tn_n ?_)
          refine aw_seq ?_
          refine aw_block ?_
          obtain ⟨e5, he5, h⟩ := obind h
          obtain ⟨e6, he6, h⟩ := obind h
          refine aw_sdrawV hT hmo m_no [(2, (.im (j64 e5))), (6, (.im (j64 e6)))] [] (by kernel_rfl) (by kernel_rfl) (by kernel_rfl) ⟨fun _ => big_idx hT j64 he5 (by kernel_rfl) (by kernel_rfl), fun _ => big_idx hT j64 he6 (by kernel_rfl) (by kernel_rfl), trivial⟩ trivial ?_
          refine aw_condH h (by kernel_rfl) (fun _ h => ?_) (fun _ h => ?_)
          · refine aw_sregU hT m_no [] (by kernel_rfl) ?_
            cases h
            have h := g2
            refine aw_ret (inB_r (tn_r (tn_r (inB_r (tn_r (tn_r ?_))))))
            obtain rfl := sum_e h
            exact fin_r (by kernel_rfl)
          · refine aw_skip (inB_n (tn_n ?_))
            refine aw_regU hT m_no [] (by kernel_rfl) (tn_n ?_)
            exact ⟨k, Nat.lt_succ_self k, _, h, jr (by kernel_rfl)⟩
        · refine aw_exit (tn_x (tn_x (inB_e (tn_n ?_))))
          cases h
          exact ⟨_, rfl, jr (by kernel_rfl)⟩
    · refine (tn_n ?_)
      refine aw_sregU hT m_no [] (by kernel_rfl) ?_
      refine aw_ret ?_
      cases h
      exact fin_r (by kernel_rfl)

theorem umbraref29_Ints_ok_c : callable Try.prog 67 := ⟨_, Try.func67, by decide, rfl⟩

/-! umbra/umbraref30.Same -/
def m_umbraref30_Same : Nat → Bool := imL [2, 3]

def p_umbraref30_Same (N : Nat) (a0 : S_api_Plane) (a1 : S_api_Plane) : Option (Bool) :=
  Option.bind (letO (cond (a0.gW == a1.gW) (a0.gH == a1.gH) false) fun x2 =>
  letO (cond x2 (a0.gDeep == a1.gDeep) false) fun x3 =>
  letO (ByteArray.toList a0.gName == ByteArray.toList a1.gName) fun x4 =>
  cond (cond x3 x4 false) (
    Option.bind (p_umbraref29_Ints N a0.gData a1.gData) fun r5 =>
    some r5) (
    some false)) fun p1 =>
  some p1

theorem umbraref30_Same_ok {N : Nat} {a0 : S_api_Plane} {a1 : S_api_Plane} {r : Bool} (h : p_umbraref30_Same N a0 a1 = some r) : FnM Try.prog 27 [] [(S_api_Plane.enc a0), (S_api_Plane.enc a1)] (eB r) [] := by
  unfold p_umbraref30_Same at h
  refine fnM_of_aw (m := 38) (lo := 0) (rs := [.tmp 4]) hT Try.func27 rfl (by kernel_rfl) rfl ?_
  refine aw_sregU hT m_umbraref30_Same [] (by kernel_rfl) ?_
  obtain ⟨p1, h, g1⟩ := obind h
  refine aw_joinT ⟨[en 4 (eB p1)], []⟩ ?_ ?_
  · refine aw_region ?_
    obtain ⟨x2, hx2, h⟩ := letE h
    obtain ⟨x3, hx3, h⟩ := letE h
    obtain ⟨x4, hx4, h⟩ := letE h
    refine awl_u hT m_umbraref30_Same [] 27 (by kernel_rfl) ?_
    refine awl_nms [(31, (eB (cond x3 x4 false)))] (by subst hx4 hx3 hx2; kernel_rfl) ?_
    refine awl_split 31 h (by kernel_rfl) (fun h => ?_) (fun h => ?_)
    · refine awl_u hT m_umbraref30_Same [31] 4 (by kernel_rfl) ?_
      obtain ⟨r5, hr5, h⟩ := obind h
      refine awl_big (big_call [] (umbraref29_Ints_ok hr5) umbraref29_Ints_ok_c (by kernel_rfl) (by kernel_rfl)) (by kernel_rfl) ?_
      refine awl_u hT m_umbraref30_Same [31] 2 (by kernel_rfl) ?_
      refine awl_nil (tn_n ?_)
      cases h
      exact jr (by kernel_rfl)
    · refine awl_u hT m_umbraref30_Same [31] 7 (by kernel_rfl) ?_
      refine awl_nil (tn_n ?_)
      cases h
      exact jr (by kernel_rfl)
  · have h := g1
    refine aw_ret ?_
    cases h
    exact fin_r (by kernel_rfl)

theorem umbraref30_Same_ok_c : callable Try.prog 27 := ⟨_, Try.func27, by decide, rfl⟩

/-! umbra/umbralaw42.FilterBack -/
def p_umbralaw42_FilterBack (N : Nat) (a0 : S_api_Plane) : Option (Bool) :=
  Option.bind (p_umbralaw42_few N a0) fun r1 =>
  Option.bind (p_filter_Through_dl_Double_Half_z N r1) fun r2 =>
  Option.bind (p_filter_Through_dn N r1) fun r3 =>
  Option.bind (p_pam_Check N r1) fun r4 =>
  cond (r4 != 0) (
    Option.bind (letO (cond (r2.2 == r4) (r3.2 == r4) false) fun x6 =>
    cond x6 (
      Option.bind (p_umbralaw42_works N ) fun r7 =>
      some r7) (
      some false)) fun p5 =>
    some p5) (
    Option.bind (cond (r3.2 != 0) (
      some true) (
      Option.bind (p_umbraref30_Same N r3.1 r1) fun r9 =>
      some (!r9))) fun p8 =>
    cond p8 (
      some false) (
      letO (decide ((imax r1.gW r1.gH) > 32)) fun x10 =>
      cond x10 (
        Option.bind (cond (r2.2 == 2) (
          Option.bind (p_umbralaw42_works N ) fun r12 =>
          some r12) (
          some false)) fun p11 =>
        some p11) (
        Option.bind (cond (r2.2 == 0) (
          Option.bind (p_umbraref30_Same N r2.1 r1) fun r14 =>
          cond r14 (
            Option.bind (p_umbralaw42_works N ) fun r15 =>
            some r15) (
            some false)) (
          some false)) fun p13 =>
        some p13)))

theorem umbralaw42_FilterBack_ok {N : Nat} {a0 : S_api_Plane} {r : Bool} (h : p_umbralaw42_FilterBack N a0 = some r) : FnM Try.prog 6 [] [(S_api_Plane.enc a0)] (eB r) [] := by
  unfold p_umbralaw42_FilterBack at h
  refine fnM_of_aw (m := 65) (lo := 0) (rs := [.tmp 2]) hT Try.func6 rfl (by kernel_rfl) rfl ?_
  refine aw_sregU hT m_no [] (by kernel_rfl) ?_
  refine aw_sreg ?_
  refine awl_u hT m_no [] 1 (by kernel_rfl) ?_
  obtain ⟨r1, hr1, h⟩ := obind h
  refine awl_big (big_call [] (umbralaw42_few_ok hr1) umbralaw42_few_ok_c (by kernel_rfl) (by kernel_rfl)) (by kernel_rfl) ?_
  refine awl_u hT m_no [] 1 (by kernel_rfl) ?_
  refine awl_nil ?_
  refine aw_sreg ?_
  refine awl_u hT m_no [] 1 (by kernel_rfl) ?_
  refine awl_big (big_row hT (x := (.sl 1 2 [(.fn (.func 30) [] []), (.fn (.func 31) [] [])])) (by kernel_rfl) (by kernel_rfl)) (by kernel_rfl) ?_
  obtain ⟨r2, hr2, h⟩ := obind h
  refine awl_big (big_call [] (filter_Through_dl_Double_Half_z_ok hr2) filter_Through_dl_Double_Half_z_ok_c (by kernel_rfl) (by kernel_rfl)) (by kernel_rfl) ?_
  refine awl_u hT m_no [] 6 (by kernel_rfl) ?_
  refine awl_nil ?_
  refine aw_sreg ?_
  refine awl_u hT m_no [] 1 (by kernel_rfl) ?_
  obtain ⟨r3, hr3, h⟩ := obind h
  refine awl_big (big_call [] (filter_Through_dn_ok hr3) filter_Through_dn_ok_c (by kernel_rfl) (by kernel_rfl)) (by kernel_rfl) ?_
  refine awl_u hT m_no [] 6 (by kernel_rfl) ?_
  refine awl_nil ?_
  refine aw_seq ?_
  refine aw_sreg ?_
  refine awl_u hT m_no [] 1 (by kernel_rfl) ?_
  obtain ⟨r4, hr4, h⟩ := obind h
  refine awl_big (big_call [] (pam_Check_ok hr4) pam_Check_ok_c (by kernel_rfl) (by kernel_rfl)) (by kernel_rfl) ?_
  refine awl_u hT m_no [] 1 (by kernel_rfl) ?_
  refine awl_nil ?_
  refine aw_sregU hT m_no [] (by kernel_rfl) ?_
  refine aw_condH h (by kernel_rfl) (fun _ h => ?_) (fun _ h => ?_)
  · obtain ⟨p5, h, g5⟩ := obind h
    refine aw_joinT ⟨[en 2 (eB p5)], [.var (S_api_Plane.enc r1), .var (S_api_Plane.enc r2.1), .var (S_api_Plane.enc r3.1)]⟩ ?_ ?_
    · refine aw_region ?_
      obtain ⟨x6, hx6, h⟩ := letE h
      refine awl_u hT m_no [] 9 (by kernel_rfl) ?_
      refine awl_nms [(33, (eB x6))] (by subst hx6; kernel_rfl) ?_
      refine awl_split 33 h (by kernel_rfl) (fun h => ?_) (fun h => ?_)
      · obtain ⟨r7, hr7, h⟩ := obind h
        refine awl_big (big_call [] (umbralaw42_works_ok hr7) umbralaw42_works_ok_c (by kernel_rfl) (by kernel_rfl)) (by kernel_rfl) ?_
        refine awl_u hT m_no [33] 2 (by kernel_rfl) ?_
        refine awl_nil (tn_n ?_)
        cases h
        exact jr (by kernel_rfl)
      · refine awl_u hT m_no [33] 3 (by kernel_rfl) ?_
        refine awl_nil (tn_n ?_)
        cases h
        exact jr (by kernel_rfl)
    · have h := g5
      refine aw_ret (tn_r ?_)
      cases h
      exact fin_r (by kernel_rfl)
  · refine aw_skip (tn_n ?_)
    refine aw_seq ?_
    obtain ⟨p8, h, g8⟩ := obind h
    refine aw_joinT ⟨[en 1 (.ref 0 [] 0), en 3 (.ref 1 [] 0), en 4 (j64 r2.2), en 43 (eB p8)], [.var (S_api_Plane.enc r1), .var (S_api_Plane.enc r2.1), .var (S_api_Plane.enc r3.1)]⟩ ?_ ?_
    · refine aw_region ?_
      refine awl_u hT m_no [] 3 (by kernel_rfl) ?_
      refine awl_split 38 h (by kernel_rfl) (fun h => ?_) (fun h => ?_)
      · refine awl_u hT m_no [38] 5 (by kernel_rfl) ?_
        refine awl_nil (tn_n ?_)
        cases h
        exact jr (by kernel_rfl)
      · refine awl_u hT m_no [38] 2 (by kernel_rfl) ?_
        obtain ⟨r9, hr9, h⟩ := obind h
        refine awl_big (big_call [] (umbraref30_Same_ok hr9) umbraref30_Same_ok_c (by kernel_rfl) (by kernel_rfl)) (by kernel_rfl) ?_
        refine awl_u hT m_no [38] 2 (by kernel_rfl) ?_
        refine awl_nil (tn_n ?_)
        cases h
        exact jr (by kernel_rfl)
    · have h := g8
      refine aw_condH h (by kernel_rfl) (fun _ h => ?_) (fun _ h => ?_)
      · refine aw_sregU hT m_no [] (by kernel_rfl) ?_
        refine aw_ret (tn_r ?_)
        cases h
        exact fin_r (by kernel_rfl)
      · refine aw_skip (tn_n ?_)
        refine aw_seq ?_
        obtain ⟨x10, hx10, h⟩ := letE h
        refine aw_sregU hT m_no [] (by kernel_rfl) ?_
        refine aw_nms [(49, (eB x10))] (by subst hx10; kernel_rfl) ?_
        refine aw_condH h (by kernel_rfl) (fun _ h => ?_) (fun _ h => ?_)
        · obtain ⟨p11, h, g11⟩ := obind h
          refine aw_joinT ⟨[en 2 (eB p11)], [.var (S_api_Plane.enc r1), .var (S_api_Plane.enc r2.1), .var (S_api_Plane.enc r3.1)]⟩ ?_ ?_
          · refine aw_region ?_
            refine awl_u hT m_no [] 3 (by kernel_rfl) ?_
            refine awl_split 52 h (by kernel_rfl) (fun h => ?_) (fun h => ?_)
            · obtain ⟨r12, hr12, h⟩ := obind h
              refine awl_big (big_call [] (umbralaw42_works_ok hr12) umbralaw42_works_ok_c (by kernel_rfl) (by kernel_rfl)) (by kernel_rfl) ?_
              refine awl_u hT m_no [52] 2 (by kernel_rfl) ?_
              refine awl_nil (tn_n ?_)
              cases h
              exact jr (by kernel_rfl)
            · refine awl_u hT m_no [52] 3 (by kernel_rfl) ?_
              refine awl_nil (tn_n ?_)
              cases h
              exact jr (by kernel_rfl)
          · have h := g11
            refine aw_ret (tn_r ?_)
            cases h
            exact fin_r (by kernel_rfl)
        · refine aw_skip (tn_n ?_)
          obtain ⟨p13, h, g13⟩ := obind h
          refine aw_joinT ⟨[en 2 (eB p13)], [.var (S_api_Plane.enc r1), .var (S_api_Plane.enc r2.1), .var (S_api_Plane.enc r3.1)]⟩ ?_ ?_
          · refine aw_region ?_
            refine awl_u hT m_no [] 3 (by kernel_rfl) ?_
            refine awl_split 57 h (by kernel_rfl) (fun h => ?_) (fun h => ?_)
            · refine awl_u hT m_no [57] 2 (by kernel_rfl) ?_
              obtain ⟨r14, hr14, h⟩ := obind h
              refine awl_big (big_call [] (umbraref30_Same_ok hr14) umbraref30_Same_ok_c (by kernel_rfl) (by kernel_rfl)) (by kernel_rfl) ?_
              refine awl_u hT m_no [57] 2 (by kernel_rfl) ?_
              refine awl_split 62 h (by kernel_rfl) (fun h => ?_) (fun h => ?_)
              · obtain ⟨r15, hr15, h⟩ := obind h
                refine awl_big (big_call [] (umbralaw42_works_ok hr15) umbralaw42_works_ok_c (by kernel_rfl) (by kernel_rfl)) (by kernel_rfl) ?_
                refine awl_u hT m_no [62] 2 (by kernel_rfl) ?_
                refine awl_nil (tn_n ?_)
                cases h
                exact jr (by kernel_rfl)
              · refine awl_u hT m_no [62] 3 (by kernel_rfl) ?_
                refine awl_nil (tn_n ?_)
                cases h
                exact jr (by kernel_rfl)
            · refine awl_u hT m_no [57, 62] 8 (by kernel_rfl) ?_
              refine awl_nil (tn_n ?_)
              cases h
              exact jr (by kernel_rfl)
          · have h := g13
            refine aw_ret ?_
            cases h
            exact fin_r (by kernel_rfl)

theorem umbralaw42_FilterBack_ok_c : callable Try.prog 6 := ⟨_, Try.func6, by decide, rfl⟩

end Go.UK
