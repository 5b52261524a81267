/- A part of the proof: what the functions of the program compute. -/
import Derived.Test.YtcaadpceoajapaaG2
namespace Go.UK
open Go Go.Proofs
set_option maxRecDepth 20000
set_option maxHeartbeats 4000000
set_option linter.all false

attribute [local irreducible] owp awl aw FnM NatFn opS Stab TOK Big

/-! umbra/filter.nine -/
def m_filter_nine : Nat → Bool := imL [4]

def p_filter_nine_L1 (N : Nat) (a1 : Int) (a2 : Int) (a0 : S_api_Plane) (a3 : Int) : Nat → (Vector Int 9) → Int → Option ((Vector Int 9))
  | 0, _, _ => none
  | k + 1, s2, s3 =>
    cond (decide (s3 < 9)) (
      letO (I64 (a1 + (Int.tmod s3 3))) fun x6 =>
      letO (I64 (a2 + (I64 (Int.tdiv s3 3)))) fun x7 =>
      Option.bind (p_filter_at N a0 (I64 (x6 - 1)) (I64 (x7 - 1)) a3) fun r8 =>
      Option.bind (inRO s3 9) fun _ =>
      Option.bind (s2.toList[s3.toNat]?) fun e10 =>
      p_filter_nine_L1 N a1 a2 a0 a3 k (s2.setIfInBounds s3.toNat r8) (I64 (s3 + 1))) (
      some s2)

def p_filter_nine (N : Nat) (a0 : S_api_Plane) (a1 : Int) (a2 : Int) (a3 : Int) : Option ((Vector Int 9)) :=
  Option.bind (p_filter_nine_L1 N a1 a2 a0 a3 N (Vector.replicate 9 0) 0) fun p1 =>
  some p1

theorem filter_nine_ok {N : Nat} {a0 : S_api_Plane} {a1 : Int} {a2 : Int} {a3 : Int} {r : (Vector Int 9)} (h : p_filter_nine N a0 a1 a2 a3 = some r) : FnM Try.prog 75 [] [(S_api_Plane.enc a0), (j64 a1), (j64 a2), (j64 a3)] (eA 9 1 j64 r) [] := by
  unfold p_filter_nine at h
  refine fnM_of_aw (m := 31) (lo := 0) (rs := [.cell 8 35]) hT Try.func75 rfl (by kernel_rfl) rfl ?_
  refine aw_sregU hT m_filter_nine [] (by kernel_rfl) ?_
  refine aw_sregU hT m_filter_nine [] (by kernel_rfl) ?_
  refine aw_seq ?_
  refine aw_sregU hT m_filter_nine [] (by kernel_rfl) ?_
  obtain ⟨p1, h, g1⟩ := obind h
  refine aw_joinTK ⟨[en 8 (.ref 0 [] 0), en 9 (.ref 1 [] 0)], [.var (eA 9 1 j64 (Vector.replicate 9 0)), .var (eA 9 1 j64 p1)]⟩ ?_ ?_
  · refine aw_block (aw_loop (fun k s => ∃ s2 s3, p_filter_nine_L1 N a1 a2 a0 a3 k s2 s3 = some p1 ∧ JR (Fr.f 31 0) ⟨[en 1 (j64 a1), en 2 (j64 a2), en 3 (j64 a3), en 4 (.im (S_api_Plane.enc a0)), en 8 (.ref 0 [] 0), en 9 (.ref 1 [] 0), en 11 (j64 s3)], [.var (eA 9 1 j64 (Vector.replicate 9 0)), .var (eA 9 1 j64 s2)]⟩ s) (fun k s hI => ?_) N _ ⟨_, _, h, jr (by kernel_rfl)⟩)
    obtain ⟨s2, s3, h, hj⟩ := hI
    cases k with
    | zero => cases h
    | succ k =>
      refine aw_to _ hj ?_
      refine aw_sregU hT m_filter_nine [] (by kernel_rfl) ?_
      refine aw_seq ?_
      refine aw_condH h (by kernel_rfl) (fun _ h => ?_) (fun _ h => ?_)
      · refine aw_skip (tn_n ?_)
        refine aw_seq ?_
        refine aw_block ?_
        refine aw_sregU hT m_filter_nine [] (by kernel_rfl) ?_
        refine aw_region ?_
        obtain ⟨x6, hx6, h⟩ := letE h
        obtain ⟨x7, hx7, h⟩ := letE h
        refine awl_u hT m_filter_nine [] 13 (by kernel_rfl) ?_
        refine awl_nms [(20, (j64 (I64 (x6 - 1)))), (25, (j64 (I64 (x7 - 1))))] (by subst hx7 hx6; kernel_rfl) ?_
        obtain ⟨r8, hr8, h⟩ := obind h
        refine awl_big (big_call [] (filter_at_ok hr8) filter_at_ok_c (by kernel_rfl) (by kernel_rfl)) (by kernel_rfl) ?_
        obtain ⟨u9, hu9, h⟩ := obind h
        refine awl_big (big_adR hT (k := 1) 1 [] 0 hu9 (by kernel_rfl) (by kernel_rfl)) (by kernel_rfl) ?_
        obtain ⟨e10, he10, h⟩ := obind h
        refine awl_big (big_stV hT j64 0 s2 he10 r8 (by kernel_rfl) (by kernel_rfl) (H' := [.var (eA 9 1 j64 (Vector.replicate 9 0)), .var (eA 9 1 j64 (s2.setIfInBounds s3.toNat r8))]) (by kernel_rfl)) (by kernel_rfl) ?_
        refine awl_nil (inB_n (tn_n ?_))
        refine aw_regU hT m_filter_nine [] (by kernel_rfl) (tn_n ?_)
        exact ⟨k, Nat.lt_succ_self k, _, _, h, jr (by kernel_rfl)⟩
      · refine aw_exit (tn_x (tn_x (inB_e (tn_n ?_))))
        cases h
        exact jr (by kernel_rfl)
  · have h := g1
    refine (tn_n ?_)
    refine aw_sregU hT m_filter_nine [] (by kernel_rfl) ?_
    refine aw_ret ?_
    cases h
    exact fin_r (by kernel_rfl)

theorem filter_nine_ok_c : callable Try.prog 75 := ⟨_, Try.func75, by decide, rfl⟩

/-! umbra/filter.Convolve$1 -/
def p_filter_Convolve_1_dddrii_L1 (N : Nat) (r1 : (Vector Int 9)) (a4 : (Vector Int 9)) : Nat → Int → Int → Option (Int)
  | 0, _, _ => none
  | k + 1, s3, s4 =>
    cond (decide (s4 < 9)) (
      Option.bind (idx r1.toList s4) fun e5 =>
      Option.bind (idx a4.toList s4) fun e6 =>
      letO (I64 (s3 + (I64 (e5 * e6)))) fun x7 =>
      p_filter_Convolve_1_dddrii_L1 N r1 a4 k x7 (I64 (s4 + 1))) (
      some s3)

def p_filter_Convolve_1_dddrii (N : Nat) (a0 : Int) (a1 : Int) (a2 : Int) (a3 : S_api_Plane) (a4 : (Vector Int 9)) (a5 : Int) : Option (Int) :=
  Option.bind (p_filter_nine N a3 a0 a1 a2) fun r1 =>
  Option.bind (p_filter_Convolve_1_dddrii_L1 N r1 a4 N (I64 (Int.tdiv a5 2)) 0) fun p2 =>
  Option.bind (quoO .i64 p2 a5) fun x8 =>
  some x8

theorem filter_Convolve_1_dddrii_ok {N : Nat} {a0 : Int} {a1 : Int} {a2 : Int} {a3 : S_api_Plane} {a4 : (Vector Int 9)} {a5 : Int} {r : Int} (h : p_filter_Convolve_1_dddrii N a0 a1 a2 a3 a4 a5 = some r) : FnM Try.prog 74 [.var (j64 a5)] [(j64 a0), (j64 a1), (j64 a2), (.ref 0 [] 0), (.im (S_api_Plane.enc a3)), (.im (eA 9 1 j64 a4))] (j64 r) [.var (j64 a5)] := by
  unfold p_filter_Convolve_1_dddrii at h
  refine fnM_of_aw (m := 35) (lo := 1) (rs := [.tmp 9]) hT Try.func74 rfl (by kernel_rfl) rfl ?_
  refine aw_sregU hT m_no [] (by kernel_rfl) ?_
  refine aw_sregU hT m_no [] (by kernel_rfl) ?_
  refine aw_seq ?_
  refine aw_sreg ?_
  refine awl_u hT m_no [] 4 (by kernel_rfl) ?_
  obtain ⟨r1, hr1, h⟩ := obind h
  refine awl_big (big_call [] (filter_nine_ok hr1) filter_nine_ok_c (by kernel_rfl) (by kernel_rfl)) (by kernel_rfl) ?_
  refine awl_u hT m_no [] 1 (by kernel_rfl) ?_
  refine awl_nil ?_
  obtain ⟨p2, h, g2⟩ := obind h
  refine aw_joinTK ⟨[en 3 (.ref 0 [] 0), en 10 (j64 p2)], [.var (j64 a5)]⟩ ?_ ?_
  · refine aw_block (aw_loop (fun k s => ∃ s3 s4, p_filter_Convolve_1_dddrii_L1 N r1 a4 k s3 s4 = some p2 ∧ JR (Fr.f 35 1) ⟨[en 3 (.ref 0 [] 0), en 5 (.im (eA 9 1 j64 a4)), en 10 (j64 s3), en 19 (eA 9 1 j64 r1), en 20 (j64 s4)], [.var (j64 a5)]⟩ s) (fun k s hI => ?_) N _ ⟨_, _, h, jr (by kernel_rfl)⟩)
    obtain ⟨s3, s4, h, hj⟩ := hI
    cases k with
    | zero => cases h
    | succ k =>
      refine aw_to _ hj ?_
      refine aw_sregU hT m_no [] (by kernel_rfl) ?_
      refine aw_seq ?_
      refine aw_condH h (by kernel_rfl) (fun _ h => ?_) (fun _ h => ?_)
      · refine aw_skip (tn_n ?_)
        refine aw_seq ?_
        refine aw_block ?_
        refine aw_sreg ?_
        refine awl_u hT m_no [] 1 (by kernel_rfl) ?_
        obtain ⟨e5, he5, h⟩ := obind h
        refine awl_big (big_ixA hT j64 r1 he5 (by kernel_rfl) (by kernel_rfl)) (by kernel_rfl) ?_
        refine awl_u hT m_no [] 2 (by kernel_rfl) ?_
        refine awl_nil ?_
        refine aw_region ?_
        refine awl_u hT m_no [] 3 (by kernel_rfl) ?_
        obtain ⟨e6, he6, h⟩ := obind h
        refine awl_big (big_adI hT (N := 9) (k := 1) j64 a4 he6 (by kernel_rfl) (by kernel_rfl)) (by kernel_rfl) ?_
        obtain ⟨x7, hx7, h⟩ := letE h
        refine awl_u hT m_no [] 4 (by kernel_rfl) ?_
        refine awl_nms [(10, (j64 x7))] (by subst hx7; kernel_rfl) ?_
        refine awl_nil (inB_n (tn_n ?_))
        refine aw_regU hT m_no [] (by kernel_rfl) (tn_n ?_)
        exact ⟨k, Nat.lt_succ_self k, _, _, h, jr (by kernel_rfl)⟩
      · refine aw_exit (tn_x (tn_x (inB_e (tn_n ?_))))
        cases h
        exact jr (by kernel_rfl)
  · have h := g2
    refine (tn_n ?_)
    refine aw_sreg ?_
    refine awl_u hT m_no [] 2 (by kernel_rfl) ?_
    obtain ⟨x8, hx8, h⟩ := obind h
    refine awl_big (big_quo hT hx8 (by kernel_rfl) (by kernel_rfl)) (by kernel_rfl) ?_
    refine awl_u hT m_no [] 1 (by kernel_rfl) ?_
    refine awl_nil ?_
    refine aw_ret ?_
    cases h
    exact fin_r (by kernel_rfl)

theorem filter_Convolve_1_dddrii_ok_c : callable Try.prog 74 := ⟨_, Try.func74, by decide, rfl⟩

/-! umbra/filter.each -/
def m_filter_each_Convolve_1_rii : Nat → Bool := imL [4]

def p_filter_each_Convolve_1_rii_L1 (N : Nat) (x1 : Int) (a0 : S_api_Plane) (a1 : Int) (a3 : S_api_Plane) (a4 : (Vector Int 9)) (a5 : Int) : Nat → (List Int) → Int → Option ((List Int))
  | 0, _, _ => none
  | k + 1, s3, s4 =>
    cond (decide (s4 < x1)) (
      Option.bind (quoO .i64 s4 a0.gDeep) fun x5 =>
      Option.bind (remO .i64 x5 a1) fun x6 =>
      Option.bind (quoO .i64 s4 a0.gDeep) fun x7 =>
      Option.bind (quoO .i64 x7 a1) fun x8 =>
      Option.bind (remO .i64 s4 a0.gDeep) fun x9 =>
      Option.bind (p_filter_Convolve_1_dddrii N x6 x8 x9 a3 a4 a5) fun r10 =>
      Option.bind (appO 8 s3 (([r10] : List Int))) fun a11 =>
      p_filter_each_Convolve_1_rii_L1 N x1 a0 a1 a3 a4 a5 k a11 (I64 (s4 + 1))) (
      some s3)

def p_filter_each_Convolve_1_rii (N : Nat) (a0 : S_api_Plane) (a1 : Int) (a2 : Int) (a3 : S_api_Plane) (a4 : (Vector Int 9)) (a5 : Int) : Option (S_api_Plane) :=
  letO (I64 ((I64 (a1 * a2)) * a0.gDeep)) fun x1 =>
  Option.bind (p_filter_each_Convolve_1_rii_L1 N x1 a0 a1 a3 a4 a5 N [] 0) fun p2 =>
  some (S_api_Plane.mk a1 a2 a0.gDeep a0.gName p2)

theorem filter_each_Convolve_1_rii_ok {N : Nat} {a0 : S_api_Plane} {a1 : Int} {a2 : Int} {a3 : S_api_Plane} {a4 : (Vector Int 9)} {a5 : Int} {r : S_api_Plane} (h : p_filter_each_Convolve_1_rii N a0 a1 a2 a3 a4 a5 = some r) : FnM Try.prog 73 [.var (j64 a5)] [(S_api_Plane.enc a0), (j64 a1), (j64 a2), (.fn (.func 74) [] [(.ref 0 [] 0), (.im (S_api_Plane.enc a3)), (.im (eA 9 1 j64 a4))])] (S_api_Plane.enc r) [.var (j64 a5)] := by
  unfold p_filter_each_Convolve_1_rii at h
  refine fnM_of_aw (m := 52) (lo := 1) (rs := [.cell 8 34]) hT Try.func73 rfl (by kernel_rfl) rfl ?_
  refine aw_sregU hT m_filter_each_Convolve_1_rii [] (by kernel_rfl) ?_
  refine aw_sregU hT m_filter_each_Convolve_1_rii [] (by kernel_rfl) ?_
  refine aw_seq ?_
  obtain ⟨x1, hx1, h⟩ := letE h
  refine aw_sregU hT m_filter_each_Convolve_1_rii [] (by kernel_rfl) ?_
  refine aw_nms [(23, (j64 x1))] (by subst hx1; kernel_rfl) ?_
  refine aw_own_box 2 1 [4] ?_
  obtain ⟨p2, h, g2⟩ := obind h
  refine aw_joinTK ⟨[en 8 (.ref 1 [] 0), en 9 (.ref 2 [] 0)], [.var (j64 a5), .var (.st 5 [(j64 0), (j64 0), (j64 0), (eS (ByteArray.mk #[])), (.v (.slice none 0 0))]), .var (.st 5 [(j64 a1), (j64 a2), (j64 a0.gDeep), (eS a0.gName), (eO 3 1 j64 p2)]), .tail (p2.length * 1)]⟩ ?_ ?_
  · refine aw_block (aw_loop (fun k s => ∃ s3 s4, p_filter_each_Convolve_1_rii_L1 N x1 a0 a1 a3 a4 a5 k s3 s4 = some p2 ∧ JR (Fr.f 52 1) ⟨[en 1 (j64 a1), en 3 (.fn (.func 74) [] [(.ref 0 [] 0), (.im (S_api_Plane.enc a3)), (.im (eA 9 1 j64 a4))]), en 4 (.im (S_api_Plane.enc a0)), en 8 (.ref 1 [] 0), en 9 (.ref 2 [] 0), en 23 (j64 x1), en 24 (j64 s4)], [.var (j64 a5), .var (.st 5 [(j64 0), (j64 0), (j64 0), (eS (ByteArray.mk #[])), (.v (.slice none 0 0))]), .var (.st 5 [(j64 a1), (j64 a2), (j64 a0.gDeep), (eS a0.gName), (eO 3 1 j64 s3)]), .tail (s3.length * 1)]⟩ s) (fun k s hI => ?_) N _ ⟨_, _, h, jr (by kernel_rfl)⟩)
    obtain ⟨s3, s4, h, hj⟩ := hI
    cases k with
    | zero => cases h
    | succ k =>
      refine aw_to _ hj ?_
      refine aw_sregU hT m_filter_each_Convolve_1_rii [] (by kernel_rfl) ?_
      refine aw_seq ?_
      refine aw_condH h (by kernel_rfl) (fun _ h => ?_) (fun _ h => ?_)
      · refine aw_skip (tn_n ?_)
        refine aw_seq ?_
        refine aw_block ?_
        refine aw_sregU hT m_filter_each_Convolve_1_rii [] (by kernel_rfl) ?_
        obtain ⟨x5, hx5, h⟩ := obind h
        obtain ⟨x6, hx6, h⟩ := obind h
        obtain ⟨x7, hx7, h⟩ := obind h
        obtain ⟨x8, hx8, h⟩ := obind h
        obtain ⟨x9, hx9, h⟩ := obind h
        obtain ⟨r10, hr10, h⟩ := obind h
        obtain ⟨a11, ha11, h⟩ := obind h
        refine aw_drawM hT hmo m_filter_each_Convolve_1_rii [(6, (j64 x5)), (8, (j64 x6)), (12, (j64 x7)), (14, (j64 x8)), (18, (j64 x9)), (20, (.sl 1 1 [(j64 r10)]))] [(19, fun _ => ((j64 r10), [.var (j64 a5), .var (.st 5 [(j64 0), (j64 0), (j64 0), (eS (ByteArray.mk #[])), (.v (.slice none 0 0))]), .var (.st 5 [(j64 a1), (j64 a2), (j64 a0.gDeep), (eS a0.gName), (eO 3 1 j64 s3)]), .tail (s3.length * 1)])), (21, fun _ => ((eO 3 1 j64 a11), [.var (j64 a5), .var (.st 5 [(j64 0), (j64 0), (j64 0), (eS (ByteArray.mk #[])), (.v (.slice none 0 0))]), .var (.st 5 [(j64 a1), (j64 a2), (j64 a0.gDeep), (eS a0.gName), (eO 3 1 j64 s3)]), .tail (a11.length * 1)]))] (by kernel_rfl) (by kernel_rfl) (by kernel_rfl) ⟨fun _ => big_quo hT hx5 (by kernel_rfl) (by kernel_rfl), fun _ => big_rem hT hx6 (by kernel_rfl) (by kernel_rfl), fun _ => big_quo hT hx7 (by kernel_rfl) (by kernel_rfl), fun _ => big_quo hT hx8 (by kernel_rfl) (by kernel_rfl), fun _ => big_rem hT hx9 (by kernel_rfl) (by kernel_rfl), fun _ => big_row hT (x := (.sl 1 1 [(j64 r10)])) (by kernel_rfl) (by kernel_rfl), trivial⟩ ⟨big_at (big_call [0] (filter_Convolve_1_dddrii_ok hr10) filter_Convolve_1_dddrii_ok_c (by kernel_rfl) (by kernel_rfl)) (by kernel_rfl), big_at (big_app hT j64 (id := 3) (k := 1) ha11 (by kernel_rfl) (by kernel_rfl)) (by kernel_rfl), trivial⟩ (inB_n (tn_n ?_))
        refine aw_regU hT m_filter_each_Convolve_1_rii [] (by kernel_rfl) (tn_n ?_)
        exact ⟨k, Nat.lt_succ_self k, _, _, h, jr (by kernel_rfl)⟩
      · refine aw_exit (tn_x (tn_x (inB_e (tn_n ?_))))
        cases h
        exact jr (by kernel_rfl)
  · have h := g2
    refine (tn_n ?_)
    refine aw_sregU hT m_filter_each_Convolve_1_rii [] (by kernel_rfl) ?_
    refine aw_ret ?_
    cases h
    exact fin_r (by kernel_rfl)

theorem filter_each_Convolve_1_rii_ok_c : callable Try.prog 73 := ⟨_, Try.func73, by decide, rfl⟩

/-! umbra/filter.Convolve -/
def m_filter_Convolve : Nat → Bool := imL [2, 3]

def p_filter_Convolve_L1 (N : Nat) (a1 : (Vector Int 9)) : Nat → Int → Int → Option (Sum (Int) (S_api_Plane × Int))
  | 0, _, _ => none
  | k + 1, s3, s4 =>
    cond (decide (s4 < 9)) (
      Option.bind (idx a1.toList s4) fun e5 =>
      letO (cond (decide (e5 < 0)) true (decide (e5 > 4096))) fun x6 =>
      cond x6 (
        some (Sum.inr ((S_api_Plane.mk 0 0 0 (ByteArray.mk #[]) [], 2)))) (
        p_filter_Convolve_L1 N a1 k (I64 (s3 + e5)) (I64 (s4 + 1)))) (
      some (Sum.inl s3))

def p_filter_Convolve (N : Nat) (a0 : S_api_Plane) (a1 : (Vector Int 9)) : Option (S_api_Plane × Int) :=
  Option.bind (p_pam_Check N a0) fun r1 =>
  cond (r1 != 0) (
    some ((S_api_Plane.mk 0 0 0 (ByteArray.mk #[]) [], r1))) (
    Option.bind (p_filter_Convolve_L1 N a1 N 0 0) fun o => sumC o (fun p2 =>
      cond (p2 == 0) (
        some ((S_api_Plane.mk 0 0 0 (ByteArray.mk #[]) [], 2))) (
        Option.bind (p_filter_each_Convolve_1_rii N a0 a0.gW a0.gH a0 a1 p2) fun r7 =>
        some ((r7, 0)))) (fun r => some r))

theorem filter_Convolve_ok {N : Nat} {a0 : S_api_Plane} {a1 : (Vector Int 9)} {r : S_api_Plane × Int} (h : p_filter_Convolve N a0 a1 = some r) : FnM Try.prog 23 [] [(S_api_Plane.enc a0), (eA 9 1 j64 a1)] (.tup [(S_api_Plane.enc r.1), (j64 r.2)]) [] := by
  unfold p_filter_Convolve at h
  refine fnM_of_aw (m := 41) (lo := 0) (rs := [.cell 4 34, .tmp 5]) hT Try.func23 rfl (by kernel_rfl) rfl ?_
  refine aw_sregU hT m_filter_Convolve [] (by kernel_rfl) ?_
  refine aw_seq ?_
  refine aw_sreg ?_
  refine awl_u hT m_filter_Convolve [] 1 (by kernel_rfl) ?_
  obtain ⟨r1, hr1, h⟩ := obind h
  refine awl_big (big_call [] (pam_Check_ok hr1) pam_Check_ok_c (by kernel_rfl) (by kernel_rfl)) (by kernel_rfl) ?_
  refine awl_u hT m_filter_Convolve [] 1 (by kernel_rfl) ?_
  refine awl_nil ?_
  refine aw_sregU hT m_filter_Convolve [] (by kernel_rfl) ?_
  refine aw_condH h (by kernel_rfl) (fun _ h => ?_) (fun _ h => ?_)
  · refine aw_sregU hT m_filter_Convolve [] (by kernel_rfl) ?_
    refine aw_ret (tn_r ?_)
    cases h
    exact fin_r (by kernel_rfl)
  · refine aw_skip (tn_n ?_)
    refine aw_sregU hT m_filter_Convolve [] (by kernel_rfl) ?_
    refine aw_seq ?_
    refine aw_sregU hT m_filter_Convolve [] (by kernel_rfl) ?_
    obtain ⟨op2, h, g2⟩ := obind h
    refine aw_joinSK (fun p2 => ⟨[en 2 (.im (S_api_Plane.enc a0)), en 3 (.im (eA 9 1 j64 a1)), en 4 (.ref 0 [] 0), en 7 (.ref 1 [] 0)], [.var (.st 5 [(j64 0), (j64 0), (j64 0), (eS (ByteArray.mk #[])), (.v (.slice none 0 0))]), .var (j64 p2)]⟩) g2 ?_ (fun p2 h => ?_)
    · refine aw_block (aw_loop (fun k s => ∃ s3 s4, p_filter_Convolve_L1 N a1 k s3 s4 = some op2 ∧ JR (Fr.f 41 0) ⟨[en 2 (.im (S_api_Plane.enc a0)), en 3 (.im (eA 9 1 j64 a1)), en 4 (.ref 0 [] 0), en 7 (.ref 1 [] 0), en 16 (eA 9 1 j64 a1), en 17 (j64 s4)], [.var (.st 5 [(j64 0), (j64 0), (j64 0), (eS (ByteArray.mk #[])), (.v (.slice none 0 0))]), .var (j64 s3)]⟩ s) (fun k s hI => ?_) N _ ⟨_, _, h, jr (by kernel_rfl)⟩)
      obtain ⟨s3, s4, h, hj⟩ := hI
      cases k with
      | zero => cases h
      | succ k =>
        refine aw_to _ hj ?_
        refine aw_sregU hT m_filter_Convolve [] (by kernel_rfl) ?_
        refine aw_seq ?_
        refine aw_condH h (by kernel_rfl) (fun _ h => ?_) (fun _ h => ?_)
        · refine aw_skip (tn_n ?_)
          refine aw_seq ?_
          refine aw_block ?_
          refine aw_sreg ?_
          obtain ⟨e5, he5, h⟩ := obind h
          refine awl_big (big_ixA hT j64 a1 he5 (by kernel_rfl) (by kernel_rfl)) (by kernel_rfl) ?_
          refine awl_u hT m_filter_Convolve [] 1 (by kernel_rfl) ?_
          refine awl_nil ?_
          refine aw_seq ?_
          obtain ⟨x6, hx6, h⟩ := letE h
          refine aw_sregU hT m_filter_Convolve [] (by kernel_rfl) ?_
          refine aw_nms [(25, (eB x6))] (by subst hx6; kernel_rfl) ?_
          refine aw_condH h (by kernel_rfl) (fun _ h => ?_) (fun _ h => ?_)
          · refine aw_sregU hT m_filter_Convolve [] (by kernel_rfl) ?_
            cases h
            have h := g2
            refine aw_ret (tn_r (inB_r (tn_r (tn_r (inB_r (tn_r (tn_r ?_)))))))
            obtain rfl := sum_e h
            exact fin_r (by kernel_rfl)
          · refine aw_skip (tn_n ?_)
            refine aw_regU hT m_filter_Convolve [] (by kernel_rfl) (inB_n (tn_n ?_))
            refine aw_regU hT m_filter_Convolve [] (by kernel_rfl) (tn_n ?_)
            exact ⟨k, Nat.lt_succ_self k, _, _, h, jr (by kernel_rfl)⟩
        · refine aw_exit (tn_x (tn_x (inB_e (tn_n ?_))))
          cases h
          exact ⟨_, rfl, jr (by kernel_rfl)⟩
    · refine (tn_n ?_)
      refine aw_seq ?_
      refine aw_sregU hT m_filter_Convolve [] (by kernel_rfl) ?_
      refine aw_condH h (by kernel_rfl) (fun _ h => ?_) (fun _ h => ?_)
      · refine aw_sregU hT m_filter_Convolve [] (by kernel_rfl) ?_
        refine aw_ret (tn_r ?_)
        cases h
        exact fin_r (by kernel_rfl)
      · refine aw_skip (tn_n ?_)
        refine aw_sreg ?_
        refine awl_u hT m_filter_Convolve [] 5 (by kernel_rfl) ?_
        refine awl_big (big_mkf (x := (.fn (.func 74) [] [(.ref 1 [] 0), (.im (S_api_Plane.enc a0)), (.im (eA 9 1 j64 a1))])) (by kernel_rfl) (by kernel_rfl)) (by kernel_rfl) ?_
        obtain ⟨r7, hr7, h⟩ := obind h
        refine awl_big (big_call [1] (filter_each_Convolve_1_rii_ok hr7) filter_each_Convolve_1_rii_ok_c (by kernel_rfl) (by kernel_rfl)) (by kernel_rfl) ?_
        refine awl_u hT m_filter_Convolve [] 2 (by kernel_rfl) ?_
        refine awl_nil ?_
        refine aw_ret ?_
        cases h
        exact fin_r (by kernel_rfl)

theorem filter_Convolve_ok_c : callable Try.prog 23 := ⟨_, Try.func23, by decide, rfl⟩

/-! umbra/umbraref30.Check -/
def m_umbraref30_Check : Nat → Bool := imL [1]

def p_umbraref30_Check_L1 (N : Nat) (a0 : S_api_Plane) : Nat → Int → Option (Sum (Unit) (Int))
  | 0, _ => none
  | k + 1, s13 =>
    letO ((ByteArray.size a0.gName : Int)) fun x14 =>
    cond (decide (s13 < x14)) (
      Option.bind (Option.bind (idx a0.gName.data.toList s13) fun c16 =>
      letO (decide (((UInt8.toNat c16 : Int)) < 65)) fun x17 =>
      cond x17 (
        some true) (
        Option.bind (idx a0.gName.data.toList s13) fun c18 =>
        letO (decide (((UInt8.toNat c18 : Int)) > 90)) fun x19 =>
        some x19)) fun p15 =>
      cond p15 (
        some (Sum.inr 5)) (
        p_umbraref30_Check_L1 N a0 k (I64 (s13 + 1)))) (
      some (Sum.inl (())))

def p_umbraref30_Check_L2 (N : Nat) (a0 : S_api_Plane) : Nat → Int → Option (Sum (Unit) (Int))
  | 0, _ => none
  | k + 1, s21 =>
    letO ((a0.gData.length : Int)) fun x22 =>
    cond (decide (s21 < x22)) (
      Option.bind (Option.bind (idx a0.gData s21) fun e24 =>
      cond (decide (e24 < 0)) (
        some true) (
        Option.bind (idx a0.gData s21) fun e25 =>
        some (decide (e25 > 65535)))) fun p23 =>
      cond p23 (
        some (Sum.inr 5)) (
        p_umbraref30_Check_L2 N a0 k (I64 (s21 + 1)))) (
      some (Sum.inl (())))

def p_umbraref30_Check (N : Nat) (a0 : S_api_Plane) : Option (Int) :=
  letO (cond (decide (a0.gW < 1)) true (decide (a0.gW > 64))) fun x1 =>
  letO (cond x1 true (decide (a0.gH < 1))) fun x2 =>
  letO (cond x2 true (decide (a0.gH > 64))) fun x3 =>
  letO (cond x3 true (decide (a0.gDeep < 1))) fun x4 =>
  letO (cond x4 true (decide (a0.gDeep > 4))) fun x5 =>
  cond x5 (
    some 2) (
    letO ((ByteArray.size a0.gName : Int)) fun x6 =>
    letO ((ByteArray.size a0.gName : Int)) fun x7 =>
    letO (cond (decide (x6 < 1)) true (decide (x7 > 16))) fun x8 =>
    letO ((a0.gData.length : Int)) fun x9 =>
    letO (I64 ((I64 (a0.gW * a0.gH)) * a0.gDeep)) fun x10 =>
    letO (cond x8 true (x9 != x10)) fun x11 =>
    cond x11 (
      some 5) (
      Option.bind (p_umbraref30_Check_L1 N a0 N 0) fun o => sumC o (fun p12 =>
        Option.bind (p_umbraref30_Check_L2 N a0 N 0) fun o => sumC o (fun p20 =>
          some 0) (fun r => some r)) (fun r => some r)))

theorem umbraref30_Check_ok {N : Nat} {a0 : S_api_Plane} {r : Int} (h : p_umbraref30_Check N a0 = some r) : FnM Try.prog 76 [] [(S_api_Plane.enc a0)] (j64 r) [] := by
  unfold p_umbraref30_Check at h
  refine fnM_of_aw (m := 97) (lo := 0) (rs := [.tmp 2]) hT Try.func76 rfl (by kernel_rfl) rfl ?_
  refine aw_sregU hT m_umbraref30_Check [] (by kernel_rfl) ?_
  refine aw_seq ?_
  obtain ⟨x1, hx1, h⟩ := letE h
  obtain ⟨x2, hx2, h⟩ := letE h
  obtain ⟨x3, hx3, h⟩ := letE h
  obtain ⟨x4, hx4, h⟩ := letE h
  obtain ⟨x5, hx5, h⟩ := letE h
  refine aw_sregU hT m_umbraref30_Check [] (by kernel_rfl) ?_
  refine aw_nms [(32, (eB x5))] (by subst hx5 hx4 hx3 hx2 hx1; kernel_rfl) ?_
  refine aw_condH h (by kernel_rfl) (fun _ h => ?_) (fun _ h => ?_)
  · refine aw_sregU hT m_umbraref30_Check [] (by kernel_rfl) ?_
    refine aw_ret (tn_r ?_)
    cases h
    exact fin_r (by kernel_rfl)
  · refine aw_skip (tn_n ?_)
    refine aw_seq ?_
    obtain ⟨x6, hx6, h⟩ := letE h
    obtain ⟨x7, hx7, h⟩ := letE h
    obtain ⟨x8, hx8, h⟩ := letE h
    obtain ⟨x9, hx9, h⟩ := letE h
    obtain ⟨x10, hx10, h⟩ := letE h
    obtain ⟨x11, hx11, h⟩ := letE h
    refine aw_sregU hT m_umbraref30_Check [] (by kernel_rfl) ?_
    refine aw_nms [(56, (eB x11))] (by subst hx11 hx10 hx9 hx8 hx7 hx6; kernel_rfl) ?_
    refine aw_condH h (by kernel_rfl) (fun _ h => ?_) (fun _ h => ?_)
    · refine aw_sregU hT m_umbraref30_Check [] (by kernel_rfl) ?_
      refine aw_ret (tn_r ?_)
      cases h
      exact fin_r (by kernel_rfl)
    · refine aw_skip (tn_n ?_)
      refine aw_seq ?_
      refine aw_sregU hT m_umbraref30_Check [] (by kernel_rfl) ?_
      obtain ⟨op12, h, g12⟩ := obind h
      refine aw_joinSK (fun p12 => ⟨[en 1 (.im (S_api_Plane.enc a0))], []⟩) g12 ?_ (fun p12 h => ?_)
      · refine aw_block (aw_loop (fun k s => ∃ s13, p_umbraref30_Check_L1 N a0 k s13 = some op12 ∧ JR (Fr.f 97 0) ⟨[en 1 (.im (S_api_Plane.enc a0)), en 3 (j64 s13)], []⟩ s) (fun k s hI => ?_) N _ ⟨_, h, jr (by kernel_rfl)⟩)
        obtain ⟨s13, h, hj⟩ := hI
        cases k with
        | zero => cases h
        | succ k =>
          refine aw_to _ hj ?_
          refine aw_seq ?_
          obtain ⟨x14, hx14, h⟩ := letE h
          refine aw_sregU hT m_umbraref30_Check [] (by kernel_rfl) ?_
          refine aw_nms [(61, (eB (decide (s13 < x14))))] (by subst hx14; kernel_rfl) ?_
          refine aw_condH h (by kernel_rfl) (fun _ h => ?_) (fun _ h => ?_)
          · refine aw_skip (tn_n ?_)
            refine aw_seq ?_
            refine aw_block ?_
            obtain ⟨p15, h, g15⟩ := obind h
            refine aw_joinT ⟨[en 1 (.im (S_api_Plane.enc a0)), en 3 (j64 s13), en 75 (eB p15)], []⟩ ?_ ?_
            · refine aw_region ?_
              refine awl_u hT m_umbraref30_Check [] 3 (by kernel_rfl) ?_
              obtain ⟨c16, hc16, h⟩ := obind h
              refine awl_big (big_ixS hT hc16 (by kernel_rfl) (by kernel_rfl)) (by kernel_rfl) ?_
              obtain ⟨x17, hx17, h⟩ := letE h
              refine awl_u hT m_umbraref30_Check [] 2 (by kernel_rfl) ?_
              refine awl_nms [(69, (eB x17))] (by subst hx17; kernel_rfl) ?_
              refine awl_split 69 h (by kernel_rfl) (fun h => ?_) (fun h => ?_)
              · refine awl_u hT m_umbraref30_Check [69] 6 (by kernel_rfl) ?_
                refine awl_nil (tn_n ?_)
                cases h
                exact jr (by kernel_rfl)
              · refine awl_u hT m_umbraref30_Check [69] 3 (by kernel_rfl) ?_
                obtain ⟨c18, hc18, h⟩ := obind h
                refine awl_big (big_ixS hT hc18 (by kernel_rfl) (by kernel_rfl)) (by kernel_rfl) ?_
                obtain ⟨x19, hx19, h⟩ := letE h
                refine awl_u hT m_umbraref30_Check [69] 2 (by kernel_rfl) ?_
                refine awl_nms [(75, (eB x19))] (by subst hx19; kernel_rfl) ?_
                refine awl_nil (tn_n ?_)
                cases h
                exact jr (by kernel_rfl)
            · have h := g15
              refine aw_condH h (by kernel_rfl) (fun _ h => ?_) (fun _ h => ?_)
              · refine aw_sregU hT m_umbraref30_Check [] (by kernel_rfl) ?_
                cases h
                have h := g12
                refine aw_ret (inB_r (tn_r (tn_r (inB_r (tn_r (tn_r ?_))))))
                obtain rfl := sum_e h
                exact fin_r (by kernel_rfl)
              · refine aw_skip (inB_n (tn_n ?_))
                refine aw_regU hT m_umbraref30_Check [] (by kernel_rfl) (tn_n ?_)
                exact ⟨k, Nat.lt_succ_self k, _, h, jr (by kernel_rfl)⟩
          · refine aw_exit (tn_x (tn_x (inB_e (tn_n ?_))))
            cases h
            exact ⟨_, rfl, jr (by kernel_rfl)⟩
      · refine (tn_n ?_)
        refine aw_seq ?_
        refine aw_sregU hT m_umbraref30_Check [] (by kernel_rfl) ?_
        obtain ⟨op20, h, g20⟩ := obind h
        refine aw_joinSK (fun p20 => ⟨[], []⟩) g20 ?_ (fun p20 h => ?_)
        · refine aw_block (aw_loop (fun k s => ∃ s21, p_umbraref30_Check_L2 N a0 k s21 = some op20 ∧ JR (Fr.f 97 0) ⟨[en 1 (.im (S_api_Plane.enc a0)), en 4 (j64 s21)], []⟩ s) (fun k s hI => ?_) N _ ⟨_, h, jr (by kernel_rfl)⟩)
          obtain ⟨s21, h, hj⟩ := hI
          cases k with
          | zero => cases h
          | succ k =>
            refine aw_to _ hj ?_
            refine aw_seq ?_
            obtain ⟨x22, hx22, h⟩ := letE h
            refine aw_sregU hT m_umbraref30_Check [] (by kernel_rfl) ?_
            refine aw_nms [(80, (eB (decide (s21 < x22))))] (by subst hx22; kernel_rfl) ?_
            refine aw_condH h (by kernel_rfl) (fun _ h => ?_) (fun _ h => ?_)
            · refine aw_skip (tn_n ?_)
              refine aw_seq ?_
              refine aw_block ?_
              obtain ⟨p23, h, g23⟩ := obind h
              refine aw_joinT ⟨[en 1 (.im (S_api_Plane.enc a0)), en 4 (j64 s21), en 96 (eB p23)], []⟩ ?_ ?_
              · refine aw_region ?_
                refine awl_u hT m_umbraref30_Check [] 3 (by kernel_rfl) ?_
                obtain ⟨e24, he24, h⟩ := obind h
                refine awl_big (big_idx hT j64 he24 (by kernel_rfl) (by kernel_rfl)) (by kernel_rfl) ?_
                refine awl_u hT m_umbraref30_Check [] 3 (by kernel_rfl) ?_
                refine awl_split 89 h (by kernel_rfl) (fun h => ?_) (fun h => ?_)
                · refine awl_u hT m_umbraref30_Check [89] 7 (by kernel_rfl) ?_
                  refine awl_nil (tn_n ?_)
                  cases h
                  exact jr (by kernel_rfl)
                · refine awl_u hT m_umbraref30_Check [89] 3 (by kernel_rfl) ?_
                  obtain ⟨e25, he25, h⟩ := obind h
                  refine awl_big (big_idx hT j64 he25 (by kernel_rfl) (by kernel_rfl)) (by kernel_rfl) ?_
                  refine awl_u hT m_umbraref30_Check [89] 3 (by kernel_rfl) ?_
                  refine awl_nil (tn_n ?_)
                  cases h
                  exact jr (by kernel_rfl)
              · have h := g23
                refine aw_condH h (by kernel_rfl) (fun _ h => ?_) (fun _ h => ?_)
                · refine aw_sregU hT m_umbraref30_Check [] (by kernel_rfl) ?_
                  cases h
                  have h := g20
                  refine aw_ret (inB_r (tn_r (tn_r (inB_r (tn_r (tn_r ?_))))))
                  obtain rfl := sum_e h
                  exact fin_r (by kernel_rfl)
                · refine aw_skip (inB_n (tn_n ?_))
                  refine aw_regU hT m_umbraref30_Check [] (by kernel_rfl) (tn_n ?_)
                  exact ⟨k, Nat.lt_succ_self k, _, h, jr (by kernel_rfl)⟩
            · refine aw_exit (tn_x (tn_x (inB_e (tn_n ?_))))
              cases h
              exact ⟨_, rfl, jr (by kernel_rfl)⟩
        · refine (tn_n ?_)
          refine aw_sregU hT m_umbraref30_Check [] (by kernel_rfl) ?_
          refine aw_ret ?_
          cases h
          exact fin_r (by kernel_rfl)

theorem umbraref30_Check_ok_c : callable Try.prog 76 := ⟨_, Try.func76, by decide, rfl⟩

/-! umbra/umbraref42.At -/
def m_umbraref42_At : Nat → Bool := imL [4]

def p_umbraref42_At (N : Nat) (a0 : S_api_Plane) (a1 : Int) (a2 : Int) (a3 : Int) : Option (Int) :=
  Option.bind (cond (decide (a1 < 0)) (some 0) (some a1)) fun p1 =>
  Option.bind (cond (decide (a2 < 0)) (some 0) (some a2)) fun p2 =>
  Option.bind (cond (decide (p1 ≥ a0.gW)) (some (I64 (a0.gW - 1))) (some p1)) fun p3 =>
  Option.bind (cond (decide (p2 ≥ a0.gH)) (some (I64 (a0.gH - 1))) (some p2)) fun p4 =>
  letO (I64 ((I64 (p4 * a0.gW)) + p3)) fun x7 =>
  letO (I64 ((I64 (x7 * a0.gDeep)) + a3)) fun x8 =>
  Option.bind (idx a0.gData x8) fun e9 =>
  some e9

theorem umbraref42_At_ok {N : Nat} {a0 : S_api_Plane} {a1 : Int} {a2 : Int} {a3 : Int} {r : Int} (h : p_umbraref42_At N a0 a1 a2 a3 = some r) : FnM Try.prog 77 [] [(S_api_Plane.enc a0), (j64 a1), (j64 a2), (j64 a3)] (j64 r) [] := by
  unfold p_umbraref42_At at h
  refine fnM_of_aw (m := 42) (lo := 0) (rs := [.tmp 8]) hT Try.func77 rfl (by kernel_rfl) rfl ?_
  refine aw_sregU hT m_umbraref42_At [] (by kernel_rfl) ?_
  obtain ⟨p1, h, g1⟩ := obind h
  refine aw_joinT ⟨[en 1 (j64 p1), en 2 (j64 a2), en 3 (j64 a3), en 4 (.im (S_api_Plane.enc a0))], []⟩ ?_ ?_
  · refine aw_sregU hT m_umbraref42_At [] (by kernel_rfl) ?_
    refine aw_condH h (by kernel_rfl) (fun _ h => ?_) (fun _ h => ?_)
    · refine aw_regU hT m_umbraref42_At [] (by kernel_rfl) (tn_n ?_)
      cases h
      exact jr (by kernel_rfl)
    · refine aw_skip (tn_n ?_)
      cases h
      exact jr (by kernel_rfl)
  · have h := g1
    obtain ⟨p2, h, g2⟩ := obind h
    refine aw_joinT ⟨[en 1 (j64 p1), en 2 (j64 p2), en 3 (j64 a3), en 4 (.im (S_api_Plane.enc a0))], []⟩ ?_ ?_
    · refine aw_sregU hT m_umbraref42_At [] (by kernel_rfl) ?_
      refine aw_condH h (by kernel_rfl) (fun _ h => ?_) (fun _ h => ?_)
      · refine aw_regU hT m_umbraref42_At [] (by kernel_rfl) (tn_n ?_)
        cases h
        exact jr (by kernel_rfl)
      · refine aw_skip (tn_n ?_)
        cases h
        exact jr (by kernel_rfl)
    · have h := g2
      obtain ⟨p3, h, g3⟩ := obind h
      refine aw_joinT ⟨[en 1 (j64 p3), en 2 (j64 p2), en 3 (j64 a3), en 4 (.im (S_api_Plane.enc a0))], []⟩ ?_ ?_
      · refine aw_sregU hT m_umbraref42_At [] (by kernel_rfl) ?_
        refine aw_condH h (by kernel_rfl) (fun _ h => ?_) (fun _ h => ?_)
        · refine aw_regU hT m_umbraref42_At [] (by kernel_rfl) (tn_n ?_)
          cases h
          exact jr (by kernel_rfl)
        · refine aw_skip (tn_n ?_)
          cases h
          exact jr (by kernel_rfl)
      · have h := g3
        obtain ⟨p4, h, g4⟩ := obind h
        refine aw_joinT ⟨[en 1 (j64 p3), en 2 (j64 p4), en 3 (j64 a3), en 4 (.im (S_api_Plane.enc a0))], []⟩ ?_ ?_
        · refine aw_sregU hT m_umbraref42_At [] (by kernel_rfl) ?_
          refine aw_condH h (by kernel_rfl) (fun _ h => ?_) (fun _ h => ?_)
          · refine aw_regU hT m_umbraref42_At [] (by kernel_rfl) (tn_n ?_)
            cases h
            exact jr (by kernel_rfl)
          · refine aw_skip (tn_n ?_)
            cases h
            exact jr (by kernel_rfl)
        · have h := g4
          refine aw_sreg ?_
          obtain ⟨x7, hx7, h⟩ := letE h
          obtain ⟨x8, hx8, h⟩ := letE h
          refine awl_u hT m_umbraref42_At [] 13 (by kernel_rfl) ?_
          refine awl_nms [(39, (j64 x8))] (by subst hx8 hx7; kernel_rfl) ?_
          obtain ⟨e9, he9, h⟩ := obind h
          refine awl_big (big_idx hT j64 he9 (by kernel_rfl) (by kernel_rfl)) (by kernel_rfl) ?_
          refine awl_u hT m_umbraref42_At [] 2 (by kernel_rfl) ?_
          refine awl_nil ?_
          refine aw_ret ?_
          cases h
          exact fin_r (by kernel_rfl)

theorem umbraref42_At_ok_c : callable Try.prog 77 := ⟨_, Try.func77, by decide, rfl⟩

/-! umbra/umbraref42.Convolve -/
def m_umbraref42_Convolve : Nat → Bool := imL [2, 3]

def p_umbraref42_Convolve_L1 (N : Nat) (a1 : (Vector Int 9)) : Nat → Int → Int → Option (Sum (Int) (S_api_Plane × Int))
  | 0, _, _ => none
  | k + 1, s3, s4 =>
    cond (decide (s4 < 9)) (
      Option.bind (Option.bind (idx a1.toList s4) fun e6 =>
      cond (decide (e6 < 0)) (
        some true) (
        Option.bind (idx a1.toList s4) fun e7 =>
        some (decide (e7 > 4096)))) fun p5 =>
      cond p5 (
        some (Sum.inr ((S_api_Plane.mk 0 0 0 (ByteArray.mk #[]) [], 2)))) (
        Option.bind (idx a1.toList s4) fun e8 =>
        p_umbraref42_Convolve_L1 N a1 k (I64 (s3 + e8)) (I64 (s4 + 1)))) (
      some (Sum.inl s3))

def p_umbraref42_Convolve_L6 (N : Nat) (s14 : Int) (s11 : Int) (s21 : Int) (a0 : S_api_Plane) (s17 : Int) (a1 : (Vector Int 9)) : Nat → Int → Int → Option (Int)
  | 0, _, _ => none
  | k + 1, s23, s24 =>
    cond (decide (s24 < 3)) (
      letO (I64 ((I64 (s14 + s24)) - 1)) fun x25 =>
      letO (I64 ((I64 (s11 + s21)) - 1)) fun x26 =>
      Option.bind (p_umbraref42_At N a0 x25 x26 s17) fun r27 =>
      letO (I64 ((I64 (3 * s21)) + s24)) fun x28 =>
      Option.bind (idx a1.toList x28) fun e29 =>
      letO (I64 (s23 + (I64 (r27 * e29)))) fun x30 =>
      p_umbraref42_Convolve_L6 N s14 s11 s21 a0 s17 a1 k x30 (I64 (s24 + 1))) (
      some s23)

def p_umbraref42_Convolve_L5 (N : Nat) (s14 : Int) (s11 : Int) (a0 : S_api_Plane) (s17 : Int) (a1 : (Vector Int 9)) : Nat → Int → Int → Option (Int)
  | 0, _, _ => none
  | k + 1, s20, s21 =>
    cond (decide (s21 < 3)) (
      Option.bind (p_umbraref42_Convolve_L6 N s14 s11 s21 a0 s17 a1 N s20 0) fun p22 =>
      p_umbraref42_Convolve_L5 N s14 s11 a0 s17 a1 k p22 (I64 (s21 + 1))) (
      some s20)

def p_umbraref42_Convolve_L4 (N : Nat) (a0 : S_api_Plane) (s14 : Int) (s11 : Int) (a1 : (Vector Int 9)) (p2 : Int) : Nat → (List Int) → Int → Option ((List Int))
  | 0, _, _ => none
  | k + 1, s16, s17 =>
    letO (decide (s17 < a0.gDeep)) fun x18 =>
    cond x18 (
      Option.bind (p_umbraref42_Convolve_L5 N s14 s11 a0 s17 a1 N (I64 (Int.tdiv p2 2)) 0) fun p19 =>
      Option.bind (quoO .i64 p19 p2) fun x31 =>
      Option.bind (appO 8 s16 (([x31] : List Int))) fun a32 =>
      p_umbraref42_Convolve_L4 N a0 s14 s11 a1 p2 k a32 (I64 (s17 + 1))) (
      some s16)

def p_umbraref42_Convolve_L3 (N : Nat) (a0 : S_api_Plane) (s11 : Int) (a1 : (Vector Int 9)) (p2 : Int) : Nat → (List Int) → Int → Option ((List Int))
  | 0, _, _ => none
  | k + 1, s13, s14 =>
    cond (decide (s14 < a0.gW)) (
      Option.bind (p_umbraref42_Convolve_L4 N a0 s14 s11 a1 p2 N s13 0) fun p15 =>
      p_umbraref42_Convolve_L3 N a0 s11 a1 p2 k p15 (I64 (s14 + 1))) (
      some s13)

def p_umbraref42_Convolve_L2 (N : Nat) (a0 : S_api_Plane) (a1 : (Vector Int 9)) (p2 : Int) : Nat → (List Int) → Int → Option ((List Int))
  | 0, _, _ => none
  | k + 1, s10, s11 =>
    cond (decide (s11 < a0.gH)) (
      Option.bind (p_umbraref42_Convolve_L3 N a0 s11 a1 p2 N s10 0) fun p12 =>
      p_umbraref42_Convolve_L2 N a0 a1 p2 k p12 (I64 (s11 + 1))) (
      some s10)

def p_umbraref42_Convolve (N : Nat) (a0 : S_api_Plane) (a1 : (Vector Int 9)) : Option (S_api_Plane × Int) :=
  Option.bind (p_umbraref30_Check N a0) fun r1 =>
  cond (r1 != 0) (
    some ((S_api_Plane.mk 0 0 0 (ByteArray.mk #[]) [], r1))) (
    Option.bind (p_umbraref42_Convolve_L1 N a1 N 0 0) fun o => sumC o (fun p2 =>
      cond (p2 == 0) (
        some ((S_api_Plane.mk 0 0 0 (ByteArray.mk #[]) [], 2))) (
        Option.bind (p_umbraref42_Convolve_L2 N a0 a1 p2 N [] 0) fun p9 =>
        some ((S_api_Plane.mk a0.gW a0.gH a0.gDeep a0.gName p9, 0)))) (fun r => some r))

theorem umbraref42_Convolve_ok {N : Nat} {a0 : S_api_Plane} {a1 : (Vector Int 9)} {r : S_api_Plane × Int} (h : p_umbraref42_Convolve N a0 a1 = some r) : FnM Try.prog 24 [] [(S_api_Plane.enc a0), (eA 9 1 j64 a1)] (.tup [(S_api_Plane.enc r.1), (j64 r.2)]) [] := by
  unfold p_umbraref42_Convolve at h
  refine fnM_of_aw (m := 111) (lo := 0) (rs := [.cell 4 34, .tmp 5]) hT Try.func24 rfl (by kernel_rfl) rfl ?_
  refine aw_sregU hT m_umbraref42_Convolve [] (by kernel_rfl) ?_
  refine aw_seq ?_
  refine aw_sreg ?_
  refine awl_u hT m_umbraref42_Convolve [] 1 (by kernel_rfl) ?_
  obtain ⟨r1, hr1, h⟩ := obind h
  refine awl_big (big_call [] (umbraref30_Check_ok hr1) umbraref30_Check_ok_c (by kernel_rfl) (by kernel_rfl)) (by kernel_rfl) ?_
  refine awl_u hT m_umbraref42_Convolve [] 1 (by kernel_rfl) ?_
  refine awl_nil ?_
  refine aw_sregU hT m_umbraref42_Convolve [] (by kernel_rfl) ?_
  refine aw_condH h (by kernel_rfl) (fun _ h => ?_) (fun _ h => ?_)
  · refine aw_sregU hT m_umbraref42_Convolve [] (by kernel_rfl) ?_
    refine aw_ret (tn_r ?_)
    cases h
    exact fin_r (by kernel_rfl)
  · refine aw_skip (tn_n ?_)
    refine aw_sregU hT m_umbraref42_Convolve [] (by kernel_rfl) ?_
    refine aw_seq ?_
    refine aw_sregU hT m_umbraref42_Convolve [] (by kernel_rfl) ?_
    obtain ⟨op2, h, g2⟩ := obind h
    refine aw_joinSK (fun p2 => ⟨[en 2 (.im (S_api_Plane.enc a0)), en 3 (.im (eA 9 1 j64 a1)), en 4 (.ref 0 [] 0), en 7 (j64 p2)], [.var (.st 5 [(j64 0), (j64 0), (j64 0), (eS (ByteArray.mk #[])), (.v (.slice none 0 0))])]⟩) g2 ?_ (fun p2 h => ?_)
    · refine aw_block (aw_loop (fun k s => ∃ s3 s4, p_umbraref42_Convolve_L1 N a1 k s3 s4 = some op2 ∧ JR (Fr.f 111 0) ⟨[en 2 (.im (S_api_Plane.enc a0)), en 3 (.im (eA 9 1 j64 a1)), en 4 (.ref 0 [] 0), en 7 (j64 s3), en 8 (j64 s4)], [.var (.st 5 [(j64 0), (j64 0), (j64 0), (eS (ByteArray.mk #[])), (.v (.slice none 0 0))])]⟩ s) (fun k s hI => ?_) N _ ⟨_, _, h, jr (by kernel_rfl)⟩)
      obtain ⟨s3, s4, h, hj⟩ := hI
      cases k with
      | zero => cases h
      | succ k =>
        refine aw_to _ hj ?_
        refine aw_seq ?_
        refine aw_sregU hT m_umbraref42_Convolve [] (by kernel_rfl) ?_
        refine aw_condH h (by kernel_rfl) (fun _ h => ?_) (fun _ h => ?_)
        · refine aw_skip (tn_n ?_)
          refine aw_seq ?_
          refine aw_block ?_
          refine aw_seq ?_
          obtain ⟨p5, h, g5⟩ := obind h
          refine aw_joinT ⟨[en 2 (.im (S_api_Plane.enc a0)), en 3 (.im (eA 9 1 j64 a1)), en 4 (.ref 0 [] 0), en 7 (j64 s3), en 8 (j64 s4), en 35 (eB p5)], [.var (.st 5 [(j64 0), (j64 0), (j64 0), (eS (ByteArray.mk #[])), (.v (.slice none 0 0))])]⟩ ?_ ?_
          · refine aw_region ?_
            refine awl_u hT m_umbraref42_Convolve [] 1 (by kernel_rfl) ?_
            obtain ⟨e6, he6, h⟩ := obind h
            refine awl_big (big_adI hT (N := 9) (k := 1) j64 a1 he6 (by kernel_rfl) (by kernel_rfl)) (by kernel_rfl) ?_
            refine awl_u hT m_umbraref42_Convolve [] 3 (by kernel_rfl) ?_
            refine awl_split 30 h (by kernel_rfl) (fun h => ?_) (fun h => ?_)
            · refine awl_u hT m_umbraref42_Convolve [30] 5 (by kernel_rfl) ?_
              refine awl_nil (tn_n ?_)
              cases h
              exact jr (by kernel_rfl)
            · refine awl_u hT m_umbraref42_Convolve [30] 1 (by kernel_rfl) ?_
              obtain ⟨e7, he7, h⟩ := obind h
              refine awl_big (big_adI hT (N := 9) (k := 1) j64 a1 he7 (by kernel_rfl) (by kernel_rfl)) (by kernel_rfl) ?_
              refine awl_u hT m_umbraref42_Convolve [30] 3 (by kernel_rfl) ?_
              refine awl_nil (tn_n ?_)
              cases h
              exact jr (by kernel_rfl)
          · have h := g5
            refine aw_condH h (by kernel_rfl) (fun _ h => ?_) (fun _ h => ?_)
            · refine aw_sregU hT m_umbraref42_Convolve [] (by kernel_rfl) ?_
              cases h
              have h := g2
              refine aw_ret (tn_r (inB_r (tn_r (tn_r (inB_r (tn_r (tn_r ?_)))))))
              obtain rfl := sum_e h
              exact fin_r (by kernel_rfl)
            · refine aw_skip (tn_n ?_)
              refine aw_region ?_
              refine awl_u hT m_umbraref42_Convolve [] 2 (by kernel_rfl) ?_
              obtain ⟨e8, he8, h⟩ := obind h
              refine awl_big (big_adI hT (N := 9) (k := 1) j64 a1 he8 (by kernel_rfl) (by kernel_rfl)) (by kernel_rfl) ?_
              refine awl_u hT m_umbraref42_Convolve [] 3 (by kernel_rfl) ?_
              refine awl_nil (inB_n (tn_n ?_))
              refine aw_regU hT m_umbraref42_Convolve [] (by kernel_rfl) (tn_n ?_)
              exact ⟨k, Nat.lt_succ_self k, _, _, h, jr (by kernel_rfl)⟩
        · refine aw_exit (tn_x (tn_x (inB_e (tn_n ?_))))
          cases h
          exact ⟨_, rfl, jr (by kernel_rfl)⟩
    · refine (tn_n ?_)
      refine aw_seq ?_
      refine aw_sregU hT m_umbraref42_Convolve [] (by kernel_rfl) ?_
      refine aw_condH h (by kernel_rfl) (fun _ h => ?_) (fun _ h => ?_)
      · refine aw_sregU hT m_umbraref42_Convolve [] (by kernel_rfl) ?_
        refine aw_ret (tn_r ?_)
        cases h
        exact fin_r (by kernel_rfl)
      · refine aw_skip (tn_n ?_)
        refine aw_sregU hT m_umbraref42_Convolve [] (by kernel_rfl) ?_
        refine aw_seq ?_
        refine aw_sregU hT m_umbraref42_Convolve [] (by kernel_rfl) ?_
        refine aw_own_box 1 1 [4] ?_
        obtain ⟨p9, h, g9⟩ := obind h
        refine aw_joinTK ⟨[en 4 (.ref 0 [] 0), en 9 (.ref 1 [] 0)], [.var (.st 5 [(j64 0), (j64 0), (j64 0), (eS (ByteArray.mk #[])), (.v (.slice none 0 0))]), .var (.st 5 [(j64 a0.gW), (j64 a0.gH), (j64 a0.gDeep), (eS a0.gName), (eO 2 1 j64 p9)]), .tail (p9.length * 1)]⟩ ?_ ?_
        · refine aw_block (aw_loop (fun k s => ∃ s10 s11, p_umbraref42_Convolve_L2 N a0 a1 p2 k s10 s11 = some p9 ∧ JR (Fr.f 111 0) ⟨[en 2 (.im (S_api_Plane.enc a0)), en 3 (.im (eA 9 1 j64 a1)), en 4 (.ref 0 [] 0), en 7 (j64 p2), en 9 (.ref 1 [] 0), en 10 (j64 s11)], [.var (.st 5 [(j64 0), (j64 0), (j64 0), (eS (ByteArray.mk #[])), (.v (.slice none 0 0))]), .var (.st 5 [(j64 a0.gW), (j64 a0.gH), (j64 a0.gDeep), (eS a0.gName), (eO 2 1 j64 s10)]), .tail (s10.length * 1)]⟩ s) (fun k s hI => ?_) N _ ⟨_, _, h, jr (by kernel_rfl)⟩)
          obtain ⟨s10, s11, h, hj⟩ := hI
          cases k with
          | zero => cases h
          | succ k =>
            refine aw_to _ hj ?_
            refine aw_seq ?_
            refine aw_sregU hT m_umbraref42_Convolve [] (by kernel_rfl) ?_
            refine aw_condH h (by kernel_rfl) (fun _ h => ?_) (fun _ h => ?_)
            · refine aw_skip (tn_n ?_)
              refine aw_seq ?_
              refine aw_block ?_
              refine aw_sregU hT m_umbraref42_Convolve [] (by kernel_rfl) ?_
              obtain ⟨p12, h, g12⟩ := obind h
              refine aw_joinTK ⟨[en 2 (.im (S_api_Plane.enc a0)), en 3 (.im (eA 9 1 j64 a1)), en 4 (.ref 0 [] 0), en 7 (j64 p2), en 9 (.ref 1 [] 0), en 10 (j64 s11)], [.var (.st 5 [(j64 0), (j64 0), (j64 0), (eS (ByteArray.mk #[])), (.v (.slice none 0 0))]), .var (.st 5 [(j64 a0.gW), (j64 a0.gH), (j64 a0.gDeep), (eS a0.gName), (eO 2 1 j64 p12)]), .tail (p12.length * 1)]⟩ ?_ ?_
              · refine aw_block (aw_loop (fun k s => ∃ s13 s14, p_umbraref42_Convolve_L3 N a0 s11 a1 p2 k s13 s14 = some p12 ∧ JR (Fr.f 111 0) ⟨[en 2 (.im (S_api_Plane.enc a0)), en 3 (.im (eA 9 1 j64 a1)), en 4 (.ref 0 [] 0), en 7 (j64 p2), en 9 (.ref 1 [] 0), en 10 (j64 s11), en 11 (j64 s14)], [.var (.st 5 [(j64 0), (j64 0), (j64 0), (eS (ByteArray.mk #[])), (.v (.slice none 0 0))]), .var (.st 5 [(j64 a0.gW), (j64 a0.gH), (j64 a0.gDeep), (eS a0.gName), (eO 2 1 j64 s13)]), .tail (s13.length * 1)]⟩ s) (fun k s hI => ?_) N _ ⟨_, _, h, jr (by kernel_rfl)⟩)
                obtain ⟨s13, s14, h, hj⟩ := hI
                cases k with
                | zero => cases h
                | succ k =>
                  refine aw_to _ hj ?_
                  refine aw_seq ?_
                  refine aw_sregU hT m_umbraref42_Convolve [] (by kernel_rfl) ?_
                  refine aw_condH h (by kernel_rfl) (fun _ h => ?_) (fun _ h => ?_)
                  · refine aw_skip (tn_n ?_)
                    refine aw_seq ?_
                    refine aw_block ?_
                    refine aw_sregU hT m_umbraref42_Convolve [] (by kernel_rfl) ?_
                    obtain ⟨p15, h, g15⟩ := obind h
                    refine aw_joinTK ⟨[en 2 (.im (S_api_Plane.enc a0)), en 3 (.im (eA 9 1 j64 a1)), en 4 (.ref 0 [] 0), en 7 (j64 p2), en 9 (.ref 1 [] 0), en 10 (j64 s11), en 11 (j64 s14)], [.var (.st 5 [(j64 0), (j64 0), (j64 0), (eS (ByteArray.mk #[])), (.v (.slice none 0 0))]), .var (.st 5 [(j64 a0.gW), (j64 a0.gH), (j64 a0.gDeep), (eS a0.gName), (eO 2 1 j64 p15)]), .tail (p15.length * 1)]⟩ ?_ ?_
                    · refine aw_block (aw_loop (fun k s => ∃ s16 s17, p_umbraref42_Convolve_L4 N a0 s14 s11 a1 p2 k s16 s17 = some p15 ∧ JR (Fr.f 111 0) ⟨[en 2 (.im (S_api_Plane.enc a0)), en 3 (.im (eA 9 1 j64 a1)), en 4 (.ref 0 [] 0), en 7 (j64 p2), en 9 (.ref 1 [] 0), en 10 (j64 s11), en 11 (j64 s14), en 12 (j64 s17)], [.var (.st 5 [(j64 0), (j64 0), (j64 0), (eS (ByteArray.mk #[])), (.v (.slice none 0 0))]), .var (.st 5 [(j64 a0.gW), (j64 a0.gH), (j64 a0.gDeep), (eS a0.gName), (eO 2 1 j64 s16)]), .tail (s16.length * 1)]⟩ s) (fun k s hI => ?_) N _ ⟨_, _, h, jr (by kernel_rfl)⟩)
                      obtain ⟨s16, s17, h, hj⟩ := hI
                      cases k with
                      | zero => cases h
                      | succ k =>
                        refine aw_to _ hj ?_
                        refine aw_seq ?_
                        obtain ⟨x18, hx18, h⟩ := letE h
                        refine aw_sregU hT m_umbraref42_Convolve [] (by kernel_rfl) ?_
                        refine aw_nms [(69, (eB x18))] (by subst hx18; kernel_rfl) ?_
                        refine aw_condH h (by kernel_rfl) (fun _ h => ?_) (fun _ h => ?_)
                        · refine aw_skip (tn_n ?_)
                          refine aw_seq ?_
                          refine aw_block ?_
                          refine aw_sregU hT m_umbraref42_Convolve [] (by kernel_rfl) ?_
                          refine aw_seq ?_
                          refine aw_sregU hT m_umbraref42_Convolve [] (by kernel_rfl) ?_
                          obtain ⟨p19, h, g19⟩ := obind h
                          refine aw_joinTK ⟨[en 2 (.im (S_api_Plane.enc a0)), en 3 (.im (eA 9 1 j64 a1)), en 4 (.ref 0 [] 0), en 7 (j64 p2), en 9 (.ref 1 [] 0), en 10 (j64 s11), en 11 (j64 s14), en 12 (j64 s17), en 13 (j64 p19)], [.var (.st 5 [(j64 0), (j64 0), (j64 0), (eS (ByteArray.mk #[])), (.v (.slice none 0 0))]), .var (.st 5 [(j64 a0.gW), (j64 a0.gH), (j64 a0.gDeep), (eS a0.gName), (eO 2 1 j64 s16)]), .tail (s16.length * 1)]⟩ ?_ ?_
                          · refine aw_block (aw_loop (fun k s => ∃ s20 s21, p_umbraref42_Convolve_L5 N s14 s11 a0 s17 a1 k s20 s21 = some p19 ∧ JR (Fr.f 111 0) ⟨[en 2 (.im (S_api_Plane.enc a0)), en 3 (.im (eA 9 1 j64 a1)), en 4 (.ref 0 [] 0), en 7 (j64 p2), en 9 (.ref 1 [] 0), en 10 (j64 s11), en 11 (j64 s14), en 12 (j64 s17), en 13 (j64 s20), en 14 (j64 s21)], [.var (.st 5 [(j64 0), (j64 0), (j64 0), (eS (ByteArray.mk #[])), (.v (.slice none 0 0))]), .var (.st 5 [(j64 a0.gW), (j64 a0.gH), (j64 a0.gDeep), (eS a0.gName), (eO 2 1 j64 s16)]), .tail (s16.length * 1)]⟩ s) (fun k s hI => ?_) N _ ⟨_, _, h, jr (by kernel_rfl)⟩)
                            obtain ⟨s20, s21, h, hj⟩ := hI
                            cases k with
                            | zero => cases h
                            | succ k =>
                              refine aw_to _ hj ?_
                              refine aw_seq ?_
                              refine aw_sregU hT m_umbraref42_Convolve [] (by kernel_rfl) ?_
                              refine aw_condH h (by kernel_rfl) (fun _ h => ?_) (fun _ h => ?_)
                              · refine aw_skip (tn_n ?_)
                                refine aw_seq ?_
                                refine aw_block ?_
                                refine aw_sregU hT m_umbraref42_Convolve [] (by kernel_rfl) ?_
                                obtain ⟨p22, h, g22⟩ := obind h
                                refine aw_joinTK ⟨[en 2 (.im (S_api_Plane.enc a0)), en 3 (.im (eA 9 1 j64 a1)), en 4 (.ref 0 [] 0), en 7 (j64 p2), en 9 (.ref 1 [] 0), en 10 (j64 s11), en 11 (j64 s14), en 12 (j64 s17), en 13 (j64 p22), en 14 (j64 s21)], [.var (.st 5 [(j64 0), (j64 0), (j64 0), (eS (ByteArray.mk #[])), (.v (.slice none 0 0))]), .var (.st 5 [(j64 a0.gW), (j64 a0.gH), (j64 a0.gDeep), (eS a0.gName), (eO 2 1 j64 s16)]), .tail (s16.length * 1)]⟩ ?_ ?_
                                · refine aw_block (aw_loop (fun k s => ∃ s23 s24, p_umbraref42_Convolve_L6 N s14 s11 s21 a0 s17 a1 k s23 s24 = some p22 ∧ JR (Fr.f 111 0) ⟨[en 2 (.im (S_api_Plane.enc a0)), en 3 (.im (eA 9 1 j64 a1)), en 4 (.ref 0 [] 0), en 7 (j64 p2), en 9 (.ref 1 [] 0), en 10 (j64 s11), en 11 (j64 s14), en 12 (j64 s17), en 13 (j64 s23), en 14 (j64 s21), en 15 (j64 s24)], [.var (.st 5 [(j64 0), (j64 0), (j64 0), (eS (ByteArray.mk #[])), (.v (.slice none 0 0))]), .var (.st 5 [(j64 a0.gW), (j64 a0.gH), (j64 a0.gDeep), (eS a0.gName), (eO 2 1 j64 s16)]), .tail (s16.length * 1)]⟩ s) (fun k s hI => ?_) N _ ⟨_, _, h, jr (by kernel_rfl)⟩)
                                  obtain ⟨s23, s24, h, hj⟩ := hI
                                  cases k with
                                  | zero => cases h
                                  | succ k =>
                                    refine aw_to _ hj ?_
                                    refine aw_seq ?_
                                    refine aw_sregU hT m_umbraref42_Convolve [] (by kernel_rfl) ?_
                                    refine aw_condH h (by kernel_rfl) (fun _ h => ?_) (fun _ h => ?_)
                                    · refine aw_skip (tn_n ?_)
                                      refine aw_seq ?_
                                      refine aw_block ?_
                                      obtain ⟨x25, hx25, h⟩ := letE h
                                      obtain ⟨x26, hx26, h⟩ := letE h
                                      obtain ⟨r27, hr27, h⟩ := obind h
                                      obtain ⟨x28, hx28, h⟩ := letE h
                                      obtain ⟨e29, he29, h⟩ := obind h
                                      obtain ⟨x30, hx30, h⟩ := letE h
                                      refine aw_drawN hT hmo m_umbraref42_Convolve [(11, (j64 r27)), (16, (.im (j64 e29)))] [] (by subst hx30 hx28 hx26 hx25; kernel_rfl) (by subst hx30 hx28 hx26 hx25; kernel_rfl) (by kernel_rfl) ⟨fun _ => big_call0 (umbraref42_At_ok hr27) umbraref42_At_ok_c (by subst hx26 hx25; kernel_rfl) (by subst hx26 hx25; kernel_rfl) (by subst hx26 hx25; kernel_rfl), fun _ => big_adI hT (N := 9) (k := 1) j64 a1 he29 (by subst hx28 hx26 hx25; kernel_rfl) (by subst hx28 hx26 hx25; kernel_rfl), trivial⟩ trivial [(13, (j64 x30))] (by subst hx30 hx28 hx26 hx25; kernel_rfl) (inB_n (tn_n ?_))
                                      refine aw_regU hT m_umbraref42_Convolve [] (by kernel_rfl) (tn_n ?_)
                                      exact ⟨k, Nat.lt_succ_self k, _, _, h, jr (by kernel_rfl)⟩
                                    · refine aw_exit (tn_x (tn_x (inB_e (tn_n ?_))))
                                      cases h
                                      exact jr (by kernel_rfl)
                                · have h := g22
                                  refine (inB_n (tn_n ?_))
                                  refine aw_regU hT m_umbraref42_Convolve [] (by kernel_rfl) (tn_n ?_)
                                  exact ⟨k, Nat.lt_succ_self k, _, _, h, jr (by kernel_rfl)⟩
                              · refine aw_exit (tn_x (tn_x (inB_e (tn_n ?_))))
                                cases h
                                exact jr (by kernel_rfl)
                          · have h := g19
                            refine (tn_n ?_)
                            obtain ⟨x31, hx31, h⟩ := obind h
                            obtain ⟨a32, ha32, h⟩ := obind h
                            refine aw_drawM hT hmo m_umbraref42_Convolve [(4, (j64 x31)), (5, (.sl 1 1 [(j64 x31)]))] [(6, fun _ => ((eO 2 1 j64 a32), [.var (.st 5 [(j64 0), (j64 0), (j64 0), (eS (ByteArray.mk #[])), (.v (.slice none 0 0))]), .var (.st 5 [(j64 a0.gW), (j64 a0.gH), (j64 a0.gDeep), (eS a0.gName), (eO 2 1 j64 s16)]), .tail (a32.length * 1)]))] (by kernel_rfl) (by kernel_rfl) (by kernel_rfl) ⟨fun _ => big_quo hT hx31 (by kernel_rfl) (by kernel_rfl), fun _ => big_row hT (x := (.sl 1 1 [(j64 x31)])) (by kernel_rfl) (by kernel_rfl), trivial⟩ ⟨big_at (big_app hT j64 (id := 2) (k := 1) ha32 (by kernel_rfl) (by kernel_rfl)) (by kernel_rfl), trivial⟩ (inB_n (tn_n ?_))
                            refine aw_regU hT m_umbraref42_Convolve [] (by kernel_rfl) (tn_n ?_)
                            exact ⟨k, Nat.lt_succ_self k, _, _, h, jr (by kernel_rfl)⟩
                        · refine aw_exit (tn_x (tn_x (inB_e (tn_n ?_))))
                          cases h
                          exact jr (by kernel_rfl)
                    · have h := g15
                      refine (inB_n (tn_n ?_))
                      refine aw_regU hT m_umbraref42_Convolve [] (by kernel_rfl) (tn_n ?_)
                      exact ⟨k, Nat.lt_succ_self k, _, _, h, jr (by kernel_rfl)⟩
                  · refine aw_exit (tn_x (tn_x (inB_e (tn_n ?_))))
                    cases h
                    exact jr (by kernel_rfl)
              · have h := g12
                refine (inB_n (tn_n ?_))
                refine aw_regU hT m_umbraref42_Convolve [] (by kernel_rfl) (tn_n ?_)
                exact ⟨k, Nat.lt_succ_self k, _, _, h, jr (by kernel_rfl)⟩
            · refine aw_exit (tn_x (tn_x (inB_e (tn_n ?_))))
              cases h
              exact jr (by kernel_rfl)
        · have h := g9
          refine (tn_n ?_)
          refine aw_sregU hT m_umbraref42_Convolve [] (by kernel_rfl) ?_
          refine aw_ret ?_
          cases h
          exact fin_r (by kernel_rfl)

theorem umbraref42_Convolve_ok_c : callable Try.prog 24 := ⟨_, Try.func24, by decide, rfl⟩

end Go.UK
