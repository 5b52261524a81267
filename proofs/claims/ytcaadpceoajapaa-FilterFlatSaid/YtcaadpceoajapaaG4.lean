/- A part of the proof: what the functions of the program compute. -/
import Derived.Test.YtcaadpceoajapaaG3
namespace Go.UK
open Go Go.Proofs
set_option maxRecDepth 20000
set_option maxHeartbeats 4000000
set_option linter.all false

attribute [local irreducible] owp awl aw FnM NatFn opS Stab TOK Big

/-! umbra/filter.Tent -/
def m_filter_Tent : Nat → Bool := imL [1]

def p_filter_Tent (N : Nat) (a0 : S_api_Plane) : Option (S_api_Plane × Int) :=
  Option.bind (p_filter_Convolve N a0 (#v[1, 2, 1, 2, 4, 2, 1, 2, 1])) fun r1 =>
  some ((r1.1, r1.2))

theorem filter_Tent_ok {N : Nat} {a0 : S_api_Plane} {r : S_api_Plane × Int} (h : p_filter_Tent N a0 = some r) : FnM Try.prog 25 [] [(S_api_Plane.enc a0)] (.tup [(S_api_Plane.enc r.1), (j64 r.2)]) [] := by
  unfold p_filter_Tent at h
  refine fnM_of_aw (m := 9) (lo := 0) (rs := [.cell 2 34, .tmp 3]) hT Try.func25 rfl (by kernel_rfl) rfl ?_
  refine aw_sregU hT m_filter_Tent [] (by kernel_rfl) ?_
  refine aw_sreg ?_
  refine awl_u hT m_filter_Tent [] 2 (by kernel_rfl) ?_
  obtain ⟨r1, hr1, h⟩ := obind h
  refine awl_big (big_call [] (filter_Convolve_ok hr1) filter_Convolve_ok_c (by kernel_rfl) (by kernel_rfl)) (by kernel_rfl) ?_
  refine awl_u hT m_filter_Tent [] 4 (by kernel_rfl) ?_
  refine awl_nil ?_
  refine aw_ret ?_
  cases h
  exact fin_r (by kernel_rfl)

theorem filter_Tent_ok_c : callable Try.prog 25 := ⟨_, Try.func25, by decide, rfl⟩

/-! umbra/filter.Box -/
def m_filter_Box : Nat → Bool := imL [1]

def p_filter_Box (N : Nat) (a0 : S_api_Plane) : Option (S_api_Plane × Int) :=
  Option.bind (p_filter_Convolve N a0 (#v[1, 1, 1, 1, 1, 1, 1, 1, 1])) fun r1 =>
  some ((r1.1, r1.2))

theorem filter_Box_ok {N : Nat} {a0 : S_api_Plane} {r : S_api_Plane × Int} (h : p_filter_Box N a0 = some r) : FnM Try.prog 26 [] [(S_api_Plane.enc a0)] (.tup [(S_api_Plane.enc r.1), (j64 r.2)]) [] := by
  unfold p_filter_Box at h
  refine fnM_of_aw (m := 9) (lo := 0) (rs := [.cell 2 34, .tmp 3]) hT Try.func26 rfl (by kernel_rfl) rfl ?_
  refine aw_sregU hT m_filter_Box [] (by kernel_rfl) ?_
  refine aw_sreg ?_
  refine awl_u hT m_filter_Box [] 2 (by kernel_rfl) ?_
  obtain ⟨r1, hr1, h⟩ := obind h
  refine awl_big (big_call [] (filter_Convolve_ok hr1) filter_Convolve_ok_c (by kernel_rfl) (by kernel_rfl)) (by kernel_rfl) ?_
  refine awl_u hT m_filter_Box [] 4 (by kernel_rfl) ?_
  refine awl_nil ?_
  refine aw_ret ?_
  cases h
  exact fin_r (by kernel_rfl)

theorem filter_Box_ok_c : callable Try.prog 26 := ⟨_, Try.func26, by decide, rfl⟩

/-! umbra/umbralaw42.FilterWeighs -/
def m_umbralaw42_FilterWeighs : Nat → Bool := imL [3]

def p_umbralaw42_FilterWeighs (N : Nat) (a0 : S_api_Plane) (a1 : (Vector Int 9)) : Option (Bool) :=
  Option.bind (p_umbralaw42_few N a0) fun r1 =>
  Option.bind (p_filter_Convolve N r1 a1) fun r2 =>
  Option.bind (p_umbraref42_Convolve N r1 a1) fun r3 =>
  Option.bind (p_filter_Tent N r1) fun r4 =>
  Option.bind (p_umbraref42_Convolve N r1 (#v[1, 2, 1, 2, 4, 2, 1, 2, 1])) fun r5 =>
  Option.bind (p_filter_Box N r1) fun r6 =>
  Option.bind (p_umbraref42_Convolve N r1 (#v[1, 1, 1, 1, 1, 1, 1, 1, 1])) fun r7 =>
  Option.bind (Option.bind (p_umbraref30_Same N r2.1 r3.1) fun r9 =>
  letO (cond r9 (r2.2 == r3.2) false) fun x10 =>
  cond x10 (
    Option.bind (p_umbraref30_Same N r4.1 r5.1) fun r11 =>
    letO (cond r11 (r4.2 == r5.2) false) fun x12 =>
    cond x12 (
      Option.bind (p_umbraref30_Same N r6.1 r7.1) fun r13 =>
      letO (cond r13 (r6.2 == r7.2) false) fun x14 =>
      cond x14 (
        Option.bind (p_umbralaw42_works N ) fun r15 =>
        some r15) (
        some false)) (
      some false)) (
    some false)) fun p8 =>
  some p8

theorem umbralaw42_FilterWeighs_ok {N : Nat} {a0 : S_api_Plane} {a1 : (Vector Int 9)} {r : Bool} (h : p_umbralaw42_FilterWeighs N a0 a1 = some r) : FnM Try.prog 5 [] [(S_api_Plane.enc a0), (eA 9 1 j64 a1)] (eB r) [] := by
  unfold p_umbralaw42_FilterWeighs at h
  refine fnM_of_aw (m := 84) (lo := 0) (rs := [.tmp 4]) hT Try.func5 rfl (by kernel_rfl) rfl ?_
  refine aw_sregU hT m_umbralaw42_FilterWeighs [] (by kernel_rfl) ?_
  refine aw_sreg ?_
  refine awl_u hT m_umbralaw42_FilterWeighs [] 1 (by kernel_rfl) ?_
  obtain ⟨r1, hr1, h⟩ := obind h
  refine awl_big (big_call [] (umbralaw42_few_ok hr1) umbralaw42_few_ok_c (by kernel_rfl) (by kernel_rfl)) (by kernel_rfl) ?_
  refine awl_u hT m_umbralaw42_FilterWeighs [] 1 (by kernel_rfl) ?_
  refine awl_nil ?_
  refine aw_sreg ?_
  refine awl_u hT m_umbralaw42_FilterWeighs [] 2 (by kernel_rfl) ?_
  obtain ⟨r2, hr2, h⟩ := obind h
  refine awl_big (big_call [] (filter_Convolve_ok hr2) filter_Convolve_ok_c (by kernel_rfl) (by kernel_rfl)) (by kernel_rfl) ?_
  refine awl_u hT m_umbralaw42_FilterWeighs [] 6 (by kernel_rfl) ?_
  refine awl_nil ?_
  refine aw_sreg ?_
  refine awl_u hT m_umbralaw42_FilterWeighs [] 2 (by kernel_rfl) ?_
  obtain ⟨r3, hr3, h⟩ := obind h
  refine awl_big (big_call [] (umbraref42_Convolve_ok hr3) umbraref42_Convolve_ok_c (by kernel_rfl) (by kernel_rfl)) (by kernel_rfl) ?_
  refine awl_u hT m_umbralaw42_FilterWeighs [] 6 (by kernel_rfl) ?_
  refine awl_nil ?_
  refine aw_sreg ?_
  refine awl_u hT m_umbralaw42_FilterWeighs [] 1 (by kernel_rfl) ?_
  obtain ⟨r4, hr4, h⟩ := obind h
  refine awl_big (big_call [] (filter_Tent_ok hr4) filter_Tent_ok_c (by kernel_rfl) (by kernel_rfl)) (by kernel_rfl) ?_
  refine awl_u hT m_umbralaw42_FilterWeighs [] 6 (by kernel_rfl) ?_
  refine awl_nil ?_
  refine aw_sreg ?_
  refine awl_u hT m_umbralaw42_FilterWeighs [] 2 (by kernel_rfl) ?_
  obtain ⟨r5, hr5, h⟩ := obind h
  refine awl_big (big_call [] (umbraref42_Convolve_ok hr5) umbraref42_Convolve_ok_c (by kernel_rfl) (by kernel_rfl)) (by kernel_rfl) ?_
  refine awl_u hT m_umbralaw42_FilterWeighs [] 6 (by kernel_rfl) ?_
  refine awl_nil ?_
  refine aw_sreg ?_
  refine awl_u hT m_umbralaw42_FilterWeighs [] 1 (by kernel_rfl) ?_
  obtain ⟨r6, hr6, h⟩ := obind h
  refine awl_big (big_call [] (filter_Box_ok hr6) filter_Box_ok_c (by kernel_rfl) (by kernel_rfl)) (by kernel_rfl) ?_
  refine awl_u hT m_umbralaw42_FilterWeighs [] 6 (by kernel_rfl) ?_
  refine awl_nil ?_
  refine aw_sreg ?_
  refine awl_u hT m_umbralaw42_FilterWeighs [] 2 (by kernel_rfl) ?_
  obtain ⟨r7, hr7, h⟩ := obind h
  refine awl_big (big_call [] (umbraref42_Convolve_ok hr7) umbraref42_Convolve_ok_c (by kernel_rfl) (by kernel_rfl)) (by kernel_rfl) ?_
  refine awl_u hT m_umbralaw42_FilterWeighs [] 6 (by kernel_rfl) ?_
  refine awl_nil ?_
  obtain ⟨p8, h, g8⟩ := obind h
  refine aw_joinT ⟨[en 4 (eB p8)], [.var (S_api_Plane.enc r1), .var (S_api_Plane.enc r2.1), .var (S_api_Plane.enc r3.1), .var (S_api_Plane.enc r4.1), .var (S_api_Plane.enc r5.1), .var (S_api_Plane.enc r6.1), .var (S_api_Plane.enc r7.1)]⟩ ?_ ?_
  · refine aw_region ?_
    refine awl_u hT m_umbralaw42_FilterWeighs [] 2 (by kernel_rfl) ?_
    obtain ⟨r9, hr9, h⟩ := obind h
    refine awl_big (big_call [] (umbraref30_Same_ok hr9) umbraref30_Same_ok_c (by kernel_rfl) (by kernel_rfl)) (by kernel_rfl) ?_
    obtain ⟨x10, hx10, h⟩ := letE h
    refine awl_u hT m_umbralaw42_FilterWeighs [] 6 (by kernel_rfl) ?_
    refine awl_nms [(61, (eB x10))] (by subst hx10; kernel_rfl) ?_
    refine awl_split 61 h (by kernel_rfl) (fun h => ?_) (fun h => ?_)
    · refine awl_u hT m_umbralaw42_FilterWeighs [61] 2 (by kernel_rfl) ?_
      obtain ⟨r11, hr11, h⟩ := obind h
      refine awl_big (big_call [] (umbraref30_Same_ok hr11) umbraref30_Same_ok_c (by kernel_rfl) (by kernel_rfl)) (by kernel_rfl) ?_
      obtain ⟨x12, hx12, h⟩ := letE h
      refine awl_u hT m_umbralaw42_FilterWeighs [61] 7 (by kernel_rfl) ?_
      refine awl_nms [(71, (eB x12))] (by subst hx12; kernel_rfl) ?_
      refine awl_split 71 h (by kernel_rfl) (fun h => ?_) (fun h => ?_)
      · refine awl_u hT m_umbralaw42_FilterWeighs [71] 2 (by kernel_rfl) ?_
        obtain ⟨r13, hr13, h⟩ := obind h
        refine awl_big (big_call [] (umbraref30_Same_ok hr13) umbraref30_Same_ok_c (by kernel_rfl) (by kernel_rfl)) (by kernel_rfl) ?_
        obtain ⟨x14, hx14, h⟩ := letE h
        refine awl_u hT m_umbralaw42_FilterWeighs [71] 7 (by kernel_rfl) ?_
        refine awl_nms [(81, (eB x14))] (by subst hx14; kernel_rfl) ?_
        refine awl_split 81 h (by kernel_rfl) (fun h => ?_) (fun h => ?_)
        · obtain ⟨r15, hr15, h⟩ := obind h
          refine awl_big (big_call [] (umbralaw42_works_ok hr15) umbralaw42_works_ok_c (by kernel_rfl) (by kernel_rfl)) (by kernel_rfl) ?_
          refine awl_u hT m_umbralaw42_FilterWeighs [81] 2 (by kernel_rfl) ?_
          refine awl_nil (tn_n ?_)
          cases h
          exact jr (by kernel_rfl)
        · refine awl_u hT m_umbralaw42_FilterWeighs [81] 3 (by kernel_rfl) ?_
          refine awl_nil (tn_n ?_)
          cases h
          exact jr (by kernel_rfl)
      · refine awl_u hT m_umbralaw42_FilterWeighs [71, 76, 81] 13 (by kernel_rfl) ?_
        refine awl_nil (tn_n ?_)
        cases h
        exact jr (by kernel_rfl)
    · refine awl_u hT m_umbralaw42_FilterWeighs [61, 66, 71, 76, 81] 23 (by kernel_rfl) ?_
      refine awl_nil (tn_n ?_)
      cases h
      exact jr (by kernel_rfl)
  · have h := g8
    refine aw_ret ?_
    cases h
    exact fin_r (by kernel_rfl)

theorem umbralaw42_FilterWeighs_ok_c : callable Try.prog 5 := ⟨_, Try.func5, by decide, rfl⟩

/-! umbra/umbraref42.Half -/
def m_umbraref42_Half : Nat → Bool := imL [1]

def p_umbraref42_Half_L4 (N : Nat) (s9 : Int) (s6 : Int) (a0 : S_api_Plane) (s12 : Int) : Nat → Int → Int → Option (Int)
  | 0, _, _ => none
  | k + 1, s15, s16 =>
    cond (decide (s16 < 4)) (
      letO (I64 (s9 + (Int.tmod s16 2))) fun x19 =>
      letO (I64 (s6 + (I64 (Int.tdiv s16 2)))) fun x20 =>
      Option.bind (p_umbraref42_At N a0 x19 x20 s12) fun r21 =>
      p_umbraref42_Half_L4 N s9 s6 a0 s12 k (I64 (s15 + r21)) (I64 (s16 + 1))) (
      some s15)

def p_umbraref42_Half_L3 (N : Nat) (a0 : S_api_Plane) (s9 : Int) (s6 : Int) : Nat → (List Int) → Int → Option ((List Int))
  | 0, _, _ => none
  | k + 1, s11, s12 =>
    letO (decide (s12 < a0.gDeep)) fun x13 =>
    cond x13 (
      Option.bind (p_umbraref42_Half_L4 N s9 s6 a0 s12 N 2 0) fun p14 =>
      Option.bind (appO 8 s11 (([I64 (Int.tdiv p14 4)] : List Int))) fun a22 =>
      p_umbraref42_Half_L3 N a0 s9 s6 k a22 (I64 (s12 + 1))) (
      some s11)

def p_umbraref42_Half_L2 (N : Nat) (a0 : S_api_Plane) (s6 : Int) : Nat → (List Int) → Int → Option ((List Int))
  | 0, _, _ => none
  | k + 1, s8, s9 =>
    cond (decide (s9 < a0.gW)) (
      Option.bind (p_umbraref42_Half_L3 N a0 s9 s6 N s8 0) fun p10 =>
      p_umbraref42_Half_L2 N a0 s6 k p10 (I64 (s9 + 2))) (
      some s8)

def p_umbraref42_Half_L1 (N : Nat) (a0 : S_api_Plane) : Nat → (List Int) → Int → Option ((List Int))
  | 0, _, _ => none
  | k + 1, s5, s6 =>
    cond (decide (s6 < a0.gH)) (
      Option.bind (p_umbraref42_Half_L2 N a0 s6 N s5 0) fun p7 =>
      p_umbraref42_Half_L1 N a0 k p7 (I64 (s6 + 2))) (
      some s5)

def p_umbraref42_Half (N : Nat) (a0 : S_api_Plane) : Option (S_api_Plane × Int) :=
  Option.bind (p_umbraref30_Check N a0) fun r1 =>
  cond (r1 != 0) (
    some ((S_api_Plane.mk 0 0 0 (ByteArray.mk #[]) [], r1))) (
    letO ((Int.tmod a0.gW 2) != 0) fun x2 =>
    letO ((Int.tmod a0.gH 2) != 0) fun x3 =>
    cond (cond x2 true x3) (
      some ((S_api_Plane.mk 0 0 0 (ByteArray.mk #[]) [], 2))) (
      Option.bind (p_umbraref42_Half_L1 N a0 N [] 0) fun p4 =>
      some ((S_api_Plane.mk (I64 (Int.tdiv a0.gW 2)) (I64 (Int.tdiv a0.gH 2)) a0.gDeep a0.gName p4, 0))))

theorem umbraref42_Half_ok {N : Nat} {a0 : S_api_Plane} {r : S_api_Plane × Int} (h : p_umbraref42_Half N a0 = some r) : FnM Try.prog 59 [] [(S_api_Plane.enc a0)] (.tup [(S_api_Plane.enc r.1), (j64 r.2)]) [] := by
  unfold p_umbraref42_Half at h
  refine fnM_of_aw (m := 82) (lo := 0) (rs := [.cell 2 34, .tmp 3]) hT Try.func59 rfl (by kernel_rfl) rfl ?_
  refine aw_sregU hT m_umbraref42_Half [] (by kernel_rfl) ?_
  refine aw_seq ?_
  refine aw_sreg ?_
  refine awl_u hT m_umbraref42_Half [] 1 (by kernel_rfl) ?_
  obtain ⟨r1, hr1, h⟩ := obind h
  refine awl_big (big_call [] (umbraref30_Check_ok hr1) umbraref30_Check_ok_c (by kernel_rfl) (by kernel_rfl)) (by kernel_rfl) ?_
  refine awl_u hT m_umbraref42_Half [] 1 (by kernel_rfl) ?_
  refine awl_nil ?_
  refine aw_sregU hT m_umbraref42_Half [] (by kernel_rfl) ?_
  refine aw_condH h (by kernel_rfl) (fun _ h => ?_) (fun _ h => ?_)
  · refine aw_sregU hT m_umbraref42_Half [] (by kernel_rfl) ?_
    refine aw_ret (tn_r ?_)
    cases h
    exact fin_r (by kernel_rfl)
  · refine aw_skip (tn_n ?_)
    refine aw_seq ?_
    obtain ⟨x2, hx2, h⟩ := letE h
    obtain ⟨x3, hx3, h⟩ := letE h
    refine aw_sregU hT m_umbraref42_Half [] (by kernel_rfl) ?_
    refine aw_nms [(26, (eB (cond x2 true x3)))] (by subst hx3 hx2; kernel_rfl) ?_
    refine aw_condH h (by kernel_rfl) (fun _ h => ?_) (fun _ h => ?_)
    · refine aw_sregU hT m_umbraref42_Half [] (by kernel_rfl) ?_
      refine aw_ret (tn_r ?_)
      cases h
      exact fin_r (by kernel_rfl)
    · refine aw_skip (tn_n ?_)
      refine aw_sregU hT m_umbraref42_Half [] (by kernel_rfl) ?_
      refine aw_seq ?_
      refine aw_sregU hT m_umbraref42_Half [] (by kernel_rfl) ?_
      refine aw_own_box 1 1 [4] ?_
      obtain ⟨p4, h, g4⟩ := obind h
      refine aw_joinTK ⟨[en 2 (.ref 0 [] 0), en 5 (.ref 1 [] 0)], [.var (.st 5 [(j64 0), (j64 0), (j64 0), (eS (ByteArray.mk #[])), (.v (.slice none 0 0))]), .var (.st 5 [(j64 (I64 (Int.tdiv a0.gW 2))), (j64 (I64 (Int.tdiv a0.gH 2))), (j64 a0.gDeep), (eS a0.gName), (eO 2 1 j64 p4)]), .tail (p4.length * 1)]⟩ ?_ ?_
      · refine aw_block (aw_loop (fun k s => ∃ s5 s6, p_umbraref42_Half_L1 N a0 k s5 s6 = some p4 ∧ JR (Fr.f 82 0) ⟨[en 1 (.im (S_api_Plane.enc a0)), en 2 (.ref 0 [] 0), en 5 (.ref 1 [] 0), en 6 (j64 s6)], [.var (.st 5 [(j64 0), (j64 0), (j64 0), (eS (ByteArray.mk #[])), (.v (.slice none 0 0))]), .var (.st 5 [(j64 (I64 (Int.tdiv a0.gW 2))), (j64 (I64 (Int.tdiv a0.gH 2))), (j64 a0.gDeep), (eS a0.gName), (eO 2 1 j64 s5)]), .tail (s5.length * 1)]⟩ s) (fun k s hI => ?_) N _ ⟨_, _, h, jr (by kernel_rfl)⟩)
        obtain ⟨s5, s6, h, hj⟩ := hI
        cases k with
        | zero => cases h
        | succ k =>
          refine aw_to _ hj ?_
          refine aw_seq ?_
          refine aw_sregU hT m_umbraref42_Half [] (by kernel_rfl) ?_
          refine aw_condH h (by kernel_rfl) (fun _ h => ?_) (fun _ h => ?_)
          · refine aw_skip (tn_n ?_)
            refine aw_seq ?_
            refine aw_block ?_
            refine aw_sregU hT m_umbraref42_Half [] (by kernel_rfl) ?_
            obtain ⟨p7, h, g7⟩ := obind h
            refine aw_joinTK ⟨[en 1 (.im (S_api_Plane.enc a0)), en 2 (.ref 0 [] 0), en 5 (.ref 1 [] 0), en 6 (j64 s6)], [.var (.st 5 [(j64 0), (j64 0), (j64 0), (eS (ByteArray.mk #[])), (.v (.slice none 0 0))]), .var (.st 5 [(j64 (I64 (Int.tdiv a0.gW 2))), (j64 (I64 (Int.tdiv a0.gH 2))), (j64 a0.gDeep), (eS a0.gName), (eO 2 1 j64 p7)]), .tail (p7.length * 1)]⟩ ?_ ?_
            · refine aw_block (aw_loop (fun k s => ∃ s8 s9, p_umbraref42_Half_L2 N a0 s6 k s8 s9 = some p7 ∧ JR (Fr.f 82 0) ⟨[en 1 (.im (S_api_Plane.enc a0)), en 2 (.ref 0 [] 0), en 5 (.ref 1 [] 0), en 6 (j64 s6), en 7 (j64 s9)], [.var (.st 5 [(j64 0), (j64 0), (j64 0), (eS (ByteArray.mk #[])), (.v (.slice none 0 0))]), .var (.st 5 [(j64 (I64 (Int.tdiv a0.gW 2))), (j64 (I64 (Int.tdiv a0.gH 2))), (j64 a0.gDeep), (eS a0.gName), (eO 2 1 j64 s8)]), .tail (s8.length * 1)]⟩ s) (fun k s hI => ?_) N _ ⟨_, _, h, jr (by kernel_rfl)⟩)
              obtain ⟨s8, s9, h, hj⟩ := hI
              cases k with
              | zero => cases h
              | succ k =>
                refine aw_to _ hj ?_
                refine aw_seq ?_
                refine aw_sregU hT m_umbraref42_Half [] (by kernel_rfl) ?_
                refine aw_condH h (by kernel_rfl) (fun _ h => ?_) (fun _ h => ?_)
                · refine aw_skip (tn_n ?_)
                  refine aw_seq ?_
                  refine aw_block ?_
                  refine aw_sregU hT m_umbraref42_Half [] (by kernel_rfl) ?_
                  obtain ⟨p10, h, g10⟩ := obind h
                  refine aw_joinTK ⟨[en 1 (.im (S_api_Plane.enc a0)), en 2 (.ref 0 [] 0), en 5 (.ref 1 [] 0), en 6 (j64 s6), en 7 (j64 s9)], [.var (.st 5 [(j64 0), (j64 0), (j64 0), (eS (ByteArray.mk #[])), (.v (.slice none 0 0))]), .var (.st 5 [(j64 (I64 (Int.tdiv a0.gW 2))), (j64 (I64 (Int.tdiv a0.gH 2))), (j64 a0.gDeep), (eS a0.gName), (eO 2 1 j64 p10)]), .tail (p10.length * 1)]⟩ ?_ ?_
                  · refine aw_block (aw_loop (fun k s => ∃ s11 s12, p_umbraref42_Half_L3 N a0 s9 s6 k s11 s12 = some p10 ∧ JR (Fr.f 82 0) ⟨[en 1 (.im (S_api_Plane.enc a0)), en 2 (.ref 0 [] 0), en 5 (.ref 1 [] 0), en 6 (j64 s6), en 7 (j64 s9), en 8 (j64 s12)], [.var (.st 5 [(j64 0), (j64 0), (j64 0), (eS (ByteArray.mk #[])), (.v (.slice none 0 0))]), .var (.st 5 [(j64 (I64 (Int.tdiv a0.gW 2))), (j64 (I64 (Int.tdiv a0.gH 2))), (j64 a0.gDeep), (eS a0.gName), (eO 2 1 j64 s11)]), .tail (s11.length * 1)]⟩ s) (fun k s hI => ?_) N _ ⟨_, _, h, jr (by kernel_rfl)⟩)
                    obtain ⟨s11, s12, h, hj⟩ := hI
                    cases k with
                    | zero => cases h
                    | succ k =>
                      refine aw_to _ hj ?_
                      refine aw_seq ?_
                      obtain ⟨x13, hx13, h⟩ := letE h
                      refine aw_sregU hT m_umbraref42_Half [] (by kernel_rfl) ?_
                      refine aw_nms [(54, (eB x13))] (by subst hx13; kernel_rfl) ?_
                      refine aw_condH h (by kernel_rfl) (fun _ h => ?_) (fun _ h => ?_)
                      · refine aw_skip (tn_n ?_)
                        refine aw_seq ?_
                        refine aw_block ?_
                        refine aw_sregU hT m_umbraref42_Half [] (by kernel_rfl) ?_
                        refine aw_seq ?_
                        refine aw_sregU hT m_umbraref42_Half [] (by kernel_rfl) ?_
                        obtain ⟨p14, h, g14⟩ := obind h
                        refine aw_joinTK ⟨[en 1 (.im (S_api_Plane.enc a0)), en 2 (.ref 0 [] 0), en 5 (.ref 1 [] 0), en 6 (j64 s6), en 7 (j64 s9), en 8 (j64 s12), en 9 (j64 p14)], [.var (.st 5 [(j64 0), (j64 0), (j64 0), (eS (ByteArray.mk #[])), (.v (.slice none 0 0))]), .var (.st 5 [(j64 (I64 (Int.tdiv a0.gW 2))), (j64 (I64 (Int.tdiv a0.gH 2))), (j64 a0.gDeep), (eS a0.gName), (eO 2 1 j64 s11)]), .tail (s11.length * 1)]⟩ ?_ ?_
                        · refine aw_block (aw_loop (fun k s => ∃ s15 s16, p_umbraref42_Half_L4 N s9 s6 a0 s12 k s15 s16 = some p14 ∧ JR (Fr.f 82 0) ⟨[en 1 (.im (S_api_Plane.enc a0)), en 2 (.ref 0 [] 0), en 5 (.ref 1 [] 0), en 6 (j64 s6), en 7 (j64 s9), en 8 (j64 s12), en 9 (j64 s15), en 10 (j64 s16)], [.var (.st 5 [(j64 0), (j64 0), (j64 0), (eS (ByteArray.mk #[])), (.v (.slice none 0 0))]), .var (.st 5 [(j64 (I64 (Int.tdiv a0.gW 2))), (j64 (I64 (Int.tdiv a0.gH 2))), (j64 a0.gDeep), (eS a0.gName), (eO 2 1 j64 s11)]), .tail (s11.length * 1)]⟩ s) (fun k s hI => ?_) N _ ⟨_, _, h, jr (by kernel_rfl)⟩)
                          obtain ⟨s15, s16, h, hj⟩ := hI
                          cases k with
                          | zero => cases h
                          | succ k =>
                            refine aw_to _ hj ?_
                            refine aw_seq ?_
                            refine aw_sregU hT m_umbraref42_Half [] (by kernel_rfl) ?_
                            refine aw_condH h (by kernel_rfl) (fun _ h => ?_) (fun _ h => ?_)
                            · refine aw_skip (tn_n ?_)
                              refine aw_seq ?_
                              refine aw_block ?_
                              refine aw_region ?_
                              obtain ⟨x19, hx19, h⟩ := letE h
                              obtain ⟨x20, hx20, h⟩ := letE h
                              refine awl_u hT m_umbraref42_Half [] 11 (by kernel_rfl) ?_
                              refine awl_nms [(66, (j64 x19)), (70, (j64 x20))] (by subst hx20 hx19; kernel_rfl) ?_
                              obtain ⟨r21, hr21, h⟩ := obind h
                              refine awl_big (big_call [] (umbraref42_At_ok hr21) umbraref42_At_ok_c (by kernel_rfl) (by kernel_rfl)) (by kernel_rfl) ?_
                              refine awl_u hT m_umbraref42_Half [] 2 (by kernel_rfl) ?_
                              refine awl_nil (inB_n (tn_n ?_))
                              refine aw_regU hT m_umbraref42_Half [] (by kernel_rfl) (tn_n ?_)
                              exact ⟨k, Nat.lt_succ_self k, _, _, h, jr (by kernel_rfl)⟩
                            · refine aw_exit (tn_x (tn_x (inB_e (tn_n ?_))))
                              cases h
                              exact jr (by kernel_rfl)
                        · have h := g14
                          refine (tn_n ?_)
                          refine aw_region ?_
                          refine awl_u hT m_umbraref42_Half [] 4 (by kernel_rfl) ?_
                          refine awl_big (big_row hT (x := (.sl 1 1 [(j64 (I64 (Int.tdiv p14 4)))])) (by kernel_rfl) (by kernel_rfl)) (by kernel_rfl) ?_
                          obtain ⟨a22, ha22, h⟩ := obind h
                          refine awl_big (big_app hT j64 (id := 2) (k := 1) ha22 (by kernel_rfl) (by kernel_rfl)) (by kernel_rfl) ?_
                          refine awl_u hT m_umbraref42_Half [] 2 (by kernel_rfl) ?_
                          refine awl_nil (inB_n (tn_n ?_))
                          refine aw_regU hT m_umbraref42_Half [] (by kernel_rfl) (tn_n ?_)
                          exact ⟨k, Nat.lt_succ_self k, _, _, h, jr (by kernel_rfl)⟩
                      · refine aw_exit (tn_x (tn_x (inB_e (tn_n ?_))))
                        cases h
                        exact jr (by kernel_rfl)
                  · have h := g10
                    refine (inB_n (tn_n ?_))
                    refine aw_regU hT m_umbraref42_Half [] (by kernel_rfl) (tn_n ?_)
                    exact ⟨k, Nat.lt_succ_self k, _, _, h, jr (by kernel_rfl)⟩
                · refine aw_exit (tn_x (tn_x (inB_e (tn_n ?_))))
                  cases h
                  exact jr (by kernel_rfl)
            · have h := g7
              refine (inB_n (tn_n ?_))
              refine aw_regU hT m_umbraref42_Half [] (by kernel_rfl) (tn_n ?_)
              exact ⟨k, Nat.lt_succ_self k, _, _, h, jr (by kernel_rfl)⟩
          · refine aw_exit (tn_x (tn_x (inB_e (tn_n ?_))))
            cases h
            exact jr (by kernel_rfl)
      · have h := g4
        refine (tn_n ?_)
        refine aw_sregU hT m_umbraref42_Half [] (by kernel_rfl) ?_
        refine aw_ret ?_
        cases h
        exact fin_r (by kernel_rfl)

theorem umbraref42_Half_ok_c : callable Try.prog 59 := ⟨_, Try.func59, by decide, rfl⟩

/-! umbra/umbraref42.Double -/
def m_umbraref42_Double : Nat → Bool := imL [1]

def p_umbraref42_Double_L3 (N : Nat) (a0 : S_api_Plane) (s9 : Int) (s5 : Int) : Nat → (List Int) → Int → Option ((List Int))
  | 0, _, _ => none
  | k + 1, s12, s13 =>
    letO (decide (s13 < a0.gDeep)) fun x14 =>
    cond x14 (
      Option.bind (p_umbraref42_At N a0 (I64 (Int.tdiv s9 2)) (I64 (Int.tdiv s5 2)) s13) fun r15 =>
      Option.bind (appO 8 s12 (([r15] : List Int))) fun a16 =>
      p_umbraref42_Double_L3 N a0 s9 s5 k a16 (I64 (s13 + 1))) (
      some s12)

def p_umbraref42_Double_L2 (N : Nat) (a0 : S_api_Plane) (s5 : Int) : Nat → (List Int) → Int → Option ((List Int))
  | 0, _, _ => none
  | k + 1, s8, s9 =>
    letO (decide (s9 < (I64 (2 * a0.gW)))) fun x10 =>
    cond x10 (
      Option.bind (p_umbraref42_Double_L3 N a0 s9 s5 N s8 0) fun p11 =>
      p_umbraref42_Double_L2 N a0 s5 k p11 (I64 (s9 + 1))) (
      some s8)

def p_umbraref42_Double_L1 (N : Nat) (a0 : S_api_Plane) : Nat → (List Int) → Int → Option ((List Int))
  | 0, _, _ => none
  | k + 1, s4, s5 =>
    letO (decide (s5 < (I64 (2 * a0.gH)))) fun x6 =>
    cond x6 (
      Option.bind (p_umbraref42_Double_L2 N a0 s5 N s4 0) fun p7 =>
      p_umbraref42_Double_L1 N a0 k p7 (I64 (s5 + 1))) (
      some s4)

def p_umbraref42_Double (N : Nat) (a0 : S_api_Plane) : Option (S_api_Plane × Int) :=
  Option.bind (p_umbraref30_Check N a0) fun r1 =>
  cond (r1 != 0) (
    some ((S_api_Plane.mk 0 0 0 (ByteArray.mk #[]) [], r1))) (
    letO (cond (decide (a0.gW > 32)) true (decide (a0.gH > 32))) fun x2 =>
    cond x2 (
      some ((S_api_Plane.mk 0 0 0 (ByteArray.mk #[]) [], 2))) (
      Option.bind (p_umbraref42_Double_L1 N a0 N [] 0) fun p3 =>
      some ((S_api_Plane.mk (I64 (2 * a0.gW)) (I64 (2 * a0.gH)) a0.gDeep a0.gName p3, 0))))

theorem umbraref42_Double_ok {N : Nat} {a0 : S_api_Plane} {r : S_api_Plane × Int} (h : p_umbraref42_Double N a0 = some r) : FnM Try.prog 60 [] [(S_api_Plane.enc a0)] (.tup [(S_api_Plane.enc r.1), (j64 r.2)]) [] := by
  unfold p_umbraref42_Double at h
  refine fnM_of_aw (m := 66) (lo := 0) (rs := [.cell 2 34, .tmp 3]) hT Try.func60 rfl (by kernel_rfl) rfl ?_
  refine aw_sregU hT m_umbraref42_Double [] (by kernel_rfl) ?_
  refine aw_seq ?_
  refine aw_sreg ?_
  refine awl_u hT m_umbraref42_Double [] 1 (by kernel_rfl) ?_
  obtain ⟨r1, hr1, h⟩ := obind h
  refine awl_big (big_call [] (umbraref30_Check_ok hr1) umbraref30_Check_ok_c (by kernel_rfl) (by kernel_rfl)) (by kernel_rfl) ?_
  refine awl_u hT m_umbraref42_Double [] 1 (by kernel_rfl) ?_
  refine awl_nil ?_
  refine aw_sregU hT m_umbraref42_Double [] (by kernel_rfl) ?_
  refine aw_condH h (by kernel_rfl) (fun _ h => ?_) (fun _ h => ?_)
  · refine aw_sregU hT m_umbraref42_Double [] (by kernel_rfl) ?_
    refine aw_ret (tn_r ?_)
    cases h
    exact fin_r (by kernel_rfl)
  · refine aw_skip (tn_n ?_)
    refine aw_seq ?_
    obtain ⟨x2, hx2, h⟩ := letE h
    refine aw_sregU hT m_umbraref42_Double [] (by kernel_rfl) ?_
    refine aw_nms [(22, (eB x2))] (by subst hx2; kernel_rfl) ?_
    refine aw_condH h (by kernel_rfl) (fun _ h => ?_) (fun _ h => ?_)
    · refine aw_sregU hT m_umbraref42_Double [] (by kernel_rfl) ?_
      refine aw_ret (tn_r ?_)
      cases h
      exact fin_r (by kernel_rfl)
    · refine aw_skip (tn_n ?_)
      refine aw_sregU hT m_umbraref42_Double [] (by kernel_rfl) ?_
      refine aw_seq ?_
      refine aw_sregU hT m_umbraref42_Double [] (by kernel_rfl) ?_
      refine aw_own_box 1 1 [4] ?_
      obtain ⟨p3, h, g3⟩ := obind h
      refine aw_joinTK ⟨[en 2 (.ref 0 [] 0), en 5 (.ref 1 [] 0)], [.var (.st 5 [(j64 0), (j64 0), (j64 0), (eS (ByteArray.mk #[])), (.v (.slice none 0 0))]), .var (.st 5 [(j64 (I64 (2 * a0.gW))), (j64 (I64 (2 * a0.gH))), (j64 a0.gDeep), (eS a0.gName), (eO 2 1 j64 p3)]), .tail (p3.length * 1)]⟩ ?_ ?_
      · refine aw_block (aw_loop (fun k s => ∃ s4 s5, p_umbraref42_Double_L1 N a0 k s4 s5 = some p3 ∧ JR (Fr.f 66 0) ⟨[en 1 (.im (S_api_Plane.enc a0)), en 2 (.ref 0 [] 0), en 5 (.ref 1 [] 0), en 6 (j64 s5)], [.var (.st 5 [(j64 0), (j64 0), (j64 0), (eS (ByteArray.mk #[])), (.v (.slice none 0 0))]), .var (.st 5 [(j64 (I64 (2 * a0.gW))), (j64 (I64 (2 * a0.gH))), (j64 a0.gDeep), (eS a0.gName), (eO 2 1 j64 s4)]), .tail (s4.length * 1)]⟩ s) (fun k s hI => ?_) N _ ⟨_, _, h, jr (by kernel_rfl)⟩)
        obtain ⟨s4, s5, h, hj⟩ := hI
        cases k with
        | zero => cases h
        | succ k =>
          refine aw_to _ hj ?_
          refine aw_seq ?_
          obtain ⟨x6, hx6, h⟩ := letE h
          refine aw_sregU hT m_umbraref42_Double [] (by kernel_rfl) ?_
          refine aw_nms [(38, (eB x6))] (by subst hx6; kernel_rfl) ?_
          refine aw_condH h (by kernel_rfl) (fun _ h => ?_) (fun _ h => ?_)
          · refine aw_skip (tn_n ?_)
            refine aw_seq ?_
            refine aw_block ?_
            refine aw_sregU hT m_umbraref42_Double [] (by kernel_rfl) ?_
            obtain ⟨p7, h, g7⟩ := obind h
            refine aw_joinTK ⟨[en 1 (.im (S_api_Plane.enc a0)), en 2 (.ref 0 [] 0), en 5 (.ref 1 [] 0), en 6 (j64 s5)], [.var (.st 5 [(j64 0), (j64 0), (j64 0), (eS (ByteArray.mk #[])), (.v (.slice none 0 0))]), .var (.st 5 [(j64 (I64 (2 * a0.gW))), (j64 (I64 (2 * a0.gH))), (j64 a0.gDeep), (eS a0.gName), (eO 2 1 j64 p7)]), .tail (p7.length * 1)]⟩ ?_ ?_
            · refine aw_block (aw_loop (fun k s => ∃ s8 s9, p_umbraref42_Double_L2 N a0 s5 k s8 s9 = some p7 ∧ JR (Fr.f 66 0) ⟨[en 1 (.im (S_api_Plane.enc a0)), en 2 (.ref 0 [] 0), en 5 (.ref 1 [] 0), en 6 (j64 s5), en 7 (j64 s9)], [.var (.st 5 [(j64 0), (j64 0), (j64 0), (eS (ByteArray.mk #[])), (.v (.slice none 0 0))]), .var (.st 5 [(j64 (I64 (2 * a0.gW))), (j64 (I64 (2 * a0.gH))), (j64 a0.gDeep), (eS a0.gName), (eO 2 1 j64 s8)]), .tail (s8.length * 1)]⟩ s) (fun k s hI => ?_) N _ ⟨_, _, h, jr (by kernel_rfl)⟩)
              obtain ⟨s8, s9, h, hj⟩ := hI
              cases k with
              | zero => cases h
              | succ k =>
                refine aw_to _ hj ?_
                refine aw_seq ?_
                obtain ⟨x10, hx10, h⟩ := letE h
                refine aw_sregU hT m_umbraref42_Double [] (by kernel_rfl) ?_
                refine aw_nms [(44, (eB x10))] (by subst hx10; kernel_rfl) ?_
                refine aw_condH h (by kernel_rfl) (fun _ h => ?_) (fun _ h => ?_)
                · refine aw_skip (tn_n ?_)
                  refine aw_seq ?_
                  refine aw_block ?_
                  refine aw_sregU hT m_umbraref42_Double [] (by kernel_rfl) ?_
                  obtain ⟨p11, h, g11⟩ := obind h
                  refine aw_joinTK ⟨[en 1 (.im (S_api_Plane.enc a0)), en 2 (.ref 0 [] 0), en 5 (.ref 1 [] 0), en 6 (j64 s5), en 7 (j64 s9)], [.var (.st 5 [(j64 0), (j64 0), (j64 0), (eS (ByteArray.mk #[])), (.v (.slice none 0 0))]), .var (.st 5 [(j64 (I64 (2 * a0.gW))), (j64 (I64 (2 * a0.gH))), (j64 a0.gDeep), (eS a0.gName), (eO 2 1 j64 p11)]), .tail (p11.length * 1)]⟩ ?_ ?_
                  · refine aw_block (aw_loop (fun k s => ∃ s12 s13, p_umbraref42_Double_L3 N a0 s9 s5 k s12 s13 = some p11 ∧ JR (Fr.f 66 0) ⟨[en 1 (.im (S_api_Plane.enc a0)), en 2 (.ref 0 [] 0), en 5 (.ref 1 [] 0), en 6 (j64 s5), en 7 (j64 s9), en 8 (j64 s13)], [.var (.st 5 [(j64 0), (j64 0), (j64 0), (eS (ByteArray.mk #[])), (.v (.slice none 0 0))]), .var (.st 5 [(j64 (I64 (2 * a0.gW))), (j64 (I64 (2 * a0.gH))), (j64 a0.gDeep), (eS a0.gName), (eO 2 1 j64 s12)]), .tail (s12.length * 1)]⟩ s) (fun k s hI => ?_) N _ ⟨_, _, h, jr (by kernel_rfl)⟩)
                    obtain ⟨s12, s13, h, hj⟩ := hI
                    cases k with
                    | zero => cases h
                    | succ k =>
                      refine aw_to _ hj ?_
                      refine aw_seq ?_
                      obtain ⟨x14, hx14, h⟩ := letE h
                      refine aw_sregU hT m_umbraref42_Double [] (by kernel_rfl) ?_
                      refine aw_nms [(50, (eB x14))] (by subst hx14; kernel_rfl) ?_
                      refine aw_condH h (by kernel_rfl) (fun _ h => ?_) (fun _ h => ?_)
                      · refine aw_skip (tn_n ?_)
                        refine aw_seq ?_
                        refine aw_block ?_
                        obtain ⟨r15, hr15, h⟩ := obind h
                        obtain ⟨a16, ha16, h⟩ := obind h
                        refine aw_drawM hT hmo m_umbraref42_Double [(8, (j64 r15)), (9, (.sl 1 1 [(j64 r15)]))] [(10, fun _ => ((eO 2 1 j64 a16), [.var (.st 5 [(j64 0), (j64 0), (j64 0), (eS (ByteArray.mk #[])), (.v (.slice none 0 0))]), .var (.st 5 [(j64 (I64 (2 * a0.gW))), (j64 (I64 (2 * a0.gH))), (j64 a0.gDeep), (eS a0.gName), (eO 2 1 j64 s12)]), .tail (a16.length * 1)]))] (by kernel_rfl) (by kernel_rfl) (by kernel_rfl) ⟨fun _ => big_call0 (umbraref42_At_ok hr15) umbraref42_At_ok_c (by kernel_rfl) (by kernel_rfl) (by kernel_rfl), fun _ => big_row hT (x := (.sl 1 1 [(j64 r15)])) (by kernel_rfl) (by kernel_rfl), trivial⟩ ⟨big_at (big_app hT j64 (id := 2) (k := 1) ha16 (by kernel_rfl) (by kernel_rfl)) (by kernel_rfl), trivial⟩ (inB_n (tn_n ?_))
                        refine aw_regU hT m_umbraref42_Double [] (by kernel_rfl) (tn_n ?_)
                        exact ⟨k, Nat.lt_succ_self k, _, _, h, jr (by kernel_rfl)⟩
                      · refine aw_exit (tn_x (tn_x (inB_e (tn_n ?_))))
                        cases h
                        exact jr (by kernel_rfl)
                  · have h := g11
                    refine (inB_n (tn_n ?_))
                    refine aw_regU hT m_umbraref42_Double [] (by kernel_rfl) (tn_n ?_)
                    exact ⟨k, Nat.lt_succ_self k, _, _, h, jr (by kernel_rfl)⟩
                · refine aw_exit (tn_x (tn_x (inB_e (tn_n ?_))))
                  cases h
                  exact jr (by kernel_rfl)
            · have h := g7
              refine (inB_n (tn_n ?_))
              refine aw_regU hT m_umbraref42_Double [] (by kernel_rfl) (tn_n ?_)
              exact ⟨k, Nat.lt_succ_self k, _, _, h, jr (by kernel_rfl)⟩
          · refine aw_exit (tn_x (tn_x (inB_e (tn_n ?_))))
            cases h
            exact jr (by kernel_rfl)
      · have h := g3
        refine (tn_n ?_)
        refine aw_sregU hT m_umbraref42_Double [] (by kernel_rfl) ?_
        refine aw_ret ?_
        cases h
        exact fin_r (by kernel_rfl)

theorem umbraref42_Double_ok_c : callable Try.prog 60 := ⟨_, Try.func60, by decide, rfl⟩

/-! umbra/umbraref42.Flip -/
def m_umbraref42_Flip : Nat → Bool := imL [2]

def p_umbraref42_Flip_L3 (N : Nat) (a0 : S_api_Plane) (p16 : Int × Int) : Nat → (List Int) → Int → Option ((List Int))
  | 0, _, _ => none
  | k + 1, s18, s19 =>
    letO (decide (s19 < a0.gDeep)) fun x20 =>
    cond x20 (
      Option.bind (p_umbraref42_At N a0 p16.1 p16.2 s19) fun r21 =>
      Option.bind (appO 8 s18 (([r21] : List Int))) fun a22 =>
      p_umbraref42_Flip_L3 N a0 p16 k a22 (I64 (s19 + 1))) (
      some s18)

def p_umbraref42_Flip_L2 (N : Nat) (p3 : Int × Int) (a1 : Int) (a0 : S_api_Plane) (s6 : Int) : Nat → (List Int) → Int → Option ((List Int))
  | 0, _, _ => none
  | k + 1, s8, s9 =>
    cond (decide (s9 < p3.1)) (
      Option.bind (cond (a1 == 1) (
        letO (I64 ((I64 (a0.gW - 1)) - s9)) fun x12 =>
        some x12) (
        some s9)) fun p10 =>
      Option.bind (cond (a1 == 2) (
        letO (I64 ((I64 (a0.gH - 1)) - s6)) fun x15 =>
        some x15) (
        some s6)) fun p13 =>
      Option.bind (cond (a1 == 3) (some ((s6, s9))) (some ((p10, p13)))) fun p16 =>
      Option.bind (p_umbraref42_Flip_L3 N a0 p16 N s8 0) fun p17 =>
      p_umbraref42_Flip_L2 N p3 a1 a0 s6 k p17 (I64 (s9 + 1))) (
      some s8)

def p_umbraref42_Flip_L1 (N : Nat) (p3 : Int × Int) (a1 : Int) (a0 : S_api_Plane) : Nat → (List Int) → Int → Option ((List Int))
  | 0, _, _ => none
  | k + 1, s5, s6 =>
    cond (decide (s6 < p3.2)) (
      Option.bind (p_umbraref42_Flip_L2 N p3 a1 a0 s6 N s5 0) fun p7 =>
      p_umbraref42_Flip_L1 N p3 a1 a0 k p7 (I64 (s6 + 1))) (
      some s5)

def p_umbraref42_Flip (N : Nat) (a0 : S_api_Plane) (a1 : Int) : Option (S_api_Plane × Int) :=
  Option.bind (p_umbraref30_Check N a0) fun r1 =>
  cond (r1 != 0) (
    some ((S_api_Plane.mk 0 0 0 (ByteArray.mk #[]) [], r1))) (
    letO (cond (decide (a1 < 0)) true (decide (a1 > 3))) fun x2 =>
    cond x2 (
      some ((S_api_Plane.mk 0 0 0 (ByteArray.mk #[]) [], 2))) (
      Option.bind (cond (a1 == 3) (some ((a0.gH, a0.gW))) (some ((a0.gW, a0.gH)))) fun p3 =>
      Option.bind (p_umbraref42_Flip_L1 N p3 a1 a0 N [] 0) fun p4 =>
      some ((S_api_Plane.mk p3.1 p3.2 a0.gDeep a0.gName p4, 0))))

theorem umbraref42_Flip_ok {N : Nat} {a0 : S_api_Plane} {a1 : Int} {r : S_api_Plane × Int} (h : p_umbraref42_Flip N a0 a1 = some r) : FnM Try.prog 62 [] [(S_api_Plane.enc a0), (j64 a1)] (.tup [(S_api_Plane.enc r.1), (j64 r.2)]) [] := by
  unfold p_umbraref42_Flip at h
  refine fnM_of_aw (m := 92) (lo := 0) (rs := [.cell 4 34, .tmp 5]) hT Try.func62 rfl (by kernel_rfl) rfl ?_
  refine aw_sregU hT m_umbraref42_Flip [] (by kernel_rfl) ?_
  refine aw_seq ?_
  refine aw_sreg ?_
  refine awl_u hT m_umbraref42_Flip [] 1 (by kernel_rfl) ?_
  obtain ⟨r1, hr1, h⟩ := obind h
  refine awl_big (big_call [] (umbraref30_Check_ok hr1) umbraref30_Check_ok_c (by kernel_rfl) (by kernel_rfl)) (by kernel_rfl) ?_
  refine awl_u hT m_umbraref42_Flip [] 1 (by kernel_rfl) ?_
  refine awl_nil ?_
  refine aw_sregU hT m_umbraref42_Flip [] (by kernel_rfl) ?_
  refine aw_condH h (by kernel_rfl) (fun _ h => ?_) (fun _ h => ?_)
  · refine aw_sregU hT m_umbraref42_Flip [] (by kernel_rfl) ?_
    refine aw_ret (tn_r ?_)
    cases h
    exact fin_r (by kernel_rfl)
  · refine aw_skip (tn_n ?_)
    refine aw_seq ?_
    obtain ⟨x2, hx2, h⟩ := letE h
    refine aw_sregU hT m_umbraref42_Flip [] (by kernel_rfl) ?_
    refine aw_nms [(24, (eB x2))] (by subst hx2; kernel_rfl) ?_
    refine aw_condH h (by kernel_rfl) (fun _ h => ?_) (fun _ h => ?_)
    · refine aw_sregU hT m_umbraref42_Flip [] (by kernel_rfl) ?_
      refine aw_ret (tn_r ?_)
      cases h
      exact fin_r (by kernel_rfl)
    · refine aw_skip (tn_n ?_)
      refine aw_sregU hT m_umbraref42_Flip [] (by kernel_rfl) ?_
      obtain ⟨p3, h, g3⟩ := obind h
      refine aw_joinT ⟨[en 1 (j64 a1), en 2 (.im (S_api_Plane.enc a0)), en 4 (.ref 0 [] 0), en 7 (.ref 1 [] 0)], [.var (.st 5 [(j64 0), (j64 0), (j64 0), (eS (ByteArray.mk #[])), (.v (.slice none 0 0))]), .var (.st 5 [(j64 p3.1), (j64 p3.2), (j64 a0.gDeep), (eS a0.gName), (.v (.slice none 0 0))])]⟩ ?_ ?_
      · refine aw_sregU hT m_umbraref42_Flip [] (by kernel_rfl) ?_
        refine aw_condH h (by kernel_rfl) (fun _ h => ?_) (fun _ h => ?_)
        · refine aw_drawM hT hmo m_umbraref42_Flip [] [] (by kernel_rfl) (by kernel_rfl) (by kernel_rfl) trivial trivial (tn_n ?_)
          cases h
          exact jr (by kernel_rfl)
        · refine aw_skip (tn_n ?_)
          cases h
          exact jr (by kernel_rfl)
      · have h := g3
        refine aw_seq ?_
        refine aw_sregU hT m_umbraref42_Flip [] (by kernel_rfl) ?_
        refine aw_own_box 1 1 [4] ?_
        obtain ⟨p4, h, g4⟩ := obind h
        refine aw_joinTK ⟨[en 4 (.ref 0 [] 0), en 7 (.ref 1 [] 0)], [.var (.st 5 [(j64 0), (j64 0), (j64 0), (eS (ByteArray.mk #[])), (.v (.slice none 0 0))]), .var (.st 5 [(j64 p3.1), (j64 p3.2), (j64 a0.gDeep), (eS a0.gName), (eO 2 1 j64 p4)]), .tail (p4.length * 1)]⟩ ?_ ?_
        · refine aw_block (aw_loop (fun k s => ∃ s5 s6, p_umbraref42_Flip_L1 N p3 a1 a0 k s5 s6 = some p4 ∧ JR (Fr.f 92 0) ⟨[en 1 (j64 a1), en 2 (.im (S_api_Plane.enc a0)), en 4 (.ref 0 [] 0), en 7 (.ref 1 [] 0), en 8 (j64 s6)], [.var (.st 5 [(j64 0), (j64 0), (j64 0), (eS (ByteArray.mk #[])), (.v (.slice none 0 0))]), .var (.st 5 [(j64 p3.1), (j64 p3.2), (j64 a0.gDeep), (eS a0.gName), (eO 2 1 j64 s5)]), .tail (s5.length * 1)]⟩ s) (fun k s hI => ?_) N _ ⟨_, _, h, jr (by kernel_rfl)⟩)
          obtain ⟨s5, s6, h, hj⟩ := hI
          cases k with
          | zero => cases h
          | succ k =>
            refine aw_to _ hj ?_
            refine aw_seq ?_
            refine aw_sregU hT m_umbraref42_Flip [] (by kernel_rfl) ?_
            refine aw_condH h (by kernel_rfl) (fun _ h => ?_) (fun _ h => ?_)
            · refine aw_skip (tn_n ?_)
              refine aw_seq ?_
              refine aw_block ?_
              refine aw_sregU hT m_umbraref42_Flip [] (by kernel_rfl) ?_
              obtain ⟨p7, h, g7⟩ := obind h
              refine aw_joinTK ⟨[en 1 (j64 a1), en 2 (.im (S_api_Plane.enc a0)), en 4 (.ref 0 [] 0), en 7 (.ref 1 [] 0), en 8 (j64 s6)], [.var (.st 5 [(j64 0), (j64 0), (j64 0), (eS (ByteArray.mk #[])), (.v (.slice none 0 0))]), .var (.st 5 [(j64 p3.1), (j64 p3.2), (j64 a0.gDeep), (eS a0.gName), (eO 2 1 j64 p7)]), .tail (p7.length * 1)]⟩ ?_ ?_
              · refine aw_block (aw_loop (fun k s => ∃ s8 s9, p_umbraref42_Flip_L2 N p3 a1 a0 s6 k s8 s9 = some p7 ∧ JR (Fr.f 92 0) ⟨[en 1 (j64 a1), en 2 (.im (S_api_Plane.enc a0)), en 4 (.ref 0 [] 0), en 7 (.ref 1 [] 0), en 8 (j64 s6), en 9 (j64 s9)], [.var (.st 5 [(j64 0), (j64 0), (j64 0), (eS (ByteArray.mk #[])), (.v (.slice none 0 0))]), .var (.st 5 [(j64 p3.1), (j64 p3.2), (j64 a0.gDeep), (eS a0.gName), (eO 2 1 j64 s8)]), .tail (s8.length * 1)]⟩ s) (fun k s hI => ?_) N _ ⟨_, _, h, jr (by kernel_rfl)⟩)
                obtain ⟨s8, s9, h, hj⟩ := hI
                cases k with
                | zero => cases h
                | succ k =>
                  refine aw_to _ hj ?_
                  refine aw_seq ?_
                  refine aw_sregU hT m_umbraref42_Flip [] (by kernel_rfl) ?_
                  refine aw_condH h (by kernel_rfl) (fun _ h => ?_) (fun _ h => ?_)
                  · refine aw_skip (tn_n ?_)
                    refine aw_seq ?_
                    refine aw_block ?_
                    refine aw_sregU hT m_umbraref42_Flip [] (by kernel_rfl) ?_
                    obtain ⟨p10, h, g10⟩ := obind h
                    refine aw_joinT ⟨[en 1 (j64 a1), en 2 (.im (S_api_Plane.enc a0)), en 4 (.ref 0 [] 0), en 7 (.ref 1 [] 0), en 8 (j64 s6), en 9 (j64 s9), en 10 (j64 p10), en 11 (j64 s6)], [.var (.st 5 [(j64 0), (j64 0), (j64 0), (eS (ByteArray.mk #[])), (.v (.slice none 0 0))]), .var (.st 5 [(j64 p3.1), (j64 p3.2), (j64 a0.gDeep), (eS a0.gName), (eO 2 1 j64 s8)]), .tail (s8.length * 1)]⟩ ?_ ?_
                    · refine aw_sregU hT m_umbraref42_Flip [] (by kernel_rfl) ?_
                      refine aw_condH h (by kernel_rfl) (fun _ h => ?_) (fun _ h => ?_)
                      · refine aw_region ?_
                        obtain ⟨x12, hx12, h⟩ := letE h
                        refine awl_u hT m_umbraref42_Flip [] 6 (by kernel_rfl) ?_
                        refine awl_nms [(10, (j64 x12))] (by subst hx12; kernel_rfl) ?_
                        refine awl_nil (tn_n ?_)
                        cases h
                        exact jr (by kernel_rfl)
                      · refine aw_skip (tn_n ?_)
                        cases h
                        exact jr (by kernel_rfl)
                    · have h := g10
                      obtain ⟨p13, h, g13⟩ := obind h
                      refine aw_joinT ⟨[en 1 (j64 a1), en 2 (.im (S_api_Plane.enc a0)), en 4 (.ref 0 [] 0), en 7 (.ref 1 [] 0), en 8 (j64 s6), en 9 (j64 s9), en 10 (j64 p10), en 11 (j64 p13)], [.var (.st 5 [(j64 0), (j64 0), (j64 0), (eS (ByteArray.mk #[])), (.v (.slice none 0 0))]), .var (.st 5 [(j64 p3.1), (j64 p3.2), (j64 a0.gDeep), (eS a0.gName), (eO 2 1 j64 s8)]), .tail (s8.length * 1)]⟩ ?_ ?_
                      · refine aw_sregU hT m_umbraref42_Flip [] (by kernel_rfl) ?_
                        refine aw_condH h (by kernel_rfl) (fun _ h => ?_) (fun _ h => ?_)
                        · refine aw_region ?_
                          obtain ⟨x15, hx15, h⟩ := letE h
                          refine awl_u hT m_umbraref42_Flip [] 6 (by kernel_rfl) ?_
                          refine awl_nms [(11, (j64 x15))] (by subst hx15; kernel_rfl) ?_
                          refine awl_nil (tn_n ?_)
                          cases h
                          exact jr (by kernel_rfl)
                        · refine aw_skip (tn_n ?_)
                          cases h
                          exact jr (by kernel_rfl)
                      · have h := g13
                        obtain ⟨p16, h, g16⟩ := obind h
                        refine aw_joinT ⟨[en 1 (j64 a1), en 2 (.im (S_api_Plane.enc a0)), en 4 (.ref 0 [] 0), en 7 (.ref 1 [] 0), en 8 (j64 s6), en 9 (j64 s9), en 10 (j64 p16.1), en 11 (j64 p16.2)], [.var (.st 5 [(j64 0), (j64 0), (j64 0), (eS (ByteArray.mk #[])), (.v (.slice none 0 0))]), .var (.st 5 [(j64 p3.1), (j64 p3.2), (j64 a0.gDeep), (eS a0.gName), (eO 2 1 j64 s8)]), .tail (s8.length * 1)]⟩ ?_ ?_
                        · refine aw_sregU hT m_umbraref42_Flip [] (by kernel_rfl) ?_
                          refine aw_condH h (by kernel_rfl) (fun _ h => ?_) (fun _ h => ?_)
                          · refine aw_regU hT m_umbraref42_Flip [] (by kernel_rfl) (tn_n ?_)
                            cases h
                            exact jr (by kernel_rfl)
                          · refine aw_skip (tn_n ?_)
                            cases h
                            exact jr (by kernel_rfl)
                        · have h := g16
                          refine aw_sregU hT m_umbraref42_Flip [] (by kernel_rfl) ?_
                          obtain ⟨p17, h, g17⟩ := obind h
                          refine aw_joinTK ⟨[en 1 (j64 a1), en 2 (.im (S_api_Plane.enc a0)), en 4 (.ref 0 [] 0), en 7 (.ref 1 [] 0), en 8 (j64 s6), en 9 (j64 s9)], [.var (.st 5 [(j64 0), (j64 0), (j64 0), (eS (ByteArray.mk #[])), (.v (.slice none 0 0))]), .var (.st 5 [(j64 p3.1), (j64 p3.2), (j64 a0.gDeep), (eS a0.gName), (eO 2 1 j64 p17)]), .tail (p17.length * 1)]⟩ ?_ ?_
                          · refine aw_block (aw_loop (fun k s => ∃ s18 s19, p_umbraref42_Flip_L3 N a0 p16 k s18 s19 = some p17 ∧ JR (Fr.f 92 0) ⟨[en 1 (j64 a1), en 2 (.im (S_api_Plane.enc a0)), en 4 (.ref 0 [] 0), en 7 (.ref 1 [] 0), en 8 (j64 s6), en 9 (j64 s9), en 10 (j64 p16.1), en 11 (j64 p16.2), en 12 (j64 s19)], [.var (.st 5 [(j64 0), (j64 0), (j64 0), (eS (ByteArray.mk #[])), (.v (.slice none 0 0))]), .var (.st 5 [(j64 p3.1), (j64 p3.2), (j64 a0.gDeep), (eS a0.gName), (eO 2 1 j64 s18)]), .tail (s18.length * 1)]⟩ s) (fun k s hI => ?_) N _ ⟨_, _, h, jr (by kernel_rfl)⟩)
                            obtain ⟨s18, s19, h, hj⟩ := hI
                            cases k with
                            | zero => cases h
                            | succ k =>
                              refine aw_to _ hj ?_
                              refine aw_seq ?_
                              obtain ⟨x20, hx20, h⟩ := letE h
                              refine aw_sregU hT m_umbraref42_Flip [] (by kernel_rfl) ?_
                              refine aw_nms [(78, (eB x20))] (by subst hx20; kernel_rfl) ?_
                              refine aw_condH h (by kernel_rfl) (fun _ h => ?_) (fun _ h => ?_)
                              · refine aw_skip (tn_n ?_)
                                refine aw_seq ?_
                                refine aw_block ?_
                                obtain ⟨r21, hr21, h⟩ := obind h
                                obtain ⟨a22, ha22, h⟩ := obind h
                                refine aw_drawM hT hmo m_umbraref42_Flip [(6, (j64 r21)), (7, (.sl 1 1 [(j64 r21)]))] [(8, fun _ => ((eO 2 1 j64 a22), [.var (.st 5 [(j64 0), (j64 0), (j64 0), (eS (ByteArray.mk #[])), (.v (.slice none 0 0))]), .var (.st 5 [(j64 p3.1), (j64 p3.2), (j64 a0.gDeep), (eS a0.gName), (eO 2 1 j64 s18)]), .tail (a22.length * 1)]))] (by kernel_rfl) (by kernel_rfl) (by kernel_rfl) ⟨fun _ => big_call0 (umbraref42_At_ok hr21) umbraref42_At_ok_c (by kernel_rfl) (by kernel_rfl) (by kernel_rfl), fun _ => big_row hT (x := (.sl 1 1 [(j64 r21)])) (by kernel_rfl) (by kernel_rfl), trivial⟩ ⟨big_at (big_app hT j64 (id := 2) (k := 1) ha22 (by kernel_rfl) (by kernel_rfl)) (by kernel_rfl), trivial⟩ (inB_n (tn_n ?_))
                                refine aw_regU hT m_umbraref42_Flip [] (by kernel_rfl) (tn_n ?_)
                                exact ⟨k, Nat.lt_succ_self k, _, _, h, jr (by kernel_rfl)⟩
                              · refine aw_exit (tn_x (tn_x (inB_e (tn_n ?_))))
                                cases h
                                exact jr (by kernel_rfl)
                          · have h := g17
                            refine (inB_n (tn_n ?_))
                            refine aw_regU hT m_umbraref42_Flip [] (by kernel_rfl) (tn_n ?_)
                            exact ⟨k, Nat.lt_succ_self k, _, _, h, jr (by kernel_rfl)⟩
                  · refine aw_exit (tn_x (tn_x (inB_e (tn_n ?_))))
                    cases h
                    exact jr (by kernel_rfl)
              · have h := g7
                refine (inB_n (tn_n ?_))
                refine aw_regU hT m_umbraref42_Flip [] (by kernel_rfl) (tn_n ?_)
                exact ⟨k, Nat.lt_succ_self k, _, _, h, jr (by kernel_rfl)⟩
            · refine aw_exit (tn_x (tn_x (inB_e (tn_n ?_))))
              cases h
              exact jr (by kernel_rfl)
        · have h := g4
          refine (tn_n ?_)
          refine aw_sregU hT m_umbraref42_Flip [] (by kernel_rfl) ?_
          refine aw_ret ?_
          cases h
          exact fin_r (by kernel_rfl)

theorem umbraref42_Flip_ok_c : callable Try.prog 62 := ⟨_, Try.func62, by decide, rfl⟩

end Go.UK
