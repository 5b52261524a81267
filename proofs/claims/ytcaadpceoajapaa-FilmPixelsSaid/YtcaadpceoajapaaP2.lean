/- A part of the proof: what the functions of the program compute. -/
import Derived.Test.YtcaadpceoajapaaP1
namespace Go.UK
open Go Go.Proofs
set_option maxRecDepth 20000
set_option maxHeartbeats 4000000
set_option linter.all false

attribute [local irreducible] owp awl aw FnM NatFn opS Stab TOK Big

theorem n_Add64 {x y c : Int} {r : Int × Int} (h : p_Add64 x y c = some r) : NatFn Try.prog 174 [.int .u64 x, .int .u64 y, .int .u64 c] (.tuple #[.int .u64 r.1, .int .u64 r.2]) :=
  nat_Add64 Try.func174 (by kernel_rfl) (by kernel_rfl) (by kernel_rfl) (by kernel_rfl) h

/-! umbra/wide.Div -/
def m_wide_Div : Nat → Bool := imL [2]

def p_wide_Div (N : Nat) (a0 : S_api_Wide) (a1 : Int) : Option (S_api_Wide × Int × Bool) :=
  cond (a1 == 0) (
    some ((S_api_Wide.mk 0 0, 0, false))) (
    Option.bind (cond (decide (a0.gHi < 0)) (
      Option.bind (p_wide_turned N (U64 a0.gHi) a0.gLo) fun r2 =>
      some ((r2.1, r2.2))) (
      some ((U64 a0.gHi, a0.gLo)))) fun p1 =>
    Option.bind (p_wide_size N a1) fun r3 =>
    Option.bind (p_math_bits_Div64 N 0 p1.1 r3.1) fun r4 =>
    Option.bind (p_math_bits_Div64 N r4.2 p1.2 r3.1) fun r5 =>
    Option.bind (letO (!((decide (a0.gHi < 0)) == r3.2)) fun x7 =>
    letO (cond x7 (decide (r5.2 > 0)) false) fun x8 =>
    cond x8 (
      Option.bind (p_Add64 r5.1 1 0) fun r9 =>
      some ((U64 (r4.1 + r9.2), r9.1, U64 (r3.1 - r5.2)))) (
      some ((r4.1, r5.1, r5.2)))) fun p6 =>
    letO (!((decide (a0.gHi < 0)) == r3.2)) fun x11 =>
    Option.bind (p_wide_signed N p6.1 p6.2.1 x11) fun r12 =>
    cond (!r12.2) (
      some ((S_api_Wide.mk 0 0, 0, false))) (
      Option.bind (cond r3.2 (some (U64 (0 - p6.2.2))) (some p6.2.2)) fun p13 =>
      some ((r12.1, I64 p13, true))))

theorem wide_Div_ok {N : Nat} {a0 : S_api_Wide} {a1 : Int} {r : S_api_Wide × Int × Bool} (h : p_wide_Div N a0 a1 = some r) : FnM Try.prog 142 [] [(S_api_Wide.enc a0), (j64 a1)] (.tup [(S_api_Wide.enc r.1), (j64 r.2.1), (eB r.2.2)]) [] := by
  unfold p_wide_Div at h
  refine fnM_of_aw (m := 93) (lo := 0) (rs := [.cell 4 192, .tmp 5, .tmp 6]) hT Try.func142 rfl (by kernel_rfl) rfl ?_
  refine aw_sregU hT m_wide_Div [] (by kernel_rfl) ?_
  refine aw_seq ?_
  refine aw_sregU hT m_wide_Div [] (by kernel_rfl) ?_
  refine aw_condH h (by kernel_rfl) (fun _ h => ?_) (fun _ h => ?_)
  · refine aw_sregU hT m_wide_Div [] (by kernel_rfl) ?_
    refine aw_ret (tn_r ?_)
    cases h
    exact fin_r (by kernel_rfl)
  · refine aw_skip (tn_n ?_)
    refine aw_sdrawV hT hmo m_wide_Div [] [] (by kernel_rfl) (by kernel_rfl) (by kernel_rfl) trivial trivial ?_
    obtain ⟨p1, h, g1⟩ := obind h
    refine aw_joinT ⟨[en 1 (j64 a1), en 2 (.im (S_api_Wide.enc a0)), en 4 (.ref 0 [] 0), en 7 (k64 p1.1), en 8 (k64 p1.2)], [.var (.st 2 [(j64 0), (k64 0)])]⟩ ?_ ?_
    · refine aw_sregU hT m_wide_Div [] (by kernel_rfl) ?_
      refine aw_condH h (by kernel_rfl) (fun _ h => ?_) (fun _ h => ?_)
      · refine aw_region ?_
        refine awl_u hT m_wide_Div [] 2 (by kernel_rfl) ?_
        obtain ⟨r2, hr2, h⟩ := obind h
        refine awl_big (big_call [] (wide_turned_ok hr2) wide_turned_ok_c (by kernel_rfl) (by kernel_rfl)) (by kernel_rfl) ?_
        refine awl_u hT m_wide_Div [] 5 (by kernel_rfl) ?_
        refine awl_nil (tn_n ?_)
        cases h
        exact jr (by kernel_rfl)
      · refine aw_skip (tn_n ?_)
        cases h
        exact jr (by kernel_rfl)
    · have h := g1
      refine aw_sreg ?_
      refine awl_u hT m_wide_Div [] 1 (by kernel_rfl) ?_
      obtain ⟨r3, hr3, h⟩ := obind h
      refine awl_big (big_call [] (wide_size_ok hr3) wide_size_ok_c (by kernel_rfl) (by kernel_rfl)) (by kernel_rfl) ?_
      refine awl_u hT m_wide_Div [] 5 (by kernel_rfl) ?_
      refine awl_nil ?_
      refine aw_sreg ?_
      refine awl_u hT m_wide_Div [] 2 (by kernel_rfl) ?_
      obtain ⟨r4, hr4, h⟩ := obind h
      refine awl_big (big_call [] (math_bits_Div64_ok hr4) math_bits_Div64_ok_c (by kernel_rfl) (by kernel_rfl)) (by kernel_rfl) ?_
      refine awl_u hT m_wide_Div [] 5 (by kernel_rfl) ?_
      refine awl_nil ?_
      refine aw_sreg ?_
      refine awl_u hT m_wide_Div [] 3 (by kernel_rfl) ?_
      obtain ⟨r5, hr5, h⟩ := obind h
      refine awl_big (big_call [] (math_bits_Div64_ok hr5) math_bits_Div64_ok_c (by kernel_rfl) (by kernel_rfl)) (by kernel_rfl) ?_
      refine awl_u hT m_wide_Div [] 5 (by kernel_rfl) ?_
      refine awl_nil ?_
      obtain ⟨p6, h, g6⟩ := obind h
      refine aw_joinT ⟨[en 2 (.im (S_api_Wide.enc a0)), en 4 (.ref 0 [] 0), en 10 (eB r3.2), en 11 (k64 p6.1), en 13 (k64 p6.2.1), en 14 (k64 p6.2.2)], [.var (.st 2 [(j64 0), (k64 0)])]⟩ ?_ ?_
      · obtain ⟨x7, hx7, h⟩ := letE h
        obtain ⟨x8, hx8, h⟩ := letE h
        refine aw_sregU hT m_wide_Div [] (by kernel_rfl) ?_
        refine aw_nms [(60, (eB x8))] (by subst hx8 hx7; kernel_rfl) ?_
        refine aw_condH h (by kernel_rfl) (fun _ h => ?_) (fun _ h => ?_)
        · refine aw_sreg ?_
          refine awl_u hT m_wide_Div [] 1 (by kernel_rfl) ?_
          obtain ⟨r9, hr9, h⟩ := obind h
          refine awl_big (big_nat (n_Add64 hr9) (fun _ => rv_tup2) (by kernel_rfl) (by kernel_rfl)) (by kernel_rfl) ?_
          refine awl_u hT m_wide_Div [] 5 (by kernel_rfl) ?_
          refine awl_nil ?_
          refine aw_regU hT m_wide_Div [] (by kernel_rfl) (tn_n ?_)
          cases h
          exact jr (by kernel_rfl)
        · refine aw_skip (tn_n ?_)
          cases h
          exact jr (by kernel_rfl)
      · have h := g6
        refine aw_seq ?_
        refine aw_sreg ?_
        obtain ⟨x11, hx11, h⟩ := letE h
        refine awl_u hT m_wide_Div [] 7 (by kernel_rfl) ?_
        refine awl_nms [(80, (eB x11))] (by subst hx11; kernel_rfl) ?_
        obtain ⟨r12, hr12, h⟩ := obind h
        refine awl_big (big_call [] (wide_signed_ok hr12) wide_signed_ok_c (by kernel_rfl) (by kernel_rfl)) (by kernel_rfl) ?_
        refine awl_u hT m_wide_Div [] 5 (by kernel_rfl) ?_
        refine awl_nil ?_
        refine aw_sregU hT m_wide_Div [] (by kernel_rfl) ?_
        refine aw_condH h (by kernel_rfl) (fun _ h => ?_) (fun _ h => ?_)
        · refine aw_sregU hT m_wide_Div [] (by kernel_rfl) ?_
          refine aw_ret (tn_r ?_)
          cases h
          exact fin_r (by kernel_rfl)
        · refine aw_skip (tn_n ?_)
          obtain ⟨p13, h, g13⟩ := obind h
          refine aw_joinT ⟨[en 4 (.ref 0 [] 0), en 14 (k64 p13)], [.var (S_api_Wide.enc r12.1)]⟩ ?_ ?_
          · refine aw_sregU hT m_wide_Div [] (by kernel_rfl) ?_
            refine aw_condH h (by kernel_rfl) (fun _ h => ?_) (fun _ h => ?_)
            · refine aw_regU hT m_wide_Div [] (by kernel_rfl) (tn_n ?_)
              cases h
              exact jr (by kernel_rfl)
            · refine aw_skip (tn_n ?_)
              cases h
              exact jr (by kernel_rfl)
          · have h := g13
            refine aw_sregU hT m_wide_Div [] (by kernel_rfl) ?_
            refine aw_ret ?_
            cases h
            exact fin_r (by kernel_rfl)

theorem wide_Div_ok_c : callable Try.prog 142 := ⟨_, Try.func142, by decide, rfl⟩

/-! umbra/fix.Div -/
def p_fix_Div (N : Nat) (a0 : Int) (a1 : Int) : Option (Int) :=
  cond (a1 == 0) (
    cond (decide (a0 > 0)) (
      some 9223372036854775807) (
      cond (decide (a0 < 0)) (some (-9223372036854775808)) (some 0))) (
    Option.bind (p_wide_Mul N a0 4294967296) fun r1 =>
    Option.bind (p_wide_Div N r1 a1) fun r2 =>
    Option.bind (p_fix_near N r2.1) fun r3 =>
    some r3)

theorem fix_Div_ok {N : Nat} {a0 : Int} {a1 : Int} {r : Int} (h : p_fix_Div N a0 a1 = some r) : FnM Try.prog 85 [] [(j64 a0), (j64 a1)] (j64 r) [] := by
  unfold p_fix_Div at h
  refine fnM_of_aw (m := 26) (lo := 0) (rs := [.tmp 4]) hT Try.func85 rfl (by kernel_rfl) rfl ?_
  refine aw_sregU hT m_no [] (by kernel_rfl) ?_
  refine aw_seq ?_
  refine aw_sregU hT m_no [] (by kernel_rfl) ?_
  refine aw_condH h (by kernel_rfl) (fun _ h => ?_) (fun _ h => ?_)
  · refine aw_seq ?_
    refine aw_block ?_
    refine aw_sregU hT m_no [] (by kernel_rfl) ?_
    refine aw_condH h (by kernel_rfl) (fun _ h => ?_) (fun _ h => ?_)
    · refine aw_sregU hT m_no [] (by kernel_rfl) ?_
      refine aw_ret (inB_r (tn_r (tn_r ?_)))
      cases h
      exact fin_r (by kernel_rfl)
    · refine aw_sregU hT m_no [] (by kernel_rfl) ?_
      refine aw_condH h (by kernel_rfl) (fun _ h => ?_) (fun _ h => ?_)
      · refine aw_sregU hT m_no [] (by kernel_rfl) ?_
        refine aw_ret (inB_r (tn_r (tn_r ?_)))
        cases h
        exact fin_r (by kernel_rfl)
      · refine aw_skip (inB_n (tn_n ?_))
        refine aw_sregU hT m_no [] (by kernel_rfl) ?_
        refine aw_ret (tn_r ?_)
        cases h
        exact fin_r (by kernel_rfl)
  · refine aw_skip (tn_n ?_)
    refine aw_sreg ?_
    refine awl_u hT m_no [] 1 (by kernel_rfl) ?_
    obtain ⟨r1, hr1, h⟩ := obind h
    refine awl_big (big_call [] (wide_Mul_ok hr1) wide_Mul_ok_c (by kernel_rfl) (by kernel_rfl)) (by kernel_rfl) ?_
    refine awl_u hT m_no [] 1 (by kernel_rfl) ?_
    obtain ⟨r2, hr2, h⟩ := obind h
    refine awl_big (big_call [] (wide_Div_ok hr2) wide_Div_ok_c (by kernel_rfl) (by kernel_rfl)) (by kernel_rfl) ?_
    refine awl_u hT m_no [] 8 (by kernel_rfl) ?_
    refine awl_nil ?_
    refine aw_sreg ?_
    refine awl_u hT m_no [] 1 (by kernel_rfl) ?_
    obtain ⟨r3, hr3, h⟩ := obind h
    refine awl_big (big_call [] (fix_near_ok hr3) fix_near_ok_c (by kernel_rfl) (by kernel_rfl)) (by kernel_rfl) ?_
    refine awl_u hT m_no [] 1 (by kernel_rfl) ?_
    refine awl_nil ?_
    refine aw_ret ?_
    cases h
    exact fin_r (by kernel_rfl)

theorem fix_Div_ok_c : callable Try.prog 85 := ⟨_, Try.func85, by decide, rfl⟩

/-! umbra/wide.Of -/
def p_wide_Of (N : Nat) (a0 : Int) : Option (S_api_Wide) :=
  some (S_api_Wide.mk (shr .i64 a0 63) (U64 a0))

theorem wide_Of_ok {N : Nat} {a0 : Int} {r : S_api_Wide} (h : p_wide_Of N a0 = some r) : FnM Try.prog 170 [] [(j64 a0)] (S_api_Wide.enc r) [] := by
  unfold p_wide_Of at h
  refine fnM_of_aw (m := 8) (lo := 0) (rs := [.cell 2 192]) hT Try.func170 rfl (by kernel_rfl) rfl ?_
  refine aw_sregU hT m_no [] (by kernel_rfl) ?_
  refine aw_sregU hT m_no [] (by kernel_rfl) ?_
  refine aw_ret ?_
  cases h
  exact fin_r (by kernel_rfl)

theorem wide_Of_ok_c : callable Try.prog 170 := ⟨_, Try.func170, by decide, rfl⟩

/-! umbra/wide.Shr -/
def m_wide_Shr : Nat → Bool := imL [2]

def p_wide_Shr (N : Nat) (a0 : S_api_Wide) (a1 : Int) : Option (S_api_Wide) :=
  letO (decide ((imax a1 0) ≥ 64)) fun x1 =>
  cond x1 (
    letO (imin (I64 ((imax a1 0) - 64)) 63) fun x3 =>
    Option.bind (shrO .i64 a0.gHi x3) fun x4 =>
    Option.bind (p_wide_Of N x4) fun r5 =>
    some r5) (
    cond ((imax a1 0) == 0) (
      some a0) (
      Option.bind (shrO .i64 a0.gHi (imax a1 0)) fun x6 =>
      Option.bind (shrO .u64 a0.gLo (imax a1 0)) fun x7 =>
      Option.bind (shlO .u64 (U64 a0.gHi) (I64 (64 - (imax a1 0)))) fun x8 =>
      some (S_api_Wide.mk x6 (bor .u64 x7 x8))))

theorem wide_Shr_ok {N : Nat} {a0 : S_api_Wide} {a1 : Int} {r : S_api_Wide} (h : p_wide_Shr N a0 a1 = some r) : FnM Try.prog 140 [] [(S_api_Wide.enc a0), (j64 a1)] (S_api_Wide.enc r) [] := by
  unfold p_wide_Shr at h
  refine fnM_of_aw (m := 35) (lo := 0) (rs := [.cell 4 192]) hT Try.func140 rfl (by kernel_rfl) rfl ?_
  refine aw_sregU hT m_wide_Shr [] (by kernel_rfl) ?_
  refine aw_sregU hT m_wide_Shr [] (by kernel_rfl) ?_
  refine aw_seq ?_
  obtain ⟨x1, hx1, h⟩ := letE h
  refine aw_sregU hT m_wide_Shr [] (by kernel_rfl) ?_
  refine aw_nms [(8, (eB x1))] (by subst hx1; kernel_rfl) ?_
  refine aw_condH h (by kernel_rfl) (fun _ h => ?_) (fun _ h => ?_)
  · refine aw_sreg ?_
    obtain ⟨x3, hx3, h⟩ := letE h
    refine awl_u hT m_wide_Shr [] 5 (by kernel_rfl) ?_
    refine awl_nms [(13, (j64 x3))] (by subst hx3; kernel_rfl) ?_
    obtain ⟨x4, hx4, h⟩ := obind h
    refine awl_big (big_shr hT (k' := .i64) hx4 (by kernel_rfl) (by kernel_rfl)) (by kernel_rfl) ?_
    obtain ⟨r5, hr5, h⟩ := obind h
    refine awl_big (big_call [] (wide_Of_ok hr5) wide_Of_ok_c (by kernel_rfl) (by kernel_rfl)) (by kernel_rfl) ?_
    refine awl_u hT m_wide_Shr [] 1 (by kernel_rfl) ?_
    refine awl_nil ?_
    refine aw_ret (tn_r ?_)
    cases h
    exact fin_r (by kernel_rfl)
  · refine aw_skip (tn_n ?_)
    refine aw_seq ?_
    refine aw_sregU hT m_wide_Shr [] (by kernel_rfl) ?_
    refine aw_condH h (by kernel_rfl) (fun _ h => ?_) (fun _ h => ?_)
    · refine aw_sregU hT m_wide_Shr [] (by kernel_rfl) ?_
      refine aw_ret (tn_r ?_)
      cases h
      exact fin_r (by kernel_rfl)
    · refine aw_skip (tn_n ?_)
      obtain ⟨x6, hx6, h⟩ := obind h
      obtain ⟨x7, hx7, h⟩ := obind h
      obtain ⟨x8, hx8, h⟩ := obind h
      refine aw_sdrawV hT hmo m_wide_Shr [(3, (j64 x6)), (7, (k64 x7)), (13, (k64 x8))] [] (by kernel_rfl) (by kernel_rfl) (by kernel_rfl) ⟨fun _ => big_shr hT (k' := .i64) hx6 (by kernel_rfl) (by kernel_rfl), fun _ => big_shr hT (k' := .i64) hx7 (by kernel_rfl) (by kernel_rfl), fun _ => big_shl hT (k' := .i64) hx8 (by kernel_rfl) (by kernel_rfl), trivial⟩ trivial ?_
      refine aw_ret ?_
      cases h
      exact fin_r (by kernel_rfl)

theorem wide_Shr_ok_c : callable Try.prog 140 := ⟨_, Try.func140, by decide, rfl⟩

/-! umbra/fix.Mul -/
def p_fix_Mul_L1 (N : Nat) (a0 : (List Int)) : Nat → Int → Int → Option (Int)
  | 0, _, _ => none
  | k + 1, s2, s3 =>
    letO (decide (s3 < ((a0.length : Int)))) fun x4 =>
    cond x4 (
      Option.bind (Option.bind (idx a0 s3) fun e6 =>
      cond (s3 == 0) (
        some e6) (
        Option.bind (p_wide_Mul N s2 e6) fun r7 =>
        Option.bind (p_wide_Shr N r7 32) fun r8 =>
        Option.bind (p_fix_near N r8) fun r9 =>
        some r9)) fun p5 =>
      p_fix_Mul_L1 N a0 k p5 (I64 (s3 + 1))) (
      some s2)

def p_fix_Mul (N : Nat) (a0 : (List Int)) : Option (Int) :=
  Option.bind (p_fix_Mul_L1 N a0 N 4294967296 0) fun p1 =>
  some p1

theorem fix_Mul_ok {N : Nat} {a0 : (List Int)} {r : Int} (h : p_fix_Mul N a0 = some r) : FnM Try.prog 84 [] [(eL 1 j64 a0)] (j64 r) [] := by
  unfold p_fix_Mul at h
  refine fnM_of_aw (m := 23) (lo := 0) (rs := [.tmp 2]) hT Try.func84 rfl (by kernel_rfl) rfl ?_
  refine aw_sregU hT m_no [] (by kernel_rfl) ?_
  refine aw_sregU hT m_no [] (by kernel_rfl) ?_
  refine aw_seq ?_
  refine aw_sregU hT m_no [] (by kernel_rfl) ?_
  obtain ⟨p1, h, g1⟩ := obind h
  refine aw_joinTK ⟨[en 3 (j64 p1)], []⟩ ?_ ?_
  · refine aw_block (aw_loop (fun k s => ∃ s2 s3, p_fix_Mul_L1 N a0 k s2 s3 = some p1 ∧ JR (Fr.f 23 0) ⟨[en 3 (j64 s2), en 6 (eL 1 j64 a0), en 7 (j64 ((a0.length : Int))), en 8 (j64 s3)], []⟩ s) (fun k s hI => ?_) N _ ⟨_, _, h, jr (by kernel_rfl)⟩)
    obtain ⟨s2, s3, h, hj⟩ := hI
    cases k with
    | zero => cases h
    | succ k =>
      refine aw_to _ hj ?_
      obtain ⟨x4, hx4, h⟩ := letE h
      refine aw_sregU hT m_no [] (by kernel_rfl) ?_
      refine aw_nms [(9, (eB x4))] (by subst hx4; kernel_rfl) ?_
      refine aw_seq ?_
      refine aw_condH h (by kernel_rfl) (fun _ h => ?_) (fun _ h => ?_)
      · refine aw_skip (tn_n ?_)
        obtain ⟨p5, h, g5⟩ := obind h
        refine aw_joinT ⟨[en 3 (j64 p5), en 6 (eL 1 j64 a0), en 7 (j64 ((a0.length : Int))), en 8 (j64 s3)], []⟩ ?_ ?_
        · refine aw_block ?_
          refine aw_sreg ?_
          refine awl_u hT m_no [] 1 (by kernel_rfl) ?_
          obtain ⟨e6, he6, h⟩ := obind h
          refine awl_big (big_idx hT j64 he6 (by kernel_rfl) (by kernel_rfl)) (by kernel_rfl) ?_
          refine awl_u hT m_no [] 3 (by kernel_rfl) ?_
          refine awl_nil ?_
          refine aw_seq ?_
          refine aw_sregU hT m_no [] (by kernel_rfl) ?_
          refine aw_condH h (by kernel_rfl) (fun _ h => ?_) (fun _ h => ?_)
          · refine aw_sregU hT m_no [] (by kernel_rfl) ?_
            refine aw_exit (tn_x (inB_e (tn_n ?_)))
            cases h
            exact jr (by kernel_rfl)
          · refine aw_skip (tn_n ?_)
            refine aw_region ?_
            refine awl_u hT m_no [] 2 (by kernel_rfl) ?_
            obtain ⟨r7, hr7, h⟩ := obind h
            refine awl_big (big_call [] (wide_Mul_ok hr7) wide_Mul_ok_c (by kernel_rfl) (by kernel_rfl)) (by kernel_rfl) ?_
            obtain ⟨r8, hr8, h⟩ := obind h
            refine awl_big (big_call [] (wide_Shr_ok hr8) wide_Shr_ok_c (by kernel_rfl) (by kernel_rfl)) (by kernel_rfl) ?_
            obtain ⟨r9, hr9, h⟩ := obind h
            refine awl_big (big_call [] (fix_near_ok hr9) fix_near_ok_c (by kernel_rfl) (by kernel_rfl)) (by kernel_rfl) ?_
            refine awl_u hT m_no [] 1 (by kernel_rfl) ?_
            refine awl_nil (inB_n (tn_n ?_))
            cases h
            exact jr (by kernel_rfl)
        · have h := g5
          refine aw_regU hT m_no [] (by kernel_rfl) (tn_n ?_)
          exact ⟨k, Nat.lt_succ_self k, _, _, h, jr (by kernel_rfl)⟩
      · refine aw_exit (tn_x (tn_x (inB_e (tn_n ?_))))
        cases h
        exact jr (by kernel_rfl)
  · have h := g1
    refine (tn_n ?_)
    refine aw_sregU hT m_no [] (by kernel_rfl) ?_
    refine aw_ret ?_
    cases h
    exact fin_r (by kernel_rfl)

theorem fix_Mul_ok_c : callable Try.prog 84 := ⟨_, Try.func84, by decide, rfl⟩

/-! umbra/vec.Times$1 -/
def p_vec_Times_1 (N : Nat) (a0 : Int) (a1 : Int) : Option (Int) :=
  Option.bind (p_fix_Mul N ([a0, a1])) fun r1 =>
  some r1

theorem vec_Times_1_ok {N : Nat} {a0 : Int} {a1 : Int} {r : Int} (h : p_vec_Times_1 N a0 a1 = some r) : FnM Try.prog 182 [] [(j64 a0), (j64 a1)] (j64 r) [] := by
  unfold p_vec_Times_1 at h
  refine fnM_of_aw (m := 9) (lo := 0) (rs := [.tmp 4]) hT Try.func182 rfl (by kernel_rfl) rfl ?_
  refine aw_sregU hT m_no [] (by kernel_rfl) ?_
  refine aw_sreg ?_
  refine awl_u hT m_no [] 2 (by kernel_rfl) ?_
  refine awl_big (big_row hT (x := (.sl 1 2 [(j64 a0), (j64 a1)])) (by kernel_rfl) (by kernel_rfl)) (by kernel_rfl) ?_
  obtain ⟨r1, hr1, h⟩ := obind h
  refine awl_big (big_call [] (fix_Mul_ok hr1) fix_Mul_ok_c (by kernel_rfl) (by kernel_rfl)) (by kernel_rfl) ?_
  refine awl_u hT m_no [] 1 (by kernel_rfl) ?_
  refine awl_nil ?_
  refine aw_ret ?_
  cases h
  exact fin_r (by kernel_rfl)

theorem vec_Times_1_ok_c : callable Try.prog 182 := ⟨_, Try.func182, by decide, rfl⟩

/-! umbra/vec.each -/
def m_vec_each_v1 : Nat → Bool := imL [3, 4]

def p_vec_each_v1 (N : Nat) (a0 : S_api_Vec) (a1 : S_api_Vec) : Option (S_api_Vec) :=
  Option.bind (p_vec_Times_1 N a0.gX a1.gX) fun r1 =>
  Option.bind (p_vec_Times_1 N a0.gY a1.gY) fun r2 =>
  Option.bind (p_vec_Times_1 N a0.gZ a1.gZ) fun r3 =>
  some (S_api_Vec.mk r1 r2 r3)

theorem vec_each_v1_ok {N : Nat} {a0 : S_api_Vec} {a1 : S_api_Vec} {r : S_api_Vec} (h : p_vec_each_v1 N a0 a1 = some r) : FnM Try.prog 158 [] [(S_api_Vec.enc a0), (S_api_Vec.enc a1), (.fn (.func 182) [] [])] (S_api_Vec.enc r) [] := by
  unfold p_vec_each_v1 at h
  refine fnM_of_aw (m := 26) (lo := 0) (rs := [.cell 6 167]) hT Try.func158 rfl (by kernel_rfl) rfl ?_
  refine aw_sregU hT m_vec_each_v1 [] (by kernel_rfl) ?_
  obtain ⟨r1, hr1, h⟩ := obind h
  obtain ⟨r2, hr2, h⟩ := obind h
  obtain ⟨r3, hr3, h⟩ := obind h
  refine aw_sdrawV hT hmo m_vec_each_v1 [(5, (j64 r1)), (11, (j64 r2)), (17, (j64 r3))] [] (by kernel_rfl) (by kernel_rfl) (by kernel_rfl) ⟨fun _ => big_call0 (vec_Times_1_ok hr1) vec_Times_1_ok_c (by kernel_rfl) (by kernel_rfl) (by kernel_rfl), fun _ => big_call0 (vec_Times_1_ok hr2) vec_Times_1_ok_c (by kernel_rfl) (by kernel_rfl) (by kernel_rfl), fun _ => big_call0 (vec_Times_1_ok hr3) vec_Times_1_ok_c (by kernel_rfl) (by kernel_rfl) (by kernel_rfl), trivial⟩ trivial ?_
  refine aw_ret ?_
  cases h
  exact fin_r (by kernel_rfl)

theorem vec_each_v1_ok_c : callable Try.prog 158 := ⟨_, Try.func158, by decide, rfl⟩

/-! umbra/vec.Times -/
def p_vec_Times_L1 (N : Nat) (a0 : (List S_api_Vec)) : Nat → Int → Int → Int → Int → Option (Int × Int × Int)
  | 0, _, _, _, _ => none
  | k + 1, s2, s3, s4, s5 =>
    letO (decide (s5 < ((a0.length : Int)))) fun x6 =>
    cond x6 (
      Option.bind (idx a0 s5) fun e7 =>
      Option.bind (p_vec_each_v1 N (S_api_Vec.mk s2 s3 s4) e7) fun r8 =>
      p_vec_Times_L1 N a0 k r8.gX r8.gY r8.gZ (I64 (s5 + 1))) (
      some ((s2, s3, s4)))

def p_vec_Times (N : Nat) (a0 : (List S_api_Vec)) : Option (S_api_Vec) :=
  Option.bind (p_vec_Times_L1 N a0 N 4294967296 4294967296 4294967296 0) fun p1 =>
  some (S_api_Vec.mk p1.1 p1.2.1 p1.2.2)

theorem vec_Times_ok {N : Nat} {a0 : (List S_api_Vec)} {r : S_api_Vec} (h : p_vec_Times N a0 = some r) : FnM Try.prog 160 [] [(eL 3 S_api_Vec.enc a0)] (S_api_Vec.enc r) [] := by
  unfold p_vec_Times at h
  refine fnM_of_aw (m := 18) (lo := 0) (rs := [.cell 2 167]) hT Try.func160 rfl (by kernel_rfl) rfl ?_
  refine aw_sregU hT m_no [] (by kernel_rfl) ?_
  refine aw_sregU hT m_no [] (by kernel_rfl) ?_
  refine aw_seq ?_
  refine aw_sregU hT m_no [] (by kernel_rfl) ?_
  obtain ⟨p1, h, g1⟩ := obind h
  refine aw_joinTK ⟨[en 2 (.ref 0 [] 0), en 3 (.ref 1 [] 0)], [.var (.st 3 [(j64 0), (j64 0), (j64 0)]), .var (.st 3 [(j64 p1.1), (j64 p1.2.1), (j64 p1.2.2)])]⟩ ?_ ?_
  · refine aw_block (aw_loop (fun k s => ∃ s2 s3 s4 s5, p_vec_Times_L1 N a0 k s2 s3 s4 s5 = some p1 ∧ JR (Fr.f 18 0) ⟨[en 2 (.ref 0 [] 0), en 3 (.ref 1 [] 0), en 7 (eL 3 S_api_Vec.enc a0), en 8 (j64 ((a0.length : Int))), en 9 (j64 s5)], [.var (.st 3 [(j64 0), (j64 0), (j64 0)]), .var (.st 3 [(j64 s2), (j64 s3), (j64 s4)])]⟩ s) (fun k s hI => ?_) N _ ⟨_, _, _, _, h, jr (by kernel_rfl)⟩)
    obtain ⟨s2, s3, s4, s5, h, hj⟩ := hI
    cases k with
    | zero => cases h
    | succ k =>
      refine aw_to _ hj ?_
      obtain ⟨x6, hx6, h⟩ := letE h
      refine aw_sregU hT m_no [] (by kernel_rfl) ?_
      refine aw_nms [(10, (eB x6))] (by subst hx6; kernel_rfl) ?_
      refine aw_seq ?_
      refine aw_condH h (by kernel_rfl) (fun _ h => ?_) (fun _ h => ?_)
      · refine aw_skip (tn_n ?_)
        refine aw_seq ?_
        refine aw_block ?_
        refine aw_sreg ?_
        obtain ⟨e7, he7, h⟩ := obind h
        refine awl_big (big_idx hT S_api_Vec.enc he7 (by kernel_rfl) (by kernel_rfl)) (by kernel_rfl) ?_
        refine awl_u hT m_no [] 3 (by kernel_rfl) ?_
        refine awl_nil ?_
        refine aw_region ?_
        refine awl_u hT m_no [] 2 (by kernel_rfl) ?_
        obtain ⟨r8, hr8, h⟩ := obind h
        refine awl_big (big_call [] (vec_each_v1_ok hr8) vec_each_v1_ok_c (by kernel_rfl) (by kernel_rfl)) (by kernel_rfl) ?_
        refine awl_u hT m_no [] 1 (by kernel_rfl) ?_
        refine awl_nil (inB_n (tn_n ?_))
        refine aw_regU hT m_no [] (by kernel_rfl) (tn_n ?_)
        exact ⟨k, Nat.lt_succ_self k, _, _, _, _, h, jr (by kernel_rfl)⟩
      · refine aw_exit (tn_x (tn_x (inB_e (tn_n ?_))))
        cases h
        exact jr (by kernel_rfl)
  · have h := g1
    refine (tn_n ?_)
    refine aw_sregU hT m_no [] (by kernel_rfl) ?_
    refine aw_ret ?_
    cases h
    exact fin_r (by kernel_rfl)

theorem vec_Times_ok_c : callable Try.prog 160 := ⟨_, Try.func160, by decide, rfl⟩

/-! umbra/vec.Scale -/
def m_vec_Scale : Nat → Bool := imL [2]

def p_vec_Scale (N : Nat) (a0 : S_api_Vec) (a1 : Int) : Option (S_api_Vec) :=
  Option.bind (p_vec_Times N ([a0, S_api_Vec.mk a1 a1 a1])) fun r1 =>
  some r1

theorem vec_Scale_ok {N : Nat} {a0 : S_api_Vec} {a1 : Int} {r : S_api_Vec} (h : p_vec_Scale N a0 a1 = some r) : FnM Try.prog 121 [] [(S_api_Vec.enc a0), (j64 a1)] (S_api_Vec.enc r) [] := by
  unfold p_vec_Scale at h
  refine fnM_of_aw (m := 12) (lo := 0) (rs := [.cell 4 167]) hT Try.func121 rfl (by kernel_rfl) rfl ?_
  refine aw_sregU hT m_vec_Scale [] (by kernel_rfl) ?_
  refine aw_sreg ?_
  refine awl_u hT m_vec_Scale [] 5 (by kernel_rfl) ?_
  refine awl_big (big_row hT (x := (.sl 3 2 [(S_api_Vec.enc a0), (.st 3 [(j64 a1), (j64 a1), (j64 a1)])])) (by kernel_rfl) (by kernel_rfl)) (by kernel_rfl) ?_
  obtain ⟨r1, hr1, h⟩ := obind h
  refine awl_big (big_call [] (vec_Times_ok hr1) vec_Times_ok_c (by kernel_rfl) (by kernel_rfl)) (by kernel_rfl) ?_
  refine awl_u hT m_vec_Scale [] 1 (by kernel_rfl) ?_
  refine awl_nil ?_
  refine aw_ret ?_
  cases h
  exact fin_r (by kernel_rfl)

theorem vec_Scale_ok_c : callable Try.prog 121 := ⟨_, Try.func121, by decide, rfl⟩

/-! umbra/fix.Floor -/
def p_fix_Floor (N : Nat) (a0 : Int) : Option (Int) :=
  some (shr .i64 a0 32)

theorem fix_Floor_ok {N : Nat} {a0 : Int} {r : Int} (h : p_fix_Floor N a0 = some r) : FnM Try.prog 83 [] [(j64 a0)] (j64 r) [] := by
  unfold p_fix_Floor at h
  refine fnM_of_aw (m := 5) (lo := 0) (rs := [.tmp 2]) hT Try.func83 rfl (by kernel_rfl) rfl ?_
  refine aw_sregU hT m_no [] (by kernel_rfl) ?_
  refine aw_sregU hT m_no [] (by kernel_rfl) ?_
  refine aw_ret ?_
  cases h
  exact fin_r (by kernel_rfl)

theorem fix_Floor_ok_c : callable Try.prog 83 := ⟨_, Try.func83, by decide, rfl⟩

/-! umbra/film.Tone -/
def p_film_Tone (N : Nat) (a0 : Int) : Option (Int) :=
  cond (decide (a0 ≤ 0)) (
    some 0) (
    Option.bind (p_fix_Add N ([a0, 4294967296])) fun r1 =>
    Option.bind (p_fix_Div N a0 r1) fun r2 =>
    Option.bind (p_fix_Of N 65535) fun r3 =>
    Option.bind (p_fix_Mul N ([r2, r3])) fun r4 =>
    Option.bind (p_fix_Floor N r4) fun r5 =>
    some r5)

theorem film_Tone_ok {N : Nat} {a0 : Int} {r : Int} (h : p_film_Tone N a0 = some r) : FnM Try.prog 33 [] [(j64 a0)] (j64 r) [] := by
  unfold p_film_Tone at h
  refine fnM_of_aw (m := 14) (lo := 0) (rs := [.tmp 2]) hT Try.func33 rfl (by kernel_rfl) rfl ?_
  refine aw_sregU hT m_no [] (by kernel_rfl) ?_
  refine aw_seq ?_
  refine aw_sregU hT m_no [] (by kernel_rfl) ?_
  refine aw_condH h (by kernel_rfl) (fun _ h => ?_) (fun _ h => ?_)
  · refine aw_sregU hT m_no [] (by kernel_rfl) ?_
    refine aw_ret (tn_r ?_)
    cases h
    exact fin_r (by kernel_rfl)
  · refine aw_skip (tn_n ?_)
    refine aw_sreg ?_
    refine awl_u hT m_no [] 2 (by kernel_rfl) ?_
    refine awl_big (big_row hT (x := (.sl 1 2 [(j64 a0), (j64 4294967296)])) (by kernel_rfl) (by kernel_rfl)) (by kernel_rfl) ?_
    obtain ⟨r1, hr1, h⟩ := obind h
    refine awl_big (big_call [] (fix_Add_ok hr1) fix_Add_ok_c (by kernel_rfl) (by kernel_rfl)) (by kernel_rfl) ?_
    obtain ⟨r2, hr2, h⟩ := obind h
    refine awl_big (big_call [] (fix_Div_ok hr2) fix_Div_ok_c (by kernel_rfl) (by kernel_rfl)) (by kernel_rfl) ?_
    obtain ⟨r3, hr3, h⟩ := obind h
    refine awl_big (big_call [] (fix_Of_ok hr3) fix_Of_ok_c (by kernel_rfl) (by kernel_rfl)) (by kernel_rfl) ?_
    refine awl_big (big_row hT (x := (.sl 1 2 [(j64 r2), (j64 r3)])) (by kernel_rfl) (by kernel_rfl)) (by kernel_rfl) ?_
    obtain ⟨r4, hr4, h⟩ := obind h
    refine awl_big (big_call [] (fix_Mul_ok hr4) fix_Mul_ok_c (by kernel_rfl) (by kernel_rfl)) (by kernel_rfl) ?_
    obtain ⟨r5, hr5, h⟩ := obind h
    refine awl_big (big_call [] (fix_Floor_ok hr5) fix_Floor_ok_c (by kernel_rfl) (by kernel_rfl)) (by kernel_rfl) ?_
    refine awl_u hT m_no [] 1 (by kernel_rfl) ?_
    refine awl_nil ?_
    refine aw_ret ?_
    cases h
    exact fin_r (by kernel_rfl)

theorem film_Tone_ok_c : callable Try.prog 33 := ⟨_, Try.func33, by decide, rfl⟩

/-! umbra/film.three -/
def m_film_three_v0 : Nat → Bool := imL [2]

def p_film_three_v0 (N : Nat) (a0 : S_api_Vec) : Option ((Vector Int 3)) :=
  Option.bind (p_film_Tone N a0.gX) fun r1 =>
  Option.bind (p_film_Tone N a0.gY) fun r2 =>
  Option.bind (p_film_Tone N a0.gZ) fun r3 =>
  some (#v[r1, r2, r3])

theorem film_three_v0_ok {N : Nat} {a0 : S_api_Vec} {r : (Vector Int 3)} (h : p_film_three_v0 N a0 = some r) : FnM Try.prog 120 [] [(S_api_Vec.enc a0), (.fn (.func 33) [] [])] (eA 3 1 j64 r) [] := by
  unfold p_film_three_v0 at h
  refine fnM_of_aw (m := 18) (lo := 0) (rs := [.cell 4 140]) hT Try.func120 rfl (by kernel_rfl) rfl ?_
  refine aw_sregU hT m_film_three_v0 [] (by kernel_rfl) ?_
  obtain ⟨r1, hr1, h⟩ := obind h
  obtain ⟨r2, hr2, h⟩ := obind h
  obtain ⟨r3, hr3, h⟩ := obind h
  refine aw_sdrawV hT hmo m_film_three_v0 [(3, (j64 r1)), (7, (j64 r2)), (11, (j64 r3))] [] (by kernel_rfl) (by kernel_rfl) (by kernel_rfl) ⟨fun _ => big_call0 (film_Tone_ok hr1) film_Tone_ok_c (by kernel_rfl) (by kernel_rfl) (by kernel_rfl), fun _ => big_call0 (film_Tone_ok hr2) film_Tone_ok_c (by kernel_rfl) (by kernel_rfl) (by kernel_rfl), fun _ => big_call0 (film_Tone_ok hr3) film_Tone_ok_c (by kernel_rfl) (by kernel_rfl) (by kernel_rfl), trivial⟩ trivial ?_
  refine aw_ret ?_
  cases h
  exact fin_r (by kernel_rfl)

theorem film_three_v0_ok_c : callable Try.prog 120 := ⟨_, Try.func120, by decide, rfl⟩

/-! umbra/vec.Length$1 -/
def p_vec_Length_1 (N : Nat) (a0 : Int) : Option (S_api_Wide) :=
  Option.bind (p_wide_Mul N a0 a0) fun r1 =>
  some r1

theorem vec_Length_1_ok {N : Nat} {a0 : Int} {r : S_api_Wide} (h : p_vec_Length_1 N a0 = some r) : FnM Try.prog 183 [] [(j64 a0)] (S_api_Wide.enc r) [] := by
  unfold p_vec_Length_1 at h
  refine fnM_of_aw (m := 6) (lo := 0) (rs := [.cell 2 192]) hT Try.func183 rfl (by kernel_rfl) rfl ?_
  refine aw_sregU hT m_no [] (by kernel_rfl) ?_
  refine aw_sreg ?_
  refine awl_u hT m_no [] 2 (by kernel_rfl) ?_
  obtain ⟨r1, hr1, h⟩ := obind h
  refine awl_big (big_call [] (wide_Mul_ok hr1) wide_Mul_ok_c (by kernel_rfl) (by kernel_rfl)) (by kernel_rfl) ?_
  refine awl_u hT m_no [] 1 (by kernel_rfl) ?_
  refine awl_nil ?_
  refine aw_ret ?_
  cases h
  exact fin_r (by kernel_rfl)

theorem vec_Length_1_ok_c : callable Try.prog 183 := ⟨_, Try.func183, by decide, rfl⟩

/-! umbra/wide.Add -/
def p_wide_Add_L1 (N : Nat) (a0 : (List S_api_Wide)) : Nat → Int → Int → Int → Option (Sum (Int × Int) (S_api_Wide × Bool))
  | 0, _, _, _ => none
  | k + 1, s2, s3, s4 =>
    letO (decide (s4 < ((a0.length : Int)))) fun x5 =>
    cond x5 (
      Option.bind (idx a0 s4) fun e6 =>
      Option.bind (p_Add64 s3 e6.gLo 0) fun r7 =>
      Option.bind (p_Add64 (U64 s2) (U64 e6.gHi) r7.2) fun r8 =>
      letO ((decide (s2 < 0)) == (decide (e6.gHi < 0))) fun x9 =>
      letO (decide ((I64 r8.1) < 0)) fun x10 =>
      letO (!(x10 == (decide (e6.gHi < 0)))) fun x11 =>
      cond (cond x9 x11 false) (
        some (Sum.inr ((S_api_Wide.mk 0 0, false)))) (
        p_wide_Add_L1 N a0 k (I64 r8.1) r7.1 (I64 (s4 + 1)))) (
      some (Sum.inl ((s2, s3))))

def p_wide_Add (N : Nat) (a0 : (List S_api_Wide)) : Option (S_api_Wide × Bool) :=
  Option.bind (p_wide_Add_L1 N a0 N 0 0 0) fun o => sumC o (fun p1 =>
    some ((S_api_Wide.mk p1.1 p1.2, true))) (fun r => some r)

theorem wide_Add_ok {N : Nat} {a0 : (List S_api_Wide)} {r : S_api_Wide × Bool} (h : p_wide_Add N a0 = some r) : FnM Try.prog 184 [] [(eL 2 S_api_Wide.enc a0)] (.tup [(S_api_Wide.enc r.1), (eB r.2)]) [] := by
  unfold p_wide_Add at h
  refine fnM_of_aw (m := 59) (lo := 0) (rs := [.cell 2 192, .tmp 3]) hT Try.func184 rfl (by kernel_rfl) rfl ?_
  refine aw_sregU hT m_no [] (by kernel_rfl) ?_
  refine aw_seq ?_
  refine aw_sregU hT m_no [] (by kernel_rfl) ?_
  obtain ⟨op1, h, g1⟩ := obind h
  refine aw_joinSK (fun p1 => ⟨[en 2 (.ref 0 [] 0)], [.var (.st 2 [(j64 p1.1), (k64 p1.2)])]⟩) g1 ?_ (fun p1 h => ?_)
  · refine aw_block (aw_loop (fun k s => ∃ s2 s3 s4, p_wide_Add_L1 N a0 k s2 s3 s4 = some op1 ∧ JR (Fr.f 59 0) ⟨[en 2 (.ref 0 [] 0), en 11 (eL 2 S_api_Wide.enc a0), en 12 (j64 ((a0.length : Int))), en 13 (j64 s4)], [.var (.st 2 [(j64 s2), (k64 s3)])]⟩ s) (fun k s hI => ?_) N _ ⟨_, _, _, h, jr (by kernel_rfl)⟩)
    obtain ⟨s2, s3, s4, h, hj⟩ := hI
    cases k with
    | zero => cases h
    | succ k =>
      refine aw_to _ hj ?_
      obtain ⟨x5, hx5, h⟩ := letE h
      refine aw_sregU hT m_no [] (by kernel_rfl) ?_
      refine aw_nms [(14, (eB x5))] (by subst hx5; kernel_rfl) ?_
      refine aw_seq ?_
      refine aw_condH h (by kernel_rfl) (fun _ h => ?_) (fun _ h => ?_)
      · refine aw_skip (tn_n ?_)
        refine aw_seq ?_
        refine aw_block ?_
        refine aw_sreg ?_
        obtain ⟨e6, he6, h⟩ := obind h
        refine awl_big (big_idx hT S_api_Wide.enc he6 (by kernel_rfl) (by kernel_rfl)) (by kernel_rfl) ?_
        refine awl_u hT m_no [] 3 (by kernel_rfl) ?_
        refine awl_nil ?_
        refine aw_sreg ?_
        refine awl_u hT m_no [] 4 (by kernel_rfl) ?_
        obtain ⟨r7, hr7, h⟩ := obind h
        refine awl_big (big_nat (n_Add64 hr7) (fun _ => rv_tup2) (by kernel_rfl) (by kernel_rfl)) (by kernel_rfl) ?_
        refine awl_u hT m_no [] 5 (by kernel_rfl) ?_
        refine awl_nil ?_
        refine aw_sreg ?_
        refine awl_u hT m_no [] 7 (by kernel_rfl) ?_
        obtain ⟨r8, hr8, h⟩ := obind h
        refine awl_big (big_nat (n_Add64 hr8) (fun _ => rv_tup2) (by kernel_rfl) (by kernel_rfl)) (by kernel_rfl) ?_
        refine awl_u hT m_no [] 5 (by kernel_rfl) ?_
        refine awl_nil ?_
        refine aw_sregU hT m_no [] (by kernel_rfl) ?_
        refine aw_seq ?_
        obtain ⟨x9, hx9, h⟩ := letE h
        obtain ⟨x10, hx10, h⟩ := letE h
        obtain ⟨x11, hx11, h⟩ := letE h
        refine aw_sregU hT m_no [] (by kernel_rfl) ?_
        refine aw_nms [(52, (eB (cond x9 x11 false)))] (by subst hx11 hx10 hx9; kernel_rfl) ?_
        refine aw_condH h (by kernel_rfl) (fun _ h => ?_) (fun _ h => ?_)
        · refine aw_sregU hT m_no [] (by kernel_rfl) ?_
          cases h
          have h := g1
          refine aw_ret (tn_r (inB_r (tn_r (tn_r (inB_r (tn_r (tn_r ?_)))))))
          obtain rfl := sum_e h
          exact fin_r (by kernel_rfl)
        · refine aw_skip (tn_n ?_)
          refine aw_regU hT m_no [] (by kernel_rfl) (inB_n (tn_n ?_))
          refine aw_regU hT m_no [] (by kernel_rfl) (tn_n ?_)
          exact ⟨k, Nat.lt_succ_self k, _, _, _, h, jr (by kernel_rfl)⟩
      · refine aw_exit (tn_x (tn_x (inB_e (tn_n ?_))))
        cases h
        exact ⟨_, rfl, jr (by kernel_rfl)⟩
  · refine (tn_n ?_)
    refine aw_sregU hT m_no [] (by kernel_rfl) ?_
    refine aw_ret ?_
    cases h
    exact fin_r (by kernel_rfl)

theorem wide_Add_ok_c : callable Try.prog 184 := ⟨_, Try.func184, by decide, rfl⟩

/-! umbra/wide.Sqrt -/
def m_wide_Sqrt : Nat → Bool := imL [1]

def p_wide_Sqrt_L1 (N : Nat) (a0 : S_api_Wide) : Nat → Int → Int → Option (Int)
  | 0, _, _ => none
  | k + 1, s2, s3 =>
    cond (decide (s3 < 64)) (
      Option.bind (Option.bind (shlO .u64 1 (I64 (63 - s3))) fun x5 =>
      Option.bind (p_math_bits_Mul64 N (bor .u64 s2 x5) (bor .u64 s2 x5)) fun r6 =>
      Option.bind (letO (decide (r6.1 < (U64 a0.gHi))) fun x8 =>
      cond x8 (
        some true) (
        letO (cond (r6.1 == (U64 a0.gHi)) (decide (r6.2 ≤ a0.gLo)) false) fun x9 =>
        some x9)) fun p7 =>
      cond p7 (some (bor .u64 s2 x5)) (some s2)) fun p4 =>
      p_wide_Sqrt_L1 N a0 k p4 (I64 (s3 + 1))) (
      some s2)

def p_wide_Sqrt (N : Nat) (a0 : S_api_Wide) : Option (Int) :=
  cond (decide (a0.gHi < 0)) (
    some 0) (
    Option.bind (p_wide_Sqrt_L1 N a0 N 0 0) fun p1 =>
    some p1)

theorem wide_Sqrt_ok {N : Nat} {a0 : S_api_Wide} {r : Int} (h : p_wide_Sqrt N a0 = some r) : FnM Try.prog 185 [] [(S_api_Wide.enc a0)] (k64 r) [] := by
  unfold p_wide_Sqrt at h
  refine fnM_of_aw (m := 46) (lo := 0) (rs := [.tmp 2]) hT Try.func185 rfl (by kernel_rfl) rfl ?_
  refine aw_sregU hT m_wide_Sqrt [] (by kernel_rfl) ?_
  refine aw_seq ?_
  refine aw_sregU hT m_wide_Sqrt [] (by kernel_rfl) ?_
  refine aw_condH h (by kernel_rfl) (fun _ h => ?_) (fun _ h => ?_)
  · refine aw_sregU hT m_wide_Sqrt [] (by kernel_rfl) ?_
    refine aw_ret (tn_r ?_)
    cases h
    exact fin_r (by kernel_rfl)
  · refine aw_skip (tn_n ?_)
    refine aw_sregU hT m_wide_Sqrt [] (by kernel_rfl) ?_
    refine aw_seq ?_
    refine aw_sregU hT m_wide_Sqrt [] (by kernel_rfl) ?_
    obtain ⟨p1, h, g1⟩ := obind h
    refine aw_joinTK ⟨[en 3 (k64 p1)], []⟩ ?_ ?_
    · refine aw_block (aw_loop (fun k s => ∃ s2 s3, p_wide_Sqrt_L1 N a0 k s2 s3 = some p1 ∧ JR (Fr.f 46 0) ⟨[en 1 (.im (S_api_Wide.enc a0)), en 3 (k64 s2), en 11 (j64 s3)], []⟩ s) (fun k s hI => ?_) N _ ⟨_, _, h, jr (by kernel_rfl)⟩)
      obtain ⟨s2, s3, h, hj⟩ := hI
      cases k with
      | zero => cases h
      | succ k =>
        refine aw_to _ hj ?_
        refine aw_sregU hT m_wide_Sqrt [] (by kernel_rfl) ?_
        refine aw_seq ?_
        refine aw_condH h (by kernel_rfl) (fun _ h => ?_) (fun _ h => ?_)
        · refine aw_skip (tn_n ?_)
          obtain ⟨p4, h, g4⟩ := obind h
          refine aw_joinT ⟨[en 1 (.im (S_api_Wide.enc a0)), en 3 (k64 p4), en 11 (j64 s3)], []⟩ ?_ ?_
          · refine aw_block ?_
            refine aw_sregU hT m_wide_Sqrt [] (by kernel_rfl) ?_
            refine aw_sreg ?_
            refine awl_u hT m_wide_Sqrt [] 3 (by kernel_rfl) ?_
            obtain ⟨x5, hx5, h⟩ := obind h
            refine awl_big (big_shl hT (k' := .i64) hx5 (by kernel_rfl) (by kernel_rfl)) (by kernel_rfl) ?_
            refine awl_u hT m_wide_Sqrt [] 2 (by kernel_rfl) ?_
            refine awl_nil ?_
            refine aw_sreg ?_
            refine awl_u hT m_wide_Sqrt [] 2 (by kernel_rfl) ?_
            obtain ⟨r6, hr6, h⟩ := obind h
            refine awl_big (big_call [] (math_bits_Mul64_ok hr6) math_bits_Mul64_ok_c (by kernel_rfl) (by kernel_rfl)) (by kernel_rfl) ?_
            refine awl_u hT m_wide_Sqrt [] 5 (by kernel_rfl) ?_
            refine awl_nil ?_
            obtain ⟨p7, h, g7⟩ := obind h
            refine aw_joinT ⟨[en 1 (.im (S_api_Wide.enc a0)), en 3 (k64 s2), en 5 (k64 (bor .u64 s2 x5)), en 11 (j64 s3), en 42 (eB p7)], []⟩ ?_ ?_
            · refine aw_region ?_
              obtain ⟨x8, hx8, h⟩ := letE h
              refine awl_u hT m_wide_Sqrt [] 6 (by kernel_rfl) ?_
              refine awl_nms [(30, (eB x8))] (by subst hx8; kernel_rfl) ?_
              refine awl_split 30 h (by kernel_rfl) (fun h => ?_) (fun h => ?_)
              · refine awl_u hT m_wide_Sqrt [30, 36] 12 (by kernel_rfl) ?_
                refine awl_nil (tn_n ?_)
                cases h
                exact jr (by kernel_rfl)
              · obtain ⟨x9, hx9, h⟩ := letE h
                refine awl_u hT m_wide_Sqrt [30] 12 (by kernel_rfl) ?_
                refine awl_nms [(42, (eB x9))] (by subst hx9; kernel_rfl) ?_
                refine awl_nil (tn_n ?_)
                cases h
                exact jr (by kernel_rfl)
            · have h := g7
              refine aw_condH h (by kernel_rfl) (fun _ h => ?_) (fun _ h => ?_)
              · refine aw_regU hT m_wide_Sqrt [] (by kernel_rfl) (inB_n (tn_n ?_))
                cases h
                exact jr (by kernel_rfl)
              · refine aw_skip (inB_n (tn_n ?_))
                cases h
                exact jr (by kernel_rfl)
          · have h := g4
            refine aw_regU hT m_wide_Sqrt [] (by kernel_rfl) (tn_n ?_)
            exact ⟨k, Nat.lt_succ_self k, _, _, h, jr (by kernel_rfl)⟩
        · refine aw_exit (tn_x (tn_x (inB_e (tn_n ?_))))
          cases h
          exact jr (by kernel_rfl)
    · have h := g1
      refine (tn_n ?_)
      refine aw_sregU hT m_wide_Sqrt [] (by kernel_rfl) ?_
      refine aw_ret ?_
      cases h
      exact fin_r (by kernel_rfl)

theorem wide_Sqrt_ok_c : callable Try.prog 185 := ⟨_, Try.func185, by decide, rfl⟩

/-! umbra/vec.Length -/
def m_vec_Length : Nat → Bool := imL [1]

def p_vec_Length (N : Nat) (a0 : S_api_Vec) : Option (Int) :=
  Option.bind (p_vec_Length_1 N a0.gX) fun r1 =>
  Option.bind (p_vec_Length_1 N a0.gY) fun r2 =>
  Option.bind (p_vec_Length_1 N a0.gZ) fun r3 =>
  Option.bind (p_wide_Add N ([r1, r2, r3])) fun r4 =>
  cond (!r4.2) (
    some 9223372036854775807) (
    Option.bind (p_wide_Sqrt N r4.1) fun r5 =>
    letO (imin r5 9223372036854775807) fun x6 =>
    some (I64 x6))

theorem vec_Length_ok {N : Nat} {a0 : S_api_Vec} {r : Int} (h : p_vec_Length N a0 = some r) : FnM Try.prog 161 [] [(S_api_Vec.enc a0)] (j64 r) [] := by
  unfold p_vec_Length at h
  refine fnM_of_aw (m := 29) (lo := 0) (rs := [.tmp 2]) hT Try.func161 rfl (by kernel_rfl) rfl ?_
  refine aw_sregU hT m_vec_Length [] (by kernel_rfl) ?_
  refine aw_sregU hT m_vec_Length [] (by kernel_rfl) ?_
  obtain ⟨r1, hr1, h⟩ := obind h
  obtain ⟨r2, hr2, h⟩ := obind h
  obtain ⟨r3, hr3, h⟩ := obind h
  obtain ⟨r4, hr4, h⟩ := obind h
  refine aw_sdrawV hT hmo m_vec_Length [(3, (S_api_Wide.enc r1)), (7, (S_api_Wide.enc r2)), (11, (S_api_Wide.enc r3)), (12, (.sl 2 3 [(S_api_Wide.enc r1), (S_api_Wide.enc r2), (S_api_Wide.enc r3)])), (13, (.tup [(S_api_Wide.enc r4.1), (eB r4.2)]))] [] (by kernel_rfl) (by kernel_rfl) (by kernel_rfl) ⟨fun _ => big_call0 (vec_Length_1_ok hr1) vec_Length_1_ok_c (by kernel_rfl) (by kernel_rfl) (by kernel_rfl), fun _ => big_call0 (vec_Length_1_ok hr2) vec_Length_1_ok_c (by kernel_rfl) (by kernel_rfl) (by kernel_rfl), fun _ => big_call0 (vec_Length_1_ok hr3) vec_Length_1_ok_c (by kernel_rfl) (by kernel_rfl) (by kernel_rfl), fun _ => big_row hT (x := (.sl 2 3 [(S_api_Wide.enc r1), (S_api_Wide.enc r2), (S_api_Wide.enc r3)])) (by kernel_rfl) (by kernel_rfl), fun _ => big_call0 (wide_Add_ok hr4) wide_Add_ok_c (by kernel_rfl) (by kernel_rfl) (by kernel_rfl), trivial⟩ trivial ?_
  refine aw_seq ?_
  refine aw_sregU hT m_vec_Length [] (by kernel_rfl) ?_
  refine aw_condH h (by kernel_rfl) (fun _ h => ?_) (fun _ h => ?_)
  · refine aw_sregU hT m_vec_Length [] (by kernel_rfl) ?_
    refine aw_ret (tn_r ?_)
    cases h
    exact fin_r (by kernel_rfl)
  · refine aw_skip (tn_n ?_)
    refine aw_sreg ?_
    refine awl_u hT m_vec_Length [] 1 (by kernel_rfl) ?_
    obtain ⟨r5, hr5, h⟩ := obind h
    refine awl_big (big_call [] (wide_Sqrt_ok hr5) wide_Sqrt_ok_c (by kernel_rfl) (by kernel_rfl)) (by kernel_rfl) ?_
    obtain ⟨x6, hx6, h⟩ := letE h
    refine awl_u hT m_vec_Length [] 3 (by kernel_rfl) ?_
    refine awl_nms [(2, (j64 (I64 x6)))] (by subst hx6; kernel_rfl) ?_
    refine awl_nil ?_
    refine aw_ret ?_
    cases h
    exact fin_r (by kernel_rfl)

theorem vec_Length_ok_c : callable Try.prog 161 := ⟨_, Try.func161, by decide, rfl⟩

end Go.UK
