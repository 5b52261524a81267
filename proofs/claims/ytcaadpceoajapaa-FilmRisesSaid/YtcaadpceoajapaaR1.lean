/- A part of the proof: what the functions of the program compute. -/
import Derived.Test.YtcaadpceoajapaaRT
namespace Go.UK
open Go Go.Proofs
set_option maxRecDepth 20000
set_option linter.all false

attribute [local irreducible] owp awl aw FnM NatFn opS Stab TOK Big

/-! umbra/fix.Add -/
def p_fix_Add_L1 (N : Nat) (a0 : (List Int)) : Nat → Int → Int → Option (Int)
  | 0, _, _ => none
  | k + 1, s2, s3 =>
    letO (decide (s3 < ((a0.length : Int)))) fun x4 =>
    cond x4 (
      Option.bind (idx a0 s3) fun e5 =>
      Option.bind (letO (cond (decide (s2 > 0)) (decide (e5 > 0)) false) fun x7 =>
      letO (decide ((I64 (s2 + e5)) < 0)) fun x8 =>
      cond (cond x7 x8 false) (
        some 9223372036854775807) (
        letO (cond (decide (s2 < 0)) (decide (e5 < 0)) false) fun x9 =>
        letO (decide ((I64 (s2 + e5)) ≥ 0)) fun x10 =>
        cond (cond x9 x10 false) (some (-9223372036854775808)) (some (I64 (s2 + e5))))) fun p6 =>
      p_fix_Add_L1 N a0 k p6 (I64 (s3 + 1))) (
      some s2)

def p_fix_Add (N : Nat) (a0 : (List Int)) : Option (Int) :=
  Option.bind (p_fix_Add_L1 N a0 N 0 0) fun p1 =>
  some p1

theorem fix_Add_ok {N : Nat} {a0 : (List Int)} {r : Int} (h : p_fix_Add N a0 = some r) : FnM Try.prog 86 [] [(eL 1 j64 a0)] (j64 r) [] := by
  unfold p_fix_Add at h
  refine fnM_of_aw (m := 41) (lo := 0) (rs := [.tmp 2]) hT Try.func86 rfl (by kernel_rfl) rfl ?_
  refine aw_sregU hT m_no [] (by kernel_rfl) ?_
  refine aw_sregU hT m_no [] (by kernel_rfl) ?_
  refine aw_seq ?_
  refine aw_sregU hT m_no [] (by kernel_rfl) ?_
  obtain ⟨p1, h, g1⟩ := obind h
  refine aw_joinTK ⟨[en 3 (j64 p1)], []⟩ ?_ ?_
  · refine aw_block (aw_loop (fun k s => ∃ s2 s3, p_fix_Add_L1 N a0 k s2 s3 = some p1 ∧ JR (Fr.f 41 0) ⟨[en 3 (j64 s2), en 7 (eL 1 j64 a0), en 8 (j64 ((a0.length : Int))), en 9 (j64 s3)], []⟩ s) (fun k s hI => ?_) N _ ⟨_, _, h, jr (by kernel_rfl)⟩)
    obtain ⟨s2, s3, h, hj⟩ := hI
    cases k with
    | zero => cases h
    | succ k =>
      refine aw_to _ hj ?_
      obtain ⟨x4, hx4, h⟩ := letE h
      refine aw_sregU hT m_no [] (by kernel_rfl) ?_
      refine aw_nms [(10, (eB x4))] (by subst hx4; kernel_rfl) ?_
      refine aw_seq ?_
      refine aw_condH h (by kernel_rfl) (fun _ h => ?_) (fun _ h => ?_)
      · refine aw_skip (tn_n ?_)
        refine aw_seq ?_
        refine aw_block ?_
        refine aw_sreg ?_
        obtain ⟨e5, he5, h⟩ := obind h
        refine awl_big (big_idx hT j64 he5 (by kernel_rfl) (by kernel_rfl)) (by kernel_rfl) ?_
        refine awl_u hT m_no [] 2 (by kernel_rfl) ?_
        refine awl_nil ?_
        refine aw_sregU hT m_no [] (by kernel_rfl) ?_
        obtain ⟨p6, h, g6⟩ := obind h
        refine aw_joinT ⟨[en 6 (j64 p6), en 7 (eL 1 j64 a0), en 8 (j64 ((a0.length : Int))), en 9 (j64 s3)], []⟩ ?_ ?_
        · refine aw_block ?_
          obtain ⟨x7, hx7, h⟩ := letE h
          obtain ⟨x8, hx8, h⟩ := letE h
          refine aw_sregU hT m_no [] (by kernel_rfl) ?_
          refine aw_nms [(16, (eB (cond x7 x8 false)))] (by subst hx8 hx7; kernel_rfl) ?_
          refine aw_condH h (by kernel_rfl) (fun _ h => ?_) (fun _ h => ?_)
          · refine aw_regU hT m_no [] (by kernel_rfl) (inB_n (tn_n ?_))
            cases h
            exact jr (by kernel_rfl)
          · obtain ⟨x9, hx9, h⟩ := letE h
            obtain ⟨x10, hx10, h⟩ := letE h
            refine aw_sregU hT m_no [] (by kernel_rfl) ?_
            refine aw_nms [(27, (eB (cond x9 x10 false)))] (by subst hx10 hx9; kernel_rfl) ?_
            refine aw_condH h (by kernel_rfl) (fun _ h => ?_) (fun _ h => ?_)
            · refine aw_regU hT m_no [] (by kernel_rfl) (inB_n (tn_n ?_))
              cases h
              exact jr (by kernel_rfl)
            · refine aw_skip (inB_n (tn_n ?_))
              cases h
              exact jr (by kernel_rfl)
        · have h := g6
          refine aw_regU hT m_no [] (by kernel_rfl) (inB_n (tn_n ?_))
          refine aw_regU hT m_no [] (by kernel_rfl) (tn_n ?_)
          exact ⟨k, Nat.lt_succ_self k, _, _, h, jr (by kernel_rfl)⟩
      · refine aw_exit (tn_x (tn_x (inB_e (tn_n ?_))))
        cases h
        exact jr (by kernel_rfl)
  · have h := g1
    refine (tn_n ?_)
    refine aw_sregU hT m_no [] (by kernel_rfl) ?_
    refine aw_ret ?_
    cases h
    exact fin_r (by kernel_rfl)

theorem fix_Add_ok_c : callable Try.prog 86 := ⟨_, Try.func86, by decide, rfl⟩

/-! umbra/wide.size -/
def p_wide_size (N : Nat) (a0 : Int) : Option (Int × Bool) :=
  cond (decide (a0 < 0)) (some ((U64 (0 - (U64 a0)), true))) (some ((U64 a0, false)))

theorem wide_size_ok {N : Nat} {a0 : Int} {r : Int × Bool} (h : p_wide_size N a0 = some r) : FnM Try.prog 171 [] [(j64 a0)] (.tup [(k64 r.1), (eB r.2)]) [] := by
  unfold p_wide_size at h
  refine fnM_of_aw (m := 11) (lo := 0) (rs := [.tmp 2, .tmp 3]) hT Try.func171 rfl (by kernel_rfl) rfl ?_
  refine aw_sregU hT m_no [] (by kernel_rfl) ?_
  refine aw_seq ?_
  refine aw_sregU hT m_no [] (by kernel_rfl) ?_
  refine aw_condH h (by kernel_rfl) (fun _ h => ?_) (fun _ h => ?_)
  · refine aw_sregU hT m_no [] (by kernel_rfl) ?_
    refine aw_ret (tn_r ?_)
    cases h
    exact fin_r (by kernel_rfl)
  · refine aw_skip (tn_n ?_)
    refine aw_sregU hT m_no [] (by kernel_rfl) ?_
    refine aw_ret ?_
    cases h
    exact fin_r (by kernel_rfl)

theorem wide_size_ok_c : callable Try.prog 171 := ⟨_, Try.func171, by decide, rfl⟩

/-! math/bits.Mul64 -/
def p_math_bits_Mul64 (N : Nat) (a0 : Int) (a1 : Int) : Option (Int × Int) :=
  letO (band .u64 a0 4294967295) fun x1 =>
  letO (band .u64 a1 4294967295) fun x2 =>
  letO (U64 ((shr .u64 a0 32) * x2)) fun x3 =>
  letO (shr .u64 (U64 (x1 * x2)) 32) fun x4 =>
  letO (band .u64 (U64 (x3 + x4)) 4294967295) fun x5 =>
  letO (shr .u64 (U64 (x3 + x4)) 32) fun x6 =>
  letO (U64 (x1 * (shr .u64 a1 32))) fun x7 =>
  letO (U64 ((shr .u64 a0 32) * (shr .u64 a1 32))) fun x8 =>
  letO (shr .u64 (U64 (x5 + x7)) 32) fun x9 =>
  letO (U64 ((U64 (x8 + x6)) + x9)) fun x10 =>
  some ((x10, U64 (a0 * a1)))

theorem math_bits_Mul64_ok {N : Nat} {a0 : Int} {a1 : Int} {r : Int × Int} (h : p_math_bits_Mul64 N a0 a1 = some r) : FnM Try.prog 144 [] [(k64 a0), (k64 a1)] (.tup [(k64 r.1), (k64 r.2)]) [] := by
  unfold p_math_bits_Mul64 at h
  refine fnM_of_aw (m := 51) (lo := 0) (rs := [.tmp 4, .tmp 5]) hT Try.func144 rfl (by kernel_rfl) rfl ?_
  refine aw_sregU hT m_no [] (by kernel_rfl) ?_
  obtain ⟨x1, hx1, h⟩ := letE h
  refine aw_sregU hT m_no [] (by kernel_rfl) ?_
  refine aw_nms [(6, (k64 x1))] (by subst hx1; kernel_rfl) ?_
  refine aw_sregU hT m_no [] (by kernel_rfl) ?_
  obtain ⟨x2, hx2, h⟩ := letE h
  refine aw_sregU hT m_no [] (by kernel_rfl) ?_
  refine aw_nms [(8, (k64 x2))] (by subst hx2; kernel_rfl) ?_
  refine aw_sregU hT m_no [] (by kernel_rfl) ?_
  refine aw_sregU hT m_no [] (by kernel_rfl) ?_
  obtain ⟨x3, hx3, h⟩ := letE h
  obtain ⟨x4, hx4, h⟩ := letE h
  refine aw_sregU hT m_no [] (by kernel_rfl) ?_
  refine aw_nms [(11, (k64 (U64 (x3 + x4))))] (by subst hx4 hx3; kernel_rfl) ?_
  obtain ⟨x5, hx5, h⟩ := letE h
  refine aw_sregU hT m_no [] (by kernel_rfl) ?_
  refine aw_nms [(12, (k64 x5))] (by subst hx5; kernel_rfl) ?_
  obtain ⟨x6, hx6, h⟩ := letE h
  refine aw_sregU hT m_no [] (by kernel_rfl) ?_
  refine aw_nms [(13, (k64 x6))] (by subst hx6; kernel_rfl) ?_
  obtain ⟨x7, hx7, h⟩ := letE h
  refine aw_sregU hT m_no [] (by kernel_rfl) ?_
  refine aw_nms [(12, (k64 (U64 (x5 + x7))))] (by subst hx7; kernel_rfl) ?_
  obtain ⟨x8, hx8, h⟩ := letE h
  obtain ⟨x9, hx9, h⟩ := letE h
  obtain ⟨x10, hx10, h⟩ := letE h
  refine aw_sregU hT m_no [] (by kernel_rfl) ?_
  refine aw_nms [(4, (k64 x10))] (by subst hx10 hx9 hx8; kernel_rfl) ?_
  refine aw_sregU hT m_no [] (by kernel_rfl) ?_
  refine aw_ret ?_
  cases h
  exact fin_r (by kernel_rfl)

theorem math_bits_Mul64_ok_c : callable Try.prog 144 := ⟨_, Try.func144, by decide, rfl⟩

theorem n_Sub64 {x y c : Int} {r : Int × Int} (h : p_Sub64 x y c = some r) : NatFn Try.prog 201 [.int .u64 x, .int .u64 y, .int .u64 c] (.tuple #[.int .u64 r.1, .int .u64 r.2]) :=
  nat_Sub64 Try.func201 (by kernel_rfl) (by kernel_rfl) (by kernel_rfl) (by kernel_rfl) h

/-! umbra/wide.turned -/
def p_wide_turned (N : Nat) (a0 : Int) (a1 : Int) : Option (Int × Int) :=
  Option.bind (p_Sub64 0 a1 0) fun r1 =>
  Option.bind (p_Sub64 0 a0 r1.2) fun r2 =>
  some ((r2.1, r1.1))

theorem wide_turned_ok {N : Nat} {a0 : Int} {a1 : Int} {r : Int × Int} (h : p_wide_turned N a0 a1 = some r) : FnM Try.prog 173 [] [(k64 a0), (k64 a1)] (.tup [(k64 r.1), (k64 r.2)]) [] := by
  unfold p_wide_turned at h
  refine fnM_of_aw (m := 20) (lo := 0) (rs := [.tmp 4, .tmp 5]) hT Try.func173 rfl (by kernel_rfl) rfl ?_
  refine aw_sregU hT m_no [] (by kernel_rfl) ?_
  refine aw_sreg ?_
  refine awl_u hT m_no [] 1 (by kernel_rfl) ?_
  obtain ⟨r1, hr1, h⟩ := obind h
  refine awl_big (big_nat (n_Sub64 hr1) (fun _ => rv_tup2) (by kernel_rfl) (by kernel_rfl)) (by kernel_rfl) ?_
  refine awl_u hT m_no [] 5 (by kernel_rfl) ?_
  refine awl_nil ?_
  refine aw_sreg ?_
  refine awl_u hT m_no [] 2 (by kernel_rfl) ?_
  obtain ⟨r2, hr2, h⟩ := obind h
  refine awl_big (big_nat (n_Sub64 hr2) (fun _ => rv_tup2) (by kernel_rfl) (by kernel_rfl)) (by kernel_rfl) ?_
  refine awl_u hT m_no [] 4 (by kernel_rfl) ?_
  refine awl_nil ?_
  refine aw_sregU hT m_no [] (by kernel_rfl) ?_
  refine aw_ret ?_
  cases h
  exact fin_r (by kernel_rfl)

theorem wide_turned_ok_c : callable Try.prog 173 := ⟨_, Try.func173, by decide, rfl⟩

/-! umbra/wide.signed -/
def p_wide_signed (N : Nat) (a0 : Int) (a1 : Int) (a2 : Bool) : Option (S_api_Wide × Bool) :=
  Option.bind (cond a2 (
    Option.bind (p_wide_turned N a0 a1) fun r2 =>
    some ((r2.1, r2.2))) (
    some ((a0, a1)))) fun p1 =>
  letO (decide ((I64 p1.1) < 0)) fun x3 =>
  letO ((bor .u64 p1.1 p1.2) == 0) fun x4 =>
  letO (cond (x3 == a2) true x4) fun x5 =>
  some ((S_api_Wide.mk (I64 p1.1) p1.2, x5))

theorem wide_signed_ok {N : Nat} {a0 : Int} {a1 : Int} {a2 : Bool} {r : S_api_Wide × Bool} (h : p_wide_signed N a0 a1 a2 = some r) : FnM Try.prog 172 [] [(k64 a0), (k64 a1), (eB a2)] (.tup [(S_api_Wide.enc r.1), (eB r.2)]) [] := by
  unfold p_wide_signed at h
  refine fnM_of_aw (m := 32) (lo := 0) (rs := [.cell 6 192, .tmp 7]) hT Try.func172 rfl (by kernel_rfl) rfl ?_
  refine aw_sregU hT m_no [] (by kernel_rfl) ?_
  obtain ⟨p1, h, g1⟩ := obind h
  refine aw_joinT ⟨[en 0 (k64 p1.1), en 1 (k64 p1.2), en 2 (eB a2), en 6 (.ref 0 [] 0)], [.var (.st 2 [(j64 0), (k64 0)])]⟩ ?_ ?_
  · refine aw_sregU hT m_no [] (by kernel_rfl) ?_
    refine aw_condH h (by kernel_rfl) (fun _ h => ?_) (fun _ h => ?_)
    · refine aw_region ?_
      refine awl_u hT m_no [] 2 (by kernel_rfl) ?_
      obtain ⟨r2, hr2, h⟩ := obind h
      refine awl_big (big_call [] (wide_turned_ok hr2) wide_turned_ok_c (by kernel_rfl) (by kernel_rfl)) (by kernel_rfl) ?_
      refine awl_u hT m_no [] 5 (by kernel_rfl) ?_
      refine awl_nil (tn_n ?_)
      cases h
      exact jr (by kernel_rfl)
    · refine aw_skip (tn_n ?_)
      cases h
      exact jr (by kernel_rfl)
  · have h := g1
    refine aw_sregU hT m_no [] (by kernel_rfl) ?_
    obtain ⟨x3, hx3, h⟩ := letE h
    obtain ⟨x4, hx4, h⟩ := letE h
    obtain ⟨x5, hx5, h⟩ := letE h
    refine aw_sregU hT m_no [] (by kernel_rfl) ?_
    refine aw_nms [(7, (eB x5))] (by subst hx5 hx4 hx3; kernel_rfl) ?_
    refine aw_ret ?_
    cases h
    exact fin_r (by kernel_rfl)

theorem wide_signed_ok_c : callable Try.prog 172 := ⟨_, Try.func172, by decide, rfl⟩

/-! umbra/wide.Mul -/
def p_wide_Mul (N : Nat) (a0 : Int) (a1 : Int) : Option (S_api_Wide) :=
  Option.bind (p_wide_size N a0) fun r1 =>
  Option.bind (p_wide_size N a1) fun r2 =>
  Option.bind (p_math_bits_Mul64 N r1.1 r2.1) fun r3 =>
  Option.bind (p_wide_signed N r3.1 r3.2 (!(r1.2 == r2.2))) fun r4 =>
  some r4.1

theorem wide_Mul_ok {N : Nat} {a0 : Int} {a1 : Int} {r : S_api_Wide} (h : p_wide_Mul N a0 a1 = some r) : FnM Try.prog 141 [] [(j64 a0), (j64 a1)] (S_api_Wide.enc r) [] := by
  unfold p_wide_Mul at h
  refine fnM_of_aw (m := 39) (lo := 0) (rs := [.cell 4 192]) hT Try.func141 rfl (by kernel_rfl) rfl ?_
  refine aw_sregU hT m_no [] (by kernel_rfl) ?_
  refine aw_sreg ?_
  refine awl_u hT m_no [] 1 (by kernel_rfl) ?_
  obtain ⟨r1, hr1, h⟩ := obind h
  refine awl_big (big_call [] (wide_size_ok hr1) wide_size_ok_c (by kernel_rfl) (by kernel_rfl)) (by kernel_rfl) ?_
  refine awl_u hT m_no [] 5 (by kernel_rfl) ?_
  refine awl_nil ?_
  refine aw_sreg ?_
  refine awl_u hT m_no [] 1 (by kernel_rfl) ?_
  obtain ⟨r2, hr2, h⟩ := obind h
  refine awl_big (big_call [] (wide_size_ok hr2) wide_size_ok_c (by kernel_rfl) (by kernel_rfl)) (by kernel_rfl) ?_
  refine awl_u hT m_no [] 5 (by kernel_rfl) ?_
  refine awl_nil ?_
  refine aw_sreg ?_
  refine awl_u hT m_no [] 2 (by kernel_rfl) ?_
  obtain ⟨r3, hr3, h⟩ := obind h
  refine awl_big (big_call [] (math_bits_Mul64_ok hr3) math_bits_Mul64_ok_c (by kernel_rfl) (by kernel_rfl)) (by kernel_rfl) ?_
  refine awl_u hT m_no [] 5 (by kernel_rfl) ?_
  refine awl_nil ?_
  refine aw_sreg ?_
  refine awl_u hT m_no [] 5 (by kernel_rfl) ?_
  obtain ⟨r4, hr4, h⟩ := obind h
  refine awl_big (big_call [] (wide_signed_ok hr4) wide_signed_ok_c (by kernel_rfl) (by kernel_rfl)) (by kernel_rfl) ?_
  refine awl_u hT m_no [] 6 (by kernel_rfl) ?_
  refine awl_nil ?_
  refine aw_sregU hT m_no [] (by kernel_rfl) ?_
  refine aw_ret ?_
  cases h
  exact fin_r (by kernel_rfl)

theorem wide_Mul_ok_c : callable Try.prog 141 := ⟨_, Try.func141, by decide, rfl⟩

/-! math/bits.Len64 -/
def p_math_bits_Len64 (N : Nat) (a0 : Int) : Option (Int) :=
  Option.bind (letO (decide (a0 ≥ 4294967296)) fun x2 =>
  cond x2 (some ((shr .u64 a0 32, 32))) (some ((a0, 0)))) fun p1 =>
  Option.bind (cond (decide (p1.1 ≥ 65536)) (
    some ((shr .u64 p1.1 16, I64 (p1.2 + 16)))) (
    some ((p1.1, p1.2)))) fun p3 =>
  Option.bind (cond (decide (p3.1 ≥ 256)) (some ((shr .u64 p3.1 8, I64 (p3.2 + 8)))) (some ((p3.1, p3.2)))) fun p4 =>
  Option.bind (idx str_0.data.toList (U8 p4.1)) fun c5 =>
  letO (I64 ((UInt8.toNat c5 : Int))) fun x6 =>
  some (I64 (p4.2 + x6))

theorem math_bits_Len64_ok {N : Nat} {a0 : Int} {r : Int} (h : p_math_bits_Len64 N a0 = some r) : FnM Try.prog 198 [] [(k64 a0)] (j64 r) [] := by
  unfold p_math_bits_Len64 at h
  refine fnM_of_aw (m := 25) (lo := 0) (rs := [.tmp 2]) hT Try.func198 rfl (by kernel_rfl) rfl ?_
  refine aw_sregU hT m_no [] (by kernel_rfl) ?_
  obtain ⟨p1, h, g1⟩ := obind h
  refine aw_joinT ⟨[en 0 (k64 p1.1), en 2 (j64 p1.2)], []⟩ ?_ ?_
  · obtain ⟨x2, hx2, h⟩ := letE h
    refine aw_sregU hT m_no [] (by kernel_rfl) ?_
    refine aw_nms [(4, (eB x2))] (by subst hx2; kernel_rfl) ?_
    refine aw_condH h (by kernel_rfl) (fun _ h => ?_) (fun _ h => ?_)
    · refine aw_sregU hT m_no [] (by kernel_rfl) ?_
      refine aw_regU hT m_no [] (by kernel_rfl) (tn_n ?_)
      cases h
      exact jr (by kernel_rfl)
    · refine aw_skip (tn_n ?_)
      cases h
      exact jr (by kernel_rfl)
  · have h := g1
    obtain ⟨p3, h, g3⟩ := obind h
    refine aw_joinT ⟨[en 0 (k64 p3.1), en 2 (j64 p3.2)], []⟩ ?_ ?_
    · refine aw_sregU hT m_no [] (by kernel_rfl) ?_
      refine aw_condH h (by kernel_rfl) (fun _ h => ?_) (fun _ h => ?_)
      · refine aw_sregU hT m_no [] (by kernel_rfl) ?_
        refine aw_regU hT m_no [] (by kernel_rfl) (tn_n ?_)
        cases h
        exact jr (by kernel_rfl)
      · refine aw_skip (tn_n ?_)
        cases h
        exact jr (by kernel_rfl)
    · have h := g3
      obtain ⟨p4, h, g4⟩ := obind h
      refine aw_joinT ⟨[en 0 (k64 p4.1), en 2 (j64 p4.2)], []⟩ ?_ ?_
      · refine aw_sregU hT m_no [] (by kernel_rfl) ?_
        refine aw_condH h (by kernel_rfl) (fun _ h => ?_) (fun _ h => ?_)
        · refine aw_sregU hT m_no [] (by kernel_rfl) ?_
          refine aw_regU hT m_no [] (by kernel_rfl) (tn_n ?_)
          cases h
          exact jr (by kernel_rfl)
        · refine aw_skip (tn_n ?_)
          cases h
          exact jr (by kernel_rfl)
      · have h := g4
        refine aw_sreg ?_
        refine awl_u hT m_no [] 3 (by kernel_rfl) ?_
        obtain ⟨c5, hc5, h⟩ := obind h
        refine awl_big (big_ixS hT hc5 (by kernel_rfl) (by kernel_rfl)) (by kernel_rfl) ?_
        obtain ⟨x6, hx6, h⟩ := letE h
        refine awl_u hT m_no [] 3 (by kernel_rfl) ?_
        refine awl_nms [(2, (j64 (I64 (p4.2 + x6))))] (by subst hx6; kernel_rfl) ?_
        refine awl_nil ?_
        refine aw_ret ?_
        cases h
        exact fin_r (by kernel_rfl)

theorem math_bits_Len64_ok_c : callable Try.prog 198 := ⟨_, Try.func198, by decide, rfl⟩

/-! math/bits.LeadingZeros64 -/
def p_math_bits_LeadingZeros64 (N : Nat) (a0 : Int) : Option (Int) :=
  Option.bind (p_math_bits_Len64 N a0) fun r1 =>
  some (I64 (64 - r1))

theorem math_bits_LeadingZeros64_ok {N : Nat} {a0 : Int} {r : Int} (h : p_math_bits_LeadingZeros64 N a0 = some r) : FnM Try.prog 175 [] [(k64 a0)] (j64 r) [] := by
  unfold p_math_bits_LeadingZeros64 at h
  refine fnM_of_aw (m := 6) (lo := 0) (rs := [.tmp 2]) hT Try.func175 rfl (by kernel_rfl) rfl ?_
  refine aw_sregU hT m_no [] (by kernel_rfl) ?_
  refine aw_sreg ?_
  refine awl_u hT m_no [] 1 (by kernel_rfl) ?_
  obtain ⟨r1, hr1, h⟩ := obind h
  refine awl_big (big_call [] (math_bits_Len64_ok hr1) math_bits_Len64_ok_c (by kernel_rfl) (by kernel_rfl)) (by kernel_rfl) ?_
  refine awl_u hT m_no [] 2 (by kernel_rfl) ?_
  refine awl_nil ?_
  refine aw_ret ?_
  cases h
  exact fin_r (by kernel_rfl)

theorem math_bits_LeadingZeros64_ok_c : callable Try.prog 175 := ⟨_, Try.func175, by decide, rfl⟩

/-! math/bits.Div64 -/
def p_math_bits_Div64_L1 (N : Nat) (x8 : Int) (x5 : Int) (x4 : Int) : Nat → Int → Int → Option (Int)
  | 0, _, _ => none
  | k + 1, s14, s15 =>
    letO (decide (s14 ≥ 4294967296)) fun x16 =>
    letO (U64 ((U64 (4294967296 * s15)) + (shr .u64 x8 32))) fun x17 =>
    letO (decide ((U64 (s14 * x5)) > x17)) fun x18 =>
    cond (cond x16 true x18) (
      letO (U64 (s15 + (shr .u64 x4 32))) fun x19 =>
      letO (decide (x19 ≥ 4294967296)) fun x20 =>
      cond x20 (
        some (U64 (s14 - 1))) (
        p_math_bits_Div64_L1 N x8 x5 x4 k (U64 (s14 - 1)) x19)) (
      some s14)

def p_math_bits_Div64_L2 (N : Nat) (x9 : Int) (x5 : Int) (x4 : Int) : Nat → Int → Int → Option (Int)
  | 0, _, _ => none
  | k + 1, s27, s28 =>
    letO (decide (s28 ≥ 4294967296)) fun x29 =>
    letO (U64 ((U64 (4294967296 * s27)) + x9)) fun x30 =>
    letO (decide ((U64 (s28 * x5)) > x30)) fun x31 =>
    cond (cond x29 true x31) (
      letO (U64 (s27 + (shr .u64 x4 32))) fun x32 =>
      letO (decide (x32 ≥ 4294967296)) fun x33 =>
      cond x33 (
        some (U64 (s28 - 1))) (
        p_math_bits_Div64_L2 N x9 x5 x4 k x32 (U64 (s28 - 1)))) (
      some s28)

def p_math_bits_Div64 (N : Nat) (a0 : Int) (a1 : Int) (a2 : Int) : Option (Int × Int) :=
  cond (a2 == 0) (
    none) (
    cond (decide (a2 ≤ a0)) (
      none) (
      cond (a0 == 0) (
        Option.bind (quoO .u64 a1 a2) fun x1 =>
        Option.bind (remO .u64 a1 a2) fun x2 =>
        some ((x1, x2))) (
        Option.bind (p_math_bits_LeadingZeros64 N a2) fun r3 =>
        Option.bind (shlO .u64 a2 (U64 r3)) fun x4 =>
        letO (band .u64 x4 4294967295) fun x5 =>
        Option.bind (shlO .u64 a0 (U64 r3)) fun x6 =>
        Option.bind (shrO .u64 a1 (U64 (64 - (U64 r3)))) fun x7 =>
        Option.bind (shlO .u64 a1 (U64 r3)) fun x8 =>
        letO (band .u64 x8 4294967295) fun x9 =>
        Option.bind (quoO .u64 (bor .u64 x6 x7) (shr .u64 x4 32)) fun x10 =>
        letO (U64 (x10 * (shr .u64 x4 32))) fun x11 =>
        letO (U64 ((bor .u64 x6 x7) - x11)) fun x12 =>
        Option.bind (p_math_bits_Div64_L1 N x8 x5 x4 N x10 x12) fun p13 =>
        letO (U64 ((bor .u64 x6 x7) * 4294967296)) fun x21 =>
        letO (U64 (x21 + (shr .u64 x8 32))) fun x22 =>
        letO (U64 (x22 - (U64 (p13 * x4)))) fun x23 =>
        Option.bind (quoO .u64 x23 (shr .u64 x4 32)) fun x24 =>
        letO (U64 (x24 * (shr .u64 x4 32))) fun x25 =>
        Option.bind (p_math_bits_Div64_L2 N x9 x5 x4 N (U64 (x23 - x25)) x24) fun p26 =>
        letO (U64 ((U64 (p13 * 4294967296)) + p26)) fun x37 =>
        letO (U64 ((U64 (x23 * 4294967296)) + x9)) fun x38 =>
        letO (U64 (x38 - (U64 (p26 * x4)))) fun x39 =>
        Option.bind (shrO .u64 x39 (U64 r3)) fun x40 =>
        some ((x37, x40)))))

theorem math_bits_Div64_ok {N : Nat} {a0 : Int} {a1 : Int} {a2 : Int} {r : Int × Int} (h : p_math_bits_Div64 N a0 a1 a2 = some r) : FnM Try.prog 146 [] [(k64 a0), (k64 a1), (k64 a2)] (.tup [(k64 r.1), (k64 r.2)]) [] := by
  unfold p_math_bits_Div64 at h
  refine fnM_of_aw (m := 135) (lo := 0) (rs := [.tmp 6, .tmp 7]) hT Try.func146 rfl (by kernel_rfl) rfl ?_
  refine aw_sregU hT m_no [] (by kernel_rfl) ?_
  refine aw_seq ?_
  refine aw_sregU hT m_no [] (by kernel_rfl) ?_
  refine aw_condH h (by kernel_rfl) (fun _ h => ?_) (fun _ h => ?_)
  · cases h
  · refine aw_skip (tn_n ?_)
    refine aw_seq ?_
    refine aw_sregU hT m_no [] (by kernel_rfl) ?_
    refine aw_condH h (by kernel_rfl) (fun _ h => ?_) (fun _ h => ?_)
    · cases h
    · refine aw_skip (tn_n ?_)
      refine aw_seq ?_
      refine aw_sregU hT m_no [] (by kernel_rfl) ?_
      refine aw_condH h (by kernel_rfl) (fun _ h => ?_) (fun _ h => ?_)
      · obtain ⟨x1, hx1, h⟩ := obind h
        obtain ⟨x2, hx2, h⟩ := obind h
        refine aw_sdrawV hT hmo m_no [(2, (k64 x1)), (5, (k64 x2))] [] (by kernel_rfl) (by kernel_rfl) (by kernel_rfl) ⟨fun _ => big_quo hT hx1 (by kernel_rfl) (by kernel_rfl), fun _ => big_rem hT hx2 (by kernel_rfl) (by kernel_rfl), trivial⟩ trivial ?_
        refine aw_ret (tn_r ?_)
        cases h
        exact fin_r (by kernel_rfl)
      · refine aw_skip (tn_n ?_)
        refine aw_sreg ?_
        refine awl_u hT m_no [] 1 (by kernel_rfl) ?_
        obtain ⟨r3, hr3, h⟩ := obind h
        refine awl_big (big_call [] (math_bits_LeadingZeros64_ok hr3) math_bits_LeadingZeros64_ok_c (by kernel_rfl) (by kernel_rfl)) (by kernel_rfl) ?_
        refine awl_u hT m_no [] 2 (by kernel_rfl) ?_
        refine awl_nil ?_
        refine aw_sreg ?_
        refine awl_u hT m_no [] 2 (by kernel_rfl) ?_
        obtain ⟨x4, hx4, h⟩ := obind h
        refine awl_big (big_shl hT (k' := .u64) hx4 (by kernel_rfl) (by kernel_rfl)) (by kernel_rfl) ?_
        refine awl_u hT m_no [] 1 (by kernel_rfl) ?_
        refine awl_nil ?_
        refine aw_sregU hT m_no [] (by kernel_rfl) ?_
        obtain ⟨x5, hx5, h⟩ := letE h
        refine aw_sregU hT m_no [] (by kernel_rfl) ?_
        refine aw_nms [(10, (k64 x5))] (by subst hx5; kernel_rfl) ?_
        refine aw_sreg ?_
        refine awl_u hT m_no [] 2 (by kernel_rfl) ?_
        obtain ⟨x6, hx6, h⟩ := obind h
        refine awl_big (big_shl hT (k' := .u64) hx6 (by kernel_rfl) (by kernel_rfl)) (by kernel_rfl) ?_
        refine awl_u hT m_no [] 3 (by kernel_rfl) ?_
        obtain ⟨x7, hx7, h⟩ := obind h
        refine awl_big (big_shr hT (k' := .u64) hx7 (by kernel_rfl) (by kernel_rfl)) (by kernel_rfl) ?_
        refine awl_u hT m_no [] 2 (by kernel_rfl) ?_
        refine awl_nil ?_
        refine aw_sreg ?_
        refine awl_u hT m_no [] 2 (by kernel_rfl) ?_
        obtain ⟨x8, hx8, h⟩ := obind h
        refine awl_big (big_shl hT (k' := .u64) hx8 (by kernel_rfl) (by kernel_rfl)) (by kernel_rfl) ?_
        refine awl_u hT m_no [] 1 (by kernel_rfl) ?_
        refine awl_nil ?_
        refine aw_sregU hT m_no [] (by kernel_rfl) ?_
        obtain ⟨x9, hx9, h⟩ := letE h
        refine aw_sregU hT m_no [] (by kernel_rfl) ?_
        refine aw_nms [(14, (k64 x9))] (by subst hx9; kernel_rfl) ?_
        refine aw_sreg ?_
        refine awl_u hT m_no [] 2 (by kernel_rfl) ?_
        obtain ⟨x10, hx10, h⟩ := obind h
        refine awl_big (big_quo hT hx10 (by kernel_rfl) (by kernel_rfl)) (by kernel_rfl) ?_
        refine awl_u hT m_no [] 1 (by kernel_rfl) ?_
        refine awl_nil ?_
        obtain ⟨x11, hx11, h⟩ := letE h
        obtain ⟨x12, hx12, h⟩ := letE h
        refine aw_sregU hT m_no [] (by kernel_rfl) ?_
        refine aw_nms [(16, (k64 x12))] (by subst hx12 hx11; kernel_rfl) ?_
        obtain ⟨p13, h, g13⟩ := obind h
        refine aw_joinT ⟨[en 2 (k64 x4), en 8 (k64 (U64 r3)), en 9 (k64 (shr .u64 x4 32)), en 10 (k64 x5), en 11 (k64 (bor .u64 x6 x7)), en 13 (k64 (shr .u64 x8 32)), en 14 (k64 x9), en 15 (k64 p13)], []⟩ ?_ ?_
        · refine aw_block (aw_loop (fun k s => ∃ s14 s15, p_math_bits_Div64_L1 N x8 x5 x4 k s14 s15 = some p13 ∧ JR (Fr.f 135 0) ⟨[en 2 (k64 x4), en 8 (k64 (U64 r3)), en 9 (k64 (shr .u64 x4 32)), en 10 (k64 x5), en 11 (k64 (bor .u64 x6 x7)), en 13 (k64 (shr .u64 x8 32)), en 14 (k64 x9), en 15 (k64 s14), en 16 (k64 s15)], []⟩ s) (fun k s hI => ?_) N _ ⟨_, _, h, jr (by kernel_rfl)⟩)
          obtain ⟨s14, s15, h, hj⟩ := hI
          cases k with
          | zero => cases h
          | succ k =>
            refine aw_to _ hj ?_
            refine aw_seq ?_
            obtain ⟨x16, hx16, h⟩ := letE h
            obtain ⟨x17, hx17, h⟩ := letE h
            obtain ⟨x18, hx18, h⟩ := letE h
            refine aw_sregU hT m_no [] (by kernel_rfl) ?_
            refine aw_nms [(78, (eB (cond x16 true x18)))] (by subst hx18 hx17 hx16; kernel_rfl) ?_
            refine aw_condH h (by kernel_rfl) (fun _ h => ?_) (fun _ h => ?_)
            · refine aw_skip (tn_n ?_)
              refine aw_block ?_
              refine aw_sregU hT m_no [] (by kernel_rfl) ?_
              obtain ⟨x19, hx19, h⟩ := letE h
              refine aw_sregU hT m_no [] (by kernel_rfl) ?_
              refine aw_nms [(16, (k64 x19))] (by subst hx19; kernel_rfl) ?_
              obtain ⟨x20, hx20, h⟩ := letE h
              refine aw_sregU hT m_no [] (by kernel_rfl) ?_
              refine aw_nms [(85, (eB x20))] (by subst hx20; kernel_rfl) ?_
              refine aw_condH h (by kernel_rfl) (fun _ h => ?_) (fun _ h => ?_)
              · refine aw_exit (inB_x (by kernel_rfl) (tn_x (inB_e (tn_n ?_))))
                cases h
                exact jr (by kernel_rfl)
              · refine aw_skip (inB_n (tn_n ?_))
                exact ⟨k, Nat.lt_succ_self k, _, _, h, jr (by kernel_rfl)⟩
            · refine aw_exit (tn_x (tn_x (inB_e (tn_n ?_))))
              cases h
              exact jr (by kernel_rfl)
        · have h := g13
          obtain ⟨x21, hx21, h⟩ := letE h
          obtain ⟨x22, hx22, h⟩ := letE h
          obtain ⟨x23, hx23, h⟩ := letE h
          refine aw_sregU hT m_no [] (by kernel_rfl) ?_
          refine aw_nms [(17, (k64 x23))] (by subst hx23 hx22 hx21; kernel_rfl) ?_
          refine aw_sreg ?_
          refine awl_u hT m_no [] 2 (by kernel_rfl) ?_
          obtain ⟨x24, hx24, h⟩ := obind h
          refine awl_big (big_quo hT hx24 (by kernel_rfl) (by kernel_rfl)) (by kernel_rfl) ?_
          refine awl_u hT m_no [] 1 (by kernel_rfl) ?_
          refine awl_nil ?_
          obtain ⟨x25, hx25, h⟩ := letE h
          refine aw_sregU hT m_no [] (by kernel_rfl) ?_
          refine aw_nms [(16, (k64 (U64 (x23 - x25))))] (by subst hx25; kernel_rfl) ?_
          obtain ⟨p26, h, g26⟩ := obind h
          refine aw_joinT ⟨[en 2 (k64 x4), en 8 (k64 (U64 r3)), en 14 (k64 x9), en 15 (k64 p13), en 17 (k64 x23), en 18 (k64 p26)], []⟩ ?_ ?_
          · refine aw_block (aw_loop (fun k s => ∃ s27 s28, p_math_bits_Div64_L2 N x9 x5 x4 k s27 s28 = some p26 ∧ JR (Fr.f 135 0) ⟨[en 2 (k64 x4), en 8 (k64 (U64 r3)), en 9 (k64 (shr .u64 x4 32)), en 10 (k64 x5), en 14 (k64 x9), en 15 (k64 p13), en 16 (k64 s27), en 17 (k64 x23), en 18 (k64 s28)], []⟩ s) (fun k s hI => ?_) N _ ⟨_, _, h, jr (by kernel_rfl)⟩)
            obtain ⟨s27, s28, h, hj⟩ := hI
            cases k with
            | zero => cases h
            | succ k =>
              refine aw_to _ hj ?_
              refine aw_seq ?_
              obtain ⟨x29, hx29, h⟩ := letE h
              obtain ⟨x30, hx30, h⟩ := letE h
              obtain ⟨x31, hx31, h⟩ := letE h
              refine aw_sregU hT m_no [] (by kernel_rfl) ?_
              refine aw_nms [(113, (eB (cond x29 true x31)))] (by subst hx31 hx30 hx29; kernel_rfl) ?_
              refine aw_condH h (by kernel_rfl) (fun _ h => ?_) (fun _ h => ?_)
              · refine aw_skip (tn_n ?_)
                refine aw_block ?_
                refine aw_sregU hT m_no [] (by kernel_rfl) ?_
                obtain ⟨x32, hx32, h⟩ := letE h
                refine aw_sregU hT m_no [] (by kernel_rfl) ?_
                refine aw_nms [(16, (k64 x32))] (by subst hx32; kernel_rfl) ?_
                obtain ⟨x33, hx33, h⟩ := letE h
                refine aw_sregU hT m_no [] (by kernel_rfl) ?_
                refine aw_nms [(120, (eB x33))] (by subst hx33; kernel_rfl) ?_
                refine aw_condH h (by kernel_rfl) (fun _ h => ?_) (fun _ h => ?_)
                · refine aw_exit (inB_x (by kernel_rfl) (tn_x (inB_e (tn_n ?_))))
                  cases h
                  exact jr (by kernel_rfl)
                · refine aw_skip (inB_n (tn_n ?_))
                  exact ⟨k, Nat.lt_succ_self k, _, _, h, jr (by kernel_rfl)⟩
              · refine aw_exit (tn_x (tn_x (inB_e (tn_n ?_))))
                cases h
                exact jr (by kernel_rfl)
          · have h := g26
            refine aw_sreg ?_
            obtain ⟨x37, hx37, h⟩ := letE h
            obtain ⟨x38, hx38, h⟩ := letE h
            obtain ⟨x39, hx39, h⟩ := letE h
            refine awl_u hT m_no [] 13 (by kernel_rfl) ?_
            refine awl_nms [(124, (k64 x37)), (132, (k64 x39))] (by subst hx39 hx38 hx37; kernel_rfl) ?_
            obtain ⟨x40, hx40, h⟩ := obind h
            refine awl_big (big_shr hT (k' := .u64) hx40 (by kernel_rfl) (by kernel_rfl)) (by kernel_rfl) ?_
            refine awl_u hT m_no [] 2 (by kernel_rfl) ?_
            refine awl_nil ?_
            refine aw_ret ?_
            cases h
            exact fin_r (by kernel_rfl)

theorem math_bits_Div64_ok_c : callable Try.prog 146 := ⟨_, Try.func146, by decide, rfl⟩

theorem n_Add64 {x y c : Int} {r : Int × Int} (h : p_Add64 x y c = some r) : NatFn Try.prog 174 [.int .u64 x, .int .u64 y, .int .u64 c] (.tuple #[.int .u64 r.1, .int .u64 r.2]) :=
  nat_Add64 Try.func174 (by kernel_rfl) (by kernel_rfl) (by kernel_rfl) (by kernel_rfl) h

/-! umbra/wide.Div -/
def m_wide_Div : Nat → Bool := imL [2]

def p_wide_Div (N : Nat) (a0 : S_api_Wide) (a1 : Int) : Option (S_api_Wide × Int × Bool) :=
  cond (a1 == 0) (
    some ((S_api_Wide.mk 0 0, 0, false))) (
    Option.bind (cond (decide (a0.gHi < 0)) (
      Option.bind (p_wide_turned N (U64 a0.gHi) a0.gLo) fun r2 =>
      some ((r2.1, r2.2))) (
      some ((U64 a0.gHi, a0.gLo)))) fun p1 =>
    Option.bind (p_wide_size N a1) fun r3 =>
    Option.bind (p_math_bits_Div64 N 0 p1.1 r3.1) fun r4 =>
    Option.bind (p_math_bits_Div64 N r4.2 p1.2 r3.1) fun r5 =>
    Option.bind (letO (!((decide (a0.gHi < 0)) == r3.2)) fun x7 =>
    letO (cond x7 (decide (r5.2 > 0)) false) fun x8 =>
    cond x8 (
      Option.bind (p_Add64 r5.1 1 0) fun r9 =>
      some ((U64 (r4.1 + r9.2), r9.1, U64 (r3.1 - r5.2)))) (
      some ((r4.1, r5.1, r5.2)))) fun p6 =>
    letO (!((decide (a0.gHi < 0)) == r3.2)) fun x11 =>
    Option.bind (p_wide_signed N p6.1 p6.2.1 x11) fun r12 =>
    cond (!r12.2) (
      some ((S_api_Wide.mk 0 0, 0, false))) (
      Option.bind (cond r3.2 (some (U64 (0 - p6.2.2))) (some p6.2.2)) fun p13 =>
      some ((r12.1, I64 p13, true))))

theorem wide_Div_ok {N : Nat} {a0 : S_api_Wide} {a1 : Int} {r : S_api_Wide × Int × Bool} (h : p_wide_Div N a0 a1 = some r) : FnM Try.prog 142 [] [(S_api_Wide.enc a0), (j64 a1)] (.tup [(S_api_Wide.enc r.1), (j64 r.2.1), (eB r.2.2)]) [] := by
  unfold p_wide_Div at h
  refine fnM_of_aw (m := 93) (lo := 0) (rs := [.cell 4 192, .tmp 5, .tmp 6]) hT Try.func142 rfl (by kernel_rfl) rfl ?_
  refine aw_sregU hT m_wide_Div [] (by kernel_rfl) ?_
  refine aw_seq ?_
  refine aw_sregU hT m_wide_Div [] (by kernel_rfl) ?_
  refine aw_condH h (by kernel_rfl) (fun _ h => ?_) (fun _ h => ?_)
  · refine aw_sregU hT m_wide_Div [] (by kernel_rfl) ?_
    refine aw_ret (tn_r ?_)
    cases h
    exact fin_r (by kernel_rfl)
  · refine aw_skip (tn_n ?_)
    refine aw_sdrawV hT hmo m_wide_Div [] [] (by kernel_rfl) (by kernel_rfl) (by kernel_rfl) trivial trivial ?_
    obtain ⟨p1, h, g1⟩ := obind h
    refine aw_joinT ⟨[en 1 (j64 a1), en 2 (.im (S_api_Wide.enc a0)), en 4 (.ref 0 [] 0), en 7 (k64 p1.1), en 8 (k64 p1.2)], [.var (.st 2 [(j64 0), (k64 0)])]⟩ ?_ ?_
    · refine aw_sregU hT m_wide_Div [] (by kernel_rfl) ?_
      refine aw_condH h (by kernel_rfl) (fun _ h => ?_) (fun _ h => ?_)
      · refine aw_region ?_
        refine awl_u hT m_wide_Div [] 2 (by kernel_rfl) ?_
        obtain ⟨r2, hr2, h⟩ := obind h
        refine awl_big (big_call [] (wide_turned_ok hr2) wide_turned_ok_c (by kernel_rfl) (by kernel_rfl)) (by kernel_rfl) ?_
        refine awl_u hT m_wide_Div [] 5 (by kernel_rfl) ?_
        refine awl_nil (tn_n ?_)
        cases h
        exact jr (by kernel_rfl)
      · refine aw_skip (tn_n ?_)
        cases h
        exact jr (by kernel_rfl)
    · have h := g1
      refine aw_sreg ?_
      refine awl_u hT m_wide_Div [] 1 (by kernel_rfl) ?_
      obtain ⟨r3, hr3, h⟩ := obind h
      refine awl_big (big_call [] (wide_size_ok hr3) wide_size_ok_c (by kernel_rfl) (by kernel_rfl)) (by kernel_rfl) ?_
      refine awl_u hT m_wide_Div [] 5 (by kernel_rfl) ?_
      refine awl_nil ?_
      refine aw_sreg ?_
      refine awl_u hT m_wide_Div [] 2 (by kernel_rfl) ?_
      obtain ⟨r4, hr4, h⟩ := obind h
      refine awl_big (big_call [] (math_bits_Div64_ok hr4) math_bits_Div64_ok_c (by kernel_rfl) (by kernel_rfl)) (by kernel_rfl) ?_
      refine awl_u hT m_wide_Div [] 5 (by kernel_rfl) ?_
      refine awl_nil ?_
      refine aw_sreg ?_
      refine awl_u hT m_wide_Div [] 3 (by kernel_rfl) ?_
      obtain ⟨r5, hr5, h⟩ := obind h
      refine awl_big (big_call [] (math_bits_Div64_ok hr5) math_bits_Div64_ok_c (by kernel_rfl) (by kernel_rfl)) (by kernel_rfl) ?_
      refine awl_u hT m_wide_Div [] 5 (by kernel_rfl) ?_
      refine awl_nil ?_
      obtain ⟨p6, h, g6⟩ := obind h
      refine aw_joinT ⟨[en 2 (.im (S_api_Wide.enc a0)), en 4 (.ref 0 [] 0), en 10 (eB r3.2), en 11 (k64 p6.1), en 13 (k64 p6.2.1), en 14 (k64 p6.2.2)], [.var (.st 2 [(j64 0), (k64 0)])]⟩ ?_ ?_
      · obtain ⟨x7, hx7, h⟩ := letE h
        obtain ⟨x8, hx8, h⟩ := letE h
        refine aw_sregU hT m_wide_Div [] (by kernel_rfl) ?_
        refine aw_nms [(60, (eB x8))] (by subst hx8 hx7; kernel_rfl) ?_
        refine aw_condH h (by kernel_rfl) (fun _ h => ?_) (fun _ h => ?_)
        · refine aw_sreg ?_
          refine awl_u hT m_wide_Div [] 1 (by kernel_rfl) ?_
          obtain ⟨r9, hr9, h⟩ := obind h
          refine awl_big (big_nat (n_Add64 hr9) (fun _ => rv_tup2) (by kernel_rfl) (by kernel_rfl)) (by kernel_rfl) ?_
          refine awl_u hT m_wide_Div [] 5 (by kernel_rfl) ?_
          refine awl_nil ?_
          refine aw_regU hT m_wide_Div [] (by kernel_rfl) (tn_n ?_)
          cases h
          exact jr (by kernel_rfl)
        · refine aw_skip (tn_n ?_)
          cases h
          exact jr (by kernel_rfl)
      · have h := g6
        refine aw_seq ?_
        refine aw_sreg ?_
        obtain ⟨x11, hx11, h⟩ := letE h
        refine awl_u hT m_wide_Div [] 7 (by kernel_rfl) ?_
        refine awl_nms [(80, (eB x11))] (by subst hx11; kernel_rfl) ?_
        obtain ⟨r12, hr12, h⟩ := obind h
        refine awl_big (big_call [] (wide_signed_ok hr12) wide_signed_ok_c (by kernel_rfl) (by kernel_rfl)) (by kernel_rfl) ?_
        refine awl_u hT m_wide_Div [] 5 (by kernel_rfl) ?_
        refine awl_nil ?_
        refine aw_sregU hT m_wide_Div [] (by kernel_rfl) ?_
        refine aw_condH h (by kernel_rfl) (fun _ h => ?_) (fun _ h => ?_)
        · refine aw_sregU hT m_wide_Div [] (by kernel_rfl) ?_
          refine aw_ret (tn_r ?_)
          cases h
          exact fin_r (by kernel_rfl)
        · refine aw_skip (tn_n ?_)
          obtain ⟨p13, h, g13⟩ := obind h
          refine aw_joinT ⟨[en 4 (.ref 0 [] 0), en 14 (k64 p13)], [.var (S_api_Wide.enc r12.1)]⟩ ?_ ?_
          · refine aw_sregU hT m_wide_Div [] (by kernel_rfl) ?_
            refine aw_condH h (by kernel_rfl) (fun _ h => ?_) (fun _ h => ?_)
            · refine aw_regU hT m_wide_Div [] (by kernel_rfl) (tn_n ?_)
              cases h
              exact jr (by kernel_rfl)
            · refine aw_skip (tn_n ?_)
              cases h
              exact jr (by kernel_rfl)
          · have h := g13
            refine aw_sregU hT m_wide_Div [] (by kernel_rfl) ?_
            refine aw_ret ?_
            cases h
            exact fin_r (by kernel_rfl)

theorem wide_Div_ok_c : callable Try.prog 142 := ⟨_, Try.func142, by decide, rfl⟩

/-! umbra/wide.Int -/
def m_wide_Int : Nat → Bool := imL [1]

def p_wide_Int (N : Nat) (a0 : S_api_Wide) : Option (Int × Bool) :=
  letO (shr .i64 (I64 a0.gLo) 63) fun x1 =>
  cond (a0.gHi != x1) (some ((0, false))) (some ((I64 a0.gLo, true)))

theorem wide_Int_ok {N : Nat} {a0 : S_api_Wide} {r : Int × Bool} (h : p_wide_Int N a0 = some r) : FnM Try.prog 169 [] [(S_api_Wide.enc a0)] (.tup [(j64 r.1), (eB r.2)]) [] := by
  unfold p_wide_Int at h
  refine fnM_of_aw (m := 13) (lo := 0) (rs := [.tmp 2, .tmp 3]) hT Try.func169 rfl (by kernel_rfl) rfl ?_
  refine aw_sregU hT m_wide_Int [] (by kernel_rfl) ?_
  refine aw_seq ?_
  refine aw_sregU hT m_wide_Int [] (by kernel_rfl) ?_
  obtain ⟨x1, hx1, h⟩ := letE h
  refine aw_sregU hT m_wide_Int [] (by kernel_rfl) ?_
  refine aw_nms [(11, (eB (a0.gHi != x1)))] (by subst hx1; kernel_rfl) ?_
  refine aw_condH h (by kernel_rfl) (fun _ h => ?_) (fun _ h => ?_)
  · refine aw_sregU hT m_wide_Int [] (by kernel_rfl) ?_
    refine aw_ret (tn_r ?_)
    cases h
    exact fin_r (by kernel_rfl)
  · refine aw_skip (tn_n ?_)
    refine aw_sregU hT m_wide_Int [] (by kernel_rfl) ?_
    refine aw_ret ?_
    cases h
    exact fin_r (by kernel_rfl)

theorem wide_Int_ok_c : callable Try.prog 169 := ⟨_, Try.func169, by decide, rfl⟩

/-! umbra/fix.near -/
def m_fix_near : Nat → Bool := imL [1]

def p_fix_near (N : Nat) (a0 : S_api_Wide) : Option (Int) :=
  Option.bind (p_wide_Int N a0) fun r1 =>
  cond r1.2 (
    some r1.1) (
    cond (decide (a0.gHi < 0)) (some (-9223372036854775808)) (some 9223372036854775807))

theorem fix_near_ok {N : Nat} {a0 : S_api_Wide} {r : Int} (h : p_fix_near N a0 = some r) : FnM Try.prog 139 [] [(S_api_Wide.enc a0)] (j64 r) [] := by
  unfold p_fix_near at h
  refine fnM_of_aw (m := 15) (lo := 0) (rs := [.tmp 2]) hT Try.func139 rfl (by kernel_rfl) rfl ?_
  refine aw_sregU hT m_fix_near [] (by kernel_rfl) ?_
  refine aw_seq ?_
  refine aw_sreg ?_
  refine awl_u hT m_fix_near [] 1 (by kernel_rfl) ?_
  obtain ⟨r1, hr1, h⟩ := obind h
  refine awl_big (big_call [] (wide_Int_ok hr1) wide_Int_ok_c (by kernel_rfl) (by kernel_rfl)) (by kernel_rfl) ?_
  refine awl_u hT m_fix_near [] 5 (by kernel_rfl) ?_
  refine awl_nil ?_
  refine aw_sregU hT m_fix_near [] (by kernel_rfl) ?_
  refine aw_condH h (by kernel_rfl) (fun _ h => ?_) (fun _ h => ?_)
  · refine aw_sregU hT m_fix_near [] (by kernel_rfl) ?_
    refine aw_ret (tn_r ?_)
    cases h
    exact fin_r (by kernel_rfl)
  · refine aw_skip (tn_n ?_)
    refine aw_seq ?_
    refine aw_sregU hT m_fix_near [] (by kernel_rfl) ?_
    refine aw_condH h (by kernel_rfl) (fun _ h => ?_) (fun _ h => ?_)
    · refine aw_sregU hT m_fix_near [] (by kernel_rfl) ?_
      refine aw_ret (tn_r ?_)
      cases h
      exact fin_r (by kernel_rfl)
    · refine aw_skip (tn_n ?_)
      refine aw_sregU hT m_fix_near [] (by kernel_rfl) ?_
      refine aw_ret ?_
      cases h
      exact fin_r (by kernel_rfl)

theorem fix_near_ok_c : callable Try.prog 139 := ⟨_, Try.func139, by decide, rfl⟩

/-! umbra/fix.Div -/
def p_fix_Div (N : Nat) (a0 : Int) (a1 : Int) : Option (Int) :=
  cond (a1 == 0) (
    cond (decide (a0 > 0)) (
      some 9223372036854775807) (
      cond (decide (a0 < 0)) (some (-9223372036854775808)) (some 0))) (
    Option.bind (p_wide_Mul N a0 4294967296) fun r1 =>
    Option.bind (p_wide_Div N r1 a1) fun r2 =>
    Option.bind (p_fix_near N r2.1) fun r3 =>
    some r3)

theorem fix_Div_ok {N : Nat} {a0 : Int} {a1 : Int} {r : Int} (h : p_fix_Div N a0 a1 = some r) : FnM Try.prog 85 [] [(j64 a0), (j64 a1)] (j64 r) [] := by
  unfold p_fix_Div at h
  refine fnM_of_aw (m := 26) (lo := 0) (rs := [.tmp 4]) hT Try.func85 rfl (by kernel_rfl) rfl ?_
  refine aw_sregU hT m_no [] (by kernel_rfl) ?_
  refine aw_seq ?_
  refine aw_sregU hT m_no [] (by kernel_rfl) ?_
  refine aw_condH h (by kernel_rfl) (fun _ h => ?_) (fun _ h => ?_)
  · refine aw_seq ?_
    refine aw_block ?_
    refine aw_sregU hT m_no [] (by kernel_rfl) ?_
    refine aw_condH h (by kernel_rfl) (fun _ h => ?_) (fun _ h => ?_)
    · refine aw_sregU hT m_no [] (by kernel_rfl) ?_
      refine aw_ret (inB_r (tn_r (tn_r ?_)))
      cases h
      exact fin_r (by kernel_rfl)
    · refine aw_sregU hT m_no [] (by kernel_rfl) ?_
      refine aw_condH h (by kernel_rfl) (fun _ h => ?_) (fun _ h => ?_)
      · refine aw_sregU hT m_no [] (by kernel_rfl) ?_
        refine aw_ret (inB_r (tn_r (tn_r ?_)))
        cases h
        exact fin_r (by kernel_rfl)
      · refine aw_skip (inB_n (tn_n ?_))
        refine aw_sregU hT m_no [] (by kernel_rfl) ?_
        refine aw_ret (tn_r ?_)
        cases h
        exact fin_r (by kernel_rfl)
  · refine aw_skip (tn_n ?_)
    refine aw_sreg ?_
    refine awl_u hT m_no [] 1 (by kernel_rfl) ?_
    obtain ⟨r1, hr1, h⟩ := obind h
    refine awl_big (big_call [] (wide_Mul_ok hr1) wide_Mul_ok_c (by kernel_rfl) (by kernel_rfl)) (by kernel_rfl) ?_
    refine awl_u hT m_no [] 1 (by kernel_rfl) ?_
    obtain ⟨r2, hr2, h⟩ := obind h
    refine awl_big (big_call [] (wide_Div_ok hr2) wide_Div_ok_c (by kernel_rfl) (by kernel_rfl)) (by kernel_rfl) ?_
    refine awl_u hT m_no [] 8 (by kernel_rfl) ?_
    refine awl_nil ?_
    refine aw_sreg ?_
    refine awl_u hT m_no [] 1 (by kernel_rfl) ?_
    obtain ⟨r3, hr3, h⟩ := obind h
    refine awl_big (big_call [] (fix_near_ok hr3) fix_near_ok_c (by kernel_rfl) (by kernel_rfl)) (by kernel_rfl) ?_
    refine awl_u hT m_no [] 1 (by kernel_rfl) ?_
    refine awl_nil ?_
    refine aw_ret ?_
    cases h
    exact fin_r (by kernel_rfl)

theorem fix_Div_ok_c : callable Try.prog 85 := ⟨_, Try.func85, by decide, rfl⟩

end Go.UK
