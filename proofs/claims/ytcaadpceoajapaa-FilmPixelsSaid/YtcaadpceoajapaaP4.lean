/- A part of the proof: what the functions of the program compute. -/
import Derived.Test.YtcaadpceoajapaaP3
namespace Go.UK
open Go Go.Proofs
set_option maxRecDepth 20000
set_option maxHeartbeats 4000000
set_option linter.all false

attribute [local irreducible] owp awl aw FnM NatFn opS Stab TOK Big

/-! umbra/umbraref02.Times -/
def p_umbraref02_Times (N : Nat) (a0 : Int) (a1 : Int) : Option (Int) :=
  Option.bind (p_umbraref02_Size N a0) fun r1 =>
  Option.bind (p_umbraref02_Size N a1) fun r2 =>
  Option.bind (p_math_bits_Mul64 N r1 r2) fun r3 =>
  letO (bor .u64 (shl .u64 r3.1 32) (shr .u64 r3.2 32)) fun x4 =>
  letO (decide (r3.1 ≥ 4294967296)) fun x5 =>
  letO (!((decide (a0 < 0)) == (decide (a1 < 0)))) fun x6 =>
  Option.bind (letO (band .u64 r3.2 4294967295) fun x8 =>
  letO (cond x6 (decide (x8 > 0)) false) fun x9 =>
  cond x9 (
    letO (cond x5 true ((U64 (x4 + 1)) == 0)) fun x11 =>
    some ((U64 (x4 + 1), x11))) (
    some ((x4, x5)))) fun p7 =>
  Option.bind (p_umbraref02_Near N p7.1 x6 p7.2) fun r12 =>
  some r12

theorem umbraref02_Times_ok {N : Nat} {a0 : Int} {a1 : Int} {r : Int} (h : p_umbraref02_Times N a0 a1 = some r) : FnM Try.prog 89 [] [(j64 a0), (j64 a1)] (j64 r) [] := by
  unfold p_umbraref02_Times at h
  refine fnM_of_aw (m := 47) (lo := 0) (rs := [.tmp 4]) hT Try.func89 rfl (by kernel_rfl) rfl ?_
  refine aw_sregU hT m_no [] (by kernel_rfl) ?_
  refine aw_sreg ?_
  refine awl_u hT m_no [] 1 (by kernel_rfl) ?_
  obtain ⟨r1, hr1, h⟩ := obind h
  refine awl_big (big_call [] (umbraref02_Size_ok hr1) umbraref02_Size_ok_c (by kernel_rfl) (by kernel_rfl)) (by kernel_rfl) ?_
  refine awl_u hT m_no [] 1 (by kernel_rfl) ?_
  obtain ⟨r2, hr2, h⟩ := obind h
  refine awl_big (big_call [] (umbraref02_Size_ok hr2) umbraref02_Size_ok_c (by kernel_rfl) (by kernel_rfl)) (by kernel_rfl) ?_
  obtain ⟨r3, hr3, h⟩ := obind h
  refine awl_big (big_call [] (math_bits_Mul64_ok hr3) math_bits_Mul64_ok_c (by kernel_rfl) (by kernel_rfl)) (by kernel_rfl) ?_
  refine awl_u hT m_no [] 5 (by kernel_rfl) ?_
  refine awl_nil ?_
  obtain ⟨x4, hx4, h⟩ := letE h
  refine aw_sregU hT m_no [] (by kernel_rfl) ?_
  refine aw_nms [(7, (k64 x4))] (by subst hx4; kernel_rfl) ?_
  obtain ⟨x5, hx5, h⟩ := letE h
  refine aw_sregU hT m_no [] (by kernel_rfl) ?_
  refine aw_nms [(8, (eB x5))] (by subst hx5; kernel_rfl) ?_
  obtain ⟨x6, hx6, h⟩ := letE h
  refine aw_sregU hT m_no [] (by kernel_rfl) ?_
  refine aw_nms [(9, (eB x6))] (by subst hx6; kernel_rfl) ?_
  obtain ⟨p7, h, g7⟩ := obind h
  refine aw_joinT ⟨[en 7 (k64 p7.1), en 8 (eB p7.2), en 9 (eB x6)], []⟩ ?_ ?_
  · obtain ⟨x8, hx8, h⟩ := letE h
    obtain ⟨x9, hx9, h⟩ := letE h
    refine aw_sregU hT m_no [] (by kernel_rfl) ?_
    refine aw_nms [(35, (eB x9))] (by subst hx9 hx8; kernel_rfl) ?_
    refine aw_condH h (by kernel_rfl) (fun _ h => ?_) (fun _ h => ?_)
    · refine aw_sregU hT m_no [] (by kernel_rfl) ?_
      refine aw_region ?_
      obtain ⟨x11, hx11, h⟩ := letE h
      refine awl_u hT m_no [] 6 (by kernel_rfl) ?_
      refine awl_nms [(8, (eB x11))] (by subst hx11; kernel_rfl) ?_
      refine awl_nil (tn_n ?_)
      cases h
      exact jr (by kernel_rfl)
    · refine aw_skip (tn_n ?_)
      cases h
      exact jr (by kernel_rfl)
  · have h := g7
    refine aw_sreg ?_
    refine awl_u hT m_no [] 3 (by kernel_rfl) ?_
    obtain ⟨r12, hr12, h⟩ := obind h
    refine awl_big (big_call [] (umbraref02_Near_ok hr12) umbraref02_Near_ok_c (by kernel_rfl) (by kernel_rfl)) (by kernel_rfl) ?_
    refine awl_u hT m_no [] 1 (by kernel_rfl) ?_
    refine awl_nil ?_
    refine aw_ret ?_
    cases h
    exact fin_r (by kernel_rfl)

theorem umbraref02_Times_ok_c : callable Try.prog 89 := ⟨_, Try.func89, by decide, rfl⟩

/-! umbra/umbraref03.Scale -/
def m_umbraref03_Scale : Nat → Bool := imL [2]

def p_umbraref03_Scale (N : Nat) (a0 : S_api_Vec) (a1 : Int) : Option (S_api_Vec) :=
  Option.bind (p_umbraref02_Times N a0.gX a1) fun r1 =>
  Option.bind (p_umbraref02_Times N a0.gY a1) fun r2 =>
  Option.bind (p_umbraref02_Times N a0.gZ a1) fun r3 =>
  some (S_api_Vec.mk r1 r2 r3)

theorem umbraref03_Scale_ok {N : Nat} {a0 : S_api_Vec} {a1 : Int} {r : S_api_Vec} (h : p_umbraref03_Scale N a0 a1 = some r) : FnM Try.prog 124 [] [(S_api_Vec.enc a0), (j64 a1)] (S_api_Vec.enc r) [] := by
  unfold p_umbraref03_Scale at h
  refine fnM_of_aw (m := 18) (lo := 0) (rs := [.cell 4 167]) hT Try.func124 rfl (by kernel_rfl) rfl ?_
  refine aw_sregU hT m_umbraref03_Scale [] (by kernel_rfl) ?_
  obtain ⟨r1, hr1, h⟩ := obind h
  obtain ⟨r2, hr2, h⟩ := obind h
  obtain ⟨r3, hr3, h⟩ := obind h
  refine aw_sdrawV hT hmo m_umbraref03_Scale [(3, (j64 r1)), (7, (j64 r2)), (11, (j64 r3))] [] (by kernel_rfl) (by kernel_rfl) (by kernel_rfl) ⟨fun _ => big_call0 (umbraref02_Times_ok hr1) umbraref02_Times_ok_c (by kernel_rfl) (by kernel_rfl) (by kernel_rfl), fun _ => big_call0 (umbraref02_Times_ok hr2) umbraref02_Times_ok_c (by kernel_rfl) (by kernel_rfl) (by kernel_rfl), fun _ => big_call0 (umbraref02_Times_ok hr3) umbraref02_Times_ok_c (by kernel_rfl) (by kernel_rfl) (by kernel_rfl), trivial⟩ trivial ?_
  refine aw_ret ?_
  cases h
  exact fin_r (by kernel_rfl)

theorem umbraref03_Scale_ok_c : callable Try.prog 124 := ⟨_, Try.func124, by decide, rfl⟩

/-! umbra/umbraref03.squares -/
def p_umbraref03_squares (N : Nat) (a0 : Int) (a1 : Int) (a2 : Int) : Option (Int × Int × Bool) :=
  Option.bind (p_math_bits_Mul64 N a0 a0) fun r1 =>
  Option.bind (p_math_bits_Mul64 N a1 a1) fun r2 =>
  Option.bind (p_math_bits_Mul64 N a2 a2) fun r3 =>
  Option.bind (p_Add64 r1.2 r2.2 0) fun r4 =>
  Option.bind (p_Add64 r1.1 r2.1 r4.2) fun r5 =>
  Option.bind (p_Add64 r4.1 r3.2 0) fun r6 =>
  Option.bind (p_Add64 r5.1 r3.1 r6.2) fun r7 =>
  letO (decide ((U64 (r5.2 + r7.2)) > 0)) fun x8 =>
  some ((r7.1, r6.1, x8))

theorem umbraref03_squares_ok {N : Nat} {a0 : Int} {a1 : Int} {a2 : Int} {r : Int × Int × Bool} (h : p_umbraref03_squares N a0 a1 a2 = some r) : FnM Try.prog 186 [] [(k64 a0), (k64 a1), (k64 a2)] (.tup [(k64 r.1), (k64 r.2.1), (eB r.2.2)]) [] := by
  unfold p_umbraref03_squares at h
  refine fnM_of_aw (m := 70) (lo := 0) (rs := [.tmp 6, .tmp 7, .tmp 8]) hT Try.func186 rfl (by kernel_rfl) rfl ?_
  refine aw_sregU hT m_no [] (by kernel_rfl) ?_
  refine aw_sreg ?_
  refine awl_u hT m_no [] 2 (by kernel_rfl) ?_
  obtain ⟨r1, hr1, h⟩ := obind h
  refine awl_big (big_call [] (math_bits_Mul64_ok hr1) math_bits_Mul64_ok_c (by kernel_rfl) (by kernel_rfl)) (by kernel_rfl) ?_
  refine awl_u hT m_no [] 5 (by kernel_rfl) ?_
  refine awl_nil ?_
  refine aw_sreg ?_
  refine awl_u hT m_no [] 2 (by kernel_rfl) ?_
  obtain ⟨r2, hr2, h⟩ := obind h
  refine awl_big (big_call [] (math_bits_Mul64_ok hr2) math_bits_Mul64_ok_c (by kernel_rfl) (by kernel_rfl)) (by kernel_rfl) ?_
  refine awl_u hT m_no [] 5 (by kernel_rfl) ?_
  refine awl_nil ?_
  refine aw_sreg ?_
  refine awl_u hT m_no [] 2 (by kernel_rfl) ?_
  obtain ⟨r3, hr3, h⟩ := obind h
  refine awl_big (big_call [] (math_bits_Mul64_ok hr3) math_bits_Mul64_ok_c (by kernel_rfl) (by kernel_rfl)) (by kernel_rfl) ?_
  refine awl_u hT m_no [] 5 (by kernel_rfl) ?_
  refine awl_nil ?_
  refine aw_sreg ?_
  refine awl_u hT m_no [] 2 (by kernel_rfl) ?_
  obtain ⟨r4, hr4, h⟩ := obind h
  refine awl_big (big_nat (n_Add64 hr4) (fun _ => rv_tup2) (by kernel_rfl) (by kernel_rfl)) (by kernel_rfl) ?_
  refine awl_u hT m_no [] 5 (by kernel_rfl) ?_
  refine awl_nil ?_
  refine aw_sreg ?_
  refine awl_u hT m_no [] 3 (by kernel_rfl) ?_
  obtain ⟨r5, hr5, h⟩ := obind h
  refine awl_big (big_nat (n_Add64 hr5) (fun _ => rv_tup2) (by kernel_rfl) (by kernel_rfl)) (by kernel_rfl) ?_
  refine awl_u hT m_no [] 5 (by kernel_rfl) ?_
  refine awl_nil ?_
  refine aw_sreg ?_
  refine awl_u hT m_no [] 2 (by kernel_rfl) ?_
  obtain ⟨r6, hr6, h⟩ := obind h
  refine awl_big (big_nat (n_Add64 hr6) (fun _ => rv_tup2) (by kernel_rfl) (by kernel_rfl)) (by kernel_rfl) ?_
  refine awl_u hT m_no [] 5 (by kernel_rfl) ?_
  refine awl_nil ?_
  refine aw_sreg ?_
  refine awl_u hT m_no [] 3 (by kernel_rfl) ?_
  obtain ⟨r7, hr7, h⟩ := obind h
  refine awl_big (big_nat (n_Add64 hr7) (fun _ => rv_tup2) (by kernel_rfl) (by kernel_rfl)) (by kernel_rfl) ?_
  refine awl_u hT m_no [] 5 (by kernel_rfl) ?_
  refine awl_nil ?_
  obtain ⟨x8, hx8, h⟩ := letE h
  refine aw_sregU hT m_no [] (by kernel_rfl) ?_
  refine aw_nms [(8, (eB x8))] (by subst hx8; kernel_rfl) ?_
  refine aw_ret ?_
  cases h
  exact fin_r (by kernel_rfl)

theorem umbraref03_squares_ok_c : callable Try.prog 186 := ⟨_, Try.func186, by decide, rfl⟩

/-! umbra/umbraref02.Root -/
def p_umbraref02_Root_L1 (N : Nat) (a0 : Int) (a1 : Int) : Nat → Int → Int → Option (Int)
  | 0, _, _ => none
  | k + 1, s2, s3 =>
    cond (decide (s3 ≥ 0)) (
      Option.bind (Option.bind (shlO .u64 1 s3) fun x5 =>
      Option.bind (p_math_bits_Mul64 N (U64 (s2 + x5)) (U64 (s2 + x5))) fun r6 =>
      Option.bind (cond (decide (r6.1 < a0)) (
        some true) (
        letO (cond (r6.1 == a0) (decide (r6.2 ≤ a1)) false) fun x8 =>
        some x8)) fun p7 =>
      cond p7 (some (U64 (s2 + x5))) (some s2)) fun p4 =>
      p_umbraref02_Root_L1 N a0 a1 k p4 (I64 (s3 - 1))) (
      some s2)

def p_umbraref02_Root (N : Nat) (a0 : Int) (a1 : Int) : Option (Int) :=
  Option.bind (p_umbraref02_Root_L1 N a0 a1 N 0 63) fun p1 =>
  some p1

theorem umbraref02_Root_ok {N : Nat} {a0 : Int} {a1 : Int} {r : Int} (h : p_umbraref02_Root N a0 a1 = some r) : FnM Try.prog 187 [] [(k64 a0), (k64 a1)] (k64 r) [] := by
  unfold p_umbraref02_Root at h
  refine fnM_of_aw (m := 39) (lo := 0) (rs := [.tmp 4]) hT Try.func187 rfl (by kernel_rfl) rfl ?_
  refine aw_sregU hT m_no [] (by kernel_rfl) ?_
  refine aw_sregU hT m_no [] (by kernel_rfl) ?_
  refine aw_seq ?_
  refine aw_sregU hT m_no [] (by kernel_rfl) ?_
  obtain ⟨p1, h, g1⟩ := obind h
  refine aw_joinTK ⟨[en 5 (k64 p1)], []⟩ ?_ ?_
  · refine aw_block (aw_loop (fun k s => ∃ s2 s3, p_umbraref02_Root_L1 N a0 a1 k s2 s3 = some p1 ∧ JR (Fr.f 39 0) ⟨[en 0 (k64 a0), en 1 (k64 a1), en 5 (k64 s2), en 6 (j64 s3)], []⟩ s) (fun k s hI => ?_) N _ ⟨_, _, h, jr (by kernel_rfl)⟩)
    obtain ⟨s2, s3, h, hj⟩ := hI
    cases k with
    | zero => cases h
    | succ k =>
      refine aw_to _ hj ?_
      refine aw_seq ?_
      refine aw_sregU hT m_no [] (by kernel_rfl) ?_
      refine aw_condH h (by kernel_rfl) (fun _ h => ?_) (fun _ h => ?_)
      · refine aw_skip (tn_n ?_)
        obtain ⟨p4, h, g4⟩ := obind h
        refine aw_joinT ⟨[en 0 (k64 a0), en 1 (k64 a1), en 5 (k64 p4), en 6 (j64 s3)], []⟩ ?_ ?_
        · refine aw_block ?_
          refine aw_sreg ?_
          refine awl_u hT m_no [] 2 (by kernel_rfl) ?_
          obtain ⟨x5, hx5, h⟩ := obind h
          refine awl_big (big_shl hT (k' := .i64) hx5 (by kernel_rfl) (by kernel_rfl)) (by kernel_rfl) ?_
          refine awl_u hT m_no [] 2 (by kernel_rfl) ?_
          refine awl_nil ?_
          refine aw_sreg ?_
          refine awl_u hT m_no [] 2 (by kernel_rfl) ?_
          obtain ⟨r6, hr6, h⟩ := obind h
          refine awl_big (big_call [] (math_bits_Mul64_ok hr6) math_bits_Mul64_ok_c (by kernel_rfl) (by kernel_rfl)) (by kernel_rfl) ?_
          refine awl_u hT m_no [] 5 (by kernel_rfl) ?_
          refine awl_nil ?_
          obtain ⟨p7, h, g7⟩ := obind h
          refine aw_joinT ⟨[en 0 (k64 a0), en 1 (k64 a1), en 5 (k64 s2), en 6 (j64 s3), en 7 (k64 (U64 (s2 + x5))), en 36 (eB p7)], []⟩ ?_ ?_
          · refine aw_region ?_
            refine awl_u hT m_no [] 4 (by kernel_rfl) ?_
            refine awl_split 27 h (by kernel_rfl) (fun h => ?_) (fun h => ?_)
            · refine awl_u hT m_no [27, 31] 9 (by kernel_rfl) ?_
              refine awl_nil (tn_n ?_)
              cases h
              exact jr (by kernel_rfl)
            · obtain ⟨x8, hx8, h⟩ := letE h
              refine awl_u hT m_no [27] 9 (by kernel_rfl) ?_
              refine awl_nms [(36, (eB x8))] (by subst hx8; kernel_rfl) ?_
              refine awl_nil (tn_n ?_)
              cases h
              exact jr (by kernel_rfl)
          · have h := g7
            refine aw_condH h (by kernel_rfl) (fun _ h => ?_) (fun _ h => ?_)
            · refine aw_regU hT m_no [] (by kernel_rfl) (inB_n (tn_n ?_))
              cases h
              exact jr (by kernel_rfl)
            · refine aw_skip (inB_n (tn_n ?_))
              cases h
              exact jr (by kernel_rfl)
        · have h := g4
          refine aw_regU hT m_no [] (by kernel_rfl) (tn_n ?_)
          exact ⟨k, Nat.lt_succ_self k, _, _, h, jr (by kernel_rfl)⟩
      · refine aw_exit (tn_x (tn_x (inB_e (tn_n ?_))))
        cases h
        exact jr (by kernel_rfl)
  · have h := g1
    refine (tn_n ?_)
    refine aw_sregU hT m_no [] (by kernel_rfl) ?_
    refine aw_ret ?_
    cases h
    exact fin_r (by kernel_rfl)

theorem umbraref02_Root_ok_c : callable Try.prog 187 := ⟨_, Try.func187, by decide, rfl⟩

/-! umbra/umbraref03.Length -/
def m_umbraref03_Length : Nat → Bool := imL [1]

def p_umbraref03_Length (N : Nat) (a0 : S_api_Vec) : Option (Int) :=
  Option.bind (p_umbraref02_Size N a0.gX) fun r1 =>
  Option.bind (p_umbraref02_Size N a0.gY) fun r2 =>
  Option.bind (p_umbraref02_Size N a0.gZ) fun r3 =>
  Option.bind (p_umbraref03_squares N r1 r2 r3) fun r4 =>
  letO (decide (r4.1 ≥ 4611686018427387904)) fun x5 =>
  cond (cond r4.2.2 true x5) (
    some 9223372036854775807) (
    Option.bind (p_umbraref02_Root N r4.1 r4.2.1) fun r6 =>
    some (I64 r6))

theorem umbraref03_Length_ok {N : Nat} {a0 : S_api_Vec} {r : Int} (h : p_umbraref03_Length N a0 = some r) : FnM Try.prog 162 [] [(S_api_Vec.enc a0)] (j64 r) [] := by
  unfold p_umbraref03_Length at h
  refine fnM_of_aw (m := 29) (lo := 0) (rs := [.tmp 2]) hT Try.func162 rfl (by kernel_rfl) rfl ?_
  refine aw_sregU hT m_umbraref03_Length [] (by kernel_rfl) ?_
  obtain ⟨r1, hr1, h⟩ := obind h
  obtain ⟨r2, hr2, h⟩ := obind h
  obtain ⟨r3, hr3, h⟩ := obind h
  obtain ⟨r4, hr4, h⟩ := obind h
  refine aw_sdrawV hT hmo m_umbraref03_Length [(2, (k64 r1)), (5, (k64 r2)), (8, (k64 r3)), (9, (.tup [(k64 r4.1), (k64 r4.2.1), (eB r4.2.2)]))] [] (by kernel_rfl) (by kernel_rfl) (by kernel_rfl) ⟨fun _ => big_call0 (umbraref02_Size_ok hr1) umbraref02_Size_ok_c (by kernel_rfl) (by kernel_rfl) (by kernel_rfl), fun _ => big_call0 (umbraref02_Size_ok hr2) umbraref02_Size_ok_c (by kernel_rfl) (by kernel_rfl) (by kernel_rfl), fun _ => big_call0 (umbraref02_Size_ok hr3) umbraref02_Size_ok_c (by kernel_rfl) (by kernel_rfl) (by kernel_rfl), fun _ => big_call0 (umbraref03_squares_ok hr4) umbraref03_squares_ok_c (by kernel_rfl) (by kernel_rfl) (by kernel_rfl), trivial⟩ trivial ?_
  refine aw_seq ?_
  obtain ⟨x5, hx5, h⟩ := letE h
  refine aw_sregU hT m_umbraref03_Length [] (by kernel_rfl) ?_
  refine aw_nms [(24, (eB (cond r4.2.2 true x5)))] (by subst hx5; kernel_rfl) ?_
  refine aw_condH h (by kernel_rfl) (fun _ h => ?_) (fun _ h => ?_)
  · refine aw_sregU hT m_umbraref03_Length [] (by kernel_rfl) ?_
    refine aw_ret (tn_r ?_)
    cases h
    exact fin_r (by kernel_rfl)
  · refine aw_skip (tn_n ?_)
    refine aw_sreg ?_
    refine awl_u hT m_umbraref03_Length [] 2 (by kernel_rfl) ?_
    obtain ⟨r6, hr6, h⟩ := obind h
    refine awl_big (big_call [] (umbraref02_Root_ok hr6) umbraref02_Root_ok_c (by kernel_rfl) (by kernel_rfl)) (by kernel_rfl) ?_
    refine awl_u hT m_umbraref03_Length [] 2 (by kernel_rfl) ?_
    refine awl_nil ?_
    refine aw_ret ?_
    cases h
    exact fin_r (by kernel_rfl)

theorem umbraref03_Length_ok_c : callable Try.prog 162 := ⟨_, Try.func162, by decide, rfl⟩

/-! umbra/umbraref03.Unit -/
def m_umbraref03_Unit : Nat → Bool := imL [1]

def p_umbraref03_Unit (N : Nat) (a0 : S_api_Vec) : Option (S_api_Vec) :=
  Option.bind (p_umbraref03_Length N a0) fun r1 =>
  cond (r1 == 0) (
    some a0) (
    Option.bind (p_umbraref02_Div N a0.gX r1) fun r2 =>
    Option.bind (p_umbraref02_Div N a0.gY r1) fun r3 =>
    Option.bind (p_umbraref02_Div N a0.gZ r1) fun r4 =>
    some (S_api_Vec.mk r2 r3 r4))

theorem umbraref03_Unit_ok {N : Nat} {a0 : S_api_Vec} {r : S_api_Vec} (h : p_umbraref03_Unit N a0 = some r) : FnM Try.prog 125 [] [(S_api_Vec.enc a0)] (S_api_Vec.enc r) [] := by
  unfold p_umbraref03_Unit at h
  refine fnM_of_aw (m := 22) (lo := 0) (rs := [.cell 2 167]) hT Try.func125 rfl (by kernel_rfl) rfl ?_
  refine aw_sregU hT m_umbraref03_Unit [] (by kernel_rfl) ?_
  refine aw_sreg ?_
  refine awl_u hT m_umbraref03_Unit [] 1 (by kernel_rfl) ?_
  obtain ⟨r1, hr1, h⟩ := obind h
  refine awl_big (big_call [] (umbraref03_Length_ok hr1) umbraref03_Length_ok_c (by kernel_rfl) (by kernel_rfl)) (by kernel_rfl) ?_
  refine awl_u hT m_umbraref03_Unit [] 1 (by kernel_rfl) ?_
  refine awl_nil ?_
  refine aw_seq ?_
  refine aw_sregU hT m_umbraref03_Unit [] (by kernel_rfl) ?_
  refine aw_condH h (by kernel_rfl) (fun _ h => ?_) (fun _ h => ?_)
  · refine aw_sregU hT m_umbraref03_Unit [] (by kernel_rfl) ?_
    refine aw_ret (tn_r ?_)
    cases h
    exact fin_r (by kernel_rfl)
  · refine aw_skip (tn_n ?_)
    obtain ⟨r2, hr2, h⟩ := obind h
    obtain ⟨r3, hr3, h⟩ := obind h
    obtain ⟨r4, hr4, h⟩ := obind h
    refine aw_sdrawV hT hmo m_umbraref03_Unit [(3, (j64 r2)), (7, (j64 r3)), (11, (j64 r4))] [] (by kernel_rfl) (by kernel_rfl) (by kernel_rfl) ⟨fun _ => big_call0 (umbraref02_Div_ok hr2) umbraref02_Div_ok_c (by kernel_rfl) (by kernel_rfl) (by kernel_rfl), fun _ => big_call0 (umbraref02_Div_ok hr3) umbraref02_Div_ok_c (by kernel_rfl) (by kernel_rfl) (by kernel_rfl), fun _ => big_call0 (umbraref02_Div_ok hr4) umbraref02_Div_ok_c (by kernel_rfl) (by kernel_rfl) (by kernel_rfl), trivial⟩ trivial ?_
    refine aw_ret ?_
    cases h
    exact fin_r (by kernel_rfl)

theorem umbraref03_Unit_ok_c : callable Try.prog 125 := ⟨_, Try.func125, by decide, rfl⟩

/-! umbra/umbraref02.Floor -/
def p_umbraref02_Floor (N : Nat) (a0 : Int) : Option (Int) :=
  Option.bind (p_umbraref02_Size N a0) fun r1 =>
  cond (decide (a0 ≥ 0)) (
    some (I64 (shr .u64 r1 32))) (
    letO (band .u64 r1 4294967295) fun x2 =>
    cond (x2 == 0) (
      letO (I64 (0 - (I64 (shr .u64 r1 32)))) fun x3 =>
      some x3) (
      letO (I64 (0 - (I64 (shr .u64 r1 32)))) fun x4 =>
      some (I64 (x4 - 1))))

theorem umbraref02_Floor_ok {N : Nat} {a0 : Int} {r : Int} (h : p_umbraref02_Floor N a0 = some r) : FnM Try.prog 88 [] [(j64 a0)] (j64 r) [] := by
  unfold p_umbraref02_Floor at h
  refine fnM_of_aw (m := 23) (lo := 0) (rs := [.tmp 2]) hT Try.func88 rfl (by kernel_rfl) rfl ?_
  refine aw_sregU hT m_no [] (by kernel_rfl) ?_
  refine aw_sreg ?_
  refine awl_u hT m_no [] 1 (by kernel_rfl) ?_
  obtain ⟨r1, hr1, h⟩ := obind h
  refine awl_big (big_call [] (umbraref02_Size_ok hr1) umbraref02_Size_ok_c (by kernel_rfl) (by kernel_rfl)) (by kernel_rfl) ?_
  refine awl_u hT m_no [] 1 (by kernel_rfl) ?_
  refine awl_nil ?_
  refine aw_seq ?_
  refine aw_sregU hT m_no [] (by kernel_rfl) ?_
  refine aw_condH h (by kernel_rfl) (fun _ h => ?_) (fun _ h => ?_)
  · refine aw_sregU hT m_no [] (by kernel_rfl) ?_
    refine aw_ret (tn_r ?_)
    cases h
    exact fin_r (by kernel_rfl)
  · refine aw_skip (tn_n ?_)
    refine aw_seq ?_
    obtain ⟨x2, hx2, h⟩ := letE h
    refine aw_sregU hT m_no [] (by kernel_rfl) ?_
    refine aw_nms [(13, (eB (x2 == 0)))] (by subst hx2; kernel_rfl) ?_
    refine aw_condH h (by kernel_rfl) (fun _ h => ?_) (fun _ h => ?_)
    · obtain ⟨x3, hx3, h⟩ := letE h
      refine aw_sregU hT m_no [] (by kernel_rfl) ?_
      refine aw_nms [(2, (j64 x3))] (by subst hx3; kernel_rfl) ?_
      refine aw_ret (tn_r ?_)
      cases h
      exact fin_r (by kernel_rfl)
    · refine aw_skip (tn_n ?_)
      obtain ⟨x4, hx4, h⟩ := letE h
      refine aw_sregU hT m_no [] (by kernel_rfl) ?_
      refine aw_nms [(2, (j64 (I64 (x4 - 1))))] (by subst hx4; kernel_rfl) ?_
      refine aw_ret ?_
      cases h
      exact fin_r (by kernel_rfl)

theorem umbraref02_Floor_ok_c : callable Try.prog 88 := ⟨_, Try.func88, by decide, rfl⟩

/-! umbra/umbraref29.Tone -/
def p_umbraref29_Tone (N : Nat) (a0 : Int) : Option (Int) :=
  cond (decide (a0 ≤ 0)) (
    some 0) (
    Option.bind (p_umbraref02_Of N 65535) fun r1 =>
    Option.bind (p_umbraref02_Two N a0 4294967296) fun r2 =>
    Option.bind (p_umbraref02_Div N a0 r2) fun r3 =>
    Option.bind (p_umbraref02_Times N r1 r3) fun r4 =>
    Option.bind (p_umbraref02_Floor N r4) fun r5 =>
    some r5)

theorem umbraref29_Tone_ok {N : Nat} {a0 : Int} {r : Int} (h : p_umbraref29_Tone N a0 = some r) : FnM Try.prog 34 [] [(j64 a0)] (j64 r) [] := by
  unfold p_umbraref29_Tone at h
  refine fnM_of_aw (m := 12) (lo := 0) (rs := [.tmp 2]) hT Try.func34 rfl (by kernel_rfl) rfl ?_
  refine aw_sregU hT m_no [] (by kernel_rfl) ?_
  refine aw_seq ?_
  refine aw_sregU hT m_no [] (by kernel_rfl) ?_
  refine aw_condH h (by kernel_rfl) (fun _ h => ?_) (fun _ h => ?_)
  · refine aw_sregU hT m_no [] (by kernel_rfl) ?_
    refine aw_ret (tn_r ?_)
    cases h
    exact fin_r (by kernel_rfl)
  · refine aw_skip (tn_n ?_)
    refine aw_sreg ?_
    obtain ⟨r1, hr1, h⟩ := obind h
    refine awl_big (big_call [] (umbraref02_Of_ok hr1) umbraref02_Of_ok_c (by kernel_rfl) (by kernel_rfl)) (by kernel_rfl) ?_
    refine awl_u hT m_no [] 2 (by kernel_rfl) ?_
    obtain ⟨r2, hr2, h⟩ := obind h
    refine awl_big (big_call [] (umbraref02_Two_ok hr2) umbraref02_Two_ok_c (by kernel_rfl) (by kernel_rfl)) (by kernel_rfl) ?_
    obtain ⟨r3, hr3, h⟩ := obind h
    refine awl_big (big_call [] (umbraref02_Div_ok hr3) umbraref02_Div_ok_c (by kernel_rfl) (by kernel_rfl)) (by kernel_rfl) ?_
    obtain ⟨r4, hr4, h⟩ := obind h
    refine awl_big (big_call [] (umbraref02_Times_ok hr4) umbraref02_Times_ok_c (by kernel_rfl) (by kernel_rfl)) (by kernel_rfl) ?_
    obtain ⟨r5, hr5, h⟩ := obind h
    refine awl_big (big_call [] (umbraref02_Floor_ok hr5) umbraref02_Floor_ok_c (by kernel_rfl) (by kernel_rfl)) (by kernel_rfl) ?_
    refine awl_u hT m_no [] 1 (by kernel_rfl) ?_
    refine awl_nil ?_
    refine aw_ret ?_
    cases h
    exact fin_r (by kernel_rfl)

theorem umbraref29_Tone_ok_c : callable Try.prog 34 := ⟨_, Try.func34, by decide, rfl⟩

/-! umbra/umbraref02.Clamp -/
def p_umbraref02_Clamp (N : Nat) (a0 : Int) (a1 : Int) (a2 : Int) : Option (Int) :=
  Option.bind (cond (decide (a0 < a1)) (some a1) (some a0)) fun p1 =>
  Option.bind (cond (decide (p1 > a2)) (some a2) (some p1)) fun p2 =>
  some p2

theorem umbraref02_Clamp_ok {N : Nat} {a0 : Int} {a1 : Int} {a2 : Int} {r : Int} (h : p_umbraref02_Clamp N a0 a1 a2 = some r) : FnM Try.prog 94 [] [(j64 a0), (j64 a1), (j64 a2)] (j64 r) [] := by
  unfold p_umbraref02_Clamp at h
  refine fnM_of_aw (m := 16) (lo := 0) (rs := [.tmp 6]) hT Try.func94 rfl (by kernel_rfl) rfl ?_
  refine aw_sregU hT m_no [] (by kernel_rfl) ?_
  obtain ⟨p1, h, g1⟩ := obind h
  refine aw_joinT ⟨[en 0 (j64 p1), en 2 (j64 a2)], []⟩ ?_ ?_
  · refine aw_sregU hT m_no [] (by kernel_rfl) ?_
    refine aw_condH h (by kernel_rfl) (fun _ h => ?_) (fun _ h => ?_)
    · refine aw_regU hT m_no [] (by kernel_rfl) (tn_n ?_)
      cases h
      exact jr (by kernel_rfl)
    · refine aw_skip (tn_n ?_)
      cases h
      exact jr (by kernel_rfl)
  · have h := g1
    obtain ⟨p2, h, g2⟩ := obind h
    refine aw_joinT ⟨[en 0 (j64 p2)], []⟩ ?_ ?_
    · refine aw_sregU hT m_no [] (by kernel_rfl) ?_
      refine aw_condH h (by kernel_rfl) (fun _ h => ?_) (fun _ h => ?_)
      · refine aw_regU hT m_no [] (by kernel_rfl) (tn_n ?_)
        cases h
        exact jr (by kernel_rfl)
      · refine aw_skip (tn_n ?_)
        cases h
        exact jr (by kernel_rfl)
    · have h := g2
      refine aw_sregU hT m_no [] (by kernel_rfl) ?_
      refine aw_ret ?_
      cases h
      exact fin_r (by kernel_rfl)

theorem umbraref02_Clamp_ok_c : callable Try.prog 94 := ⟨_, Try.func94, by decide, rfl⟩

/-! umbra/umbraref29.Side -/
def p_umbraref29_Side (N : Nat) (a0 : Int) : Option (Int) :=
  Option.bind (p_umbraref02_Clamp N a0 (-4294967296) 4294967296) fun r1 =>
  Option.bind (p_umbraref02_Of N 32767) fun r2 =>
  Option.bind (p_umbraref02_Two N 4294967296 r1) fun r3 =>
  Option.bind (p_umbraref02_Times N r2 r3) fun r4 =>
  Option.bind (p_umbraref02_Floor N r4) fun r5 =>
  some r5

theorem umbraref29_Side_ok {N : Nat} {a0 : Int} {r : Int} (h : p_umbraref29_Side N a0 = some r) : FnM Try.prog 38 [] [(j64 a0)] (j64 r) [] := by
  unfold p_umbraref29_Side at h
  refine fnM_of_aw (m := 10) (lo := 0) (rs := [.tmp 2]) hT Try.func38 rfl (by kernel_rfl) rfl ?_
  refine aw_sregU hT m_no [] (by kernel_rfl) ?_
  refine aw_sreg ?_
  refine awl_u hT m_no [] 1 (by kernel_rfl) ?_
  obtain ⟨r1, hr1, h⟩ := obind h
  refine awl_big (big_call [] (umbraref02_Clamp_ok hr1) umbraref02_Clamp_ok_c (by kernel_rfl) (by kernel_rfl)) (by kernel_rfl) ?_
  refine awl_u hT m_no [] 1 (by kernel_rfl) ?_
  refine awl_nil ?_
  refine aw_sreg ?_
  obtain ⟨r2, hr2, h⟩ := obind h
  refine awl_big (big_call [] (umbraref02_Of_ok hr2) umbraref02_Of_ok_c (by kernel_rfl) (by kernel_rfl)) (by kernel_rfl) ?_
  refine awl_u hT m_no [] 1 (by kernel_rfl) ?_
  obtain ⟨r3, hr3, h⟩ := obind h
  refine awl_big (big_call [] (umbraref02_Two_ok hr3) umbraref02_Two_ok_c (by kernel_rfl) (by kernel_rfl)) (by kernel_rfl) ?_
  obtain ⟨r4, hr4, h⟩ := obind h
  refine awl_big (big_call [] (umbraref02_Times_ok hr4) umbraref02_Times_ok_c (by kernel_rfl) (by kernel_rfl)) (by kernel_rfl) ?_
  obtain ⟨r5, hr5, h⟩ := obind h
  refine awl_big (big_call [] (umbraref02_Floor_ok hr5) umbraref02_Floor_ok_c (by kernel_rfl) (by kernel_rfl)) (by kernel_rfl) ?_
  refine awl_u hT m_no [] 1 (by kernel_rfl) ?_
  refine awl_nil ?_
  refine aw_ret ?_
  cases h
  exact fin_r (by kernel_rfl)

theorem umbraref29_Side_ok_c : callable Try.prog 38 := ⟨_, Try.func38, by decide, rfl⟩

/-! umbra/umbraref29.Far -/
def p_umbraref29_Far (N : Nat) (a0 : Int) : Option (Int) :=
  Option.bind (p_umbraref02_Floor N a0) fun r1 =>
  cond (decide (r1 < 0)) (some 0) (cond (decide (r1 > 65535)) (some 65535) (some r1))

theorem umbraref29_Far_ok {N : Nat} {a0 : Int} {r : Int} (h : p_umbraref29_Far N a0 = some r) : FnM Try.prog 36 [] [(j64 a0)] (j64 r) [] := by
  unfold p_umbraref29_Far at h
  refine fnM_of_aw (m := 11) (lo := 0) (rs := [.tmp 2]) hT Try.func36 rfl (by kernel_rfl) rfl ?_
  refine aw_sregU hT m_no [] (by kernel_rfl) ?_
  refine aw_sreg ?_
  refine awl_u hT m_no [] 1 (by kernel_rfl) ?_
  obtain ⟨r1, hr1, h⟩ := obind h
  refine awl_big (big_call [] (umbraref02_Floor_ok hr1) umbraref02_Floor_ok_c (by kernel_rfl) (by kernel_rfl)) (by kernel_rfl) ?_
  refine awl_u hT m_no [] 1 (by kernel_rfl) ?_
  refine awl_nil ?_
  refine aw_seq ?_
  refine aw_sregU hT m_no [] (by kernel_rfl) ?_
  refine aw_condH h (by kernel_rfl) (fun _ h => ?_) (fun _ h => ?_)
  · refine aw_sregU hT m_no [] (by kernel_rfl) ?_
    refine aw_ret (tn_r ?_)
    cases h
    exact fin_r (by kernel_rfl)
  · refine aw_skip (tn_n ?_)
    refine aw_seq ?_
    refine aw_sregU hT m_no [] (by kernel_rfl) ?_
    refine aw_condH h (by kernel_rfl) (fun _ h => ?_) (fun _ h => ?_)
    · refine aw_sregU hT m_no [] (by kernel_rfl) ?_
      refine aw_ret (tn_r ?_)
      cases h
      exact fin_r (by kernel_rfl)
    · refine aw_skip (tn_n ?_)
      refine aw_sregU hT m_no [] (by kernel_rfl) ?_
      refine aw_ret ?_
      cases h
      exact fin_r (by kernel_rfl)

theorem umbraref29_Far_ok_c : callable Try.prog 36 := ⟨_, Try.func36, by decide, rfl⟩

/-! umbra/umbraref29.Pixel -/
def m_umbraref29_Pixel : Nat → Bool := imL [3]

def p_umbraref29_Pixel_L1 (N : Nat) (a0 : (List S_api_Sample)) (a1 : S_api_Scene) : Nat → Int → Int → Int → Int → Int → Int → Int → Int → Int → Int → Int → Option (Sum (Int × Int × Int × Int × Int × Int × Int × Int × Int × Int) (S_api_Image × Int))
  | 0, _, _, _, _, _, _, _, _, _, _, _ => none
  | k + 1, s4, s5, s6, s7, s8, s9, s10, s11, s12, s13, s14 =>
    letO (decide (s14 < ((a0.length : Int)))) fun x15 =>
    cond x15 (
      Option.bind (Option.bind (idx a0 s14) fun e17 =>
      letO (decide (e17.gObj < (-1))) fun x18 =>
      letO (decide (e17.gObj ≥ ((a1.gIds.length : Int)))) fun x19 =>
      letO ((a1.gLabels.length : Int)) fun x20 =>
      letO (decide (e17.gObj ≥ x20)) fun x21 =>
      letO (cond (cond x18 true x19) true x21) fun x22 =>
      letO (decide (e17.gAlpha < 0)) fun x23 =>
      letO (decide (e17.gAlpha > 1)) fun x24 =>
      letO (cond (cond x22 true x23) true x24) fun x25 =>
      cond x25 (
        some (Sum.inr ((S_api_Image.mk 0 0 [] [] [] [] [] [], 5)))) (
        Option.bind (p_umbraref03_Two N (S_api_Vec.mk s4 s5 s6) e17.gColor) fun r26 =>
        Option.bind (p_umbraref03_Two N (S_api_Vec.mk s7 s8 s9) e17.gNormal) fun r27 =>
        Option.bind (p_umbraref02_Two N s10 e17.gDepth) fun r28 =>
        cond (decide (e17.gObj ≥ 0)) (
          cond (decide (s13 < 0)) (
            some (Sum.inl ((r26, r27, e17, r28, I64 (s11 + e17.gAlpha), I64 (s12 + 1), e17.gObj)))) (
            some (Sum.inl ((r26, r27, e17, r28, I64 (s11 + e17.gAlpha), I64 (s12 + 1), s13))))) (
          some (Sum.inl ((r26, r27, e17, r28, I64 (s11 + e17.gAlpha), s12, s13)))))) fun o => sumC o (fun p16 =>
        p_umbraref29_Pixel_L1 N a0 a1 k p16.1.gX p16.1.gY p16.1.gZ p16.2.1.gX p16.2.1.gY p16.2.1.gZ p16.2.2.2.1 p16.2.2.2.2.1 p16.2.2.2.2.2.1 p16.2.2.2.2.2.2 (I64 (s14 + 1))) (fun r => some (Sum.inr r))) (
      some (Sum.inl ((s4, s5, s6, s7, s8, s9, s10, s11, s12, s13))))

def p_umbraref29_Pixel (N : Nat) (a0 : (List S_api_Sample)) (a1 : S_api_Scene) : Option (S_api_Image × Int) :=
  letO (decide (((a0.length : Int)) < 1)) fun x1 =>
  letO (decide (((a0.length : Int)) > 16)) fun x2 =>
  cond (cond x1 true x2) (
    some ((S_api_Image.mk 0 0 [] [] [] [] [] [], 2))) (
    Option.bind (p_umbraref29_Pixel_L1 N a0 a1 N 0 0 0 0 0 0 0 0 0 (-1) 0) fun o => sumC o (fun p3 =>
      Option.bind (p_umbraref02_Of N ((a0.length : Int))) fun r29 =>
      Option.bind (p_umbraref02_Div N 4294967296 r29) fun r30 =>
      Option.bind (p_umbraref03_Scale N (S_api_Vec.mk p3.1 p3.2.1 p3.2.2.1) r30) fun r31 =>
      Option.bind (p_umbraref03_Unit N (S_api_Vec.mk p3.2.2.2.1 p3.2.2.2.2.1 p3.2.2.2.2.2.1)) fun r32 =>
      Option.bind (p_umbraref29_Tone N r31.gX) fun r33 =>
      Option.bind (p_umbraref29_Tone N r31.gY) fun r34 =>
      Option.bind (p_umbraref29_Tone N r31.gZ) fun r35 =>
      letO (I64 (65535 * p3.2.2.2.2.2.2.2.1)) fun x37 =>
      Option.bind (quoO .i64 x37 ((a0.length : Int))) fun x38 =>
      Option.bind (p_umbraref29_Side N r32.gX) fun r39 =>
      Option.bind (p_umbraref29_Side N r32.gY) fun r40 =>
      Option.bind (p_umbraref29_Side N r32.gZ) fun r41 =>
      Option.bind (letO (decide (p3.2.2.2.2.2.2.2.2.1 > 0)) fun x43 =>
      cond x43 (
        Option.bind (p_umbraref02_Of N p3.2.2.2.2.2.2.2.2.1) fun r44 =>
        Option.bind (p_umbraref02_Div N p3.2.2.2.2.2.2.1 r44) fun r45 =>
        Option.bind (p_umbraref29_Far N r45) fun r46 =>
        Option.bind (inRO 0 1) fun _ =>
        Option.bind ((([0] : List Int))[((0 : Int).toNat)]?) fun e48 =>
        letO (I64 (p3.2.2.2.2.2.2.2.2.2 + 1)) fun x50 =>
        Option.bind (inRO 0 1) fun _ =>
        Option.bind ((([0] : List Int))[((0 : Int).toNat)]?) fun e52 =>
        Option.bind (idx a1.gLabels p3.2.2.2.2.2.2.2.2.2) fun e53 =>
        letO (I64 (Int.tmod e53 65536)) fun x54 =>
        Option.bind (inRO 0 1) fun _ =>
        Option.bind ((([0] : List Int))[((0 : Int).toNat)]?) fun e56 =>
        some (((([0] : List Int)).set (((0 : Int).toNat)) r46, (([0] : List Int)).set (((0 : Int).toNat)) (imin x50 65535), (([0] : List Int)).set (((0 : Int).toNat)) x54))) (
        some ((([0] : List Int), ([0] : List Int), ([0] : List Int))))) fun p42 =>
      Option.bind (lenO p42.1 1) fun _ =>
      Option.bind (lenO p42.2.1 1) fun _ =>
      Option.bind (lenO p42.2.2 1) fun _ =>
      some ((S_api_Image.mk 1 1 ([#v[r33, r34, r35]]) ([x38]) p42.1 ([#v[r39, r40, r41]]) p42.2.1 p42.2.2, 0))) (fun r => some r))

theorem umbraref29_Pixel_ok {N : Nat} {a0 : (List S_api_Sample)} {a1 : S_api_Scene} {r : S_api_Image × Int} (h : p_umbraref29_Pixel N a0 a1 = some r) : FnM Try.prog 57 [] [(eL 9 S_api_Sample.enc a0), (S_api_Scene.enc a1)] (.tup [(S_api_Image.enc r.1), (j64 r.2)]) [] := by
  unfold p_umbraref29_Pixel at h
  refine fnM_of_aw (m := 164) (lo := 0) (rs := [.cell 4 73, .tmp 5]) hT Try.func57 rfl (by kernel_rfl) rfl ?_
  refine aw_sregU hT m_umbraref29_Pixel [] (by kernel_rfl) ?_
  refine aw_seq ?_
  obtain ⟨x1, hx1, h⟩ := letE h
  obtain ⟨x2, hx2, h⟩ := letE h
  refine aw_sregU hT m_umbraref29_Pixel [] (by kernel_rfl) ?_
  refine aw_nms [(24, (eB (cond x1 true x2)))] (by subst hx2 hx1; kernel_rfl) ?_
  refine aw_condH h (by kernel_rfl) (fun _ h => ?_) (fun _ h => ?_)
  · refine aw_sregU hT m_umbraref29_Pixel [] (by kernel_rfl) ?_
    refine aw_ret (tn_r ?_)
    cases h
    exact fin_r (by kernel_rfl)
  · refine aw_skip (tn_n ?_)
    refine aw_sregU hT m_umbraref29_Pixel [] (by kernel_rfl) ?_
    refine aw_sregU hT m_umbraref29_Pixel [] (by kernel_rfl) ?_
    refine aw_sregU hT m_umbraref29_Pixel [] (by kernel_rfl) ?_
    refine aw_sregU hT m_umbraref29_Pixel [] (by kernel_rfl) ?_
    refine aw_seq ?_
    refine aw_sregU hT m_umbraref29_Pixel [] (by kernel_rfl) ?_
    obtain ⟨op3, h, g3⟩ := obind h
    refine aw_joinSK (fun p3 => ⟨[en 0 (eL 9 S_api_Sample.enc a0), en 3 (.im (S_api_Scene.enc a1)), en 4 (.ref 0 [] 0), en 6 (.ref 1 [] 0), en 7 (.ref 2 [] 0), en 8 (j64 p3.2.2.2.2.2.2.1), en 9 (j64 p3.2.2.2.2.2.2.2.1), en 10 (j64 p3.2.2.2.2.2.2.2.2.1), en 11 (j64 p3.2.2.2.2.2.2.2.2.2)], [.var (.st 8 [(j64 0), (j64 0), (.v (.slice none 0 0)), (.v (.slice none 0 0)), (.v (.slice none 0 0)), (.v (.slice none 0 0)), (.v (.slice none 0 0)), (.v (.slice none 0 0))]), .var (.st 3 [(j64 p3.1), (j64 p3.2.1), (j64 p3.2.2.1)]), .var (.st 3 [(j64 p3.2.2.2.1), (j64 p3.2.2.2.2.1), (j64 p3.2.2.2.2.2.1)])]⟩) g3 ?_ (fun p3 h => ?_)
    · refine aw_block (aw_loop (fun k s => ∃ s4 s5 s6 s7 s8 s9 s10 s11 s12 s13 s14, p_umbraref29_Pixel_L1 N a0 a1 k s4 s5 s6 s7 s8 s9 s10 s11 s12 s13 s14 = some op3 ∧ JR (Fr.f 164 0) ⟨[en 0 (eL 9 S_api_Sample.enc a0), en 3 (.im (S_api_Scene.enc a1)), en 4 (.ref 0 [] 0), en 6 (.ref 1 [] 0), en 7 (.ref 2 [] 0), en 8 (j64 s10), en 9 (j64 s11), en 10 (j64 s12), en 11 (j64 s13), en 12 (j64 s14)], [.var (.st 8 [(j64 0), (j64 0), (.v (.slice none 0 0)), (.v (.slice none 0 0)), (.v (.slice none 0 0)), (.v (.slice none 0 0)), (.v (.slice none 0 0)), (.v (.slice none 0 0))]), .var (.st 3 [(j64 s4), (j64 s5), (j64 s6)]), .var (.st 3 [(j64 s7), (j64 s8), (j64 s9)])]⟩ s) (fun k s hI => ?_) N _ ⟨_, _, _, _, _, _, _, _, _, _, _, h, jr (by kernel_rfl)⟩)
      obtain ⟨s4, s5, s6, s7, s8, s9, s10, s11, s12, s13, s14, h, hj⟩ := hI
      cases k with
      | zero => cases h
      | succ k =>
        refine aw_to _ hj ?_
        refine aw_seq ?_
        obtain ⟨x15, hx15, h⟩ := letE h
        refine aw_sregU hT m_umbraref29_Pixel [] (by kernel_rfl) ?_
        refine aw_nms [(29, (eB x15))] (by subst hx15; kernel_rfl) ?_
        refine aw_condH h (by kernel_rfl) (fun _ h => ?_) (fun _ h => ?_)
        · refine aw_skip (tn_n ?_)
          obtain ⟨op16, h, g16⟩ := obind h
          refine aw_joinS (fun p16 => ⟨[en 0 (eL 9 S_api_Sample.enc a0), en 3 (.im (S_api_Scene.enc a1)), en 4 (.ref 0 [] 0), en 6 (.ref 1 [] 0), en 7 (.ref 2 [] 0), en 8 (j64 p16.2.2.2.1), en 9 (j64 p16.2.2.2.2.1), en 10 (j64 p16.2.2.2.2.2.1), en 11 (j64 p16.2.2.2.2.2.2), en 12 (j64 s14)], [.var (.st 8 [(j64 0), (j64 0), (.v (.slice none 0 0)), (.v (.slice none 0 0)), (.v (.slice none 0 0)), (.v (.slice none 0 0)), (.v (.slice none 0 0)), (.v (.slice none 0 0))]), .var (S_api_Vec.enc p16.1), .var (S_api_Vec.enc p16.2.1), .var (S_api_Sample.enc p16.2.2.1)]⟩) g16 ?_ (fun p16 h => ?_)
          · refine aw_block ?_
            refine aw_sreg ?_
            refine awl_u hT m_umbraref29_Pixel [] 2 (by kernel_rfl) ?_
            obtain ⟨e17, he17, h⟩ := obind h
            refine awl_big (big_idx hT S_api_Sample.enc he17 (by kernel_rfl) (by kernel_rfl)) (by kernel_rfl) ?_
            refine awl_u hT m_umbraref29_Pixel [] 3 (by kernel_rfl) ?_
            refine awl_nil ?_
            refine aw_seq ?_
            obtain ⟨x18, hx18, h⟩ := letE h
            obtain ⟨x19, hx19, h⟩ := letE h
            obtain ⟨x20, hx20, h⟩ := letE h
            obtain ⟨x21, hx21, h⟩ := letE h
            obtain ⟨x22, hx22, h⟩ := letE h
            obtain ⟨x23, hx23, h⟩ := letE h
            obtain ⟨x24, hx24, h⟩ := letE h
            obtain ⟨x25, hx25, h⟩ := letE h
            refine aw_sregU hT m_umbraref29_Pixel [] (by kernel_rfl) ?_
            refine aw_nms [(64, (eB x25))] (by subst hx25 hx24 hx23 hx22 hx21 hx20 hx19 hx18; kernel_rfl) ?_
            refine aw_condH h (by kernel_rfl) (fun _ h => ?_) (fun _ h => ?_)
            · refine aw_sregU hT m_umbraref29_Pixel [] (by kernel_rfl) ?_
              cases h
              have h := g16
              obtain rfl := sum_r h
              have h := g3
              refine aw_ret (tn_r (inB_r (tn_r (tn_r (inB_r (tn_r (tn_r ?_)))))))
              obtain rfl := sum_e h
              exact fin_r (by kernel_rfl)
            · refine aw_skip (tn_n ?_)
              refine aw_sreg ?_
              refine awl_u hT m_umbraref29_Pixel [] 3 (by kernel_rfl) ?_
              obtain ⟨r26, hr26, h⟩ := obind h
              refine awl_big (big_call [] (umbraref03_Two_ok hr26) umbraref03_Two_ok_c (by kernel_rfl) (by kernel_rfl)) (by kernel_rfl) ?_
              refine awl_u hT m_umbraref29_Pixel [] 1 (by kernel_rfl) ?_
              refine awl_nil ?_
              refine aw_sreg ?_
              refine awl_u hT m_umbraref29_Pixel [] 3 (by kernel_rfl) ?_
              obtain ⟨r27, hr27, h⟩ := obind h
              refine awl_big (big_call [] (umbraref03_Two_ok hr27) umbraref03_Two_ok_c (by kernel_rfl) (by kernel_rfl)) (by kernel_rfl) ?_
              refine awl_u hT m_umbraref29_Pixel [] 1 (by kernel_rfl) ?_
              refine awl_nil ?_
              refine aw_sreg ?_
              refine awl_u hT m_umbraref29_Pixel [] 3 (by kernel_rfl) ?_
              obtain ⟨r28, hr28, h⟩ := obind h
              refine awl_big (big_call [] (umbraref02_Two_ok hr28) umbraref02_Two_ok_c (by kernel_rfl) (by kernel_rfl)) (by kernel_rfl) ?_
              refine awl_u hT m_umbraref29_Pixel [] 1 (by kernel_rfl) ?_
              refine awl_nil ?_
              refine aw_sregU hT m_umbraref29_Pixel [] (by kernel_rfl) ?_
              refine aw_sregU hT m_umbraref29_Pixel [] (by kernel_rfl) ?_
              refine aw_condH h (by kernel_rfl) (fun _ h => ?_) (fun _ h => ?_)
              · refine aw_sregU hT m_umbraref29_Pixel [] (by kernel_rfl) ?_
                refine aw_sregU hT m_umbraref29_Pixel [] (by kernel_rfl) ?_
                refine aw_condH h (by kernel_rfl) (fun _ h => ?_) (fun _ h => ?_)
                · refine aw_regU hT m_umbraref29_Pixel [] (by kernel_rfl) (inB_n (tn_n ?_))
                  cases h
                  exact ⟨_, rfl, jr (by kernel_rfl)⟩
                · refine aw_skip (inB_n (tn_n ?_))
                  cases h
                  exact ⟨_, rfl, jr (by kernel_rfl)⟩
              · refine aw_skip (inB_n (tn_n ?_))
                cases h
                exact ⟨_, rfl, jr (by kernel_rfl)⟩
          · refine aw_regU hT m_umbraref29_Pixel [] (by kernel_rfl) (tn_n ?_)
            exact ⟨k, Nat.lt_succ_self k, _, _, _, _, _, _, _, _, _, _, _, h, jr (by kernel_rfl)⟩
        · refine aw_exit (tn_x (tn_x (inB_e (tn_n ?_))))
          cases h
          exact ⟨_, rfl, jr (by kernel_rfl)⟩
    · refine (tn_n ?_)
      obtain ⟨r29, hr29, h⟩ := obind h
      obtain ⟨r30, hr30, h⟩ := obind h
      obtain ⟨r31, hr31, h⟩ := obind h
      refine aw_sdrawV hT hmo m_umbraref29_Pixel [(3, (j64 r29)), (4, (j64 r30)), (5, (S_api_Vec.enc r31))] [] (by kernel_rfl) (by kernel_rfl) (by kernel_rfl) ⟨fun _ => big_call0 (umbraref02_Of_ok hr29) umbraref02_Of_ok_c (by kernel_rfl) (by kernel_rfl) (by kernel_rfl), fun _ => big_call0 (umbraref02_Div_ok hr30) umbraref02_Div_ok_c (by kernel_rfl) (by kernel_rfl) (by kernel_rfl), fun _ => big_call0 (umbraref03_Scale_ok hr31) umbraref03_Scale_ok_c (by kernel_rfl) (by kernel_rfl) (by kernel_rfl), trivial⟩ trivial ?_
      refine aw_sreg ?_
      refine awl_u hT m_umbraref29_Pixel [] 1 (by kernel_rfl) ?_
      obtain ⟨r32, hr32, h⟩ := obind h
      refine awl_big (big_call [] (umbraref03_Unit_ok hr32) umbraref03_Unit_ok_c (by kernel_rfl) (by kernel_rfl)) (by kernel_rfl) ?_
      refine awl_u hT m_umbraref29_Pixel [] 2 (by kernel_rfl) ?_
      refine awl_nil ?_
      refine aw_sregU hT m_umbraref29_Pixel [] (by kernel_rfl) ?_
      obtain ⟨r33, hr33, h⟩ := obind h
      obtain ⟨r34, hr34, h⟩ := obind h
      obtain ⟨r35, hr35, h⟩ := obind h
      refine aw_sdrawV hT hmo m_umbraref29_Pixel [(2, (j64 r33)), (5, (j64 r34)), (8, (j64 r35)), (10, (.sl 3 1 [(.arr 3 1 [(j64 r33), (j64 r34), (j64 r35)])]))] [] (by kernel_rfl) (by kernel_rfl) (by kernel_rfl) ⟨fun _ => big_call0 (umbraref29_Tone_ok hr33) umbraref29_Tone_ok_c (by kernel_rfl) (by kernel_rfl) (by kernel_rfl), fun _ => big_call0 (umbraref29_Tone_ok hr34) umbraref29_Tone_ok_c (by kernel_rfl) (by kernel_rfl) (by kernel_rfl), fun _ => big_call0 (umbraref29_Tone_ok hr35) umbraref29_Tone_ok_c (by kernel_rfl) (by kernel_rfl) (by kernel_rfl), fun _ => big_row hT (x := (.sl 3 1 [(.arr 3 1 [(j64 r33), (j64 r34), (j64 r35)])])) (by kernel_rfl) (by kernel_rfl), trivial⟩ trivial ?_
      refine aw_sreg ?_
      obtain ⟨x37, hx37, h⟩ := letE h
      refine awl_u hT m_umbraref29_Pixel [] 4 (by kernel_rfl) ?_
      refine awl_nms [(113, (j64 x37))] (by subst hx37; kernel_rfl) ?_
      obtain ⟨x38, hx38, h⟩ := obind h
      refine awl_big (big_quo hT hx38 (by kernel_rfl) (by kernel_rfl)) (by kernel_rfl) ?_
      refine awl_big (big_row hT (x := (.sl 1 1 [(j64 x38)])) (by kernel_rfl) (by kernel_rfl)) (by kernel_rfl) ?_
      refine awl_u hT m_umbraref29_Pixel [] 2 (by kernel_rfl) ?_
      refine awl_nil ?_
      obtain ⟨r39, hr39, h⟩ := obind h
      obtain ⟨r40, hr40, h⟩ := obind h
      obtain ⟨r41, hr41, h⟩ := obind h
      refine aw_sdrawV hT hmo m_umbraref29_Pixel [(2, (j64 r39)), (5, (j64 r40)), (8, (j64 r41)), (10, (.sl 3 1 [(.arr 3 1 [(j64 r39), (j64 r40), (j64 r41)])]))] [] (by kernel_rfl) (by kernel_rfl) (by kernel_rfl) ⟨fun _ => big_call0 (umbraref29_Side_ok hr39) umbraref29_Side_ok_c (by kernel_rfl) (by kernel_rfl) (by kernel_rfl), fun _ => big_call0 (umbraref29_Side_ok hr40) umbraref29_Side_ok_c (by kernel_rfl) (by kernel_rfl) (by kernel_rfl), fun _ => big_call0 (umbraref29_Side_ok hr41) umbraref29_Side_ok_c (by kernel_rfl) (by kernel_rfl) (by kernel_rfl), fun _ => big_row hT (x := (.sl 3 1 [(.arr 3 1 [(j64 r39), (j64 r40), (j64 r41)])])) (by kernel_rfl) (by kernel_rfl), trivial⟩ trivial ?_
      refine aw_sreg ?_
      refine awl_big (big_rowB hT j64 (k := 1) (N := 1) ([0] : List Int) (by kernel_rfl) (by kernel_rfl) rfl) (by kernel_rfl) ?_
      refine awl_u hT m_umbraref29_Pixel [] 2 (by kernel_rfl) ?_
      refine awl_nil ?_
      refine aw_sreg ?_
      refine awl_big (big_rowB hT j64 (k := 1) (N := 1) ([0] : List Int) (by kernel_rfl) (by kernel_rfl) rfl) (by kernel_rfl) ?_
      refine awl_u hT m_umbraref29_Pixel [] 2 (by kernel_rfl) ?_
      refine awl_nil ?_
      refine aw_sreg ?_
      refine awl_big (big_rowB hT j64 (k := 1) (N := 1) ([0] : List Int) (by kernel_rfl) (by kernel_rfl) rfl) (by kernel_rfl) ?_
      refine awl_u hT m_umbraref29_Pixel [] 2 (by kernel_rfl) ?_
      refine awl_nil ?_
      obtain ⟨p42, h, g42⟩ := obind h
      refine aw_joinT ⟨[en 4 (.ref 0 [] 0), en 16 (.ref 5 [] 0)], [.var (.st 8 [(j64 0), (j64 0), (.v (.slice none 0 0)), (.v (.slice none 0 0)), (.v (.slice none 0 0)), (.v (.slice none 0 0)), (.v (.slice none 0 0)), (.v (.slice none 0 0))]), .var (.st 3 [(j64 p3.1), (j64 p3.2.1), (j64 p3.2.2.1)]), .var (.st 3 [(j64 p3.2.2.2.1), (j64 p3.2.2.2.2.1), (j64 p3.2.2.2.2.2.1)]), .var (S_api_Vec.enc r31), .var (S_api_Vec.enc r32), .var (.st 8 [(j64 1), (j64 1), (.sl 3 1 [(.arr 3 1 [(j64 r33), (j64 r34), (j64 r35)])]), (.sl 1 1 [(j64 x38)]), (.bsl 6 [] 0 1 0 1), (.sl 3 1 [(.arr 3 1 [(j64 r39), (j64 r40), (j64 r41)])]), (.bsl 7 [] 0 1 0 1), (.bsl 8 [] 0 1 0 1)]), .var (.arr 1 1 (List.map j64 p42.1)), .var (.arr 1 1 (List.map j64 p42.2.1)), .var (.arr 1 1 (List.map j64 p42.2.2))]⟩ ?_ ?_
      · obtain ⟨x43, hx43, h⟩ := letE h
        refine aw_sregU hT m_umbraref29_Pixel [] (by kernel_rfl) ?_
        refine aw_nms [(138, (eB x43))] (by subst hx43; kernel_rfl) ?_
        refine aw_condH h (by kernel_rfl) (fun _ h => ?_) (fun _ h => ?_)
        · obtain ⟨r44, hr44, h⟩ := obind h
          obtain ⟨r45, hr45, h⟩ := obind h
          obtain ⟨r46, hr46, h⟩ := obind h
          obtain ⟨u47, hu47, h⟩ := obind h
          obtain ⟨e48, he48, h⟩ := obind h
          refine aw_sdrawV hT hmo m_umbraref29_Pixel [(4, (j64 r44)), (5, (j64 r45)), (6, (j64 r46)), (7, (.ref 6 [((0 : Int).toNat)] (0 + (((0 : Int).toNat)) * 1)))] [(8, fun _ => ((.v (.bool false)), [.var (.st 8 [(j64 0), (j64 0), (.v (.slice none 0 0)), (.v (.slice none 0 0)), (.v (.slice none 0 0)), (.v (.slice none 0 0)), (.v (.slice none 0 0)), (.v (.slice none 0 0))]), .var (.st 3 [(j64 p3.1), (j64 p3.2.1), (j64 p3.2.2.1)]), .var (.st 3 [(j64 p3.2.2.2.1), (j64 p3.2.2.2.2.1), (j64 p3.2.2.2.2.2.1)]), .var (S_api_Vec.enc r31), .var (S_api_Vec.enc r32), .var (.st 8 [(j64 1), (j64 1), (.sl 3 1 [(.arr 3 1 [(j64 r33), (j64 r34), (j64 r35)])]), (.sl 1 1 [(j64 x38)]), (.bsl 6 [] 0 1 0 1), (.sl 3 1 [(.arr 3 1 [(j64 r39), (j64 r40), (j64 r41)])]), (.bsl 7 [] 0 1 0 1), (.bsl 8 [] 0 1 0 1)]), .var (.arr 1 1 (List.map j64 ((([0] : List Int)).set (((0 : Int).toNat)) r46))), .var (.arr 1 1 (List.map j64 (([0] : List Int)))), .var (.arr 1 1 (List.map j64 (([0] : List Int))))]))] (by kernel_rfl) (by kernel_rfl) (by kernel_rfl) ⟨fun _ => big_call0 (umbraref02_Of_ok hr44) umbraref02_Of_ok_c (by kernel_rfl) (by kernel_rfl) (by kernel_rfl), fun _ => big_call0 (umbraref02_Div_ok hr45) umbraref02_Div_ok_c (by kernel_rfl) (by kernel_rfl) (by kernel_rfl), fun _ => big_call0 (umbraref29_Far_ok hr46) umbraref29_Far_ok_c (by kernel_rfl) (by kernel_rfl) (by kernel_rfl), fun _ => big_adS hT 6 [] 0 0 1 (k := 1) hu47 (by kernel_rfl) (by kernel_rfl), trivial⟩ ⟨big_at (big_stE hT j64 0 he48 r46 (by kernel_rfl) (by kernel_rfl) (by kernel_rfl)) (by kernel_rfl), trivial⟩ ?_
          refine aw_sreg ?_
          obtain ⟨x50, hx50, h⟩ := letE h
          refine awl_u hT m_umbraref29_Pixel [] 5 (by kernel_rfl) ?_
          refine awl_nms [(151, (j64 (imin x50 65535)))] (by subst hx50; kernel_rfl) ?_
          obtain ⟨u51, hu51, h⟩ := obind h
          refine awl_big (big_adS hT 7 [] 0 0 1 (k := 1) hu51 (by kernel_rfl) (by kernel_rfl)) (by kernel_rfl) ?_
          obtain ⟨e52, he52, h⟩ := obind h
          refine awl_big (big_stE hT j64 0 he52 (imin x50 65535) (by kernel_rfl) (by kernel_rfl) (by kernel_rfl)) (by kernel_rfl) ?_
          refine awl_nil ?_
          obtain ⟨e53, he53, h⟩ := obind h
          obtain ⟨x54, hx54, h⟩ := letE h
          obtain ⟨u55, hu55, h⟩ := obind h
          obtain ⟨e56, he56, h⟩ := obind h
          refine aw_drawN hT hmo m_umbraref29_Pixel [(5, (.im (k32 e53))), (9, (.ref 8 [((0 : Int).toNat)] (0 + (((0 : Int).toNat)) * 1)))] [(10, fun _ => ((.v (.bool false)), [.var (.st 8 [(j64 0), (j64 0), (.v (.slice none 0 0)), (.v (.slice none 0 0)), (.v (.slice none 0 0)), (.v (.slice none 0 0)), (.v (.slice none 0 0)), (.v (.slice none 0 0))]), .var (.st 3 [(j64 p3.1), (j64 p3.2.1), (j64 p3.2.2.1)]), .var (.st 3 [(j64 p3.2.2.2.1), (j64 p3.2.2.2.2.1), (j64 p3.2.2.2.2.2.1)]), .var (S_api_Vec.enc r31), .var (S_api_Vec.enc r32), .var (.st 8 [(j64 1), (j64 1), (.sl 3 1 [(.arr 3 1 [(j64 r33), (j64 r34), (j64 r35)])]), (.sl 1 1 [(j64 x38)]), (.bsl 6 [] 0 1 0 1), (.sl 3 1 [(.arr 3 1 [(j64 r39), (j64 r40), (j64 r41)])]), (.bsl 7 [] 0 1 0 1), (.bsl 8 [] 0 1 0 1)]), .var (.arr 1 1 (List.map j64 ((([0] : List Int)).set (((0 : Int).toNat)) r46))), .var (.arr 1 1 (List.map j64 ((([0] : List Int)).set (((0 : Int).toNat)) (imin x50 65535)))), .var (.arr 1 1 (List.map j64 ((([0] : List Int)).set (((0 : Int).toNat)) x54)))]))] (by subst hx54; kernel_rfl) (by subst hx54; kernel_rfl) (by kernel_rfl) ⟨fun _ => big_idx hT k32 he53 (by kernel_rfl) (by kernel_rfl), fun _ => big_adS hT 8 [] 0 0 1 (k := 1) hu55 (by subst hx54; kernel_rfl) (by subst hx54; kernel_rfl), trivial⟩ ⟨big_at (big_stE hT j64 0 he56 x54 (by subst hx54; kernel_rfl) (by subst hx54; kernel_rfl) (by subst hx54; kernel_rfl)) (by subst hx54; kernel_rfl), trivial⟩ [] (by subst hx54; kernel_rfl) (tn_n ?_)
          cases h
          exact jr (by kernel_rfl)
        · refine aw_skip (tn_n ?_)
          cases h
          exact jr (by kernel_rfl)
      · have h := g42
        refine aw_sregU hT m_umbraref29_Pixel [] (by kernel_rfl) ?_
        obtain ⟨u57, hu57, h⟩ := obind h
        refine aw_fz 6 1 1 _ (List.map j64 p42.1) (List.length_map _) (by kernel_rfl) (by kernel_rfl) (lenM j64 hu57) (by kernel_rfl) ?_
        obtain ⟨u58, hu58, h⟩ := obind h
        refine aw_fz 7 1 1 _ (List.map j64 p42.2.1) (List.length_map _) (by kernel_rfl) (by kernel_rfl) (lenM j64 hu58) (by kernel_rfl) ?_
        obtain ⟨u59, hu59, h⟩ := obind h
        refine aw_fz 8 1 1 _ (List.map j64 p42.2.2) (List.length_map _) (by kernel_rfl) (by kernel_rfl) (lenM j64 hu59) (by kernel_rfl) ?_
        refine aw_ret ?_
        cases h
        exact fin_r (by kernel_rfl)

theorem umbraref29_Pixel_ok_c : callable Try.prog 57 := ⟨_, Try.func57, by decide, rfl⟩

end Go.UK
