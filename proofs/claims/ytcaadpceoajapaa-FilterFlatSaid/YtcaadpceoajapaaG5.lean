/- A part of the proof: what the functions of the program compute. -/
import Derived.Test.YtcaadpceoajapaaG4
namespace Go.UK
open Go Go.Proofs
set_option maxRecDepth 20000
set_option maxHeartbeats 4000000
set_option linter.all false

attribute [local irreducible] owp awl aw FnM NatFn opS Stab TOK Big

/-! math/bits.Len64 -/
def p_math_bits_Len64 (N : Nat) (a0 : Int) : Option (Int) :=
  Option.bind (letO (decide (a0 ≥ 4294967296)) fun x2 =>
  cond x2 (some ((shr .u64 a0 32, 32))) (some ((a0, 0)))) fun p1 =>
  Option.bind (cond (decide (p1.1 ≥ 65536)) (
    some ((shr .u64 p1.1 16, I64 (p1.2 + 16)))) (
    some ((p1.1, p1.2)))) fun p3 =>
  Option.bind (cond (decide (p3.1 ≥ 256)) (some ((shr .u64 p3.1 8, I64 (p3.2 + 8)))) (some ((p3.1, p3.2)))) fun p4 =>
  Option.bind (idx str_0.data.toList (U8 p4.1)) fun c5 =>
  letO (I64 ((UInt8.toNat c5 : Int))) fun x6 =>
  some (I64 (p4.2 + x6))

theorem math_bits_Len64_ok {N : Nat} {a0 : Int} {r : Int} (h : p_math_bits_Len64 N a0 = some r) : FnM Try.prog 198 [] [(k64 a0)] (j64 r) [] := by
  unfold p_math_bits_Len64 at h
  refine fnM_of_aw (m := 25) (lo := 0) (rs := [.tmp 2]) hT Try.func198 rfl (by kernel_rfl) rfl ?_
  refine aw_sregU hT m_no [] (by kernel_rfl) ?_
  obtain ⟨p1, h, g1⟩ := obind h
  refine aw_joinT ⟨[en 0 (k64 p1.1), en 2 (j64 p1.2)], []⟩ ?_ ?_
  · obtain ⟨x2, hx2, h⟩ := letE h
    refine aw_sregU hT m_no [] (by kernel_rfl) ?_
    refine aw_nms [(4, (eB x2))] (by subst hx2; kernel_rfl) ?_
    refine aw_condH h (by kernel_rfl) (fun _ h => ?_) (fun _ h => ?_)
    · refine aw_sregU hT m_no [] (by kernel_rfl) ?_
      refine aw_regU hT m_no [] (by kernel_rfl) (tn_n ?_)
      cases h
      exact jr (by kernel_rfl)
    · refine aw_skip (tn_n ?_)
      cases h
      exact jr (by kernel_rfl)
  · have h := g1
    obtain ⟨p3, h, g3⟩ := obind h
    refine aw_joinT ⟨[en 0 (k64 p3.1), en 2 (j64 p3.2)], []⟩ ?_ ?_
    · refine aw_sregU hT m_no [] (by kernel_rfl) ?_
      refine aw_condH h (by kernel_rfl) (fun _ h => ?_) (fun _ h => ?_)
      · refine aw_sregU hT m_no [] (by kernel_rfl) ?_
        refine aw_regU hT m_no [] (by kernel_rfl) (tn_n ?_)
        cases h
        exact jr (by kernel_rfl)
      · refine aw_skip (tn_n ?_)
        cases h
        exact jr (by kernel_rfl)
    · have h := g3
      obtain ⟨p4, h, g4⟩ := obind h
      refine aw_joinT ⟨[en 0 (k64 p4.1), en 2 (j64 p4.2)], []⟩ ?_ ?_
      · refine aw_sregU hT m_no [] (by kernel_rfl) ?_
        refine aw_condH h (by kernel_rfl) (fun _ h => ?_) (fun _ h => ?_)
        · refine aw_sregU hT m_no [] (by kernel_rfl) ?_
          refine aw_regU hT m_no [] (by kernel_rfl) (tn_n ?_)
          cases h
          exact jr (by kernel_rfl)
        · refine aw_skip (tn_n ?_)
          cases h
          exact jr (by kernel_rfl)
      · have h := g4
        refine aw_sreg ?_
        refine awl_u hT m_no [] 3 (by kernel_rfl) ?_
        obtain ⟨c5, hc5, h⟩ := obind h
        refine awl_big (big_ixS hT hc5 (by kernel_rfl) (by kernel_rfl)) (by kernel_rfl) ?_
        obtain ⟨x6, hx6, h⟩ := letE h
        refine awl_u hT m_no [] 3 (by kernel_rfl) ?_
        refine awl_nms [(2, (j64 (I64 (p4.2 + x6))))] (by subst hx6; kernel_rfl) ?_
        refine awl_nil ?_
        refine aw_ret ?_
        cases h
        exact fin_r (by kernel_rfl)

theorem math_bits_Len64_ok_c : callable Try.prog 198 := ⟨_, Try.func198, by decide, rfl⟩

/-! math/bits.Len -/
def p_math_bits_Len (N : Nat) (a0 : Int) : Option (Int) :=
  Option.bind (p_math_bits_Len64 N a0) fun r1 =>
  some r1

theorem math_bits_Len_ok {N : Nat} {a0 : Int} {r : Int} (h : p_math_bits_Len N a0 = some r) : FnM Try.prog 164 [] [(k64 a0)] (j64 r) [] := by
  unfold p_math_bits_Len at h
  refine fnM_of_aw (m := 8) (lo := 0) (rs := [.tmp 2]) hT Try.func164 rfl (by kernel_rfl) rfl ?_
  refine aw_sregU hT m_no [] (by kernel_rfl) ?_
  refine aw_seq ?_
  refine aw_condC (b := false) ?_
  refine aw_skip (tn_n ?_)
  refine aw_sreg ?_
  refine awl_u hT m_no [] 1 (by kernel_rfl) ?_
  obtain ⟨r1, hr1, h⟩ := obind h
  refine awl_big (big_call [] (math_bits_Len64_ok hr1) math_bits_Len64_ok_c (by kernel_rfl) (by kernel_rfl)) (by kernel_rfl) ?_
  refine awl_u hT m_no [] 1 (by kernel_rfl) ?_
  refine awl_nil ?_
  refine aw_ret ?_
  cases h
  exact fin_r (by kernel_rfl)

theorem math_bits_Len_ok_c : callable Try.prog 164 := ⟨_, Try.func164, by decide, rfl⟩

/-! cmp.isNaN[int] -/
def p_cmp_isNaN_int (N : Nat) (a0 : Int) : Option (Bool) :=
  some (a0 != a0)

theorem cmp_isNaN_int_ok {N : Nat} {a0 : Int} {r : Bool} (h : p_cmp_isNaN_int N a0 = some r) : FnM Try.prog 212 [] [(j64 a0)] (eB r) [] := by
  unfold p_cmp_isNaN_int at h
  refine fnM_of_aw (m := 6) (lo := 0) (rs := [.tmp 2]) hT Try.func212 rfl (by kernel_rfl) rfl ?_
  refine aw_sregU hT m_no [] (by kernel_rfl) ?_
  refine aw_sregU hT m_no [] (by kernel_rfl) ?_
  refine aw_ret ?_
  cases h
  exact fin_r (by kernel_rfl)

theorem cmp_isNaN_int_ok_c : callable Try.prog 212 := ⟨_, Try.func212, by decide, rfl⟩

/-! cmp.Less[int] -/
def p_cmp_Less_int (N : Nat) (a0 : Int) (a1 : Int) : Option (Bool) :=
  Option.bind (Option.bind (p_cmp_isNaN_int N a0) fun r2 =>
  cond r2 (
    Option.bind (p_cmp_isNaN_int N a1) fun r3 =>
    letO (cond (!r3) true (decide (a0 < a1))) fun x4 =>
    some x4) (
    some (decide (a0 < a1)))) fun p1 =>
  some p1

theorem cmp_Less_int_ok {N : Nat} {a0 : Int} {a1 : Int} {r : Bool} (h : p_cmp_Less_int N a0 a1 = some r) : FnM Try.prog 194 [] [(j64 a0), (j64 a1)] (eB r) [] := by
  unfold p_cmp_Less_int at h
  refine fnM_of_aw (m := 17) (lo := 0) (rs := [.tmp 4]) hT Try.func194 rfl (by kernel_rfl) rfl ?_
  refine aw_sregU hT m_no [] (by kernel_rfl) ?_
  obtain ⟨p1, h, g1⟩ := obind h
  refine aw_joinT ⟨[en 4 (eB p1)], []⟩ ?_ ?_
  · refine aw_region ?_
    refine awl_u hT m_no [] 1 (by kernel_rfl) ?_
    obtain ⟨r2, hr2, h⟩ := obind h
    refine awl_big (big_call [] (cmp_isNaN_int_ok hr2) cmp_isNaN_int_ok_c (by kernel_rfl) (by kernel_rfl)) (by kernel_rfl) ?_
    refine awl_u hT m_no [] 1 (by kernel_rfl) ?_
    refine awl_split 7 h (by kernel_rfl) (fun h => ?_) (fun h => ?_)
    · refine awl_u hT m_no [7] 1 (by kernel_rfl) ?_
      obtain ⟨r3, hr3, h⟩ := obind h
      refine awl_big (big_call [] (cmp_isNaN_int_ok hr3) cmp_isNaN_int_ok_c (by kernel_rfl) (by kernel_rfl)) (by kernel_rfl) ?_
      obtain ⟨x4, hx4, h⟩ := letE h
      refine awl_u hT m_no [7] 8 (by kernel_rfl) ?_
      refine awl_nms [(4, (eB x4))] (by subst hx4; kernel_rfl) ?_
      refine awl_nil (tn_n ?_)
      cases h
      exact jr (by kernel_rfl)
    · refine awl_u hT m_no [7, 12] 10 (by kernel_rfl) ?_
      refine awl_nil (tn_n ?_)
      cases h
      exact jr (by kernel_rfl)
  · have h := g1
    refine aw_ret ?_
    cases h
    exact fin_r (by kernel_rfl)

theorem cmp_Less_int_ok_c : callable Try.prog 194 := ⟨_, Try.func194, by decide, rfl⟩

/-! slices.insertionSortOrdered[int] -/
def p_slices_insertionSortOrdered_int_bdd_L2 (N : Nat) (a0 : Int) : Nat → (Vector Int 9) → Int → Option ((Vector Int 9))
  | 0, _, _ => none
  | k + 1, s5, s6 =>
    Option.bind (cond (decide (s6 > a0)) (
      Option.bind (inRO s6 9) fun _ =>
      Option.bind (s5.toList[s6.toNat]?) fun e9 =>
      Option.bind (inRO (I64 (s6 - 1)) 9) fun _ =>
      Option.bind (s5.toList[(I64 (s6 - 1)).toNat]?) fun e11 =>
      Option.bind (p_cmp_Less_int N e9 e11) fun r12 =>
      some r12) (
      some false)) fun p7 =>
    cond p7 (
      Option.bind (inRO (I64 (s6 - 1)) 9) fun _ =>
      Option.bind (s5.toList[(I64 (s6 - 1)).toNat]?) fun e14 =>
      Option.bind (inRO s6 9) fun _ =>
      Option.bind (s5.toList[s6.toNat]?) fun e16 =>
      Option.bind (inRO s6 9) fun _ =>
      Option.bind (s5.toList[s6.toNat]?) fun e18 =>
      Option.bind (inRO (I64 (s6 - 1)) 9) fun _ =>
      Option.bind ((s5.setIfInBounds s6.toNat e14).toList[(I64 (s6 - 1)).toNat]?) fun e20 =>
      p_slices_insertionSortOrdered_int_bdd_L2 N a0 k ((s5.setIfInBounds s6.toNat e14).setIfInBounds ((I64 (s6 - 1)).toNat) e16) (I64 (s6 - 1))) (
      some s5)

def p_slices_insertionSortOrdered_int_bdd_L1 (N : Nat) (a1 : Int) (a0 : Int) : Nat → (Vector Int 9) → Int → Option ((Vector Int 9))
  | 0, _, _ => none
  | k + 1, s2, s3 =>
    cond (decide (s3 < a1)) (
      Option.bind (p_slices_insertionSortOrdered_int_bdd_L2 N a0 N s2 s3) fun p4 =>
      p_slices_insertionSortOrdered_int_bdd_L1 N a1 a0 k p4 (I64 (s3 + 1))) (
      some s2)

def p_slices_insertionSortOrdered_int_bdd (N : Nat) (a0 : Int) (a1 : Int) (a2 : (Vector Int 9)) : Option ((Vector Int 9)) :=
  Option.bind (p_slices_insertionSortOrdered_int_bdd_L1 N a1 a0 N a2 (I64 (a0 + 1))) fun p1 =>
  some p1

theorem slices_insertionSortOrdered_int_bdd_ok {N : Nat} {a0 : Int} {a1 : Int} {a2 : (Vector Int 9)} {r : (Vector Int 9)} (h : p_slices_insertionSortOrdered_int_bdd N a0 a1 a2 = some r) : FnM Try.prog 188 [.var (eA 9 1 j64 a2)] [(.bsl 0 [] 0 1 0 9), (j64 a0), (j64 a1)] (.tup []) [.var (eA 9 1 j64 r)] := by
  unfold p_slices_insertionSortOrdered_int_bdd at h
  refine fnM_of_aw (m := 49) (lo := 1) (rs := []) hT Try.func188 rfl (by kernel_rfl) rfl ?_
  refine aw_sregU hT m_no [] (by kernel_rfl) ?_
  obtain ⟨p1, h, g1⟩ := obind h
  refine aw_joinTK ⟨[], [.var (eA 9 1 j64 p1)]⟩ ?_ ?_
  · refine aw_block (aw_loop (fun k s => ∃ s2 s3, p_slices_insertionSortOrdered_int_bdd_L1 N a1 a0 k s2 s3 = some p1 ∧ JR (Fr.f 49 1) ⟨[en 0 (.bsl 0 [] 0 1 0 9), en 1 (j64 a0), en 2 (j64 a1), en 6 (j64 s3)], [.var (eA 9 1 j64 s2)]⟩ s) (fun k s hI => ?_) N _ ⟨_, _, h, jr (by kernel_rfl)⟩)
    obtain ⟨s2, s3, h, hj⟩ := hI
    cases k with
    | zero => cases h
    | succ k =>
      refine aw_to _ hj ?_
      refine aw_seq ?_
      refine aw_sregU hT m_no [] (by kernel_rfl) ?_
      refine aw_condH h (by kernel_rfl) (fun _ h => ?_) (fun _ h => ?_)
      · refine aw_skip (tn_n ?_)
        refine aw_seq ?_
        refine aw_block ?_
        refine aw_sregU hT m_no [] (by kernel_rfl) ?_
        obtain ⟨p4, h, g4⟩ := obind h
        refine aw_joinTK ⟨[en 0 (.bsl 0 [] 0 1 0 9), en 1 (j64 a0), en 2 (j64 a1), en 6 (j64 s3)], [.var (eA 9 1 j64 p4)]⟩ ?_ ?_
        · refine aw_block (aw_loop (fun k s => ∃ s5 s6, p_slices_insertionSortOrdered_int_bdd_L2 N a0 k s5 s6 = some p4 ∧ JR (Fr.f 49 1) ⟨[en 0 (.bsl 0 [] 0 1 0 9), en 1 (j64 a0), en 2 (j64 a1), en 6 (j64 s3), en 7 (j64 s6)], [.var (eA 9 1 j64 s5)]⟩ s) (fun k s hI => ?_) N _ ⟨_, _, h, jr (by kernel_rfl)⟩)
          obtain ⟨s5, s6, h, hj⟩ := hI
          cases k with
          | zero => cases h
          | succ k =>
            refine aw_to _ hj ?_
            refine aw_seq ?_
            obtain ⟨p7, h, g7⟩ := obind h
            refine aw_joinT ⟨[en 0 (.bsl 0 [] 0 1 0 9), en 1 (j64 a0), en 2 (j64 a1), en 6 (j64 s3), en 7 (j64 s6), en 30 (eB p7)], [.var (eA 9 1 j64 s5)]⟩ ?_ ?_
            · refine boolH h (fun hc3 h => ?_) (fun hc3 h => ?_)
              · obtain ⟨u8, hu8, h⟩ := obind h
                obtain ⟨e9, he9, h⟩ := obind h
                obtain ⟨u10, hu10, h⟩ := obind h
                obtain ⟨e11, he11, h⟩ := obind h
                obtain ⟨r12, hr12, h⟩ := obind h
                refine aw_drawMS hT hmo m_no [(3, (.v (.bool true))), (6, (.ref 0 [s6.toNat] (0 + s6.toNat * 1))), (7, (j64 e9)), (11, (.ref 0 [(I64 (s6 - 1)).toNat] (0 + ((I64 (s6 - 1)).toNat) * 1))), (12, (j64 e11)), (13, (eB r12))] [[[.var (eA 9 1 j64 s5)]], [[.var (eA 9 1 j64 s5)]], [[.var (eA 9 1 j64 s5)]], [[.var (eA 9 1 j64 s5)]], [[.var (eA 9 1 j64 s5)]], [[.var (eA 9 1 j64 s5)]]] [] (by kernel_rfl) (by kernel_rfl) (by kernel_rfl) (by kernel_rfl) ⟨⟨big_lit hc3 rfl (plU_big hT (im := false) (by kernel_rfl)), trivial⟩, ⟨big_adS hT 0 [] 0 0 9 (k := 1) hu8 (by kernel_rfl) (by kernel_rfl), trivial⟩, ⟨big_at (big_ldE hT j64 0 he9 (by kernel_rfl) (by kernel_rfl)) (by kernel_rfl), trivial⟩, ⟨big_adS hT 0 [] 0 0 9 (k := 1) hu10 (by kernel_rfl) (by kernel_rfl), trivial⟩, ⟨big_at (big_ldE hT j64 0 he11 (by kernel_rfl) (by kernel_rfl)) (by kernel_rfl), trivial⟩, ⟨big_call0 (cmp_Less_int_ok hr12) cmp_Less_int_ok_c (by kernel_rfl) (by kernel_rfl) (by kernel_rfl), trivial⟩, trivial⟩ trivial (tn_n ?_)
                cases h
                exact jr (by kernel_rfl)
              · refine aw_drawM hT hmo m_no [(3, (.v (.bool false)))] [] (by kernel_rfl) (by kernel_rfl) (by kernel_rfl) ⟨fun _ => big_lit hc3 rfl (plU_big hT (im := false) (by kernel_rfl)), trivial⟩ trivial (tn_n ?_)
                cases h
                exact jr (by kernel_rfl)
            · have h := g7
              refine aw_condH h (by kernel_rfl) (fun _ h => ?_) (fun _ h => ?_)
              · refine aw_skip (tn_n ?_)
                refine aw_seq ?_
                refine aw_block ?_
                obtain ⟨u13, hu13, h⟩ := obind h
                obtain ⟨e14, he14, h⟩ := obind h
                obtain ⟨u15, hu15, h⟩ := obind h
                obtain ⟨e16, he16, h⟩ := obind h
                obtain ⟨u17, hu17, h⟩ := obind h
                obtain ⟨e18, he18, h⟩ := obind h
                obtain ⟨u19, hu19, h⟩ := obind h
                obtain ⟨e20, he20, h⟩ := obind h
                refine aw_drawMS hT hmo m_no [(8, (.ref 0 [(I64 (s6 - 1)).toNat] (0 + ((I64 (s6 - 1)).toNat) * 1))), (9, (j64 e14)), (12, (.ref 0 [s6.toNat] (0 + s6.toNat * 1))), (13, (j64 e16)), (14, (.ref 0 [s6.toNat] (0 + s6.toNat * 1))), (16, (.ref 0 [(I64 (s6 - 1)).toNat] (0 + ((I64 (s6 - 1)).toNat) * 1)))] [[[.var (eA 9 1 j64 s5)]], [[.var (eA 9 1 j64 s5)]], [[.var (eA 9 1 j64 s5)]], [[.var (eA 9 1 j64 s5)]], [[.var (eA 9 1 j64 s5)]], [[.var (eA 9 1 j64 (s5.setIfInBounds s6.toNat e14))]]] [(15, fun _ => ((.v (.bool false)), [.var (eA 9 1 j64 (s5.setIfInBounds s6.toNat e14))])), (17, fun _ => ((.v (.bool false)), [.var (eA 9 1 j64 ((s5.setIfInBounds s6.toNat e14).setIfInBounds ((I64 (s6 - 1)).toNat) e16))]))] (by kernel_rfl) (by kernel_rfl) (by kernel_rfl) (by kernel_rfl) ⟨⟨big_adS hT 0 [] 0 0 9 (k := 1) hu13 (by kernel_rfl) (by kernel_rfl), trivial⟩, ⟨big_at (big_ldE hT j64 0 he14 (by kernel_rfl) (by kernel_rfl)) (by kernel_rfl), trivial⟩, ⟨big_adS hT 0 [] 0 0 9 (k := 1) hu15 (by kernel_rfl) (by kernel_rfl), trivial⟩, ⟨big_at (big_ldE hT j64 0 he16 (by kernel_rfl) (by kernel_rfl)) (by kernel_rfl), trivial⟩, ⟨big_adS hT 0 [] 0 0 9 (k := 1) hu17 (by kernel_rfl) (by kernel_rfl), trivial⟩, ⟨big_adS hT 0 [] 0 0 9 (k := 1) hu19 (by kernel_rfl) (by kernel_rfl), trivial⟩, trivial⟩ ⟨big_at (big_stV hT j64 0 s5 he18 e14 (by kernel_rfl) (by kernel_rfl) (H' := [.var (eA 9 1 j64 (s5.setIfInBounds s6.toNat e14))]) (by kernel_rfl)) (by kernel_rfl), big_at (big_stV hT j64 0 (s5.setIfInBounds s6.toNat e14) he20 e16 (by kernel_rfl) (by kernel_rfl) (H' := [.var (eA 9 1 j64 ((s5.setIfInBounds s6.toNat e14).setIfInBounds ((I64 (s6 - 1)).toNat) e16))]) (by kernel_rfl)) (by kernel_rfl), trivial⟩ (inB_n (tn_n ?_))
                refine aw_regU hT m_no [] (by kernel_rfl) (tn_n ?_)
                exact ⟨k, Nat.lt_succ_self k, _, _, h, jr (by kernel_rfl)⟩
              · refine aw_exit (tn_x (tn_x (inB_e (tn_n ?_))))
                cases h
                exact jr (by kernel_rfl)
        · have h := g4
          refine (inB_n (tn_n ?_))
          refine aw_regU hT m_no [] (by kernel_rfl) (tn_n ?_)
          exact ⟨k, Nat.lt_succ_self k, _, _, h, jr (by kernel_rfl)⟩
      · refine aw_exit (tn_x (tn_x (inB_e (tn_n ?_))))
        cases h
        exact jr (by kernel_rfl)
  · have h := g1
    refine ?_
    cases h
    exact fin_n (by kernel_rfl)

theorem slices_insertionSortOrdered_int_bdd_ok_c : callable Try.prog 188 := ⟨_, Try.func188, by decide, rfl⟩

/-! slices.pdqsortOrdered[int] -/
def p_slices_pdqsortOrdered_int_bddd_L1 (N : Nat) (a1 : Int) (a0 : Int) (a3 : (Vector Int 9)) (a2 : Int) : Nat → Option (Sum (Unit) ((Vector Int 9)))
  | 0 => none
  | k + 1 =>
    letO (decide ((I64 (a1 - a0)) ≤ 12)) fun x2 =>
    cond x2 (
      Option.bind (p_slices_insertionSortOrdered_int_bdd N a0 a1 a3) fun r3 =>
      some (Sum.inr r3)) (
      cond (a2 == 0) (
        none) (
        Option.bind (cond (!true) (none) (some (()))) fun p4 =>
        none))

def p_slices_pdqsortOrdered_int_bddd (N : Nat) (a0 : Int) (a1 : Int) (a2 : Int) (a3 : (Vector Int 9)) : Option ((Vector Int 9)) :=
  Option.bind (p_slices_pdqsortOrdered_int_bddd_L1 N a1 a0 a3 a2 N ) fun o => sumC o (fun p1 =>
    none) (fun r => some r)

theorem slices_pdqsortOrdered_int_bddd_ok {N : Nat} {a0 : Int} {a1 : Int} {a2 : Int} {a3 : (Vector Int 9)} {r : (Vector Int 9)} (h : p_slices_pdqsortOrdered_int_bddd N a0 a1 a2 a3 = some r) : FnM Try.prog 163 [.var (eA 9 1 j64 a3)] [(.bsl 0 [] 0 1 0 9), (j64 a0), (j64 a1), (j64 a2)] (.tup []) [.var (eA 9 1 j64 r)] := by
  unfold p_slices_pdqsortOrdered_int_bddd at h
  refine fnM_of_aw (m := 134) (lo := 1) (rs := []) hT Try.func163 rfl (by kernel_rfl) rfl ?_
  refine aw_sregU hT m_no [] (by kernel_rfl) ?_
  refine aw_sregU hT m_no [] (by kernel_rfl) ?_
  obtain ⟨op1, h, g1⟩ := obind h
  refine aw_joinSK (fun p1 => ⟨[], []⟩) g1 ?_ (fun p1 h => ?_)
  · refine aw_block (aw_loop (fun k s => p_slices_pdqsortOrdered_int_bddd_L1 N a1 a0 a3 a2 k  = some op1 ∧ JR (Fr.f 134 1) ⟨[en 0 (.bsl 0 [] 0 1 0 9), en 1 (j64 a0), en 2 (j64 a1), en 3 (j64 a2), en 8 (eB true), en 9 (eB true)], [.var (eA 9 1 j64 a3)]⟩ s) (fun k s hI => ?_) N _ ⟨h, jr (by kernel_rfl)⟩)
    obtain ⟨h, hj⟩ := hI
    cases k with
    | zero => cases h
    | succ k =>
      unfold p_slices_pdqsortOrdered_int_bddd_L1 at h
      dsimp only at h
      refine aw_to _ hj ?_
      refine aw_block ?_
      refine aw_sregU hT m_no [] (by kernel_rfl) ?_
      refine aw_seq ?_
      obtain ⟨x2, hx2, h⟩ := letE h
      refine aw_sregU hT m_no [] (by kernel_rfl) ?_
      refine aw_nms [(23, (eB x2))] (by subst hx2; kernel_rfl) ?_
      refine aw_condH h (by kernel_rfl) (fun _ h => ?_) (fun _ h => ?_)
      · refine aw_sreg ?_
        refine awl_u hT m_no [] 3 (by kernel_rfl) ?_
        obtain ⟨r3, hr3, h⟩ := obind h
        refine awl_big (big_call [0] (slices_insertionSortOrdered_int_bdd_ok hr3) slices_insertionSortOrdered_int_bdd_ok_c (by kernel_rfl) (by kernel_rfl)) (by kernel_rfl) ?_
        refine awl_nil ?_
        cases h
        have h := g1
        refine aw_ret (tn_r (inB_r (tn_r (inB_r (tn_r ?_)))))
        obtain rfl := sum_e h
        exact fin_r (by kernel_rfl)
      · refine aw_skip (tn_n ?_)
        refine aw_seq ?_
        refine aw_sregU hT m_no [] (by kernel_rfl) ?_
        refine aw_condH h (by kernel_rfl) (fun _ h => ?_) (fun _ h => ?_)
        · refine aw_sreg ?_
          refine awl_u hT m_no [] 3 (by kernel_rfl) ?_
          cases h
        · refine aw_skip (tn_n ?_)
          obtain ⟨p4, h, g4⟩ := obind h
          refine aw_joinT ⟨[en 0 (.bsl 0 [] 0 1 0 9), en 1 (j64 a0), en 2 (j64 a1), en 3 (j64 a2), en 8 (eB true), en 9 (eB true), en 10 (j64 (I64 (a1 - a0)))], [.var (eA 9 1 j64 a3)]⟩ ?_ ?_
          · refine aw_sregU hT m_no [] (by kernel_rfl) ?_
            refine aw_condH h (by kernel_rfl) (fun _ h => ?_) (fun _ h => ?_)
            · refine aw_sreg ?_
              refine awl_u hT m_no [] 3 (by kernel_rfl) ?_
              cases h
            · refine aw_skip (tn_n ?_)
              cases h
              exact jr (by kernel_rfl)
          · have h := g4
            refine aw_sreg ?_
            refine awl_u hT m_no [] 3 (by kernel_rfl) ?_
            cases h
  · cases h

theorem slices_pdqsortOrdered_int_bddd_ok_c : callable Try.prog 163 := ⟨_, Try.func163, by decide, rfl⟩

/-! slices.Sort[[]int,int] -/
def p_slices_Sort_int_int_b (N : Nat) (a0 : (Vector Int 9)) : Option ((Vector Int 9)) :=
  Option.bind (p_math_bits_Len N (U64 ((9 : Int)))) fun r1 =>
  Option.bind (p_slices_pdqsortOrdered_int_bddd N 0 ((9 : Int)) r1 a0) fun r2 =>
  some r2

theorem slices_Sort_int_int_b_ok {N : Nat} {a0 : (Vector Int 9)} {r : (Vector Int 9)} (h : p_slices_Sort_int_int_b N a0 = some r) : FnM Try.prog 127 [.var (eA 9 1 j64 a0)] [(.bsl 0 [] 0 1 0 9)] (.tup []) [.var (eA 9 1 j64 r)] := by
  unfold p_slices_Sort_int_int_b at h
  refine fnM_of_aw (m := 11) (lo := 1) (rs := []) hT Try.func127 rfl (by kernel_rfl) rfl ?_
  refine aw_sregU hT m_no [] (by kernel_rfl) ?_
  refine aw_region ?_
  refine awl_u hT m_no [] 4 (by kernel_rfl) ?_
  obtain ⟨r1, hr1, h⟩ := obind h
  refine awl_big (big_call [] (math_bits_Len_ok hr1) math_bits_Len_ok_c (by kernel_rfl) (by kernel_rfl)) (by kernel_rfl) ?_
  obtain ⟨r2, hr2, h⟩ := obind h
  refine awl_big (big_call [0] (slices_pdqsortOrdered_int_bddd_ok hr2) slices_pdqsortOrdered_int_bddd_ok_c (by kernel_rfl) (by kernel_rfl)) (by kernel_rfl) ?_
  refine awl_nil ?_
  cases h
  exact fin_n (by kernel_rfl)

theorem slices_Sort_int_int_b_ok_c : callable Try.prog 127 := ⟨_, Try.func127, by decide, rfl⟩

/-! umbra/filter.Median$1 -/
def p_filter_Median_1_dddi (N : Nat) (a0 : Int) (a1 : Int) (a2 : Int) (a3 : S_api_Plane) : Option (Int) :=
  Option.bind (p_filter_nine N a3 a0 a1 a2) fun r1 =>
  Option.bind (slcB 9 0 9) fun _ =>
  Option.bind (p_slices_Sort_int_int_b N r1) fun r3 =>
  Option.bind (inRO 4 9) fun _ =>
  Option.bind (r3.toList[((4 : Int).toNat)]?) fun e5 =>
  some e5

theorem filter_Median_1_dddi_ok {N : Nat} {a0 : Int} {a1 : Int} {a2 : Int} {a3 : S_api_Plane} {r : Int} (h : p_filter_Median_1_dddi N a0 a1 a2 a3 = some r) : FnM Try.prog 126 [] [(j64 a0), (j64 a1), (j64 a2), (.im (S_api_Plane.enc a3))] (j64 r) [] := by
  unfold p_filter_Median_1_dddi at h
  refine fnM_of_aw (m := 18) (lo := 0) (rs := [.tmp 7]) hT Try.func126 rfl (by kernel_rfl) rfl ?_
  refine aw_sregU hT m_no [] (by kernel_rfl) ?_
  refine aw_sreg ?_
  refine awl_u hT m_no [] 4 (by kernel_rfl) ?_
  obtain ⟨r1, hr1, h⟩ := obind h
  refine awl_big (big_call [] (filter_nine_ok hr1) filter_nine_ok_c (by kernel_rfl) (by kernel_rfl)) (by kernel_rfl) ?_
  refine awl_u hT m_no [] 2 (by kernel_rfl) ?_
  refine awl_nil ?_
  refine aw_sreg ?_
  obtain ⟨s2, hs2, h⟩ := obind h
  refine awl_big (big_slR hT (k := 1) 0 [] 0 hs2 (by kernel_rfl) (by kernel_rfl) (by decide)) (by kernel_rfl) ?_
  obtain ⟨r3, hr3, h⟩ := obind h
  refine awl_big (big_call [0] (slices_Sort_int_int_b_ok hr3) slices_Sort_int_int_b_ok_c (by kernel_rfl) (by kernel_rfl)) (by kernel_rfl) ?_
  refine awl_nil ?_
  refine aw_sreg ?_
  obtain ⟨u4, hu4, h⟩ := obind h
  refine awl_big (big_adR hT (k := 1) 0 [] 0 hu4 (by kernel_rfl) (by kernel_rfl)) (by kernel_rfl) ?_
  obtain ⟨e5, he5, h⟩ := obind h
  refine awl_big (big_ldE hT j64 0 he5 (by kernel_rfl) (by kernel_rfl)) (by kernel_rfl) ?_
  refine awl_u hT m_no [] 1 (by kernel_rfl) ?_
  refine awl_nil ?_
  refine aw_ret ?_
  cases h
  exact fin_r (by kernel_rfl)

theorem filter_Median_1_dddi_ok_c : callable Try.prog 126 := ⟨_, Try.func126, by decide, rfl⟩

/-! umbra/filter.each -/
def m_filter_each_Median_1 : Nat → Bool := imL [4]

def p_filter_each_Median_1_L1 (N : Nat) (x1 : Int) (a0 : S_api_Plane) (a1 : Int) (a3 : S_api_Plane) : Nat → (List Int) → Int → Option ((List Int))
  | 0, _, _ => none
  | k + 1, s3, s4 =>
    cond (decide (s4 < x1)) (
      Option.bind (quoO .i64 s4 a0.gDeep) fun x5 =>
      Option.bind (remO .i64 x5 a1) fun x6 =>
      Option.bind (quoO .i64 s4 a0.gDeep) fun x7 =>
      Option.bind (quoO .i64 x7 a1) fun x8 =>
      Option.bind (remO .i64 s4 a0.gDeep) fun x9 =>
      Option.bind (p_filter_Median_1_dddi N x6 x8 x9 a3) fun r10 =>
      Option.bind (appO 8 s3 (([r10] : List Int))) fun a11 =>
      p_filter_each_Median_1_L1 N x1 a0 a1 a3 k a11 (I64 (s4 + 1))) (
      some s3)

def p_filter_each_Median_1 (N : Nat) (a0 : S_api_Plane) (a1 : Int) (a2 : Int) (a3 : S_api_Plane) : Option (S_api_Plane) :=
  letO (I64 ((I64 (a1 * a2)) * a0.gDeep)) fun x1 =>
  Option.bind (p_filter_each_Median_1_L1 N x1 a0 a1 a3 N [] 0) fun p2 =>
  some (S_api_Plane.mk a1 a2 a0.gDeep a0.gName p2)

theorem filter_each_Median_1_ok {N : Nat} {a0 : S_api_Plane} {a1 : Int} {a2 : Int} {a3 : S_api_Plane} {r : S_api_Plane} (h : p_filter_each_Median_1 N a0 a1 a2 a3 = some r) : FnM Try.prog 73 [] [(S_api_Plane.enc a0), (j64 a1), (j64 a2), (.fn (.func 126) [] [(.im (S_api_Plane.enc a3))])] (S_api_Plane.enc r) [] := by
  unfold p_filter_each_Median_1 at h
  refine fnM_of_aw (m := 52) (lo := 0) (rs := [.cell 8 34]) hT Try.func73 rfl (by kernel_rfl) rfl ?_
  refine aw_sregU hT m_filter_each_Median_1 [] (by kernel_rfl) ?_
  refine aw_sregU hT m_filter_each_Median_1 [] (by kernel_rfl) ?_
  refine aw_seq ?_
  obtain ⟨x1, hx1, h⟩ := letE h
  refine aw_sregU hT m_filter_each_Median_1 [] (by kernel_rfl) ?_
  refine aw_nms [(23, (j64 x1))] (by subst hx1; kernel_rfl) ?_
  refine aw_own_box 1 1 [4] ?_
  obtain ⟨p2, h, g2⟩ := obind h
  refine aw_joinTK ⟨[en 8 (.ref 0 [] 0), en 9 (.ref 1 [] 0)], [.var (.st 5 [(j64 0), (j64 0), (j64 0), (eS (ByteArray.mk #[])), (.v (.slice none 0 0))]), .var (.st 5 [(j64 a1), (j64 a2), (j64 a0.gDeep), (eS a0.gName), (eO 2 1 j64 p2)]), .tail (p2.length * 1)]⟩ ?_ ?_
  · refine aw_block (aw_loop (fun k s => ∃ s3 s4, p_filter_each_Median_1_L1 N x1 a0 a1 a3 k s3 s4 = some p2 ∧ JR (Fr.f 52 0) ⟨[en 1 (j64 a1), en 3 (.fn (.func 126) [] [(.im (S_api_Plane.enc a3))]), en 4 (.im (S_api_Plane.enc a0)), en 8 (.ref 0 [] 0), en 9 (.ref 1 [] 0), en 23 (j64 x1), en 24 (j64 s4)], [.var (.st 5 [(j64 0), (j64 0), (j64 0), (eS (ByteArray.mk #[])), (.v (.slice none 0 0))]), .var (.st 5 [(j64 a1), (j64 a2), (j64 a0.gDeep), (eS a0.gName), (eO 2 1 j64 s3)]), .tail (s3.length * 1)]⟩ s) (fun k s hI => ?_) N _ ⟨_, _, h, jr (by kernel_rfl)⟩)
    obtain ⟨s3, s4, h, hj⟩ := hI
    cases k with
    | zero => cases h
    | succ k =>
      refine aw_to _ hj ?_
      refine aw_sregU hT m_filter_each_Median_1 [] (by kernel_rfl) ?_
      refine aw_seq ?_
      refine aw_condH h (by kernel_rfl) (fun _ h => ?_) (fun _ h => ?_)
      · refine aw_skip (tn_n ?_)
        refine aw_seq ?_
        refine aw_block ?_
        refine aw_sregU hT m_filter_each_Median_1 [] (by kernel_rfl) ?_
        obtain ⟨x5, hx5, h⟩ := obind h
        obtain ⟨x6, hx6, h⟩ := obind h
        obtain ⟨x7, hx7, h⟩ := obind h
        obtain ⟨x8, hx8, h⟩ := obind h
        obtain ⟨x9, hx9, h⟩ := obind h
        obtain ⟨r10, hr10, h⟩ := obind h
        obtain ⟨a11, ha11, h⟩ := obind h
        refine aw_drawM hT hmo m_filter_each_Median_1 [(6, (j64 x5)), (8, (j64 x6)), (12, (j64 x7)), (14, (j64 x8)), (18, (j64 x9)), (19, (j64 r10)), (20, (.sl 1 1 [(j64 r10)]))] [(21, fun _ => ((eO 2 1 j64 a11), [.var (.st 5 [(j64 0), (j64 0), (j64 0), (eS (ByteArray.mk #[])), (.v (.slice none 0 0))]), .var (.st 5 [(j64 a1), (j64 a2), (j64 a0.gDeep), (eS a0.gName), (eO 2 1 j64 s3)]), .tail (a11.length * 1)]))] (by kernel_rfl) (by kernel_rfl) (by kernel_rfl) ⟨fun _ => big_quo hT hx5 (by kernel_rfl) (by kernel_rfl), fun _ => big_rem hT hx6 (by kernel_rfl) (by kernel_rfl), fun _ => big_quo hT hx7 (by kernel_rfl) (by kernel_rfl), fun _ => big_quo hT hx8 (by kernel_rfl) (by kernel_rfl), fun _ => big_rem hT hx9 (by kernel_rfl) (by kernel_rfl), fun _ => big_call0 (filter_Median_1_dddi_ok hr10) filter_Median_1_dddi_ok_c (by kernel_rfl) (by kernel_rfl) (by kernel_rfl), fun _ => big_row hT (x := (.sl 1 1 [(j64 r10)])) (by kernel_rfl) (by kernel_rfl), trivial⟩ ⟨big_at (big_app hT j64 (id := 2) (k := 1) ha11 (by kernel_rfl) (by kernel_rfl)) (by kernel_rfl), trivial⟩ (inB_n (tn_n ?_))
        refine aw_regU hT m_filter_each_Median_1 [] (by kernel_rfl) (tn_n ?_)
        exact ⟨k, Nat.lt_succ_self k, _, _, h, jr (by kernel_rfl)⟩
      · refine aw_exit (tn_x (tn_x (inB_e (tn_n ?_))))
        cases h
        exact jr (by kernel_rfl)
  · have h := g2
    refine (tn_n ?_)
    refine aw_sregU hT m_filter_each_Median_1 [] (by kernel_rfl) ?_
    refine aw_ret ?_
    cases h
    exact fin_r (by kernel_rfl)

theorem filter_each_Median_1_ok_c : callable Try.prog 73 := ⟨_, Try.func73, by decide, rfl⟩

/-! umbra/filter.Median -/
def m_filter_Median : Nat → Bool := imL [1]

def p_filter_Median (N : Nat) (a0 : S_api_Plane) : Option (S_api_Plane × Int) :=
  Option.bind (p_pam_Check N a0) fun r1 =>
  cond (r1 != 0) (
    some ((S_api_Plane.mk 0 0 0 (ByteArray.mk #[]) [], r1))) (
    Option.bind (p_filter_each_Median_1 N a0 a0.gW a0.gH a0) fun r2 =>
    some ((r2, 0)))

theorem filter_Median_ok {N : Nat} {a0 : S_api_Plane} {r : S_api_Plane × Int} (h : p_filter_Median N a0 = some r) : FnM Try.prog 58 [] [(S_api_Plane.enc a0)] (.tup [(S_api_Plane.enc r.1), (j64 r.2)]) [] := by
  unfold p_filter_Median at h
  refine fnM_of_aw (m := 18) (lo := 0) (rs := [.cell 2 34, .tmp 3]) hT Try.func58 rfl (by kernel_rfl) rfl ?_
  refine aw_sregU hT m_filter_Median [] (by kernel_rfl) ?_
  refine aw_seq ?_
  refine aw_sreg ?_
  refine awl_u hT m_filter_Median [] 1 (by kernel_rfl) ?_
  obtain ⟨r1, hr1, h⟩ := obind h
  refine awl_big (big_call [] (pam_Check_ok hr1) pam_Check_ok_c (by kernel_rfl) (by kernel_rfl)) (by kernel_rfl) ?_
  refine awl_u hT m_filter_Median [] 1 (by kernel_rfl) ?_
  refine awl_nil ?_
  refine aw_sregU hT m_filter_Median [] (by kernel_rfl) ?_
  refine aw_condH h (by kernel_rfl) (fun _ h => ?_) (fun _ h => ?_)
  · refine aw_sregU hT m_filter_Median [] (by kernel_rfl) ?_
    refine aw_ret (tn_r ?_)
    cases h
    exact fin_r (by kernel_rfl)
  · refine aw_skip (tn_n ?_)
    refine aw_sreg ?_
    refine awl_u hT m_filter_Median [] 5 (by kernel_rfl) ?_
    refine awl_big (big_mkf (x := (.fn (.func 126) [] [(.im (S_api_Plane.enc a0))])) (by kernel_rfl) (by kernel_rfl)) (by kernel_rfl) ?_
    obtain ⟨r2, hr2, h⟩ := obind h
    refine awl_big (big_call [] (filter_each_Median_1_ok hr2) filter_each_Median_1_ok_c (by kernel_rfl) (by kernel_rfl)) (by kernel_rfl) ?_
    refine awl_u hT m_filter_Median [] 2 (by kernel_rfl) ?_
    refine awl_nil ?_
    refine aw_ret ?_
    cases h
    exact fin_r (by kernel_rfl)

theorem filter_Median_ok_c : callable Try.prog 58 := ⟨_, Try.func58, by decide, rfl⟩

/-! umbra/umbraref42.Median -/
def m_umbraref42_Median : Nat → Bool := imL [1]

def p_umbraref42_Median_L5 (N : Nat) (s7 : Int) (s4 : Int) (a0 : S_api_Plane) (s10 : Int) (r20 : Int) : Nat → Int → Int → Int → Option (Int × Int)
  | 0, _, _, _ => none
  | k + 1, s22, s23, s24 =>
    cond (decide (s24 < 9)) (
      Option.bind (letO (I64 (s7 + (Int.tmod s24 3))) fun x28 =>
      letO (I64 (s4 + (I64 (Int.tdiv s24 3)))) fun x29 =>
      Option.bind (p_umbraref42_At N a0 (I64 (x28 - 1)) (I64 (x29 - 1)) s10) fun r30 =>
      Option.bind (cond (decide (r30 < r20)) (some (I64 (s22 + 1))) (some s22)) fun p31 =>
      cond (decide (r30 ≤ r20)) (some ((p31, I64 (s23 + 1)))) (some ((p31, s23)))) fun p25 =>
      p_umbraref42_Median_L5 N s7 s4 a0 s10 r20 k p25.1 p25.2 (I64 (s24 + 1))) (
      some ((s22, s23)))

def p_umbraref42_Median_L4 (N : Nat) (s7 : Int) (s4 : Int) (a0 : S_api_Plane) (s10 : Int) : Nat → Int → Int → Option (Int)
  | 0, _, _ => none
  | k + 1, s13, s14 =>
    cond (decide (s14 < 9)) (
      Option.bind (letO (I64 (s7 + (Int.tmod s14 3))) fun x18 =>
      letO (I64 (s4 + (I64 (Int.tdiv s14 3)))) fun x19 =>
      Option.bind (p_umbraref42_At N a0 (I64 (x18 - 1)) (I64 (x19 - 1)) s10) fun r20 =>
      Option.bind (p_umbraref42_Median_L5 N s7 s4 a0 s10 r20 N 0 0 0) fun p21 =>
      letO (cond (decide (p21.1 < 5)) (decide (p21.2 > 4)) false) fun x32 =>
      cond x32 (some r20) (some s13)) fun p15 =>
      p_umbraref42_Median_L4 N s7 s4 a0 s10 k p15 (I64 (s14 + 1))) (
      some s13)

def p_umbraref42_Median_L3 (N : Nat) (a0 : S_api_Plane) (s7 : Int) (s4 : Int) : Nat → (List Int) → Int → Option ((List Int))
  | 0, _, _ => none
  | k + 1, s9, s10 =>
    letO (decide (s10 < a0.gDeep)) fun x11 =>
    cond x11 (
      Option.bind (p_umbraref42_Median_L4 N s7 s4 a0 s10 N 0 0) fun p12 =>
      Option.bind (appO 8 s9 (([p12] : List Int))) fun a33 =>
      p_umbraref42_Median_L3 N a0 s7 s4 k a33 (I64 (s10 + 1))) (
      some s9)

def p_umbraref42_Median_L2 (N : Nat) (a0 : S_api_Plane) (s4 : Int) : Nat → (List Int) → Int → Option ((List Int))
  | 0, _, _ => none
  | k + 1, s6, s7 =>
    cond (decide (s7 < a0.gW)) (
      Option.bind (p_umbraref42_Median_L3 N a0 s7 s4 N s6 0) fun p8 =>
      p_umbraref42_Median_L2 N a0 s4 k p8 (I64 (s7 + 1))) (
      some s6)

def p_umbraref42_Median_L1 (N : Nat) (a0 : S_api_Plane) : Nat → (List Int) → Int → Option ((List Int))
  | 0, _, _ => none
  | k + 1, s3, s4 =>
    cond (decide (s4 < a0.gH)) (
      Option.bind (p_umbraref42_Median_L2 N a0 s4 N s3 0) fun p5 =>
      p_umbraref42_Median_L1 N a0 k p5 (I64 (s4 + 1))) (
      some s3)

def p_umbraref42_Median (N : Nat) (a0 : S_api_Plane) : Option (S_api_Plane × Int) :=
  Option.bind (p_umbraref30_Check N a0) fun r1 =>
  cond (r1 != 0) (
    some ((S_api_Plane.mk 0 0 0 (ByteArray.mk #[]) [], r1))) (
    Option.bind (p_umbraref42_Median_L1 N a0 N [] 0) fun p2 =>
    some ((S_api_Plane.mk a0.gW a0.gH a0.gDeep a0.gName p2, 0)))

theorem umbraref42_Median_ok {N : Nat} {a0 : S_api_Plane} {r : S_api_Plane × Int} (h : p_umbraref42_Median N a0 = some r) : FnM Try.prog 63 [] [(S_api_Plane.enc a0)] (.tup [(S_api_Plane.enc r.1), (j64 r.2)]) [] := by
  unfold p_umbraref42_Median at h
  refine fnM_of_aw (m := 107) (lo := 0) (rs := [.cell 2 34, .tmp 3]) hT Try.func63 rfl (by kernel_rfl) rfl ?_
  refine aw_sregU hT m_umbraref42_Median [] (by kernel_rfl) ?_
  refine aw_seq ?_
  refine aw_sreg ?_
  refine awl_u hT m_umbraref42_Median [] 1 (by kernel_rfl) ?_
  obtain ⟨r1, hr1, h⟩ := obind h
  refine awl_big (big_call [] (umbraref30_Check_ok hr1) umbraref30_Check_ok_c (by kernel_rfl) (by kernel_rfl)) (by kernel_rfl) ?_
  refine awl_u hT m_umbraref42_Median [] 1 (by kernel_rfl) ?_
  refine awl_nil ?_
  refine aw_sregU hT m_umbraref42_Median [] (by kernel_rfl) ?_
  refine aw_condH h (by kernel_rfl) (fun _ h => ?_) (fun _ h => ?_)
  · refine aw_sregU hT m_umbraref42_Median [] (by kernel_rfl) ?_
    refine aw_ret (tn_r ?_)
    cases h
    exact fin_r (by kernel_rfl)
  · refine aw_skip (tn_n ?_)
    refine aw_sregU hT m_umbraref42_Median [] (by kernel_rfl) ?_
    refine aw_seq ?_
    refine aw_sregU hT m_umbraref42_Median [] (by kernel_rfl) ?_
    refine aw_own_box 1 1 [4] ?_
    obtain ⟨p2, h, g2⟩ := obind h
    refine aw_joinTK ⟨[en 2 (.ref 0 [] 0), en 5 (.ref 1 [] 0)], [.var (.st 5 [(j64 0), (j64 0), (j64 0), (eS (ByteArray.mk #[])), (.v (.slice none 0 0))]), .var (.st 5 [(j64 a0.gW), (j64 a0.gH), (j64 a0.gDeep), (eS a0.gName), (eO 2 1 j64 p2)]), .tail (p2.length * 1)]⟩ ?_ ?_
    · refine aw_block (aw_loop (fun k s => ∃ s3 s4, p_umbraref42_Median_L1 N a0 k s3 s4 = some p2 ∧ JR (Fr.f 107 0) ⟨[en 1 (.im (S_api_Plane.enc a0)), en 2 (.ref 0 [] 0), en 5 (.ref 1 [] 0), en 6 (j64 s4)], [.var (.st 5 [(j64 0), (j64 0), (j64 0), (eS (ByteArray.mk #[])), (.v (.slice none 0 0))]), .var (.st 5 [(j64 a0.gW), (j64 a0.gH), (j64 a0.gDeep), (eS a0.gName), (eO 2 1 j64 s3)]), .tail (s3.length * 1)]⟩ s) (fun k s hI => ?_) N _ ⟨_, _, h, jr (by kernel_rfl)⟩)
      obtain ⟨s3, s4, h, hj⟩ := hI
      cases k with
      | zero => cases h
      | succ k =>
        refine aw_to _ hj ?_
        refine aw_seq ?_
        refine aw_sregU hT m_umbraref42_Median [] (by kernel_rfl) ?_
        refine aw_condH h (by kernel_rfl) (fun _ h => ?_) (fun _ h => ?_)
        · refine aw_skip (tn_n ?_)
          refine aw_seq ?_
          refine aw_block ?_
          refine aw_sregU hT m_umbraref42_Median [] (by kernel_rfl) ?_
          obtain ⟨p5, h, g5⟩ := obind h
          refine aw_joinTK ⟨[en 1 (.im (S_api_Plane.enc a0)), en 2 (.ref 0 [] 0), en 5 (.ref 1 [] 0), en 6 (j64 s4)], [.var (.st 5 [(j64 0), (j64 0), (j64 0), (eS (ByteArray.mk #[])), (.v (.slice none 0 0))]), .var (.st 5 [(j64 a0.gW), (j64 a0.gH), (j64 a0.gDeep), (eS a0.gName), (eO 2 1 j64 p5)]), .tail (p5.length * 1)]⟩ ?_ ?_
          · refine aw_block (aw_loop (fun k s => ∃ s6 s7, p_umbraref42_Median_L2 N a0 s4 k s6 s7 = some p5 ∧ JR (Fr.f 107 0) ⟨[en 1 (.im (S_api_Plane.enc a0)), en 2 (.ref 0 [] 0), en 5 (.ref 1 [] 0), en 6 (j64 s4), en 7 (j64 s7)], [.var (.st 5 [(j64 0), (j64 0), (j64 0), (eS (ByteArray.mk #[])), (.v (.slice none 0 0))]), .var (.st 5 [(j64 a0.gW), (j64 a0.gH), (j64 a0.gDeep), (eS a0.gName), (eO 2 1 j64 s6)]), .tail (s6.length * 1)]⟩ s) (fun k s hI => ?_) N _ ⟨_, _, h, jr (by kernel_rfl)⟩)
            obtain ⟨s6, s7, h, hj⟩ := hI
            cases k with
            | zero => cases h
            | succ k =>
              refine aw_to _ hj ?_
              refine aw_seq ?_
              refine aw_sregU hT m_umbraref42_Median [] (by kernel_rfl) ?_
              refine aw_condH h (by kernel_rfl) (fun _ h => ?_) (fun _ h => ?_)
              · refine aw_skip (tn_n ?_)
                refine aw_seq ?_
                refine aw_block ?_
                refine aw_sregU hT m_umbraref42_Median [] (by kernel_rfl) ?_
                obtain ⟨p8, h, g8⟩ := obind h
                refine aw_joinTK ⟨[en 1 (.im (S_api_Plane.enc a0)), en 2 (.ref 0 [] 0), en 5 (.ref 1 [] 0), en 6 (j64 s4), en 7 (j64 s7)], [.var (.st 5 [(j64 0), (j64 0), (j64 0), (eS (ByteArray.mk #[])), (.v (.slice none 0 0))]), .var (.st 5 [(j64 a0.gW), (j64 a0.gH), (j64 a0.gDeep), (eS a0.gName), (eO 2 1 j64 p8)]), .tail (p8.length * 1)]⟩ ?_ ?_
                · refine aw_block (aw_loop (fun k s => ∃ s9 s10, p_umbraref42_Median_L3 N a0 s7 s4 k s9 s10 = some p8 ∧ JR (Fr.f 107 0) ⟨[en 1 (.im (S_api_Plane.enc a0)), en 2 (.ref 0 [] 0), en 5 (.ref 1 [] 0), en 6 (j64 s4), en 7 (j64 s7), en 8 (j64 s10)], [.var (.st 5 [(j64 0), (j64 0), (j64 0), (eS (ByteArray.mk #[])), (.v (.slice none 0 0))]), .var (.st 5 [(j64 a0.gW), (j64 a0.gH), (j64 a0.gDeep), (eS a0.gName), (eO 2 1 j64 s9)]), .tail (s9.length * 1)]⟩ s) (fun k s hI => ?_) N _ ⟨_, _, h, jr (by kernel_rfl)⟩)
                  obtain ⟨s9, s10, h, hj⟩ := hI
                  cases k with
                  | zero => cases h
                  | succ k =>
                    refine aw_to _ hj ?_
                    refine aw_seq ?_
                    obtain ⟨x11, hx11, h⟩ := letE h
                    refine aw_sregU hT m_umbraref42_Median [] (by kernel_rfl) ?_
                    refine aw_nms [(46, (eB x11))] (by subst hx11; kernel_rfl) ?_
                    refine aw_condH h (by kernel_rfl) (fun _ h => ?_) (fun _ h => ?_)
                    · refine aw_skip (tn_n ?_)
                      refine aw_seq ?_
                      refine aw_block ?_
                      refine aw_sregU hT m_umbraref42_Median [] (by kernel_rfl) ?_
                      refine aw_seq ?_
                      refine aw_sregU hT m_umbraref42_Median [] (by kernel_rfl) ?_
                      obtain ⟨p12, h, g12⟩ := obind h
                      refine aw_joinTK ⟨[en 1 (.im (S_api_Plane.enc a0)), en 2 (.ref 0 [] 0), en 5 (.ref 1 [] 0), en 6 (j64 s4), en 7 (j64 s7), en 8 (j64 s10), en 9 (j64 p12)], [.var (.st 5 [(j64 0), (j64 0), (j64 0), (eS (ByteArray.mk #[])), (.v (.slice none 0 0))]), .var (.st 5 [(j64 a0.gW), (j64 a0.gH), (j64 a0.gDeep), (eS a0.gName), (eO 2 1 j64 s9)]), .tail (s9.length * 1)]⟩ ?_ ?_
                      · refine aw_block (aw_loop (fun k s => ∃ s13 s14, p_umbraref42_Median_L4 N s7 s4 a0 s10 k s13 s14 = some p12 ∧ JR (Fr.f 107 0) ⟨[en 1 (.im (S_api_Plane.enc a0)), en 2 (.ref 0 [] 0), en 5 (.ref 1 [] 0), en 6 (j64 s4), en 7 (j64 s7), en 8 (j64 s10), en 9 (j64 s13), en 10 (j64 s14)], [.var (.st 5 [(j64 0), (j64 0), (j64 0), (eS (ByteArray.mk #[])), (.v (.slice none 0 0))]), .var (.st 5 [(j64 a0.gW), (j64 a0.gH), (j64 a0.gDeep), (eS a0.gName), (eO 2 1 j64 s9)]), .tail (s9.length * 1)]⟩ s) (fun k s hI => ?_) N _ ⟨_, _, h, jr (by kernel_rfl)⟩)
                        obtain ⟨s13, s14, h, hj⟩ := hI
                        cases k with
                        | zero => cases h
                        | succ k =>
                          refine aw_to _ hj ?_
                          refine aw_seq ?_
                          refine aw_sregU hT m_umbraref42_Median [] (by kernel_rfl) ?_
                          refine aw_condH h (by kernel_rfl) (fun _ h => ?_) (fun _ h => ?_)
                          · refine aw_skip (tn_n ?_)
                            obtain ⟨p15, h, g15⟩ := obind h
                            refine aw_joinT ⟨[en 1 (.im (S_api_Plane.enc a0)), en 2 (.ref 0 [] 0), en 5 (.ref 1 [] 0), en 6 (j64 s4), en 7 (j64 s7), en 8 (j64 s10), en 9 (j64 p15), en 10 (j64 s14)], [.var (.st 5 [(j64 0), (j64 0), (j64 0), (eS (ByteArray.mk #[])), (.v (.slice none 0 0))]), .var (.st 5 [(j64 a0.gW), (j64 a0.gH), (j64 a0.gDeep), (eS a0.gName), (eO 2 1 j64 s9)]), .tail (s9.length * 1)]⟩ ?_ ?_
                            · refine aw_block ?_
                              refine aw_sreg ?_
                              obtain ⟨x18, hx18, h⟩ := letE h
                              obtain ⟨x19, hx19, h⟩ := letE h
                              refine awl_u hT m_umbraref42_Median [] 12 (by kernel_rfl) ?_
                              refine awl_nms [(58, (j64 (I64 (x18 - 1)))), (63, (j64 (I64 (x19 - 1))))] (by subst hx19 hx18; kernel_rfl) ?_
                              obtain ⟨r20, hr20, h⟩ := obind h
                              refine awl_big (big_call [] (umbraref42_At_ok hr20) umbraref42_At_ok_c (by kernel_rfl) (by kernel_rfl)) (by kernel_rfl) ?_
                              refine awl_u hT m_umbraref42_Median [] 1 (by kernel_rfl) ?_
                              refine awl_nil ?_
                              refine aw_sregU hT m_umbraref42_Median [] (by kernel_rfl) ?_
                              refine aw_seq ?_
                              refine aw_sregU hT m_umbraref42_Median [] (by kernel_rfl) ?_
                              obtain ⟨p21, h, g21⟩ := obind h
                              refine aw_joinTK ⟨[en 1 (.im (S_api_Plane.enc a0)), en 2 (.ref 0 [] 0), en 5 (.ref 1 [] 0), en 6 (j64 s4), en 7 (j64 s7), en 8 (j64 s10), en 9 (j64 s13), en 10 (j64 s14), en 11 (j64 r20), en 12 (j64 p21.1), en 13 (j64 p21.2)], [.var (.st 5 [(j64 0), (j64 0), (j64 0), (eS (ByteArray.mk #[])), (.v (.slice none 0 0))]), .var (.st 5 [(j64 a0.gW), (j64 a0.gH), (j64 a0.gDeep), (eS a0.gName), (eO 2 1 j64 s9)]), .tail (s9.length * 1)]⟩ ?_ ?_
                              · refine aw_block (aw_loop (fun k s => ∃ s22 s23 s24, p_umbraref42_Median_L5 N s7 s4 a0 s10 r20 k s22 s23 s24 = some p21 ∧ JR (Fr.f 107 0) ⟨[en 1 (.im (S_api_Plane.enc a0)), en 2 (.ref 0 [] 0), en 5 (.ref 1 [] 0), en 6 (j64 s4), en 7 (j64 s7), en 8 (j64 s10), en 9 (j64 s13), en 10 (j64 s14), en 11 (j64 r20), en 12 (j64 s22), en 13 (j64 s23), en 14 (j64 s24)], [.var (.st 5 [(j64 0), (j64 0), (j64 0), (eS (ByteArray.mk #[])), (.v (.slice none 0 0))]), .var (.st 5 [(j64 a0.gW), (j64 a0.gH), (j64 a0.gDeep), (eS a0.gName), (eO 2 1 j64 s9)]), .tail (s9.length * 1)]⟩ s) (fun k s hI => ?_) N _ ⟨_, _, _, h, jr (by kernel_rfl)⟩)
                                obtain ⟨s22, s23, s24, h, hj⟩ := hI
                                cases k with
                                | zero => cases h
                                | succ k =>
                                  refine aw_to _ hj ?_
                                  refine aw_seq ?_
                                  refine aw_sregU hT m_umbraref42_Median [] (by kernel_rfl) ?_
                                  refine aw_condH h (by kernel_rfl) (fun _ h => ?_) (fun _ h => ?_)
                                  · refine aw_skip (tn_n ?_)
                                    obtain ⟨p25, h, g25⟩ := obind h
                                    refine aw_joinT ⟨[en 1 (.im (S_api_Plane.enc a0)), en 2 (.ref 0 [] 0), en 5 (.ref 1 [] 0), en 6 (j64 s4), en 7 (j64 s7), en 8 (j64 s10), en 9 (j64 s13), en 10 (j64 s14), en 11 (j64 r20), en 12 (j64 p25.1), en 13 (j64 p25.2), en 14 (j64 s24)], [.var (.st 5 [(j64 0), (j64 0), (j64 0), (eS (ByteArray.mk #[])), (.v (.slice none 0 0))]), .var (.st 5 [(j64 a0.gW), (j64 a0.gH), (j64 a0.gDeep), (eS a0.gName), (eO 2 1 j64 s9)]), .tail (s9.length * 1)]⟩ ?_ ?_
                                    · refine aw_block ?_
                                      refine aw_sreg ?_
                                      obtain ⟨x28, hx28, h⟩ := letE h
                                      obtain ⟨x29, hx29, h⟩ := letE h
                                      refine awl_u hT m_umbraref42_Median [] 12 (by kernel_rfl) ?_
                                      refine awl_nms [(75, (j64 (I64 (x28 - 1)))), (80, (j64 (I64 (x29 - 1))))] (by subst hx29 hx28; kernel_rfl) ?_
                                      obtain ⟨r30, hr30, h⟩ := obind h
                                      refine awl_big (big_call [] (umbraref42_At_ok hr30) umbraref42_At_ok_c (by kernel_rfl) (by kernel_rfl)) (by kernel_rfl) ?_
                                      refine awl_u hT m_umbraref42_Median [] 1 (by kernel_rfl) ?_
                                      refine awl_nil ?_
                                      obtain ⟨p31, h, g31⟩ := obind h
                                      refine aw_joinT ⟨[en 1 (.im (S_api_Plane.enc a0)), en 2 (.ref 0 [] 0), en 5 (.ref 1 [] 0), en 6 (j64 s4), en 7 (j64 s7), en 8 (j64 s10), en 9 (j64 s13), en 10 (j64 s14), en 11 (j64 r20), en 12 (j64 p31), en 13 (j64 s23), en 14 (j64 s24), en 15 (j64 r30)], [.var (.st 5 [(j64 0), (j64 0), (j64 0), (eS (ByteArray.mk #[])), (.v (.slice none 0 0))]), .var (.st 5 [(j64 a0.gW), (j64 a0.gH), (j64 a0.gDeep), (eS a0.gName), (eO 2 1 j64 s9)]), .tail (s9.length * 1)]⟩ ?_ ?_
                                      · refine aw_sregU hT m_umbraref42_Median [] (by kernel_rfl) ?_
                                        refine aw_condH h (by kernel_rfl) (fun _ h => ?_) (fun _ h => ?_)
                                        · refine aw_regU hT m_umbraref42_Median [] (by kernel_rfl) (tn_n ?_)
                                          cases h
                                          exact jr (by kernel_rfl)
                                        · refine aw_skip (tn_n ?_)
                                          cases h
                                          exact jr (by kernel_rfl)
                                      · have h := g31
                                        refine aw_sregU hT m_umbraref42_Median [] (by kernel_rfl) ?_
                                        refine aw_condH h (by kernel_rfl) (fun _ h => ?_) (fun _ h => ?_)
                                        · refine aw_regU hT m_umbraref42_Median [] (by kernel_rfl) (inB_n (tn_n ?_))
                                          cases h
                                          exact jr (by kernel_rfl)
                                        · refine aw_skip (inB_n (tn_n ?_))
                                          cases h
                                          exact jr (by kernel_rfl)
                                    · have h := g25
                                      refine aw_regU hT m_umbraref42_Median [] (by kernel_rfl) (tn_n ?_)
                                      exact ⟨k, Nat.lt_succ_self k, _, _, _, h, jr (by kernel_rfl)⟩
                                  · refine aw_exit (tn_x (tn_x (inB_e (tn_n ?_))))
                                    cases h
                                    exact jr (by kernel_rfl)
                              · have h := g21
                                refine (tn_n ?_)
                                obtain ⟨x32, hx32, h⟩ := letE h
                                refine aw_sregU hT m_umbraref42_Median [] (by kernel_rfl) ?_
                                refine aw_nms [(98, (eB x32))] (by subst hx32; kernel_rfl) ?_
                                refine aw_condH h (by kernel_rfl) (fun _ h => ?_) (fun _ h => ?_)
                                · refine aw_regU hT m_umbraref42_Median [] (by kernel_rfl) (inB_n (tn_n ?_))
                                  cases h
                                  exact jr (by kernel_rfl)
                                · refine aw_skip (inB_n (tn_n ?_))
                                  cases h
                                  exact jr (by kernel_rfl)
                            · have h := g15
                              refine aw_regU hT m_umbraref42_Median [] (by kernel_rfl) (tn_n ?_)
                              exact ⟨k, Nat.lt_succ_self k, _, _, h, jr (by kernel_rfl)⟩
                          · refine aw_exit (tn_x (tn_x (inB_e (tn_n ?_))))
                            cases h
                            exact jr (by kernel_rfl)
                      · have h := g12
                        refine (tn_n ?_)
                        refine aw_region ?_
                        refine awl_u hT m_umbraref42_Median [] 3 (by kernel_rfl) ?_
                        refine awl_big (big_row hT (x := (.sl 1 1 [(j64 p12)])) (by kernel_rfl) (by kernel_rfl)) (by kernel_rfl) ?_
                        obtain ⟨a33, ha33, h⟩ := obind h
                        refine awl_big (big_app hT j64 (id := 2) (k := 1) ha33 (by kernel_rfl) (by kernel_rfl)) (by kernel_rfl) ?_
                        refine awl_u hT m_umbraref42_Median [] 2 (by kernel_rfl) ?_
                        refine awl_nil (inB_n (tn_n ?_))
                        refine aw_regU hT m_umbraref42_Median [] (by kernel_rfl) (tn_n ?_)
                        exact ⟨k, Nat.lt_succ_self k, _, _, h, jr (by kernel_rfl)⟩
                    · refine aw_exit (tn_x (tn_x (inB_e (tn_n ?_))))
                      cases h
                      exact jr (by kernel_rfl)
                · have h := g8
                  refine (inB_n (tn_n ?_))
                  refine aw_regU hT m_umbraref42_Median [] (by kernel_rfl) (tn_n ?_)
                  exact ⟨k, Nat.lt_succ_self k, _, _, h, jr (by kernel_rfl)⟩
              · refine aw_exit (tn_x (tn_x (inB_e (tn_n ?_))))
                cases h
                exact jr (by kernel_rfl)
          · have h := g5
            refine (inB_n (tn_n ?_))
            refine aw_regU hT m_umbraref42_Median [] (by kernel_rfl) (tn_n ?_)
            exact ⟨k, Nat.lt_succ_self k, _, _, h, jr (by kernel_rfl)⟩
        · refine aw_exit (tn_x (tn_x (inB_e (tn_n ?_))))
          cases h
          exact jr (by kernel_rfl)
    · have h := g2
      refine (tn_n ?_)
      refine aw_sregU hT m_umbraref42_Median [] (by kernel_rfl) ?_
      refine aw_ret ?_
      cases h
      exact fin_r (by kernel_rfl)

theorem umbraref42_Median_ok_c : callable Try.prog 63 := ⟨_, Try.func63, by decide, rfl⟩

end Go.UK
