/- A part of the proof: what the functions of the program compute. -/
import Derived.Test.YtlalbhcgnnbbmaaDoorW2
namespace Go.UK
open Go Go.Proofs
set_option maxRecDepth 20000
set_option maxHeartbeats 4000000
set_option linter.all false

attribute [local irreducible] owp awl aw FnM NatFn opS Stab TOK Big

/-! umbra/umbraref43.digit -/
def p_umbraref43_digit_L1 (N : Nat) (a0 : Int) : Nat → Int → Option (Sum (Unit) (Int))
  | 0, _ => none
  | k + 1, s2 =>
    cond (decide (s2 < 16)) (
      Option.bind (idx str_8.data.toList s2) fun c3 =>
      letO (((UInt8.toNat c3 : Int)) == a0) fun x4 =>
      cond x4 (
        some (Sum.inr s2)) (
        p_umbraref43_digit_L1 N a0 k (I64 (s2 + 1)))) (
      some (Sum.inl (())))

def p_umbraref43_digit (N : Nat) (a0 : Int) : Option (Int) :=
  Option.bind (p_umbraref43_digit_L1 N a0 N 0) fun o => sumC o (fun p1 =>
    some (-1)) (fun r => some r)

theorem umbraref43_digit_ok {N : Nat} {a0 : Int} {r : Int} (h : p_umbraref43_digit N a0 = some r) : FnM Tryd.prog 25 [] [(k8 a0)] (j64 r) [] := by
  unfold p_umbraref43_digit at h
  refine fnM_of_aw (m := 15) (lo := 0) (rs := [.tmp 2]) hT Tryd.func25 rfl (by kernel_rfl) rfl ?_
  refine aw_sregU hT m_no [] (by kernel_rfl) ?_
  refine aw_sregU hT m_no [] (by kernel_rfl) ?_
  refine aw_seq ?_
  refine aw_sregU hT m_no [] (by kernel_rfl) ?_
  obtain ⟨op1, h, g1⟩ := obind h
  refine aw_joinSK (fun p1 => ⟨[], []⟩) g1 ?_ (fun p1 h => ?_)
  · refine aw_block (aw_loop (fun k s => ∃ s2, p_umbraref43_digit_L1 N a0 k s2 = some op1 ∧ JR (Fr.f 15 0) ⟨[en 0 (k8 a0), en 3 (eS str_8), en 4 (j64 s2)], []⟩ s) (fun k s hI => ?_) N _ ⟨_, h, jr (by kernel_rfl)⟩)
    obtain ⟨s2, h, hj⟩ := hI
    cases k with
    | zero => cases h
    | succ k =>
      refine aw_jr hj ?_
      refine aw_seq ?_
      refine aw_sregU hT m_no [] (by kernel_rfl) ?_
      refine aw_condH h (by kernel_rfl) (fun _ h => ?_) (fun _ h => ?_)
      · refine aw_skip (tn_n ?_)
        refine aw_seq ?_
        refine aw_block ?_
        refine aw_sreg ?_
        refine awl_u hT m_no [] 2 (by kernel_rfl) ?_
        obtain ⟨c3, hc3, h⟩ := obind h
        refine awl_big (big_ixS hT hc3 (by kernel_rfl) (by kernel_rfl)) (by kernel_rfl) ?_
        obtain ⟨x4, hx4, h⟩ := letE h
        refine awl_u hT m_no [] 2 (by kernel_rfl) ?_
        refine awl_nms [(13, (eB x4))] (by subst hx4; kernel_rfl) ?_
        refine awl_nil ?_
        refine aw_condH h (by kernel_rfl) (fun _ h => ?_) (fun _ h => ?_)
        · refine aw_sregU hT m_no [] (by kernel_rfl) ?_
          cases h
          have h := g1
          refine aw_ret (inB_r (tn_r (tn_r (inB_r (tn_r (tn_r ?_))))))
          obtain rfl := sum_e h
          exact fin_r (by kernel_rfl)
        · refine aw_skip (inB_n (tn_n ?_))
          refine aw_regU hT m_no [] (by kernel_rfl) (tn_n ?_)
          exact ⟨k, Nat.lt_succ_self k, _, h, jr (by kernel_rfl)⟩
      · refine aw_exit (tn_x (tn_x (inB_e (tn_n ?_))))
        cases h
        exact ⟨_, rfl, jr (by kernel_rfl)⟩
  · refine (tn_n ?_)
    refine aw_sregU hT m_no [] (by kernel_rfl) ?_
    refine aw_ret ?_
    cases h
    exact fin_r (by kernel_rfl)

theorem umbraref43_digit_ok_c : callable Tryd.prog 25 := ⟨_, Tryd.func25, by decide, rfl⟩

/-! umbra/umbraref43.Bytes -/
def p_umbraref43_Bytes_L1 (N : Nat) (a0 : ByteArray) : Nat → (List Int) → Int → Option (Sum ((List Int)) ((List Int) × Int))
  | 0, _, _ => none
  | k + 1, s6, s7 =>
    letO ((ByteArray.size a0 : Int)) fun x8 =>
    cond (decide (s7 < x8)) (
      Option.bind (idx a0.data.toList s7) fun c9 =>
      Option.bind (p_umbraref43_digit N ((UInt8.toNat c9 : Int))) fun r10 =>
      Option.bind (idx a0.data.toList (I64 (s7 + 1))) fun c11 =>
      Option.bind (p_umbraref43_digit N ((UInt8.toNat c11 : Int))) fun r12 =>
      letO (cond (decide (r10 < 0)) true (decide (r12 < 0))) fun x13 =>
      cond x13 (
        some (Sum.inr (([], 5)))) (
        letO (I64 ((I64 (16 * r10)) + r12)) fun x15 =>
        Option.bind (appO 1 s6 (([U8 x15] : List Int))) fun z16 =>
        p_umbraref43_Bytes_L1 N a0 k z16 (I64 (s7 + 2)))) (
      some (Sum.inl s6))

def p_umbraref43_Bytes (N : Nat) (a0 : ByteArray) : Option ((List Int) × Int) :=
  letO (ByteArray.toList a0 == ByteArray.toList (ByteArray.mk #[45])) fun x1 =>
  cond x1 (
    some (([], 0))) (
    letO ((ByteArray.size a0 : Int)) fun x2 =>
    letO ((ByteArray.size a0 : Int)) fun x3 =>
    letO (cond (x2 == 0) true ((Int.tmod x3 2) != 0)) fun x4 =>
    cond x4 (
      some (([], 5))) (
      Option.bind (p_umbraref43_Bytes_L1 N a0 N [] 0) fun o => sumC o (fun p5 =>
        some ((p5, 0))) (fun r => some r)))

theorem umbraref43_Bytes_ok {N : Nat} {a0 : ByteArray} {r : (List Int) × Int} (h : p_umbraref43_Bytes N a0 = some r) : FnM Tryd.prog 13 [] [(eS a0)] (.tup [(eL 1 k8 r.1), (j64 r.2)]) [] := by
  unfold p_umbraref43_Bytes at h
  refine fnM_of_aw (m := 49) (lo := 0) (rs := [.tmp 2, .tmp 3]) hT Tryd.func13 rfl (by kernel_rfl) rfl ?_
  refine aw_sregU hT m_no [] (by kernel_rfl) ?_
  refine aw_seq ?_
  obtain ⟨x1, hx1, h⟩ := letE h
  refine aw_sregU hT m_no [] (by kernel_rfl) ?_
  refine aw_nms [(9, (eB x1))] (by subst hx1; kernel_rfl) ?_
  refine aw_condH h (by kernel_rfl) (fun _ h => ?_) (fun _ h => ?_)
  · refine aw_sregU hT m_no [] (by kernel_rfl) ?_
    refine aw_ret (tn_r ?_)
    cases h
    exact fin_r (by kernel_rfl)
  · refine aw_skip (tn_n ?_)
    refine aw_seq ?_
    obtain ⟨x2, hx2, h⟩ := letE h
    obtain ⟨x3, hx3, h⟩ := letE h
    obtain ⟨x4, hx4, h⟩ := letE h
    refine aw_sregU hT m_no [] (by kernel_rfl) ?_
    refine aw_nms [(18, (eB x4))] (by subst hx4 hx3 hx2; kernel_rfl) ?_
    refine aw_condH h (by kernel_rfl) (fun _ h => ?_) (fun _ h => ?_)
    · refine aw_sregU hT m_no [] (by kernel_rfl) ?_
      refine aw_ret (tn_r ?_)
      cases h
      exact fin_r (by kernel_rfl)
    · refine aw_skip (tn_n ?_)
      refine aw_sregU hT m_no [] (by kernel_rfl) ?_
      refine aw_seq ?_
      refine aw_sregU hT m_no [] (by kernel_rfl) ?_
      refine aw_own_nil 4 1 (by kernel_rfl) ?_
      obtain ⟨op5, h, g5⟩ := obind h
      refine aw_joinSK (fun p5 => ⟨[en 4 (eO 0 1 k8 p5)], [.tail (p5.length * 1)]⟩) g5 ?_ (fun p5 h => ?_)
      · refine aw_block (aw_loop (fun k s => ∃ s6 s7, p_umbraref43_Bytes_L1 N a0 k s6 s7 = some op5 ∧ JR (Fr.f 49 0) ⟨[en 0 (eS a0), en 4 (eO 0 1 k8 s6), en 5 (j64 s7)], [.tail (s6.length * 1)]⟩ s) (fun k s hI => ?_) N _ ⟨_, _, h, jr (by kernel_rfl)⟩)
        obtain ⟨s6, s7, h, hj⟩ := hI
        cases k with
        | zero => cases h
        | succ k =>
          refine aw_jr hj ?_
          refine aw_seq ?_
          obtain ⟨x8, hx8, h⟩ := letE h
          refine aw_sregU hT m_no [] (by kernel_rfl) ?_
          refine aw_nms [(22, (eB (decide (s7 < x8))))] (by subst hx8; kernel_rfl) ?_
          refine aw_condH h (by kernel_rfl) (fun _ h => ?_) (fun _ h => ?_)
          · refine aw_skip (tn_n ?_)
            refine aw_seq ?_
            refine aw_block ?_
            obtain ⟨c9, hc9, h⟩ := obind h
            obtain ⟨r10, hr10, h⟩ := obind h
            obtain ⟨c11, hc11, h⟩ := obind h
            obtain ⟨r12, hr12, h⟩ := obind h
            refine aw_sdrawV hT hmo m_no [(2, (k8 ((UInt8.toNat c9 : Int)))), (3, (j64 r10)), (7, (k8 ((UInt8.toNat c11 : Int)))), (8, (j64 r12))] [] (by kernel_rfl) (by kernel_rfl) (by kernel_rfl) ⟨fun _ => big_ixS hT hc9 (by kernel_rfl) (by kernel_rfl), fun _ => big_call0 (umbraref43_digit_ok hr10) umbraref43_digit_ok_c (by kernel_rfl) (by kernel_rfl) (by kernel_rfl), fun _ => big_ixS hT hc11 (by kernel_rfl) (by kernel_rfl), fun _ => big_call0 (umbraref43_digit_ok hr12) umbraref43_digit_ok_c (by kernel_rfl) (by kernel_rfl) (by kernel_rfl), trivial⟩ trivial ?_
            refine aw_seq ?_
            obtain ⟨x13, hx13, h⟩ := letE h
            refine aw_sregU hT m_no [] (by kernel_rfl) ?_
            refine aw_nms [(39, (eB x13))] (by subst hx13; kernel_rfl) ?_
            refine aw_condH h (by kernel_rfl) (fun _ h => ?_) (fun _ h => ?_)
            · refine aw_sregU hT m_no [] (by kernel_rfl) ?_
              cases h
              have h := g5
              refine aw_ret (tn_r (inB_r (tn_r (tn_r (inB_r (tn_r (tn_r ?_)))))))
              obtain rfl := sum_e h
              exact fin_r (by kernel_rfl)
            · refine aw_skip (tn_n ?_)
              refine aw_region ?_
              obtain ⟨x15, hx15, h⟩ := letE h
              refine awl_u hT m_no [] 6 (by kernel_rfl) ?_
              refine awl_nms [(45, (k8 (U8 x15)))] (by subst hx15; kernel_rfl) ?_
              refine awl_big (big_row hT (x := (.sl 1 1 [(k8 (U8 x15))])) (by kernel_rfl) (by kernel_rfl)) (by kernel_rfl) ?_
              obtain ⟨z16, hz16, h⟩ := obind h
              refine awl_big (big_app hT k8 (id := 0) (k := 1) hz16 (by kernel_rfl) (by kernel_rfl)) (by kernel_rfl) ?_
              refine awl_u hT m_no [] 1 (by kernel_rfl) ?_
              refine awl_nil (inB_n (tn_n ?_))
              refine aw_regU hT m_no [] (by kernel_rfl) (tn_n ?_)
              exact ⟨k, Nat.lt_succ_self k, _, _, h, jr (by kernel_rfl)⟩
          · refine aw_exit (tn_x (tn_x (inB_e (tn_n ?_))))
            cases h
            exact ⟨_, rfl, jr (by kernel_rfl)⟩
      · refine (tn_n ?_)
        refine aw_sregU hT m_no [] (by kernel_rfl) ?_
        refine aw_ret ?_
        cases h
        exact fin_r (by kernel_rfl)

theorem umbraref43_Bytes_ok_c : callable Tryd.prog 13 := ⟨_, Tryd.func13, by decide, rfl⟩

/-! umbra/umbraref43.cut -/
def p_umbraref43_cut_L1 (N : Nat) (a0 : ByteArray) (a1 : Int) : Nat → (List ByteArray) → Int → Int → Option ((List ByteArray) × Int)
  | 0, _, _, _ => none
  | k + 1, s2, s3, s4 =>
    letO ((ByteArray.size a0 : Int)) fun x5 =>
    cond (decide (s4 < x5)) (
      Option.bind (Option.bind (idx a0.data.toList s4) fun c7 =>
      letO (((UInt8.toNat c7 : Int)) == a1) fun x8 =>
      cond x8 (
        Option.bind (slcS a0 s3 s4) fun s9 =>
        Option.bind (appO 16 s2 (([s9] : List ByteArray))) fun z10 =>
        some ((z10, I64 (s4 + 1)))) (
        some ((s2, s3)))) fun p6 =>
      p_umbraref43_cut_L1 N a0 a1 k p6.1 p6.2 (I64 (s4 + 1))) (
      some ((s2, s3)))

def p_umbraref43_cut (N : Nat) (a0 : ByteArray) (a1 : Int) (a2 : Bool) : Option ((List ByteArray)) :=
  Option.bind (p_umbraref43_cut_L1 N a0 a1 N [] 0 0) fun p1 =>
  Option.bind (letO ((ByteArray.size a0 : Int)) fun x12 =>
  letO (cond a2 true (decide (p1.2 < x12))) fun x13 =>
  cond x13 (
    Option.bind (slcS a0 p1.2 ((a0.size : Int))) fun s14 =>
    Option.bind (appO 16 p1.1 (([s14] : List ByteArray))) fun z15 =>
    some z15) (
    some p1.1)) fun p11 =>
  some p11

theorem umbraref43_cut_ok {N : Nat} {a0 : ByteArray} {a1 : Int} {a2 : Bool} {r : (List ByteArray)} (h : p_umbraref43_cut N a0 a1 a2 = some r) : FnM Tryd.prog 26 [] [(eS a0), (k8 a1), (eB a2)] (eL 1 eS r) [] := by
  unfold p_umbraref43_cut at h
  refine fnM_of_aw (m := 44) (lo := 0) (rs := [.tmp 6]) hT Tryd.func26 rfl (by kernel_rfl) rfl ?_
  refine aw_sregU hT m_no [] (by kernel_rfl) ?_
  refine aw_sregU hT m_no [] (by kernel_rfl) ?_
  refine aw_sregU hT m_no [] (by kernel_rfl) ?_
  refine aw_seq ?_
  refine aw_sregU hT m_no [] (by kernel_rfl) ?_
  refine aw_own_nil 7 1 (by kernel_rfl) ?_
  obtain ⟨p1, h, g1⟩ := obind h
  refine aw_joinTK ⟨[en 0 (eS a0), en 2 (eB a2), en 7 (eO 0 1 eS p1.1), en 8 (j64 p1.2)], [.tail (p1.1.length * 1)]⟩ ?_ ?_
  · refine aw_block (aw_loop (fun k s => ∃ s2 s3 s4, p_umbraref43_cut_L1 N a0 a1 k s2 s3 s4 = some p1 ∧ JR (Fr.f 44 0) ⟨[en 0 (eS a0), en 1 (k8 a1), en 2 (eB a2), en 7 (eO 0 1 eS s2), en 8 (j64 s3), en 9 (j64 s4)], [.tail (s2.length * 1)]⟩ s) (fun k s hI => ?_) N _ ⟨_, _, _, h, jr (by kernel_rfl)⟩)
    obtain ⟨s2, s3, s4, h, hj⟩ := hI
    cases k with
    | zero => cases h
    | succ k =>
      refine aw_jr hj ?_
      refine aw_seq ?_
      obtain ⟨x5, hx5, h⟩ := letE h
      refine aw_sregU hT m_no [] (by kernel_rfl) ?_
      refine aw_nms [(13, (eB (decide (s4 < x5))))] (by subst hx5; kernel_rfl) ?_
      refine aw_condH h (by kernel_rfl) (fun _ h => ?_) (fun _ h => ?_)
      · refine aw_skip (tn_n ?_)
        obtain ⟨p6, h, g6⟩ := obind h
        refine aw_joinT ⟨[en 0 (eS a0), en 1 (k8 a1), en 2 (eB a2), en 7 (eO 0 1 eS p6.1), en 8 (j64 p6.2), en 9 (j64 s4)], [.tail (p6.1.length * 1)]⟩ ?_ ?_
        · refine aw_block ?_
          refine aw_sreg ?_
          refine awl_u hT m_no [] 2 (by kernel_rfl) ?_
          obtain ⟨c7, hc7, h⟩ := obind h
          refine awl_big (big_ixS hT hc7 (by kernel_rfl) (by kernel_rfl)) (by kernel_rfl) ?_
          obtain ⟨x8, hx8, h⟩ := letE h
          refine awl_u hT m_no [] 2 (by kernel_rfl) ?_
          refine awl_nms [(20, (eB x8))] (by subst hx8; kernel_rfl) ?_
          refine awl_nil ?_
          refine aw_condH h (by kernel_rfl) (fun _ h => ?_) (fun _ h => ?_)
          · refine aw_sreg ?_
            refine awl_u hT m_no [] 4 (by kernel_rfl) ?_
            obtain ⟨s9, hs9, h⟩ := obind h
            refine awl_big (big_slS hT hs9 (by kernel_rfl) (by kernel_rfl)) (by kernel_rfl) ?_
            refine awl_big (big_row hT (x := (.sl 1 1 [(eS s9)])) (by kernel_rfl) (by kernel_rfl)) (by kernel_rfl) ?_
            obtain ⟨z10, hz10, h⟩ := obind h
            refine awl_big (big_app hT eS (id := 0) (k := 1) hz10 (by kernel_rfl) (by kernel_rfl)) (by kernel_rfl) ?_
            refine awl_u hT m_no [] 1 (by kernel_rfl) ?_
            refine awl_nil ?_
            refine aw_regU hT m_no [] (by kernel_rfl) (inB_n (tn_n ?_))
            cases h
            exact jr (by kernel_rfl)
          · refine aw_skip (inB_n (tn_n ?_))
            cases h
            exact jr (by kernel_rfl)
        · have h := g6
          refine aw_regU hT m_no [] (by kernel_rfl) (tn_n ?_)
          exact ⟨k, Nat.lt_succ_self k, _, _, _, h, jr (by kernel_rfl)⟩
      · refine aw_exit (tn_x (tn_x (inB_e (tn_n ?_))))
        cases h
        exact jr (by kernel_rfl)
  · have h := g1
    refine (tn_n ?_)
    obtain ⟨p11, h, g11⟩ := obind h
    refine aw_joinT ⟨[en 7 (eO 0 1 eS p11)], [.tail (p11.length * 1)]⟩ ?_ ?_
    · obtain ⟨x12, hx12, h⟩ := letE h
      obtain ⟨x13, hx13, h⟩ := letE h
      refine aw_sregU hT m_no [] (by kernel_rfl) ?_
      refine aw_nms [(36, (eB x13))] (by subst hx13 hx12; kernel_rfl) ?_
      refine aw_condH h (by kernel_rfl) (fun _ h => ?_) (fun _ h => ?_)
      · refine aw_region ?_
        refine awl_u hT m_no [] 3 (by kernel_rfl) ?_
        obtain ⟨s14, hs14, h⟩ := obind h
        refine awl_big (big_slS hT hs14 (by kernel_rfl) (by kernel_rfl)) (by kernel_rfl) ?_
        refine awl_big (big_row hT (x := (.sl 1 1 [(eS s14)])) (by kernel_rfl) (by kernel_rfl)) (by kernel_rfl) ?_
        obtain ⟨z15, hz15, h⟩ := obind h
        refine awl_big (big_app hT eS (id := 0) (k := 1) hz15 (by kernel_rfl) (by kernel_rfl)) (by kernel_rfl) ?_
        refine awl_u hT m_no [] 1 (by kernel_rfl) ?_
        refine awl_nil (tn_n ?_)
        cases h
        exact jr (by kernel_rfl)
      · refine aw_skip (tn_n ?_)
        cases h
        exact jr (by kernel_rfl)
    · have h := g11
      refine aw_sregU hT m_no [] (by kernel_rfl) ?_
      refine aw_ret ?_
      cases h
      exact fin_r (by kernel_rfl)

theorem umbraref43_cut_ok_c : callable Tryd.prog 26 := ⟨_, Tryd.func26, by decide, rfl⟩

/-! umbra/umbraref43.Lines -/
def p_umbraref43_Lines (N : Nat) (a0 : ByteArray) : Option ((List ByteArray)) :=
  Option.bind (p_umbraref43_cut N a0 10 false) fun r1 =>
  some r1

theorem umbraref43_Lines_ok {N : Nat} {a0 : ByteArray} {r : (List ByteArray)} (h : p_umbraref43_Lines N a0 = some r) : FnM Tryd.prog 14 [] [(eS a0)] (eL 1 eS r) [] := by
  unfold p_umbraref43_Lines at h
  refine fnM_of_aw (m := 5) (lo := 0) (rs := [.tmp 2]) hT Tryd.func14 rfl (by kernel_rfl) rfl ?_
  refine aw_sregU hT m_no [] (by kernel_rfl) ?_
  refine aw_sreg ?_
  refine awl_u hT m_no [] 1 (by kernel_rfl) ?_
  obtain ⟨r1, hr1, h⟩ := obind h
  refine awl_big (big_call [] (umbraref43_cut_ok hr1) umbraref43_cut_ok_c (by kernel_rfl) (by kernel_rfl)) (by kernel_rfl) ?_
  refine awl_u hT m_no [] 1 (by kernel_rfl) ?_
  refine awl_nil ?_
  refine aw_ret ?_
  cases h
  exact fin_r (by kernel_rfl)

theorem umbraref43_Lines_ok_c : callable Tryd.prog 14 := ⟨_, Tryd.func14, by decide, rfl⟩

/-! umbra/umbraref43.Hex -/
def p_umbraref43_Hex_L1 (N : Nat) (a0 : (List Int)) : Nat → (List Int) → Int → Option ((List Int))
  | 0, _, _ => none
  | k + 1, s3, s4 =>
    letO (decide (s4 < ((a0.length : Int)))) fun x5 =>
    cond x5 (
      Option.bind (idx a0 s4) fun e6 =>
      Option.bind (idx str_8.data.toList (U8 (Int.tdiv e6 16))) fun c7 =>
      Option.bind (idx a0 s4) fun e8 =>
      Option.bind (idx str_8.data.toList (Int.tmod e8 16)) fun c9 =>
      Option.bind (appO 1 s3 (([(UInt8.toNat c7 : Int), (UInt8.toNat c9 : Int)] : List Int))) fun z10 =>
      p_umbraref43_Hex_L1 N a0 k z10 (I64 (s4 + 1))) (
      some s3)

def p_umbraref43_Hex (N : Nat) (a0 : (List Int)) : Option (ByteArray) :=
  letO (((a0.length : Int)) == 0) fun x1 =>
  cond x1 (
    some (ByteArray.mk #[45])) (
    Option.bind (p_umbraref43_Hex_L1 N a0 N [] 0) fun p2 =>
    some (strO p2))

theorem umbraref43_Hex_ok {N : Nat} {a0 : (List Int)} {r : ByteArray} (h : p_umbraref43_Hex N a0 = some r) : FnM Tryd.prog 15 [] [(eL 1 k8 a0)] (eS r) [] := by
  unfold p_umbraref43_Hex at h
  refine fnM_of_aw (m := 34) (lo := 0) (rs := [.tmp 2]) hT Tryd.func15 rfl (by kernel_rfl) rfl ?_
  refine aw_sregU hT m_no [] (by kernel_rfl) ?_
  refine aw_sregU hT m_no [] (by kernel_rfl) ?_
  refine aw_seq ?_
  obtain ⟨x1, hx1, h⟩ := letE h
  refine aw_sregU hT m_no [] (by kernel_rfl) ?_
  refine aw_nms [(8, (eB x1))] (by subst hx1; kernel_rfl) ?_
  refine aw_condH h (by kernel_rfl) (fun _ h => ?_) (fun _ h => ?_)
  · refine aw_sregU hT m_no [] (by kernel_rfl) ?_
    refine aw_ret (tn_r ?_)
    cases h
    exact fin_r (by kernel_rfl)
  · refine aw_skip (tn_n ?_)
    refine aw_sregU hT m_no [] (by kernel_rfl) ?_
    refine aw_seq ?_
    refine aw_sregU hT m_no [] (by kernel_rfl) ?_
    refine aw_own_nil 4 1 (by kernel_rfl) ?_
    obtain ⟨p2, h, g2⟩ := obind h
    refine aw_joinTK ⟨[en 4 (eO 0 1 k8 p2)], [.tail (p2.length * 1)]⟩ ?_ ?_
    · refine aw_block (aw_loop (fun k s => ∃ s3 s4, p_umbraref43_Hex_L1 N a0 k s3 s4 = some p2 ∧ JR (Fr.f 34 0) ⟨[en 0 (eL 1 k8 a0), en 3 (eS str_8), en 4 (eO 0 1 k8 s3), en 5 (j64 s4)], [.tail (s3.length * 1)]⟩ s) (fun k s hI => ?_) N _ ⟨_, _, h, jr (by kernel_rfl)⟩)
      obtain ⟨s3, s4, h, hj⟩ := hI
      cases k with
      | zero => cases h
      | succ k =>
        refine aw_jr hj ?_
        refine aw_seq ?_
        obtain ⟨x5, hx5, h⟩ := letE h
        refine aw_sregU hT m_no [] (by kernel_rfl) ?_
        refine aw_nms [(12, (eB x5))] (by subst hx5; kernel_rfl) ?_
        refine aw_condH h (by kernel_rfl) (fun _ h => ?_) (fun _ h => ?_)
        · refine aw_skip (tn_n ?_)
          refine aw_seq ?_
          refine aw_block ?_
          obtain ⟨e6, he6, h⟩ := obind h
          obtain ⟨c7, hc7, h⟩ := obind h
          obtain ⟨e8, he8, h⟩ := obind h
          obtain ⟨c9, hc9, h⟩ := obind h
          obtain ⟨z10, hz10, h⟩ := obind h
          refine aw_drawM hT hmo m_no [(4, (.im (k8 e6))), (7, (k8 ((UInt8.toNat c7 : Int)))), (11, (.im (k8 e8))), (14, (k8 ((UInt8.toNat c9 : Int)))), (15, (.sl 1 2 [(k8 ((UInt8.toNat c7 : Int))), (k8 ((UInt8.toNat c9 : Int)))]))] [(16, fun _ => ((eO 0 1 k8 z10), [.tail (z10.length * 1)]))] (by kernel_rfl) (by kernel_rfl) (by kernel_rfl) ⟨fun _ => big_idx hT k8 he6 (by kernel_rfl) (by kernel_rfl), fun _ => big_ixS hT hc7 (by kernel_rfl) (by kernel_rfl), fun _ => big_idx hT k8 he8 (by kernel_rfl) (by kernel_rfl), fun _ => big_ixS hT hc9 (by kernel_rfl) (by kernel_rfl), fun _ => big_row hT (x := (.sl 1 2 [(k8 ((UInt8.toNat c7 : Int))), (k8 ((UInt8.toNat c9 : Int)))])) (by kernel_rfl) (by kernel_rfl), trivial⟩ ⟨big_at (big_app hT k8 (id := 0) (k := 1) hz10 (by kernel_rfl) (by kernel_rfl)) (by kernel_rfl), trivial⟩ (inB_n (tn_n ?_))
          refine aw_regU hT m_no [] (by kernel_rfl) (tn_n ?_)
          exact ⟨k, Nat.lt_succ_self k, _, _, h, jr (by kernel_rfl)⟩
        · refine aw_exit (tn_x (tn_x (inB_e (tn_n ?_))))
          cases h
          exact jr (by kernel_rfl)
    · have h := g2
      refine (tn_n ?_)
      refine aw_sreg ?_
      refine awl_u hT m_no [] 1 (by kernel_rfl) ?_
      refine awl_big (big_b2s hT p2 (v := (eO 0 1 k8 p2)) (e := 5) (by kernel_rfl) (by kernel_rfl) (by kernel_rfl)) (by kernel_rfl) ?_
      refine awl_u hT m_no [] 1 (by kernel_rfl) ?_
      refine awl_nil ?_
      refine aw_ret ?_
      cases h
      exact fin_r (by kernel_rfl)

theorem umbraref43_Hex_ok_c : callable Tryd.prog 15 := ⟨_, Tryd.func15, by decide, rfl⟩

/-! umbra/umbralaw43.WordsBytes -/
def p_umbralaw43_WordsBytes_L1 (N : Nat) (r9 : (List ByteArray)) (r10 : (List ByteArray)) : Nat → Int → Option (Sum (Unit) (Bool))
  | 0, _ => none
  | k + 1, s13 =>
    letO (decide (s13 < ((r9.length : Int)))) fun x14 =>
    cond x14 (
      Option.bind (idx r9 s13) fun e15 =>
      Option.bind (idx r10 s13) fun e16 =>
      letO (!(ByteArray.toList e15 == ByteArray.toList e16)) fun x17 =>
      cond x17 (
        some (Sum.inr false)) (
        p_umbralaw43_WordsBytes_L1 N r9 r10 k (I64 (s13 + 1)))) (
      some (Sum.inl (())))

def p_umbralaw43_WordsBytes (N : Nat) (a0 : (List Int)) (a1 : ByteArray) (a2 : ByteArray) : Option (Bool) :=
  letO (imin ((a0.length : Int)) 200) fun x1 =>
  Option.bind (slcO a0 0 x1) fun s2 =>
  letO ((ByteArray.size a1 : Int)) fun x3 =>
  Option.bind (slcS a1 0 (imin x3 200)) fun s4 =>
  letO ((ByteArray.size a2 : Int)) fun x5 =>
  Option.bind (slcS a2 0 (imin x5 300)) fun s6 =>
  Option.bind (p_words_Bytes N s4) fun r7 =>
  Option.bind (p_umbraref43_Bytes N s4) fun r8 =>
  Option.bind (p_words_Lines N s6) fun r9 =>
  Option.bind (p_umbraref43_Lines N s6) fun r10 =>
  letO (((r9.length : Int)) != ((r10.length : Int))) fun x11 =>
  cond x11 (
    some false) (
    Option.bind (p_umbralaw43_WordsBytes_L1 N r9 r10 N 0) fun o => sumC o (fun p12 =>
      Option.bind (Option.bind (p_words_Hex N s2) fun r19 =>
      Option.bind (p_umbraref43_Hex N s2) fun r20 =>
      letO (ByteArray.toList r19 == ByteArray.toList r20) fun x21 =>
      cond x21 (
        Option.bind (p_bytes_Equal N r7.1 r8.1) fun r22 =>
        letO (cond r22 (r7.2 == r8.2) false) fun x23 =>
        cond x23 (
          Option.bind (p_umbralaw43_works N ) fun r24 =>
          some r24) (
          some false)) (
        some false)) fun p18 =>
      some p18) (fun r => some r))

theorem umbralaw43_WordsBytes_ok {N : Nat} {a0 : (List Int)} {a1 : ByteArray} {a2 : ByteArray} {r : Bool} (h : p_umbralaw43_WordsBytes N a0 a1 a2 = some r) : FnM Tryd.prog 5 [] [(eL 1 k8 a0), (eS a1), (eS a2)] (eB r) [] := by
  unfold p_umbralaw43_WordsBytes at h
  refine fnM_of_aw (m := 81) (lo := 0) (rs := [.tmp 6]) hT Tryd.func5 rfl (by kernel_rfl) rfl ?_
  refine aw_sregU hT m_no [] (by kernel_rfl) ?_
  obtain ⟨x1, hx1, h⟩ := letE h
  obtain ⟨s2, hs2, h⟩ := obind h
  obtain ⟨x3, hx3, h⟩ := letE h
  obtain ⟨s4, hs4, h⟩ := obind h
  obtain ⟨x5, hx5, h⟩ := letE h
  obtain ⟨s6, hs6, h⟩ := obind h
  refine aw_sdrawV hT hmo m_no [(4, (eL 1 k8 s2)), (9, (eS s4)), (14, (eS s6))] [] (by subst hx5 hx3 hx1; kernel_rfl) (by subst hx5 hx3 hx1; kernel_rfl) (by kernel_rfl) ⟨fun _ => big_slc hT (k := 1) k8 hs2 (by subst hx1; kernel_rfl) (by subst hx1; kernel_rfl), fun _ => big_slS hT hs4 (by subst hx3 hx1; kernel_rfl) (by subst hx3 hx1; kernel_rfl), fun _ => big_slS hT hs6 (by subst hx5 hx3 hx1; kernel_rfl) (by subst hx5 hx3 hx1; kernel_rfl), trivial⟩ trivial ?_
  refine aw_sreg ?_
  refine awl_u hT m_no [] 1 (by kernel_rfl) ?_
  obtain ⟨r7, hr7, h⟩ := obind h
  refine awl_big (big_call [] (words_Bytes_ok hr7) words_Bytes_ok_c (by kernel_rfl) (by kernel_rfl)) (by kernel_rfl) ?_
  first | refine awl_to ⟨[en 0 (eL 1 k8 s2), en 1 (eS s4), en 2 (eS s6), en 31 (.tup [(eL 1 k8 r7.1), (j64 r7.2)])], []⟩ (by kernel_rfl) ?_ | skip
  refine awl_u hT m_no [] 5 (by kernel_rfl) ?_
  refine awl_nil ?_
  refine aw_sreg ?_
  refine awl_u hT m_no [] 1 (by kernel_rfl) ?_
  obtain ⟨r8, hr8, h⟩ := obind h
  refine awl_big (big_call [] (umbraref43_Bytes_ok hr8) umbraref43_Bytes_ok_c (by kernel_rfl) (by kernel_rfl)) (by kernel_rfl) ?_
  refine awl_u hT m_no [] 5 (by kernel_rfl) ?_
  refine awl_nil ?_
  refine aw_sreg ?_
  refine awl_u hT m_no [] 1 (by kernel_rfl) ?_
  obtain ⟨r9, hr9, h⟩ := obind h
  refine awl_big (big_call [] (words_Lines_ok hr9) words_Lines_ok_c (by kernel_rfl) (by kernel_rfl)) (by kernel_rfl) ?_
  refine awl_u hT m_no [] 1 (by kernel_rfl) ?_
  obtain ⟨r10, hr10, h⟩ := obind h
  refine awl_big (big_call [] (umbraref43_Lines_ok hr10) umbraref43_Lines_ok_c (by kernel_rfl) (by kernel_rfl)) (by kernel_rfl) ?_
  refine awl_u hT m_no [] 2 (by kernel_rfl) ?_
  refine awl_nil ?_
  refine aw_seq ?_
  obtain ⟨x11, hx11, h⟩ := letE h
  refine aw_sregU hT m_no [] (by kernel_rfl) ?_
  refine aw_nms [(47, (eB x11))] (by subst hx11; kernel_rfl) ?_
  refine aw_condH h (by kernel_rfl) (fun _ h => ?_) (fun _ h => ?_)
  · refine aw_sregU hT m_no [] (by kernel_rfl) ?_
    refine aw_ret (tn_r ?_)
    cases h
    exact fin_r (by kernel_rfl)
  · refine aw_skip (tn_n ?_)
    refine aw_seq ?_
    refine aw_sregU hT m_no [] (by kernel_rfl) ?_
    obtain ⟨op12, h, g12⟩ := obind h
    refine aw_joinSK (fun p12 => ⟨[en 0 (eL 1 k8 s2), en 7 (eL 1 k8 r7.1), en 8 (j64 r7.2), en 9 (eL 1 k8 r8.1), en 10 (j64 r8.2)], []⟩) g12 ?_ (fun p12 h => ?_)
    · refine aw_block (aw_loop (fun k s => ∃ s13, p_umbralaw43_WordsBytes_L1 N r9 r10 k s13 = some op12 ∧ JR (Fr.f 81 0) ⟨[en 0 (eL 1 k8 s2), en 7 (eL 1 k8 r7.1), en 8 (j64 r7.2), en 9 (eL 1 k8 r8.1), en 10 (j64 r8.2), en 11 (eL 1 eS r9), en 12 (eL 1 eS r10), en 49 (j64 ((r9.length : Int))), en 50 (j64 s13)], []⟩ s) (fun k s hI => ?_) N _ ⟨_, h, jr (by kernel_rfl)⟩)
      obtain ⟨s13, h, hj⟩ := hI
      cases k with
      | zero => cases h
      | succ k =>
        refine aw_jr hj ?_
        obtain ⟨x14, hx14, h⟩ := letE h
        refine aw_sregU hT m_no [] (by kernel_rfl) ?_
        refine aw_nms [(51, (eB x14))] (by subst hx14; kernel_rfl) ?_
        refine aw_seq ?_
        refine aw_condH h (by kernel_rfl) (fun _ h => ?_) (fun _ h => ?_)
        · refine aw_skip (tn_n ?_)
          refine aw_seq ?_
          refine aw_block ?_
          refine aw_sregU hT m_no [] (by kernel_rfl) ?_
          obtain ⟨e15, he15, h⟩ := obind h
          obtain ⟨e16, he16, h⟩ := obind h
          obtain ⟨x17, hx17, h⟩ := letE h
          refine aw_sdrawV hT hmo m_no [(2, (.im (eS e15))), (6, (.im (eS e16)))] [] (by subst hx17; kernel_rfl) (by subst hx17; kernel_rfl) (by kernel_rfl) ⟨fun _ => big_idx hT eS he15 (by kernel_rfl) (by kernel_rfl), fun _ => big_idx hT eS he16 (by kernel_rfl) (by kernel_rfl), trivial⟩ trivial ?_
          refine aw_nms [(61, (eB x17))] (by subst hx17; kernel_rfl) ?_
          refine aw_condH h (by kernel_rfl) (fun _ h => ?_) (fun _ h => ?_)
          · refine aw_sregU hT m_no [] (by kernel_rfl) ?_
            cases h
            have h := g12
            refine aw_ret (inB_r (tn_r (tn_r (inB_r (tn_r (tn_r ?_))))))
            obtain rfl := sum_e h
            exact fin_r (by kernel_rfl)
          · refine aw_skip (inB_n (tn_n ?_))
            refine aw_regU hT m_no [] (by kernel_rfl) (tn_n ?_)
            exact ⟨k, Nat.lt_succ_self k, _, h, jr (by kernel_rfl)⟩
        · refine aw_exit (tn_x (tn_x (inB_e (tn_n ?_))))
          cases h
          exact ⟨_, rfl, jr (by kernel_rfl)⟩
    · refine (tn_n ?_)
      obtain ⟨p18, h, g18⟩ := obind h
      refine aw_joinT ⟨[en 6 (eB p18)], []⟩ ?_ ?_
      · refine aw_region ?_
        refine awl_u hT m_no [] 1 (by kernel_rfl) ?_
        obtain ⟨r19, hr19, h⟩ := obind h
        refine awl_big (big_call [] (words_Hex_ok hr19) words_Hex_ok_c (by kernel_rfl) (by kernel_rfl)) (by kernel_rfl) ?_
        refine awl_u hT m_no [] 1 (by kernel_rfl) ?_
        obtain ⟨r20, hr20, h⟩ := obind h
        refine awl_big (big_call [] (umbraref43_Hex_ok hr20) umbraref43_Hex_ok_c (by kernel_rfl) (by kernel_rfl)) (by kernel_rfl) ?_
        obtain ⟨x21, hx21, h⟩ := letE h
        refine awl_u hT m_no [] 2 (by kernel_rfl) ?_
        refine awl_nms [(68, (eB x21))] (by subst hx21; kernel_rfl) ?_
        refine awl_split 68 h (by kernel_rfl) (fun h => ?_) (fun h => ?_)
        · refine awl_u hT m_no [68] 2 (by kernel_rfl) ?_
          obtain ⟨r22, hr22, h⟩ := obind h
          refine awl_big (big_call [] (bytes_Equal_ok hr22) bytes_Equal_ok_c (by kernel_rfl) (by kernel_rfl)) (by kernel_rfl) ?_
          obtain ⟨x23, hx23, h⟩ := letE h
          refine awl_u hT m_no [68] 7 (by kernel_rfl) ?_
          refine awl_nms [(78, (eB x23))] (by subst hx23; kernel_rfl) ?_
          refine awl_split 78 h (by kernel_rfl) (fun h => ?_) (fun h => ?_)
          · obtain ⟨r24, hr24, h⟩ := obind h
            refine awl_big (big_call [] (umbralaw43_works_ok hr24) umbralaw43_works_ok_c (by kernel_rfl) (by kernel_rfl)) (by kernel_rfl) ?_
            refine awl_u hT m_no [78] 2 (by kernel_rfl) ?_
            refine awl_nil (tn_n ?_)
            cases h
            exact jr (by kernel_rfl)
          · refine awl_u hT m_no [78] 3 (by kernel_rfl) ?_
            refine awl_nil (tn_n ?_)
            cases h
            exact jr (by kernel_rfl)
        · refine awl_u hT m_no [68, 73, 78] 13 (by kernel_rfl) ?_
          refine awl_nil (tn_n ?_)
          cases h
          exact jr (by kernel_rfl)
      · have h := g18
        refine aw_ret ?_
        cases h
        exact fin_r (by kernel_rfl)

theorem umbralaw43_WordsBytes_ok_c : callable Tryd.prog 5 := ⟨_, Tryd.func5, by decide, rfl⟩

end Go.UK
