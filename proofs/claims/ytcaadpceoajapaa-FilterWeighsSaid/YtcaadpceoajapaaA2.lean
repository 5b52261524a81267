/- A part of the proof: what the functions of the program compute. -/
import Derived.Test.YtcaadpceoajapaaA1
namespace Go.UK
open Go Go.Proofs
set_option maxRecDepth 20000
set_option maxHeartbeats 4000000
set_option linter.all false

attribute [local irreducible] owp awl aw FnM NatFn opS Stab TOK Big

/-! umbra/umbraref42.At -/
def m_umbraref42_At : Nat → Bool := imL [4]

def p_umbraref42_At (N : Nat) (a0 : S_api_Plane) (a1 : Int) (a2 : Int) (a3 : Int) : Option (Int) :=
  Option.bind (cond (decide (a1 < 0)) (some 0) (some a1)) fun p1 =>
  Option.bind (cond (decide (a2 < 0)) (some 0) (some a2)) fun p2 =>
  Option.bind (cond (decide (p1 ≥ a0.gW)) (some (I64 (a0.gW - 1))) (some p1)) fun p3 =>
  Option.bind (cond (decide (p2 ≥ a0.gH)) (some (I64 (a0.gH - 1))) (some p2)) fun p4 =>
  letO (I64 ((I64 (p4 * a0.gW)) + p3)) fun x7 =>
  letO (I64 ((I64 (x7 * a0.gDeep)) + a3)) fun x8 =>
  Option.bind (idx a0.gData x8) fun e9 =>
  some e9

theorem umbraref42_At_ok {N : Nat} {a0 : S_api_Plane} {a1 : Int} {a2 : Int} {a3 : Int} {r : Int} (h : p_umbraref42_At N a0 a1 a2 a3 = some r) : FnM Try.prog 77 [] [(S_api_Plane.enc a0), (j64 a1), (j64 a2), (j64 a3)] (j64 r) [] := by
  unfold p_umbraref42_At at h
  refine fnM_of_aw (m := 42) (lo := 0) (rs := [.tmp 8]) hT Try.func77 rfl (by kernel_rfl) rfl ?_
  refine aw_sregU hT m_umbraref42_At [] (by kernel_rfl) ?_
  obtain ⟨p1, h, g1⟩ := obind h
  refine aw_joinT ⟨[en 1 (j64 p1), en 2 (j64 a2), en 3 (j64 a3), en 4 (.im (S_api_Plane.enc a0))], []⟩ ?_ ?_
  · refine aw_sregU hT m_umbraref42_At [] (by kernel_rfl) ?_
    refine aw_condH h (by kernel_rfl) (fun _ h => ?_) (fun _ h => ?_)
    · refine aw_regU hT m_umbraref42_At [] (by kernel_rfl) (tn_n ?_)
      cases h
      exact jr (by kernel_rfl)
    · refine aw_skip (tn_n ?_)
      cases h
      exact jr (by kernel_rfl)
  · have h := g1
    obtain ⟨p2, h, g2⟩ := obind h
    refine aw_joinT ⟨[en 1 (j64 p1), en 2 (j64 p2), en 3 (j64 a3), en 4 (.im (S_api_Plane.enc a0))], []⟩ ?_ ?_
    · refine aw_sregU hT m_umbraref42_At [] (by kernel_rfl) ?_
      refine aw_condH h (by kernel_rfl) (fun _ h => ?_) (fun _ h => ?_)
      · refine aw_regU hT m_umbraref42_At [] (by kernel_rfl) (tn_n ?_)
        cases h
        exact jr (by kernel_rfl)
      · refine aw_skip (tn_n ?_)
        cases h
        exact jr (by kernel_rfl)
    · have h := g2
      obtain ⟨p3, h, g3⟩ := obind h
      refine aw_joinT ⟨[en 1 (j64 p3), en 2 (j64 p2), en 3 (j64 a3), en 4 (.im (S_api_Plane.enc a0))], []⟩ ?_ ?_
      · refine aw_sregU hT m_umbraref42_At [] (by kernel_rfl) ?_
        refine aw_condH h (by kernel_rfl) (fun _ h => ?_) (fun _ h => ?_)
        · refine aw_regU hT m_umbraref42_At [] (by kernel_rfl) (tn_n ?_)
          cases h
          exact jr (by kernel_rfl)
        · refine aw_skip (tn_n ?_)
          cases h
          exact jr (by kernel_rfl)
      · have h := g3
        obtain ⟨p4, h, g4⟩ := obind h
        refine aw_joinT ⟨[en 1 (j64 p3), en 2 (j64 p4), en 3 (j64 a3), en 4 (.im (S_api_Plane.enc a0))], []⟩ ?_ ?_
        · refine aw_sregU hT m_umbraref42_At [] (by kernel_rfl) ?_
          refine aw_condH h (by kernel_rfl) (fun _ h => ?_) (fun _ h => ?_)
          · refine aw_regU hT m_umbraref42_At [] (by kernel_rfl) (tn_n ?_)
            cases h
            exact jr (by kernel_rfl)
          · refine aw_skip (tn_n ?_)
            cases h
            exact jr (by kernel_rfl)
        · have h := g4
          refine aw_sreg ?_
          obtain ⟨x7, hx7, h⟩ := letE h
          obtain ⟨x8, hx8, h⟩ := letE h
          refine awl_u hT m_umbraref42_At [] 13 (by kernel_rfl) ?_
          refine awl_nms [(39, (j64 x8))] (by subst hx8 hx7; kernel_rfl) ?_
          obtain ⟨e9, he9, h⟩ := obind h
          refine awl_big (big_idx hT j64 he9 (by kernel_rfl) (by kernel_rfl)) (by kernel_rfl) ?_
          refine awl_u hT m_umbraref42_At [] 2 (by kernel_rfl) ?_
          refine awl_nil ?_
          refine aw_ret ?_
          cases h
          exact fin_r (by kernel_rfl)

theorem umbraref42_At_ok_c : callable Try.prog 77 := ⟨_, Try.func77, by decide, rfl⟩

/-! umbra/umbraref42.Convolve -/
def m_umbraref42_Convolve : Nat → Bool := imL [2, 3]

def p_umbraref42_Convolve_L1 (N : Nat) (a1 : (Vector Int 9)) : Nat → Int → Int → Option (Sum (Int) (S_api_Plane × Int))
  | 0, _, _ => none
  | k + 1, s3, s4 =>
    cond (decide (s4 < 9)) (
      Option.bind (Option.bind (idx a1.toList s4) fun e6 =>
      cond (decide (e6 < 0)) (
        some true) (
        Option.bind (idx a1.toList s4) fun e7 =>
        some (decide (e7 > 4096)))) fun p5 =>
      cond p5 (
        some (Sum.inr ((S_api_Plane.mk 0 0 0 (ByteArray.mk #[]) [], 2)))) (
        Option.bind (idx a1.toList s4) fun e8 =>
        p_umbraref42_Convolve_L1 N a1 k (I64 (s3 + e8)) (I64 (s4 + 1)))) (
      some (Sum.inl s3))

def p_umbraref42_Convolve_L6 (N : Nat) (s14 : Int) (s11 : Int) (s21 : Int) (a0 : S_api_Plane) (s17 : Int) (a1 : (Vector Int 9)) : Nat → Int → Int → Option (Int)
  | 0, _, _ => none
  | k + 1, s23, s24 =>
    cond (decide (s24 < 3)) (
      letO (I64 ((I64 (s14 + s24)) - 1)) fun x25 =>
      letO (I64 ((I64 (s11 + s21)) - 1)) fun x26 =>
      Option.bind (p_umbraref42_At N a0 x25 x26 s17) fun r27 =>
      letO (I64 ((I64 (3 * s21)) + s24)) fun x28 =>
      Option.bind (idx a1.toList x28) fun e29 =>
      letO (I64 (s23 + (I64 (r27 * e29)))) fun x30 =>
      p_umbraref42_Convolve_L6 N s14 s11 s21 a0 s17 a1 k x30 (I64 (s24 + 1))) (
      some s23)

def p_umbraref42_Convolve_L5 (N : Nat) (s14 : Int) (s11 : Int) (a0 : S_api_Plane) (s17 : Int) (a1 : (Vector Int 9)) : Nat → Int → Int → Option (Int)
  | 0, _, _ => none
  | k + 1, s20, s21 =>
    cond (decide (s21 < 3)) (
      Option.bind (p_umbraref42_Convolve_L6 N s14 s11 s21 a0 s17 a1 N s20 0) fun p22 =>
      p_umbraref42_Convolve_L5 N s14 s11 a0 s17 a1 k p22 (I64 (s21 + 1))) (
      some s20)

def p_umbraref42_Convolve_L4 (N : Nat) (a0 : S_api_Plane) (s14 : Int) (s11 : Int) (a1 : (Vector Int 9)) (p2 : Int) : Nat → (List Int) → Int → Option ((List Int))
  | 0, _, _ => none
  | k + 1, s16, s17 =>
    letO (decide (s17 < a0.gDeep)) fun x18 =>
    cond x18 (
      Option.bind (p_umbraref42_Convolve_L5 N s14 s11 a0 s17 a1 N (I64 (Int.tdiv p2 2)) 0) fun p19 =>
      Option.bind (quoO .i64 p19 p2) fun x31 =>
      Option.bind (appO 8 s16 (([x31] : List Int))) fun a32 =>
      p_umbraref42_Convolve_L4 N a0 s14 s11 a1 p2 k a32 (I64 (s17 + 1))) (
      some s16)

def p_umbraref42_Convolve_L3 (N : Nat) (a0 : S_api_Plane) (s11 : Int) (a1 : (Vector Int 9)) (p2 : Int) : Nat → (List Int) → Int → Option ((List Int))
  | 0, _, _ => none
  | k + 1, s13, s14 =>
    cond (decide (s14 < a0.gW)) (
      Option.bind (p_umbraref42_Convolve_L4 N a0 s14 s11 a1 p2 N s13 0) fun p15 =>
      p_umbraref42_Convolve_L3 N a0 s11 a1 p2 k p15 (I64 (s14 + 1))) (
      some s13)

def p_umbraref42_Convolve_L2 (N : Nat) (a0 : S_api_Plane) (a1 : (Vector Int 9)) (p2 : Int) : Nat → (List Int) → Int → Option ((List Int))
  | 0, _, _ => none
  | k + 1, s10, s11 =>
    cond (decide (s11 < a0.gH)) (
      Option.bind (p_umbraref42_Convolve_L3 N a0 s11 a1 p2 N s10 0) fun p12 =>
      p_umbraref42_Convolve_L2 N a0 a1 p2 k p12 (I64 (s11 + 1))) (
      some s10)

def p_umbraref42_Convolve (N : Nat) (a0 : S_api_Plane) (a1 : (Vector Int 9)) : Option (S_api_Plane × Int) :=
  Option.bind (p_umbraref30_Check N a0) fun r1 =>
  cond (r1 != 0) (
    some ((S_api_Plane.mk 0 0 0 (ByteArray.mk #[]) [], r1))) (
    Option.bind (p_umbraref42_Convolve_L1 N a1 N 0 0) fun o => sumC o (fun p2 =>
      cond (p2 == 0) (
        some ((S_api_Plane.mk 0 0 0 (ByteArray.mk #[]) [], 2))) (
        Option.bind (p_umbraref42_Convolve_L2 N a0 a1 p2 N [] 0) fun p9 =>
        some ((S_api_Plane.mk a0.gW a0.gH a0.gDeep a0.gName p9, 0)))) (fun r => some r))

theorem umbraref42_Convolve_ok {N : Nat} {a0 : S_api_Plane} {a1 : (Vector Int 9)} {r : S_api_Plane × Int} (h : p_umbraref42_Convolve N a0 a1 = some r) : FnM Try.prog 24 [] [(S_api_Plane.enc a0), (eA 9 1 j64 a1)] (.tup [(S_api_Plane.enc r.1), (j64 r.2)]) [] := by
  unfold p_umbraref42_Convolve at h
  refine fnM_of_aw (m := 111) (lo := 0) (rs := [.cell 4 34, .tmp 5]) hT Try.func24 rfl (by kernel_rfl) rfl ?_
  refine aw_sregU hT m_umbraref42_Convolve [] (by kernel_rfl) ?_
  refine aw_seq ?_
  refine aw_sreg ?_
  refine awl_u hT m_umbraref42_Convolve [] 1 (by kernel_rfl) ?_
  obtain ⟨r1, hr1, h⟩ := obind h
  refine awl_big (big_call [] (umbraref30_Check_ok hr1) umbraref30_Check_ok_c (by kernel_rfl) (by kernel_rfl)) (by kernel_rfl) ?_
  refine awl_u hT m_umbraref42_Convolve [] 1 (by kernel_rfl) ?_
  refine awl_nil ?_
  refine aw_sregU hT m_umbraref42_Convolve [] (by kernel_rfl) ?_
  refine aw_condH h (by kernel_rfl) (fun _ h => ?_) (fun _ h => ?_)
  · refine aw_sregU hT m_umbraref42_Convolve [] (by kernel_rfl) ?_
    refine aw_ret (tn_r ?_)
    cases h
    exact fin_r (by kernel_rfl)
  · refine aw_skip (tn_n ?_)
    refine aw_sregU hT m_umbraref42_Convolve [] (by kernel_rfl) ?_
    refine aw_seq ?_
    refine aw_sregU hT m_umbraref42_Convolve [] (by kernel_rfl) ?_
    obtain ⟨op2, h, g2⟩ := obind h
    refine aw_joinSK (fun p2 => ⟨[en 2 (.im (S_api_Plane.enc a0)), en 3 (.im (eA 9 1 j64 a1)), en 4 (.ref 0 [] 0), en 7 (j64 p2)], [.var (.st 5 [(j64 0), (j64 0), (j64 0), (eS (ByteArray.mk #[])), (.v (.slice none 0 0))])]⟩) g2 ?_ (fun p2 h => ?_)
    · refine aw_block (aw_loop (fun k s => ∃ s3 s4, p_umbraref42_Convolve_L1 N a1 k s3 s4 = some op2 ∧ JR (Fr.f 111 0) ⟨[en 2 (.im (S_api_Plane.enc a0)), en 3 (.im (eA 9 1 j64 a1)), en 4 (.ref 0 [] 0), en 7 (j64 s3), en 8 (j64 s4)], [.var (.st 5 [(j64 0), (j64 0), (j64 0), (eS (ByteArray.mk #[])), (.v (.slice none 0 0))])]⟩ s) (fun k s hI => ?_) N _ ⟨_, _, h, jr (by kernel_rfl)⟩)
      obtain ⟨s3, s4, h, hj⟩ := hI
      cases k with
      | zero => cases h
      | succ k =>
        refine aw_to _ hj ?_
        refine aw_seq ?_
        refine aw_sregU hT m_umbraref42_Convolve [] (by kernel_rfl) ?_
        refine aw_condH h (by kernel_rfl) (fun _ h => ?_) (fun _ h => ?_)
        · refine aw_skip (tn_n ?_)
          refine aw_seq ?_
          refine aw_block ?_
          refine aw_seq ?_
          obtain ⟨p5, h, g5⟩ := obind h
          refine aw_joinT ⟨[en 2 (.im (S_api_Plane.enc a0)), en 3 (.im (eA 9 1 j64 a1)), en 4 (.ref 0 [] 0), en 7 (j64 s3), en 8 (j64 s4), en 35 (eB p5)], [.var (.st 5 [(j64 0), (j64 0), (j64 0), (eS (ByteArray.mk #[])), (.v (.slice none 0 0))])]⟩ ?_ ?_
          · refine aw_region ?_
            refine awl_u hT m_umbraref42_Convolve [] 1 (by kernel_rfl) ?_
            obtain ⟨e6, he6, h⟩ := obind h
            refine awl_big (big_adI hT (N := 9) (k := 1) j64 a1 he6 (by kernel_rfl) (by kernel_rfl)) (by kernel_rfl) ?_
            refine awl_u hT m_umbraref42_Convolve [] 3 (by kernel_rfl) ?_
            refine awl_split 30 h (by kernel_rfl) (fun h => ?_) (fun h => ?_)
            · refine awl_u hT m_umbraref42_Convolve [30] 5 (by kernel_rfl) ?_
              refine awl_nil (tn_n ?_)
              cases h
              exact jr (by kernel_rfl)
            · refine awl_u hT m_umbraref42_Convolve [30] 1 (by kernel_rfl) ?_
              obtain ⟨e7, he7, h⟩ := obind h
              refine awl_big (big_adI hT (N := 9) (k := 1) j64 a1 he7 (by kernel_rfl) (by kernel_rfl)) (by kernel_rfl) ?_
              refine awl_u hT m_umbraref42_Convolve [30] 3 (by kernel_rfl) ?_
              refine awl_nil (tn_n ?_)
              cases h
              exact jr (by kernel_rfl)
          · have h := g5
            refine aw_condH h (by kernel_rfl) (fun _ h => ?_) (fun _ h => ?_)
            · refine aw_sregU hT m_umbraref42_Convolve [] (by kernel_rfl) ?_
              cases h
              have h := g2
              refine aw_ret (tn_r (inB_r (tn_r (tn_r (inB_r (tn_r (tn_r ?_)))))))
              obtain rfl := sum_e h
              exact fin_r (by kernel_rfl)
            · refine aw_skip (tn_n ?_)
              refine aw_region ?_
              refine awl_u hT m_umbraref42_Convolve [] 2 (by kernel_rfl) ?_
              obtain ⟨e8, he8, h⟩ := obind h
              refine awl_big (big_adI hT (N := 9) (k := 1) j64 a1 he8 (by kernel_rfl) (by kernel_rfl)) (by kernel_rfl) ?_
              refine awl_u hT m_umbraref42_Convolve [] 3 (by kernel_rfl) ?_
              refine awl_nil (inB_n (tn_n ?_))
              refine aw_regU hT m_umbraref42_Convolve [] (by kernel_rfl) (tn_n ?_)
              exact ⟨k, Nat.lt_succ_self k, _, _, h, jr (by kernel_rfl)⟩
        · refine aw_exit (tn_x (tn_x (inB_e (tn_n ?_))))
          cases h
          exact ⟨_, rfl, jr (by kernel_rfl)⟩
    · refine (tn_n ?_)
      refine aw_seq ?_
      refine aw_sregU hT m_umbraref42_Convolve [] (by kernel_rfl) ?_
      refine aw_condH h (by kernel_rfl) (fun _ h => ?_) (fun _ h => ?_)
      · refine aw_sregU hT m_umbraref42_Convolve [] (by kernel_rfl) ?_
        refine aw_ret (tn_r ?_)
        cases h
        exact fin_r (by kernel_rfl)
      · refine aw_skip (tn_n ?_)
        refine aw_sregU hT m_umbraref42_Convolve [] (by kernel_rfl) ?_
        refine aw_seq ?_
        refine aw_sregU hT m_umbraref42_Convolve [] (by kernel_rfl) ?_
        refine aw_own_box 1 1 [4] ?_
        obtain ⟨p9, h, g9⟩ := obind h
        refine aw_joinTK ⟨[en 4 (.ref 0 [] 0), en 9 (.ref 1 [] 0)], [.var (.st 5 [(j64 0), (j64 0), (j64 0), (eS (ByteArray.mk #[])), (.v (.slice none 0 0))]), .var (.st 5 [(j64 a0.gW), (j64 a0.gH), (j64 a0.gDeep), (eS a0.gName), (eO 2 1 j64 p9)]), .tail (p9.length * 1)]⟩ ?_ ?_
        · refine aw_block (aw_loop (fun k s => ∃ s10 s11, p_umbraref42_Convolve_L2 N a0 a1 p2 k s10 s11 = some p9 ∧ JR (Fr.f 111 0) ⟨[en 2 (.im (S_api_Plane.enc a0)), en 3 (.im (eA 9 1 j64 a1)), en 4 (.ref 0 [] 0), en 7 (j64 p2), en 9 (.ref 1 [] 0), en 10 (j64 s11)], [.var (.st 5 [(j64 0), (j64 0), (j64 0), (eS (ByteArray.mk #[])), (.v (.slice none 0 0))]), .var (.st 5 [(j64 a0.gW), (j64 a0.gH), (j64 a0.gDeep), (eS a0.gName), (eO 2 1 j64 s10)]), .tail (s10.length * 1)]⟩ s) (fun k s hI => ?_) N _ ⟨_, _, h, jr (by kernel_rfl)⟩)
          obtain ⟨s10, s11, h, hj⟩ := hI
          cases k with
          | zero => cases h
          | succ k =>
            refine aw_to _ hj ?_
            refine aw_seq ?_
            refine aw_sregU hT m_umbraref42_Convolve [] (by kernel_rfl) ?_
            refine aw_condH h (by kernel_rfl) (fun _ h => ?_) (fun _ h => ?_)
            · refine aw_skip (tn_n ?_)
              refine aw_seq ?_
              refine aw_block ?_
              refine aw_sregU hT m_umbraref42_Convolve [] (by kernel_rfl) ?_
              obtain ⟨p12, h, g12⟩ := obind h
              refine aw_joinTK ⟨[en 2 (.im (S_api_Plane.enc a0)), en 3 (.im (eA 9 1 j64 a1)), en 4 (.ref 0 [] 0), en 7 (j64 p2), en 9 (.ref 1 [] 0), en 10 (j64 s11)], [.var (.st 5 [(j64 0), (j64 0), (j64 0), (eS (ByteArray.mk #[])), (.v (.slice none 0 0))]), .var (.st 5 [(j64 a0.gW), (j64 a0.gH), (j64 a0.gDeep), (eS a0.gName), (eO 2 1 j64 p12)]), .tail (p12.length * 1)]⟩ ?_ ?_
              · refine aw_block (aw_loop (fun k s => ∃ s13 s14, p_umbraref42_Convolve_L3 N a0 s11 a1 p2 k s13 s14 = some p12 ∧ JR (Fr.f 111 0) ⟨[en 2 (.im (S_api_Plane.enc a0)), en 3 (.im (eA 9 1 j64 a1)), en 4 (.ref 0 [] 0), en 7 (j64 p2), en 9 (.ref 1 [] 0), en 10 (j64 s11), en 11 (j64 s14)], [.var (.st 5 [(j64 0), (j64 0), (j64 0), (eS (ByteArray.mk #[])), (.v (.slice none 0 0))]), .var (.st 5 [(j64 a0.gW), (j64 a0.gH), (j64 a0.gDeep), (eS a0.gName), (eO 2 1 j64 s13)]), .tail (s13.length * 1)]⟩ s) (fun k s hI => ?_) N _ ⟨_, _, h, jr (by kernel_rfl)⟩)
                obtain ⟨s13, s14, h, hj⟩ := hI
                cases k with
                | zero => cases h
                | succ k =>
                  refine aw_to _ hj ?_
                  refine aw_seq ?_
                  refine aw_sregU hT m_umbraref42_Convolve [] (by kernel_rfl) ?_
                  refine aw_condH h (by kernel_rfl) (fun _ h => ?_) (fun _ h => ?_)
                  · refine aw_skip (tn_n ?_)
                    refine aw_seq ?_
                    refine aw_block ?_
                    refine aw_sregU hT m_umbraref42_Convolve [] (by kernel_rfl) ?_
                    obtain ⟨p15, h, g15⟩ := obind h
                    refine aw_joinTK ⟨[en 2 (.im (S_api_Plane.enc a0)), en 3 (.im (eA 9 1 j64 a1)), en 4 (.ref 0 [] 0), en 7 (j64 p2), en 9 (.ref 1 [] 0), en 10 (j64 s11), en 11 (j64 s14)], [.var (.st 5 [(j64 0), (j64 0), (j64 0), (eS (ByteArray.mk #[])), (.v (.slice none 0 0))]), .var (.st 5 [(j64 a0.gW), (j64 a0.gH), (j64 a0.gDeep), (eS a0.gName), (eO 2 1 j64 p15)]), .tail (p15.length * 1)]⟩ ?_ ?_
                    · refine aw_block (aw_loop (fun k s => ∃ s16 s17, p_umbraref42_Convolve_L4 N a0 s14 s11 a1 p2 k s16 s17 = some p15 ∧ JR (Fr.f 111 0) ⟨[en 2 (.im (S_api_Plane.enc a0)), en 3 (.im (eA 9 1 j64 a1)), en 4 (.ref 0 [] 0), en 7 (j64 p2), en 9 (.ref 1 [] 0), en 10 (j64 s11), en 11 (j64 s14), en 12 (j64 s17)], [.var (.st 5 [(j64 0), (j64 0), (j64 0), (eS (ByteArray.mk #[])), (.v (.slice none 0 0))]), .var (.st 5 [(j64 a0.gW), (j64 a0.gH), (j64 a0.gDeep), (eS a0.gName), (eO 2 1 j64 s16)]), .tail (s16.length * 1)]⟩ s) (fun k s hI => ?_) N _ ⟨_, _, h, jr (by kernel_rfl)⟩)
                      obtain ⟨s16, s17, h, hj⟩ := hI
                      cases k with
                      | zero => cases h
                      | succ k =>
                        refine aw_to _ hj ?_
                        refine aw_seq ?_
                        obtain ⟨x18, hx18, h⟩ := letE h
                        refine aw_sregU hT m_umbraref42_Convolve [] (by kernel_rfl) ?_
                        refine aw_nms [(69, (eB x18))] (by subst hx18; kernel_rfl) ?_
                        refine aw_condH h (by kernel_rfl) (fun _ h => ?_) (fun _ h => ?_)
                        · refine aw_skip (tn_n ?_)
                          refine aw_seq ?_
                          refine aw_block ?_
                          refine aw_sregU hT m_umbraref42_Convolve [] (by kernel_rfl) ?_
                          refine aw_seq ?_
                          refine aw_sregU hT m_umbraref42_Convolve [] (by kernel_rfl) ?_
                          obtain ⟨p19, h, g19⟩ := obind h
                          refine aw_joinTK ⟨[en 2 (.im (S_api_Plane.enc a0)), en 3 (.im (eA 9 1 j64 a1)), en 4 (.ref 0 [] 0), en 7 (j64 p2), en 9 (.ref 1 [] 0), en 10 (j64 s11), en 11 (j64 s14), en 12 (j64 s17), en 13 (j64 p19)], [.var (.st 5 [(j64 0), (j64 0), (j64 0), (eS (ByteArray.mk #[])), (.v (.slice none 0 0))]), .var (.st 5 [(j64 a0.gW), (j64 a0.gH), (j64 a0.gDeep), (eS a0.gName), (eO 2 1 j64 s16)]), .tail (s16.length * 1)]⟩ ?_ ?_
                          · refine aw_block (aw_loop (fun k s => ∃ s20 s21, p_umbraref42_Convolve_L5 N s14 s11 a0 s17 a1 k s20 s21 = some p19 ∧ JR (Fr.f 111 0) ⟨[en 2 (.im (S_api_Plane.enc a0)), en 3 (.im (eA 9 1 j64 a1)), en 4 (.ref 0 [] 0), en 7 (j64 p2), en 9 (.ref 1 [] 0), en 10 (j64 s11), en 11 (j64 s14), en 12 (j64 s17), en 13 (j64 s20), en 14 (j64 s21)], [.var (.st 5 [(j64 0), (j64 0), (j64 0), (eS (ByteArray.mk #[])), (.v (.slice none 0 0))]), .var (.st 5 [(j64 a0.gW), (j64 a0.gH), (j64 a0.gDeep), (eS a0.gName), (eO 2 1 j64 s16)]), .tail (s16.length * 1)]⟩ s) (fun k s hI => ?_) N _ ⟨_, _, h, jr (by kernel_rfl)⟩)
                            obtain ⟨s20, s21, h, hj⟩ := hI
                            cases k with
                            | zero => cases h
                            | succ k =>
                              refine aw_to _ hj ?_
                              refine aw_seq ?_
                              refine aw_sregU hT m_umbraref42_Convolve [] (by kernel_rfl) ?_
                              refine aw_condH h (by kernel_rfl) (fun _ h => ?_) (fun _ h => ?_)
                              · refine aw_skip (tn_n ?_)
                                refine aw_seq ?_
                                refine aw_block ?_
                                refine aw_sregU hT m_umbraref42_Convolve [] (by kernel_rfl) ?_
                                obtain ⟨p22, h, g22⟩ := obind h
                                refine aw_joinTK ⟨[en 2 (.im (S_api_Plane.enc a0)), en 3 (.im (eA 9 1 j64 a1)), en 4 (.ref 0 [] 0), en 7 (j64 p2), en 9 (.ref 1 [] 0), en 10 (j64 s11), en 11 (j64 s14), en 12 (j64 s17), en 13 (j64 p22), en 14 (j64 s21)], [.var (.st 5 [(j64 0), (j64 0), (j64 0), (eS (ByteArray.mk #[])), (.v (.slice none 0 0))]), .var (.st 5 [(j64 a0.gW), (j64 a0.gH), (j64 a0.gDeep), (eS a0.gName), (eO 2 1 j64 s16)]), .tail (s16.length * 1)]⟩ ?_ ?_
                                · refine aw_block (aw_loop (fun k s => ∃ s23 s24, p_umbraref42_Convolve_L6 N s14 s11 s21 a0 s17 a1 k s23 s24 = some p22 ∧ JR (Fr.f 111 0) ⟨[en 2 (.im (S_api_Plane.enc a0)), en 3 (.im (eA 9 1 j64 a1)), en 4 (.ref 0 [] 0), en 7 (j64 p2), en 9 (.ref 1 [] 0), en 10 (j64 s11), en 11 (j64 s14), en 12 (j64 s17), en 13 (j64 s23), en 14 (j64 s21), en 15 (j64 s24)], [.var (.st 5 [(j64 0), (j64 0), (j64 0), (eS (ByteArray.mk #[])), (.v (.slice none 0 0))]), .var (.st 5 [(j64 a0.gW), (j64 a0.gH), (j64 a0.gDeep), (eS a0.gName), (eO 2 1 j64 s16)]), .tail (s16.length * 1)]⟩ s) (fun k s hI => ?_) N _ ⟨_, _, h, jr (by kernel_rfl)⟩)
                                  obtain ⟨s23, s24, h, hj⟩ := hI
                                  cases k with
                                  | zero => cases h
                                  | succ k =>
                                    refine aw_to _ hj ?_
                                    refine aw_seq ?_
                                    refine aw_sregU hT m_umbraref42_Convolve [] (by kernel_rfl) ?_
                                    refine aw_condH h (by kernel_rfl) (fun _ h => ?_) (fun _ h => ?_)
                                    · refine aw_skip (tn_n ?_)
                                      refine aw_seq ?_
                                      refine aw_block ?_
                                      obtain ⟨x25, hx25, h⟩ := letE h
                                      obtain ⟨x26, hx26, h⟩ := letE h
                                      obtain ⟨r27, hr27, h⟩ := obind h
                                      obtain ⟨x28, hx28, h⟩ := letE h
                                      obtain ⟨e29, he29, h⟩ := obind h
                                      obtain ⟨x30, hx30, h⟩ := letE h
                                      refine aw_drawN hT hmo m_umbraref42_Convolve [(11, (j64 r27)), (16, (.im (j64 e29)))] [] (by subst hx30 hx28 hx26 hx25; kernel_rfl) (by subst hx30 hx28 hx26 hx25; kernel_rfl) (by kernel_rfl) ⟨fun _ => big_call0 (umbraref42_At_ok hr27) umbraref42_At_ok_c (by subst hx26 hx25; kernel_rfl) (by subst hx26 hx25; kernel_rfl) (by subst hx26 hx25; kernel_rfl), fun _ => big_adI hT (N := 9) (k := 1) j64 a1 he29 (by subst hx28 hx26 hx25; kernel_rfl) (by subst hx28 hx26 hx25; kernel_rfl), trivial⟩ trivial [(13, (j64 x30))] (by subst hx30 hx28 hx26 hx25; kernel_rfl) (inB_n (tn_n ?_))
                                      refine aw_regU hT m_umbraref42_Convolve [] (by kernel_rfl) (tn_n ?_)
                                      exact ⟨k, Nat.lt_succ_self k, _, _, h, jr (by kernel_rfl)⟩
                                    · refine aw_exit (tn_x (tn_x (inB_e (tn_n ?_))))
                                      cases h
                                      exact jr (by kernel_rfl)
                                · have h := g22
                                  refine (inB_n (tn_n ?_))
                                  refine aw_regU hT m_umbraref42_Convolve [] (by kernel_rfl) (tn_n ?_)
                                  exact ⟨k, Nat.lt_succ_self k, _, _, h, jr (by kernel_rfl)⟩
                              · refine aw_exit (tn_x (tn_x (inB_e (tn_n ?_))))
                                cases h
                                exact jr (by kernel_rfl)
                          · have h := g19
                            refine (tn_n ?_)
                            obtain ⟨x31, hx31, h⟩ := obind h
                            obtain ⟨a32, ha32, h⟩ := obind h
                            refine aw_drawM hT hmo m_umbraref42_Convolve [(4, (j64 x31)), (5, (.sl 1 1 [(j64 x31)]))] [(6, fun _ => ((eO 2 1 j64 a32), [.var (.st 5 [(j64 0), (j64 0), (j64 0), (eS (ByteArray.mk #[])), (.v (.slice none 0 0))]), .var (.st 5 [(j64 a0.gW), (j64 a0.gH), (j64 a0.gDeep), (eS a0.gName), (eO 2 1 j64 s16)]), .tail (a32.length * 1)]))] (by kernel_rfl) (by kernel_rfl) (by kernel_rfl) ⟨fun _ => big_quo hT hx31 (by kernel_rfl) (by kernel_rfl), fun _ => big_row hT (x := (.sl 1 1 [(j64 x31)])) (by kernel_rfl) (by kernel_rfl), trivial⟩ ⟨big_at (big_app hT j64 (id := 2) (k := 1) ha32 (by kernel_rfl) (by kernel_rfl)) (by kernel_rfl), trivial⟩ (inB_n (tn_n ?_))
                            refine aw_regU hT m_umbraref42_Convolve [] (by kernel_rfl) (tn_n ?_)
                            exact ⟨k, Nat.lt_succ_self k, _, _, h, jr (by kernel_rfl)⟩
                        · refine aw_exit (tn_x (tn_x (inB_e (tn_n ?_))))
                          cases h
                          exact jr (by kernel_rfl)
                    · have h := g15
                      refine (inB_n (tn_n ?_))
                      refine aw_regU hT m_umbraref42_Convolve [] (by kernel_rfl) (tn_n ?_)
                      exact ⟨k, Nat.lt_succ_self k, _, _, h, jr (by kernel_rfl)⟩
                  · refine aw_exit (tn_x (tn_x (inB_e (tn_n ?_))))
                    cases h
                    exact jr (by kernel_rfl)
              · have h := g12
                refine (inB_n (tn_n ?_))
                refine aw_regU hT m_umbraref42_Convolve [] (by kernel_rfl) (tn_n ?_)
                exact ⟨k, Nat.lt_succ_self k, _, _, h, jr (by kernel_rfl)⟩
            · refine aw_exit (tn_x (tn_x (inB_e (tn_n ?_))))
              cases h
              exact jr (by kernel_rfl)
        · have h := g9
          refine (tn_n ?_)
          refine aw_sregU hT m_umbraref42_Convolve [] (by kernel_rfl) ?_
          refine aw_ret ?_
          cases h
          exact fin_r (by kernel_rfl)

theorem umbraref42_Convolve_ok_c : callable Try.prog 24 := ⟨_, Try.func24, by decide, rfl⟩

/-! umbra/filter.Tent -/
def m_filter_Tent : Nat → Bool := imL [1]

def p_filter_Tent (N : Nat) (a0 : S_api_Plane) : Option (S_api_Plane × Int) :=
  Option.bind (p_filter_Convolve N a0 (#v[1, 2, 1, 2, 4, 2, 1, 2, 1])) fun r1 =>
  some ((r1.1, r1.2))

theorem filter_Tent_ok {N : Nat} {a0 : S_api_Plane} {r : S_api_Plane × Int} (h : p_filter_Tent N a0 = some r) : FnM Try.prog 25 [] [(S_api_Plane.enc a0)] (.tup [(S_api_Plane.enc r.1), (j64 r.2)]) [] := by
  unfold p_filter_Tent at h
  refine fnM_of_aw (m := 9) (lo := 0) (rs := [.cell 2 34, .tmp 3]) hT Try.func25 rfl (by kernel_rfl) rfl ?_
  refine aw_sregU hT m_filter_Tent [] (by kernel_rfl) ?_
  refine aw_sreg ?_
  refine awl_u hT m_filter_Tent [] 2 (by kernel_rfl) ?_
  obtain ⟨r1, hr1, h⟩ := obind h
  refine awl_big (big_call [] (filter_Convolve_ok hr1) filter_Convolve_ok_c (by kernel_rfl) (by kernel_rfl)) (by kernel_rfl) ?_
  refine awl_u hT m_filter_Tent [] 4 (by kernel_rfl) ?_
  refine awl_nil ?_
  refine aw_ret ?_
  cases h
  exact fin_r (by kernel_rfl)

theorem filter_Tent_ok_c : callable Try.prog 25 := ⟨_, Try.func25, by decide, rfl⟩

/-! umbra/filter.Box -/
def m_filter_Box : Nat → Bool := imL [1]

def p_filter_Box (N : Nat) (a0 : S_api_Plane) : Option (S_api_Plane × Int) :=
  Option.bind (p_filter_Convolve N a0 (#v[1, 1, 1, 1, 1, 1, 1, 1, 1])) fun r1 =>
  some ((r1.1, r1.2))

theorem filter_Box_ok {N : Nat} {a0 : S_api_Plane} {r : S_api_Plane × Int} (h : p_filter_Box N a0 = some r) : FnM Try.prog 26 [] [(S_api_Plane.enc a0)] (.tup [(S_api_Plane.enc r.1), (j64 r.2)]) [] := by
  unfold p_filter_Box at h
  refine fnM_of_aw (m := 9) (lo := 0) (rs := [.cell 2 34, .tmp 3]) hT Try.func26 rfl (by kernel_rfl) rfl ?_
  refine aw_sregU hT m_filter_Box [] (by kernel_rfl) ?_
  refine aw_sreg ?_
  refine awl_u hT m_filter_Box [] 2 (by kernel_rfl) ?_
  obtain ⟨r1, hr1, h⟩ := obind h
  refine awl_big (big_call [] (filter_Convolve_ok hr1) filter_Convolve_ok_c (by kernel_rfl) (by kernel_rfl)) (by kernel_rfl) ?_
  refine awl_u hT m_filter_Box [] 4 (by kernel_rfl) ?_
  refine awl_nil ?_
  refine aw_ret ?_
  cases h
  exact fin_r (by kernel_rfl)

theorem filter_Box_ok_c : callable Try.prog 26 := ⟨_, Try.func26, by decide, rfl⟩

/-! umbra/umbraref29.Ints -/
def p_umbraref29_Ints_L1 (N : Nat) (a0 : (List Int)) (a1 : (List Int)) : Nat → Int → Option (Sum (Unit) (Bool))
  | 0, _ => none
  | k + 1, s3 =>
    letO (decide (s3 < ((a0.length : Int)))) fun x4 =>
    cond x4 (
      Option.bind (idx a0 s3) fun e5 =>
      Option.bind (idx a1 s3) fun e6 =>
      cond (e5 != e6) (
        some (Sum.inr false)) (
        p_umbraref29_Ints_L1 N a0 a1 k (I64 (s3 + 1)))) (
      some (Sum.inl (())))

def p_umbraref29_Ints (N : Nat) (a0 : (List Int)) (a1 : (List Int)) : Option (Bool) :=
  letO (((a0.length : Int)) != ((a1.length : Int))) fun x1 =>
  cond x1 (
    some false) (
    Option.bind (p_umbraref29_Ints_L1 N a0 a1 N 0) fun o => sumC o (fun p2 =>
      some true) (fun r => some r))

theorem umbraref29_Ints_ok {N : Nat} {a0 : (List Int)} {a1 : (List Int)} {r : Bool} (h : p_umbraref29_Ints N a0 a1 = some r) : FnM Try.prog 67 [] [(eL 1 j64 a0), (eL 1 j64 a1)] (eB r) [] := by
  unfold p_umbraref29_Ints at h
  refine fnM_of_aw (m := 26) (lo := 0) (rs := [.tmp 4]) hT Try.func67 rfl (by kernel_rfl) rfl ?_
  refine aw_sregU hT m_no [] (by kernel_rfl) ?_
  refine aw_seq ?_
  obtain ⟨x1, hx1, h⟩ := letE h
  refine aw_sregU hT m_no [] (by kernel_rfl) ?_
  refine aw_nms [(10, (eB x1))] (by subst hx1; kernel_rfl) ?_
  refine aw_condH h (by kernel_rfl) (fun _ h => ?_) (fun _ h => ?_)
  · refine aw_sregU hT m_no [] (by kernel_rfl) ?_
    refine aw_ret (tn_r ?_)
    cases h
    exact fin_r (by kernel_rfl)
  · refine aw_skip (tn_n ?_)
    refine aw_seq ?_
    refine aw_sregU hT m_no [] (by kernel_rfl) ?_
    obtain ⟨op2, h, g2⟩ := obind h
    refine aw_joinSK (fun p2 => ⟨[], []⟩) g2 ?_ (fun p2 h => ?_)
    · refine aw_block (aw_loop (fun k s => ∃ s3, p_umbraref29_Ints_L1 N a0 a1 k s3 = some op2 ∧ JR (Fr.f 26 0) ⟨[en 0 (eL 1 j64 a0), en 1 (eL 1 j64 a1), en 5 (j64 s3)], []⟩ s) (fun k s hI => ?_) N _ ⟨_, h, jr (by kernel_rfl)⟩)
      obtain ⟨s3, h, hj⟩ := hI
      cases k with
      | zero => cases h
      | succ k =>
        refine aw_to _ hj ?_
        refine aw_seq ?_
        obtain ⟨x4, hx4, h⟩ := letE h
        refine aw_sregU hT m_no [] (by kernel_rfl) ?_
        refine aw_nms [(14, (eB x4))] (by subst hx4; kernel_rfl) ?_
        refine aw_condH h (by kernel_rfl) (fun _ h => ?_) (fun _ h => ?_)
        · refine aw_skip (tn_n ?_)
          refine aw_seq ?_
          refine aw_block ?_
          obtain ⟨e5, he5, h⟩ := obind h
          obtain ⟨e6, he6, h⟩ := obind h
          refine aw_sdrawV hT hmo m_no [(2, (.im (j64 e5))), (6, (.im (j64 e6)))] [] (by kernel_rfl) (by kernel_rfl) (by kernel_rfl) ⟨fun _ => big_idx hT j64 he5 (by kernel_rfl) (by kernel_rfl), fun _ => big_idx hT j64 he6 (by kernel_rfl) (by kernel_rfl), trivial⟩ trivial ?_
          refine aw_condH h (by kernel_rfl) (fun _ h => ?_) (fun _ h => ?_)
          · refine aw_sregU hT m_no [] (by kernel_rfl) ?_
            cases h
            have h := g2
            refine aw_ret (inB_r (tn_r (tn_r (inB_r (tn_r (tn_r ?_))))))
            obtain rfl := sum_e h
            exact fin_r (by kernel_rfl)
          · refine aw_skip (inB_n (tn_n ?_))
            refine aw_regU hT m_no [] (by kernel_rfl) (tn_n ?_)
            exact ⟨k, Nat.lt_succ_self k, _, h, jr (by kernel_rfl)⟩
        · refine aw_exit (tn_x (tn_x (inB_e (tn_n ?_))))
          cases h
          exact ⟨_, rfl, jr (by kernel_rfl)⟩
    · refine (tn_n ?_)
      refine aw_sregU hT m_no [] (by kernel_rfl) ?_
      refine aw_ret ?_
      cases h
      exact fin_r (by kernel_rfl)

theorem umbraref29_Ints_ok_c : callable Try.prog 67 := ⟨_, Try.func67, by decide, rfl⟩

/-! umbra/umbraref30.Same -/
def m_umbraref30_Same : Nat → Bool := imL [2, 3]

def p_umbraref30_Same (N : Nat) (a0 : S_api_Plane) (a1 : S_api_Plane) : Option (Bool) :=
  Option.bind (letO (cond (a0.gW == a1.gW) (a0.gH == a1.gH) false) fun x2 =>
  letO (cond x2 (a0.gDeep == a1.gDeep) false) fun x3 =>
  letO (ByteArray.toList a0.gName == ByteArray.toList a1.gName) fun x4 =>
  cond (cond x3 x4 false) (
    Option.bind (p_umbraref29_Ints N a0.gData a1.gData) fun r5 =>
    some r5) (
    some false)) fun p1 =>
  some p1

theorem umbraref30_Same_ok {N : Nat} {a0 : S_api_Plane} {a1 : S_api_Plane} {r : Bool} (h : p_umbraref30_Same N a0 a1 = some r) : FnM Try.prog 27 [] [(S_api_Plane.enc a0), (S_api_Plane.enc a1)] (eB r) [] := by
  unfold p_umbraref30_Same at h
  refine fnM_of_aw (m := 38) (lo := 0) (rs := [.tmp 4]) hT Try.func27 rfl (by kernel_rfl) rfl ?_
  refine aw_sregU hT m_umbraref30_Same [] (by kernel_rfl) ?_
  obtain ⟨p1, h, g1⟩ := obind h
  refine aw_joinT ⟨[en 4 (eB p1)], []⟩ ?_ ?_
  · refine aw_region ?_
    obtain ⟨x2, hx2, h⟩ := letE h
    obtain ⟨x3, hx3, h⟩ := letE h
    obtain ⟨x4, hx4, h⟩ := letE h
    refine awl_u hT m_umbraref30_Same [] 27 (by kernel_rfl) ?_
    refine awl_nms [(31, (eB (cond x3 x4 false)))] (by subst hx4 hx3 hx2; kernel_rfl) ?_
    refine awl_split 31 h (by kernel_rfl) (fun h => ?_) (fun h => ?_)
    · refine awl_u hT m_umbraref30_Same [31] 4 (by kernel_rfl) ?_
      obtain ⟨r5, hr5, h⟩ := obind h
      refine awl_big (big_call [] (umbraref29_Ints_ok hr5) umbraref29_Ints_ok_c (by kernel_rfl) (by kernel_rfl)) (by kernel_rfl) ?_
      refine awl_u hT m_umbraref30_Same [31] 2 (by kernel_rfl) ?_
      refine awl_nil (tn_n ?_)
      cases h
      exact jr (by kernel_rfl)
    · refine awl_u hT m_umbraref30_Same [31] 7 (by kernel_rfl) ?_
      refine awl_nil (tn_n ?_)
      cases h
      exact jr (by kernel_rfl)
  · have h := g1
    refine aw_ret ?_
    cases h
    exact fin_r (by kernel_rfl)

theorem umbraref30_Same_ok_c : callable Try.prog 27 := ⟨_, Try.func27, by decide, rfl⟩

/-! umbra/filter.Half$1 -/
def p_filter_Half_1_v0 (N : Nat) (a0 : Int) (a1 : Int) (a2 : Int) (a3 : S_api_Plane) : Option (Int) :=
  Option.bind (p_filter_at N a3 (I64 (2 * a0)) (I64 (2 * a1)) a2) fun r1 =>
  letO (I64 ((I64 (2 * a0)) + 1)) fun x2 =>
  Option.bind (p_filter_at N a3 x2 (I64 (2 * a1)) a2) fun r3 =>
  letO (I64 ((I64 (2 * a1)) + 1)) fun x4 =>
  Option.bind (p_filter_at N a3 (I64 (2 * a0)) x4 a2) fun r5 =>
  letO (I64 ((I64 (r1 + r3)) + r5)) fun x6 =>
  letO (I64 ((I64 (2 * a0)) + 1)) fun x7 =>
  letO (I64 ((I64 (2 * a1)) + 1)) fun x8 =>
  Option.bind (p_filter_at N a3 x7 x8 a2) fun r9 =>
  letO (I64 ((I64 (x6 + r9)) + 2)) fun x10 =>
  some (I64 (Int.tdiv x10 4))

theorem filter_Half_1_v0_ok {N : Nat} {a0 : Int} {a1 : Int} {a2 : Int} {a3 : S_api_Plane} {r : Int} (h : p_filter_Half_1_v0 N a0 a1 a2 a3 = some r) : FnM Try.prog 80 [] [(j64 a0), (j64 a1), (j64 a2), (.im (S_api_Plane.enc a3))] (j64 r) [] := by
  unfold p_filter_Half_1_v0 at h
  refine fnM_of_aw (m := 45) (lo := 0) (rs := [.tmp 7]) hT Try.func80 rfl (by kernel_rfl) rfl ?_
  refine aw_sregU hT m_no [] (by kernel_rfl) ?_
  obtain ⟨r1, hr1, h⟩ := obind h
  obtain ⟨x2, hx2, h⟩ := letE h
  obtain ⟨r3, hr3, h⟩ := obind h
  obtain ⟨x4, hx4, h⟩ := letE h
  obtain ⟨r5, hr5, h⟩ := obind h
  obtain ⟨x6, hx6, h⟩ := letE h
  obtain ⟨x7, hx7, h⟩ := letE h
  obtain ⟨x8, hx8, h⟩ := letE h
  obtain ⟨r9, hr9, h⟩ := obind h
  obtain ⟨x10, hx10, h⟩ := letE h
  refine aw_sdrawV hT hmo m_no [(6, (j64 r1)), (14, (j64 r3)), (23, (j64 r5)), (33, (j64 r9))] [] (by subst hx10 hx8 hx7 hx6 hx4 hx2; kernel_rfl) (by subst hx10 hx8 hx7 hx6 hx4 hx2; kernel_rfl) (by kernel_rfl) ⟨fun _ => big_call0 (filter_at_ok hr1) filter_at_ok_c (by kernel_rfl) (by kernel_rfl) (by kernel_rfl), fun _ => big_call0 (filter_at_ok hr3) filter_at_ok_c (by subst hx2; kernel_rfl) (by subst hx2; kernel_rfl) (by subst hx2; kernel_rfl), fun _ => big_call0 (filter_at_ok hr5) filter_at_ok_c (by subst hx4 hx2; kernel_rfl) (by subst hx4 hx2; kernel_rfl) (by subst hx4 hx2; kernel_rfl), fun _ => big_call0 (filter_at_ok hr9) filter_at_ok_c (by subst hx8 hx7 hx6 hx4 hx2; kernel_rfl) (by subst hx8 hx7 hx6 hx4 hx2; kernel_rfl) (by subst hx8 hx7 hx6 hx4 hx2; kernel_rfl), trivial⟩ trivial ?_
  refine aw_nms [(7, (j64 (I64 (Int.tdiv x10 4))))] (by subst hx10 hx8 hx7 hx6 hx4 hx2; kernel_rfl) ?_
  refine aw_ret ?_
  cases h
  exact fin_r (by kernel_rfl)

theorem filter_Half_1_v0_ok_c : callable Try.prog 80 := ⟨_, Try.func80, by decide, rfl⟩

/-! umbra/filter.each -/
def m_filter_each_v1 : Nat → Bool := imL [4]

def p_filter_each_v1_L1 (N : Nat) (x1 : Int) (a0 : S_api_Plane) (a1 : Int) (a3 : S_api_Plane) : Nat → (List Int) → Int → Option ((List Int))
  | 0, _, _ => none
  | k + 1, s3, s4 =>
    cond (decide (s4 < x1)) (
      Option.bind (quoO .i64 s4 a0.gDeep) fun x5 =>
      Option.bind (remO .i64 x5 a1) fun x6 =>
      Option.bind (quoO .i64 s4 a0.gDeep) fun x7 =>
      Option.bind (quoO .i64 x7 a1) fun x8 =>
      Option.bind (remO .i64 s4 a0.gDeep) fun x9 =>
      Option.bind (p_filter_Half_1_v0 N x6 x8 x9 a3) fun r10 =>
      Option.bind (appO 8 s3 (([r10] : List Int))) fun a11 =>
      p_filter_each_v1_L1 N x1 a0 a1 a3 k a11 (I64 (s4 + 1))) (
      some s3)

def p_filter_each_v1 (N : Nat) (a0 : S_api_Plane) (a1 : Int) (a2 : Int) (a3 : S_api_Plane) : Option (S_api_Plane) :=
  letO (I64 ((I64 (a1 * a2)) * a0.gDeep)) fun x1 =>
  Option.bind (p_filter_each_v1_L1 N x1 a0 a1 a3 N [] 0) fun p2 =>
  some (S_api_Plane.mk a1 a2 a0.gDeep a0.gName p2)

theorem filter_each_v1_ok {N : Nat} {a0 : S_api_Plane} {a1 : Int} {a2 : Int} {a3 : S_api_Plane} {r : S_api_Plane} (h : p_filter_each_v1 N a0 a1 a2 a3 = some r) : FnM Try.prog 73 [] [(S_api_Plane.enc a0), (j64 a1), (j64 a2), (.fn (.func 80) [] [(.im (S_api_Plane.enc a3))])] (S_api_Plane.enc r) [] := by
  unfold p_filter_each_v1 at h
  refine fnM_of_aw (m := 52) (lo := 0) (rs := [.cell 8 34]) hT Try.func73 rfl (by kernel_rfl) rfl ?_
  refine aw_sregU hT m_filter_each_v1 [] (by kernel_rfl) ?_
  refine aw_sregU hT m_filter_each_v1 [] (by kernel_rfl) ?_
  refine aw_seq ?_
  obtain ⟨x1, hx1, h⟩ := letE h
  refine aw_sregU hT m_filter_each_v1 [] (by kernel_rfl) ?_
  refine aw_nms [(23, (j64 x1))] (by subst hx1; kernel_rfl) ?_
  refine aw_own_box 1 1 [4] ?_
  obtain ⟨p2, h, g2⟩ := obind h
  refine aw_joinTK ⟨[en 8 (.ref 0 [] 0), en 9 (.ref 1 [] 0)], [.var (.st 5 [(j64 0), (j64 0), (j64 0), (eS (ByteArray.mk #[])), (.v (.slice none 0 0))]), .var (.st 5 [(j64 a1), (j64 a2), (j64 a0.gDeep), (eS a0.gName), (eO 2 1 j64 p2)]), .tail (p2.length * 1)]⟩ ?_ ?_
  · refine aw_block (aw_loop (fun k s => ∃ s3 s4, p_filter_each_v1_L1 N x1 a0 a1 a3 k s3 s4 = some p2 ∧ JR (Fr.f 52 0) ⟨[en 1 (j64 a1), en 3 (.fn (.func 80) [] [(.im (S_api_Plane.enc a3))]), en 4 (.im (S_api_Plane.enc a0)), en 8 (.ref 0 [] 0), en 9 (.ref 1 [] 0), en 23 (j64 x1), en 24 (j64 s4)], [.var (.st 5 [(j64 0), (j64 0), (j64 0), (eS (ByteArray.mk #[])), (.v (.slice none 0 0))]), .var (.st 5 [(j64 a1), (j64 a2), (j64 a0.gDeep), (eS a0.gName), (eO 2 1 j64 s3)]), .tail (s3.length * 1)]⟩ s) (fun k s hI => ?_) N _ ⟨_, _, h, jr (by kernel_rfl)⟩)
    obtain ⟨s3, s4, h, hj⟩ := hI
    cases k with
    | zero => cases h
    | succ k =>
      refine aw_to _ hj ?_
      refine aw_sregU hT m_filter_each_v1 [] (by kernel_rfl) ?_
      refine aw_seq ?_
      refine aw_condH h (by kernel_rfl) (fun _ h => ?_) (fun _ h => ?_)
      · refine aw_skip (tn_n ?_)
        refine aw_seq ?_
        refine aw_block ?_
        refine aw_sregU hT m_filter_each_v1 [] (by kernel_rfl) ?_
        obtain ⟨x5, hx5, h⟩ := obind h
        obtain ⟨x6, hx6, h⟩ := obind h
        obtain ⟨x7, hx7, h⟩ := obind h
        obtain ⟨x8, hx8, h⟩ := obind h
        obtain ⟨x9, hx9, h⟩ := obind h
        obtain ⟨r10, hr10, h⟩ := obind h
        obtain ⟨a11, ha11, h⟩ := obind h
        refine aw_drawM hT hmo m_filter_each_v1 [(6, (j64 x5)), (8, (j64 x6)), (12, (j64 x7)), (14, (j64 x8)), (18, (j64 x9)), (19, (j64 r10)), (20, (.sl 1 1 [(j64 r10)]))] [(21, fun _ => ((eO 2 1 j64 a11), [.var (.st 5 [(j64 0), (j64 0), (j64 0), (eS (ByteArray.mk #[])), (.v (.slice none 0 0))]), .var (.st 5 [(j64 a1), (j64 a2), (j64 a0.gDeep), (eS a0.gName), (eO 2 1 j64 s3)]), .tail (a11.length * 1)]))] (by kernel_rfl) (by kernel_rfl) (by kernel_rfl) ⟨fun _ => big_quo hT hx5 (by kernel_rfl) (by kernel_rfl), fun _ => big_rem hT hx6 (by kernel_rfl) (by kernel_rfl), fun _ => big_quo hT hx7 (by kernel_rfl) (by kernel_rfl), fun _ => big_quo hT hx8 (by kernel_rfl) (by kernel_rfl), fun _ => big_rem hT hx9 (by kernel_rfl) (by kernel_rfl), fun _ => big_call0 (filter_Half_1_v0_ok hr10) filter_Half_1_v0_ok_c (by kernel_rfl) (by kernel_rfl) (by kernel_rfl), fun _ => big_row hT (x := (.sl 1 1 [(j64 r10)])) (by kernel_rfl) (by kernel_rfl), trivial⟩ ⟨big_at (big_app hT j64 (id := 2) (k := 1) ha11 (by kernel_rfl) (by kernel_rfl)) (by kernel_rfl), trivial⟩ (inB_n (tn_n ?_))
        refine aw_regU hT m_filter_each_v1 [] (by kernel_rfl) (tn_n ?_)
        exact ⟨k, Nat.lt_succ_self k, _, _, h, jr (by kernel_rfl)⟩
      · refine aw_exit (tn_x (tn_x (inB_e (tn_n ?_))))
        cases h
        exact jr (by kernel_rfl)
  · have h := g2
    refine (tn_n ?_)
    refine aw_sregU hT m_filter_each_v1 [] (by kernel_rfl) ?_
    refine aw_ret ?_
    cases h
    exact fin_r (by kernel_rfl)

theorem filter_each_v1_ok_c : callable Try.prog 73 := ⟨_, Try.func73, by decide, rfl⟩

end Go.UK
