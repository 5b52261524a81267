/- A part of the proof: what the functions of the program compute. -/
import Derived.Test.YtlalbhcgnnbbmaaDoorW1
namespace Go.UK
open Go Go.Proofs
set_option maxRecDepth 20000
set_option maxHeartbeats 4000000
set_option linter.all false

attribute [local irreducible] owp awl aw FnM NatFn opS Stab TOK Big

/-! (*umbra/words.taker).byte -/
def p_words_taker_byte_r (N : Nat) (a0 : S_words_taker) : Option ((List ByteArray) × Bool × Int) :=
  Option.bind (p_words_taker_int_rdd N 0 255 a0) fun r1 =>
  some ((r1.1, r1.2.1, r1.2.2))

theorem words_taker_byte_r_ok {N : Nat} {a0 : S_words_taker} {r : (List ByteArray) × Bool × Int} (h : p_words_taker_byte_r N a0 = some r) : FnM Tryd.prog 36 [.var (S_words_taker.enc a0)] [(.ref 0 [] 0)] (j64 r.2.2) [.var (.st 2 [(eL 1 eS r.1), (eB r.2.1)])] := by
  unfold p_words_taker_byte_r at h
  refine fnM_of_aw (m := 5) (lo := 1) (rs := [.tmp 2]) hT Tryd.func36 rfl (by kernel_rfl) rfl ?_
  refine aw_sregU hT m_no [] (by kernel_rfl) ?_
  refine aw_sreg ?_
  refine awl_u hT m_no [] 1 (by kernel_rfl) ?_
  obtain ⟨r1, hr1, h⟩ := obind h
  refine awl_big (big_call [0] (words_taker_int_rdd_ok hr1) words_taker_int_rdd_ok_c (by kernel_rfl) (by kernel_rfl)) (by kernel_rfl) ?_
  refine awl_u hT m_no [] 1 (by kernel_rfl) ?_
  refine awl_nil ?_
  refine aw_ret ?_
  cases h
  exact fin_r (by kernel_rfl)

theorem words_taker_byte_r_ok_c : callable Tryd.prog 36 := ⟨_, Tryd.func36, by decide, rfl⟩

/-! umbra/words.Parse -/
def p_words_Parse_L1 (N : Nat) (r4 : (List ByteArray)) (r3 : (List ByteArray) × Bool × ByteArray) : Nat → Int → Int → Option (Int)
  | 0, _, _ => none
  | k + 1, s6, s7 =>
    letO (decide (s7 < ((r4.length : Int)))) fun x8 =>
    cond x8 (
      Option.bind (Option.bind (idx r4 s7) fun e10 =>
      letO (ByteArray.toList e10 == ByteArray.toList r3.2.2) fun x11 =>
      letO (!(ByteArray.toList e10 == ByteArray.toList (ByteArray.mk #[]))) fun x12 =>
      cond (cond x11 x12 false) (some s7) (some s6)) fun p9 =>
      p_words_Parse_L1 N r4 r3 k p9 (I64 (s7 + 1))) (
      some s6)

def p_words_Parse (N : Nat) (a0 : ByteArray) : Option (S_api_Op × Int) :=
  letO ((ByteArray.size a0 : Int)) fun x1 =>
  cond (decide (x1 > 262144)) (
    some ((S_api_Op.mk 0 0 [] (S_api_Inst.mk 0 0 0 0 (S_api_Affine.mk (Vector.replicate 9 0) (S_api_Vec.mk 0 0 0))) 0 (S_api_View.mk 0 0 0 0 0 0 (S_api_Camera.mk (S_api_Point.mk 0 0 0) (S_api_Point.mk 0 0 0) (S_api_Point.mk 0 0 0) (S_api_Point.mk 0 0 0) 0 0) false) 0 0 0 0 0, 3))) (
    Option.bind (p_strings_Split N a0 (ByteArray.mk #[32])) fun r2 =>
    Option.bind (p_words_taker_word_r N (S_words_taker.mk r2 false)) fun r3 =>
    Option.bind (p_words_names N ) fun r4 =>
    Option.bind (p_words_Parse_L1 N r4 r3 N 0 0) fun p5 =>
    Option.bind (cond (p5 == 1) (
      Option.bind (p_words_taker_four_r N (S_words_taker.mk r3.1 r3.2.1)) fun r14 =>
      Option.bind (p_words_taker_word_r N (S_words_taker.mk r14.1 r14.2.1)) fun r15 =>
      Option.bind (p_words_Bytes N r15.2.2) fun r16 =>
      letO (cond r15.2.1 true (r16.2 != 0)) fun x19 =>
      letO (decide (((r16.1.length : Int)) > 65535)) fun x20 =>
      some ((r14.2.2, r16.1, 0, 0, 0, 0, 0, r15.1, cond (cond r15.2.1 true (r16.2 != 0)) true (decide (((r16.1.length : Int)) > 65535))))) (
      cond (p5 == 2) (
        Option.bind (p_words_taker_four_r N (S_words_taker.mk r3.1 r3.2.1)) fun r21 =>
        some ((r21.2.2, [], 0, 0, 0, 0, 0, r21.1, r21.2.1))) (
        cond (p5 == 3) (
          none) (
          cond (p5 == 4) (
            none) (
            cond (p5 == 5) (
              Option.bind (p_words_taker_byte_r N (S_words_taker.mk r3.1 r3.2.1)) fun r22 =>
              none) (
              Option.bind (cond (p5 == 6) (some (p5 == 6)) (some (p5 == 9))) fun p23 =>
              cond p23 (
                Option.bind (p_words_taker_byte_r N (S_words_taker.mk r3.1 r3.2.1)) fun r24 =>
                some ((0, [], r24.2.2, 0, 0, 0, 0, r24.1, r24.2.1))) (
                cond (p5 == 7) (
                  Option.bind (p_words_taker_byte_r N (S_words_taker.mk r3.1 r3.2.1)) fun r25 =>
                  Option.bind (p_words_taker_byte_r N (S_words_taker.mk r25.1 r25.2.1)) fun r26 =>
                  Option.bind (p_words_taker_four_r N (S_words_taker.mk r26.1 r26.2.1)) fun r27 =>
                  Option.bind (p_words_taker_four_r N (S_words_taker.mk r27.1 r27.2.1)) fun r28 =>
                  some ((0, [], r25.2.2, r26.2.2, U32 r27.2.2, r28.2.2, 0, r28.1, r28.2.1))) (
                  cond (p5 == 8) (
                    Option.bind (p_words_taker_byte_r N (S_words_taker.mk r3.1 r3.2.1)) fun r29 =>
                    Option.bind (p_words_taker_byte_r N (S_words_taker.mk r29.1 r29.2.1)) fun r30 =>
                    some ((0, [], r29.2.2, r30.2.2, 0, 0, 0, r30.1, r30.2.1))) (
                    cond (p5 == 10) (
                      Option.bind (p_words_taker_four_r N (S_words_taker.mk r3.1 r3.2.1)) fun r31 =>
                      some ((0, [], 0, 0, 0, 0, r31.2.2, r31.1, r31.2.1))) (
                      some ((0, [], 0, 0, 0, 0, 0, r3.1, true)))))))))))) fun p13 =>
    letO ((p13.2.2.2.2.2.2.2.1.length : Int)) fun x32 =>
    letO (cond p13.2.2.2.2.2.2.2.2 true (decide (x32 > 0))) fun x33 =>
    cond x33 (
      some ((S_api_Op.mk 0 0 [] (S_api_Inst.mk 0 0 0 0 (S_api_Affine.mk (Vector.replicate 9 0) (S_api_Vec.mk 0 0 0))) 0 (S_api_View.mk 0 0 0 0 0 0 (S_api_Camera.mk (S_api_Point.mk 0 0 0) (S_api_Point.mk 0 0 0) (S_api_Point.mk 0 0 0) (S_api_Point.mk 0 0 0) 0 0) false) 0 0 0 0 0, 5))) (
      some ((S_api_Op.mk p5 p13.1 p13.2.1 (S_api_Inst.mk 0 0 0 0 (S_api_Affine.mk (Vector.replicate 9 0) (S_api_Vec.mk 0 0 0))) p13.2.2.1 (S_api_View.mk 0 0 0 0 0 0 (S_api_Camera.mk (S_api_Point.mk 0 0 0) (S_api_Point.mk 0 0 0) (S_api_Point.mk 0 0 0) (S_api_Point.mk 0 0 0) 0 0) false) 0 p13.2.2.2.1 p13.2.2.2.2.1 p13.2.2.2.2.2.1 p13.2.2.2.2.2.2.1, 0))))

theorem words_Parse_ok {N : Nat} {a0 : ByteArray} {r : S_api_Op × Int} (h : p_words_Parse N a0 = some r) : FnM Tryd.prog 18 [] [(eS a0)] (.tup [(S_api_Op.enc r.1), (j64 r.2)]) [] := by
  unfold p_words_Parse at h
  refine fnM_of_aw (m := 149) (lo := 0) (rs := [.cell 2 53, .tmp 3]) hT Tryd.func18 rfl (by kernel_rfl) rfl ?_
  refine aw_sregU hT m_no [] (by kernel_rfl) ?_
  refine aw_seq ?_
  obtain ⟨x1, hx1, h⟩ := letE h
  refine aw_sregU hT m_no [] (by kernel_rfl) ?_
  refine aw_nms [(12, (eB (decide (x1 > 262144))))] (by subst hx1; kernel_rfl) ?_
  refine aw_condH h (by kernel_rfl) (fun _ h => ?_) (fun _ h => ?_)
  · refine aw_sregU hT m_no [] (by kernel_rfl) ?_
    refine aw_ret (tn_r ?_)
    cases h
    exact fin_r (by kernel_rfl)
  · refine aw_skip (tn_n ?_)
    refine aw_sreg ?_
    refine awl_u hT m_no [] 1 (by kernel_rfl) ?_
    obtain ⟨r2, hr2, h⟩ := obind h
    refine awl_big (big_call [] (strings_Split_ok hr2) strings_Split_ok_c (by kernel_rfl) (by kernel_rfl)) (by kernel_rfl) ?_
    refine awl_u hT m_no [] 3 (by kernel_rfl) ?_
    refine awl_nil ?_
    refine aw_sreg ?_
    refine awl_u hT m_no [] 1 (by kernel_rfl) ?_
    obtain ⟨r3, hr3, h⟩ := obind h
    refine awl_big (big_call [1] (words_taker_word_r_ok hr3) words_taker_word_r_ok_c (by kernel_rfl) (by kernel_rfl)) (by kernel_rfl) ?_
    refine awl_u hT m_no [] 1 (by kernel_rfl) ?_
    refine awl_nil ?_
    refine aw_seq ?_
    refine aw_sreg ?_
    obtain ⟨r4, hr4, h⟩ := obind h
    refine awl_big (big_call [] (words_names_ok hr4) words_names_ok_c (by kernel_rfl) (by kernel_rfl)) (by kernel_rfl) ?_
    refine awl_u hT m_no [] 2 (by kernel_rfl) ?_
    refine awl_nil ?_
    obtain ⟨p5, h, g5⟩ := obind h
    refine aw_joinTK ⟨[en 2 (.ref 0 [] 0), en 4 (.ref 1 [] 0)], [.var (.st 46 [(j64 p5), (j64 0), (.v (.slice none 0 0)), (.st 16 [(j64 0), (j64 0), (j64 0), (j64 0), (.st 12 [(eA 9 1 j64 (Vector.replicate 9 0)), (.st 3 [(j64 0), (j64 0), (j64 0)])])]), (j64 0), (.st 21 [(j64 0), (j64 0), (j64 0), (j64 0), (j64 0), (k64 0), (.st 14 [(.st 3 [(j64 0), (j64 0), (j64 0)]), (.st 3 [(j64 0), (j64 0), (j64 0)]), (.st 3 [(j64 0), (j64 0), (j64 0)]), (.st 3 [(j64 0), (j64 0), (j64 0)]), (j64 0), (j64 0)]), (eB false)]), (j64 0), (j64 0), (k32 0), (j64 0), (j64 0)]), .var (.st 2 [(eL 1 eS r3.1), (eB r3.2.1)])]⟩ ?_ ?_
    · refine aw_block (aw_loop (fun k s => ∃ s6 s7, p_words_Parse_L1 N r4 r3 k s6 s7 = some p5 ∧ JR (Fr.f 149 0) ⟨[en 2 (.ref 0 [] 0), en 4 (.ref 1 [] 0), en 5 (eS r3.2.2), en 20 (eL 1 eS r4), en 21 (j64 ((r4.length : Int))), en 22 (j64 s7)], [.var (.st 46 [(j64 s6), (j64 0), (.v (.slice none 0 0)), (.st 16 [(j64 0), (j64 0), (j64 0), (j64 0), (.st 12 [(eA 9 1 j64 (Vector.replicate 9 0)), (.st 3 [(j64 0), (j64 0), (j64 0)])])]), (j64 0), (.st 21 [(j64 0), (j64 0), (j64 0), (j64 0), (j64 0), (k64 0), (.st 14 [(.st 3 [(j64 0), (j64 0), (j64 0)]), (.st 3 [(j64 0), (j64 0), (j64 0)]), (.st 3 [(j64 0), (j64 0), (j64 0)]), (.st 3 [(j64 0), (j64 0), (j64 0)]), (j64 0), (j64 0)]), (eB false)]), (j64 0), (j64 0), (k32 0), (j64 0), (j64 0)]), .var (.st 2 [(eL 1 eS r3.1), (eB r3.2.1)])]⟩ s) (fun k s hI => ?_) N _ ⟨_, _, h, jr (by kernel_rfl)⟩)
      obtain ⟨s6, s7, h, hj⟩ := hI
      cases k with
      | zero => cases h
      | succ k =>
        refine aw_jr hj ?_
        obtain ⟨x8, hx8, h⟩ := letE h
        refine aw_sregU hT m_no [] (by kernel_rfl) ?_
        refine aw_nms [(23, (eB x8))] (by subst hx8; kernel_rfl) ?_
        refine aw_seq ?_
        refine aw_condH h (by kernel_rfl) (fun _ h => ?_) (fun _ h => ?_)
        · refine aw_skip (tn_n ?_)
          obtain ⟨p9, h, g9⟩ := obind h
          refine aw_joinT ⟨[en 2 (.ref 0 [] 0), en 4 (.ref 1 [] 0), en 5 (eS r3.2.2), en 20 (eL 1 eS r4), en 21 (j64 ((r4.length : Int))), en 22 (j64 s7)], [.var (.st 46 [(j64 p9), (j64 0), (.v (.slice none 0 0)), (.st 16 [(j64 0), (j64 0), (j64 0), (j64 0), (.st 12 [(eA 9 1 j64 (Vector.replicate 9 0)), (.st 3 [(j64 0), (j64 0), (j64 0)])])]), (j64 0), (.st 21 [(j64 0), (j64 0), (j64 0), (j64 0), (j64 0), (k64 0), (.st 14 [(.st 3 [(j64 0), (j64 0), (j64 0)]), (.st 3 [(j64 0), (j64 0), (j64 0)]), (.st 3 [(j64 0), (j64 0), (j64 0)]), (.st 3 [(j64 0), (j64 0), (j64 0)]), (j64 0), (j64 0)]), (eB false)]), (j64 0), (j64 0), (k32 0), (j64 0), (j64 0)]), .var (.st 2 [(eL 1 eS r3.1), (eB r3.2.1)])]⟩ ?_ ?_
          · refine aw_block ?_
            refine aw_sreg ?_
            refine awl_u hT m_no [] 1 (by kernel_rfl) ?_
            obtain ⟨e10, he10, h⟩ := obind h
            refine awl_big (big_idx hT eS he10 (by kernel_rfl) (by kernel_rfl)) (by kernel_rfl) ?_
            refine awl_u hT m_no [] 3 (by kernel_rfl) ?_
            refine awl_nil ?_
            obtain ⟨x11, hx11, h⟩ := letE h
            obtain ⟨x12, hx12, h⟩ := letE h
            refine aw_sregU hT m_no [] (by kernel_rfl) ?_
            refine aw_nms [(33, (eB (cond x11 x12 false)))] (by subst hx12 hx11; kernel_rfl) ?_
            refine aw_condH h (by kernel_rfl) (fun _ h => ?_) (fun _ h => ?_)
            · refine aw_regU hT m_no [] (by kernel_rfl) (inB_n (tn_n ?_))
              cases h
              exact jr (by kernel_rfl)
            · refine aw_skip (inB_n (tn_n ?_))
              cases h
              exact jr (by kernel_rfl)
          · have h := g9
            refine aw_regU hT m_no [] (by kernel_rfl) (tn_n ?_)
            exact ⟨k, Nat.lt_succ_self k, _, _, h, jr (by kernel_rfl)⟩
        · refine aw_exit (tn_x (tn_x (inB_e (tn_n ?_))))
          cases h
          exact jr (by kernel_rfl)
    · have h := g5
      refine (tn_n ?_)
      obtain ⟨p13, h, g13⟩ := obind h
      refine aw_joinT ⟨[en 2 (.ref 0 [] 0), en 4 (.ref 1 [] 0)], [.var (.st 46 [(j64 p5), (j64 p13.1), (eL 1 k8 p13.2.1), (.st 16 [(j64 0), (j64 0), (j64 0), (j64 0), (.st 12 [(eA 9 1 j64 (Vector.replicate 9 0)), (.st 3 [(j64 0), (j64 0), (j64 0)])])]), (j64 p13.2.2.1), (.st 21 [(j64 0), (j64 0), (j64 0), (j64 0), (j64 0), (k64 0), (.st 14 [(.st 3 [(j64 0), (j64 0), (j64 0)]), (.st 3 [(j64 0), (j64 0), (j64 0)]), (.st 3 [(j64 0), (j64 0), (j64 0)]), (.st 3 [(j64 0), (j64 0), (j64 0)]), (j64 0), (j64 0)]), (eB false)]), (j64 0), (j64 p13.2.2.2.1), (k32 p13.2.2.2.2.1), (j64 p13.2.2.2.2.2.1), (j64 p13.2.2.2.2.2.2.1)]), .var (.st 2 [(eL 1 eS p13.2.2.2.2.2.2.2.1), (eB p13.2.2.2.2.2.2.2.2)])]⟩ ?_ ?_
      · refine aw_sregU hT m_no [] (by kernel_rfl) ?_
        refine aw_block ?_
        refine aw_sregU hT m_no [] (by kernel_rfl) ?_
        refine aw_condH h (by kernel_rfl) (fun _ h => ?_) (fun _ h => ?_)
        · refine aw_sreg ?_
          refine awl_u hT m_no [] 1 (by kernel_rfl) ?_
          obtain ⟨r14, hr14, h⟩ := obind h
          refine awl_big (big_call [1] (words_taker_four_r_ok hr14) words_taker_four_r_ok_c (by kernel_rfl) (by kernel_rfl)) (by kernel_rfl) ?_
          refine awl_u hT m_no [] 2 (by kernel_rfl) ?_
          refine awl_nil ?_
          refine aw_sreg ?_
          refine awl_u hT m_no [] 1 (by kernel_rfl) ?_
          obtain ⟨r15, hr15, h⟩ := obind h
          refine awl_big (big_call [1] (words_taker_word_r_ok hr15) words_taker_word_r_ok_c (by kernel_rfl) (by kernel_rfl)) (by kernel_rfl) ?_
          obtain ⟨r16, hr16, h⟩ := obind h
          refine awl_big (big_call [] (words_Bytes_ok hr16) words_Bytes_ok_c (by kernel_rfl) (by kernel_rfl)) (by kernel_rfl) ?_
          refine awl_u hT m_no [] 5 (by kernel_rfl) ?_
          refine awl_nil ?_
          refine aw_region ?_
          obtain ⟨x19, hx19, h⟩ := letE h
          obtain ⟨x20, hx20, h⟩ := letE h
          refine awl_u hT m_no [] 20 (by kernel_rfl) ?_
          refine awl_nil (inB_n (tn_n ?_))
          cases h
          exact jr (by kernel_rfl)
        · refine aw_sregU hT m_no [] (by kernel_rfl) ?_
          refine aw_condH h (by kernel_rfl) (fun _ h => ?_) (fun _ h => ?_)
          · refine aw_region ?_
            refine awl_u hT m_no [] 1 (by kernel_rfl) ?_
            obtain ⟨r21, hr21, h⟩ := obind h
            refine awl_big (big_call [1] (words_taker_four_r_ok hr21) words_taker_four_r_ok_c (by kernel_rfl) (by kernel_rfl)) (by kernel_rfl) ?_
            refine awl_u hT m_no [] 2 (by kernel_rfl) ?_
            refine awl_nil (inB_n (tn_n ?_))
            cases h
            exact jr (by kernel_rfl)
          · refine aw_sregU hT m_no [] (by kernel_rfl) ?_
            refine aw_condH h (by kernel_rfl) (fun _ h => ?_) (fun _ h => ?_)
            · refine aw_sreg ?_
              refine awl_u hT m_no [] 1 (by kernel_rfl) ?_
              cases h
            · refine aw_sregU hT m_no [] (by kernel_rfl) ?_
              refine aw_condH h (by kernel_rfl) (fun _ h => ?_) (fun _ h => ?_)
              · refine aw_region ?_
                refine awl_u hT m_no [] 1 (by kernel_rfl) ?_
                cases h
              · refine aw_sregU hT m_no [] (by kernel_rfl) ?_
                refine aw_condH h (by kernel_rfl) (fun _ h => ?_) (fun _ h => ?_)
                · refine aw_region ?_
                  refine awl_u hT m_no [] 1 (by kernel_rfl) ?_
                  obtain ⟨r22, hr22, h⟩ := obind h
                  refine awl_big (big_call [1] (words_taker_byte_r_ok hr22) words_taker_byte_r_ok_c (by kernel_rfl) (by kernel_rfl)) (by kernel_rfl) ?_
                  refine awl_u hT m_no [] 1 (by kernel_rfl) ?_
                  cases h
                · obtain ⟨p23, h, g23⟩ := obind h
                  refine aw_joinT ⟨[en 2 (.ref 0 [] 0), en 4 (.ref 1 [] 0), en 38 (j64 p5), en 101 (eB p23)], [.var (.st 46 [(j64 p5), (j64 0), (.v (.slice none 0 0)), (.st 16 [(j64 0), (j64 0), (j64 0), (j64 0), (.st 12 [(eA 9 1 j64 (Vector.replicate 9 0)), (.st 3 [(j64 0), (j64 0), (j64 0)])])]), (j64 0), (.st 21 [(j64 0), (j64 0), (j64 0), (j64 0), (j64 0), (k64 0), (.st 14 [(.st 3 [(j64 0), (j64 0), (j64 0)]), (.st 3 [(j64 0), (j64 0), (j64 0)]), (.st 3 [(j64 0), (j64 0), (j64 0)]), (.st 3 [(j64 0), (j64 0), (j64 0)]), (j64 0), (j64 0)]), (eB false)]), (j64 0), (j64 0), (k32 0), (j64 0), (j64 0)]), .var (.st 2 [(eL 1 eS r3.1), (eB r3.2.1)])]⟩ ?_ ?_
                  · refine aw_sregU hT m_no [] (by kernel_rfl) ?_
                    refine aw_condH h (by kernel_rfl) (fun _ h => ?_) (fun _ h => ?_)
                    · refine aw_skip (tn_n ?_)
                      cases h
                      exact jr (by kernel_rfl)
                    · refine aw_regU hT m_no [] (by kernel_rfl) (tn_n ?_)
                      cases h
                      exact jr (by kernel_rfl)
                  · have h := g23
                    refine aw_condH h (by kernel_rfl) (fun _ h => ?_) (fun _ h => ?_)
                    · refine aw_region ?_
                      refine awl_u hT m_no [] 1 (by kernel_rfl) ?_
                      obtain ⟨r24, hr24, h⟩ := obind h
                      refine awl_big (big_call [1] (words_taker_byte_r_ok hr24) words_taker_byte_r_ok_c (by kernel_rfl) (by kernel_rfl)) (by kernel_rfl) ?_
                      refine awl_u hT m_no [] 2 (by kernel_rfl) ?_
                      refine awl_nil (inB_n (tn_n ?_))
                      cases h
                      exact jr (by kernel_rfl)
                    · refine aw_sregU hT m_no [] (by kernel_rfl) ?_
                      refine aw_condH h (by kernel_rfl) (fun _ h => ?_) (fun _ h => ?_)
                      · refine aw_region ?_
                        refine awl_u hT m_no [] 1 (by kernel_rfl) ?_
                        obtain ⟨r25, hr25, h⟩ := obind h
                        refine awl_big (big_call [1] (words_taker_byte_r_ok hr25) words_taker_byte_r_ok_c (by kernel_rfl) (by kernel_rfl)) (by kernel_rfl) ?_
                        first | refine awl_to ⟨[en 2 (.ref 0 [] 0), en 4 (.ref 1 [] 0), en 110 (j64 r25.2.2)], [.var (.st 46 [(j64 p5), (j64 0), (.v (.slice none 0 0)), (.st 16 [(j64 0), (j64 0), (j64 0), (j64 0), (.st 12 [(eA 9 1 j64 (Vector.replicate 9 0)), (.st 3 [(j64 0), (j64 0), (j64 0)])])]), (j64 0), (.st 21 [(j64 0), (j64 0), (j64 0), (j64 0), (j64 0), (k64 0), (.st 14 [(.st 3 [(j64 0), (j64 0), (j64 0)]), (.st 3 [(j64 0), (j64 0), (j64 0)]), (.st 3 [(j64 0), (j64 0), (j64 0)]), (.st 3 [(j64 0), (j64 0), (j64 0)]), (j64 0), (j64 0)]), (eB false)]), (j64 0), (j64 0), (k32 0), (j64 0), (j64 0)]), .var (.st 2 [(eL 1 eS r25.1), (eB r25.2.1)])]⟩ (by kernel_rfl) ?_ | skip
                        refine awl_u hT m_no [] 1 (by kernel_rfl) ?_
                        obtain ⟨r26, hr26, h⟩ := obind h
                        refine awl_big (big_call [1] (words_taker_byte_r_ok hr26) words_taker_byte_r_ok_c (by kernel_rfl) (by kernel_rfl)) (by kernel_rfl) ?_
                        refine awl_u hT m_no [] 1 (by kernel_rfl) ?_
                        obtain ⟨r27, hr27, h⟩ := obind h
                        refine awl_big (big_call [1] (words_taker_four_r_ok hr27) words_taker_four_r_ok_c (by kernel_rfl) (by kernel_rfl)) (by kernel_rfl) ?_
                        refine awl_u hT m_no [] 2 (by kernel_rfl) ?_
                        obtain ⟨r28, hr28, h⟩ := obind h
                        refine awl_big (big_call [1] (words_taker_four_r_ok hr28) words_taker_four_r_ok_c (by kernel_rfl) (by kernel_rfl)) (by kernel_rfl) ?_
                        refine awl_u hT m_no [] 8 (by kernel_rfl) ?_
                        refine awl_nil (inB_n (tn_n ?_))
                        cases h
                        exact jr (by kernel_rfl)
                      · refine aw_sregU hT m_no [] (by kernel_rfl) ?_
                        refine aw_condH h (by kernel_rfl) (fun _ h => ?_) (fun _ h => ?_)
                        · refine aw_region ?_
                          refine awl_u hT m_no [] 1 (by kernel_rfl) ?_
                          obtain ⟨r29, hr29, h⟩ := obind h
                          refine awl_big (big_call [1] (words_taker_byte_r_ok hr29) words_taker_byte_r_ok_c (by kernel_rfl) (by kernel_rfl)) (by kernel_rfl) ?_
                          refine awl_u hT m_no [] 1 (by kernel_rfl) ?_
                          obtain ⟨r30, hr30, h⟩ := obind h
                          refine awl_big (big_call [1] (words_taker_byte_r_ok hr30) words_taker_byte_r_ok_c (by kernel_rfl) (by kernel_rfl)) (by kernel_rfl) ?_
                          refine awl_u hT m_no [] 4 (by kernel_rfl) ?_
                          refine awl_nil (inB_n (tn_n ?_))
                          cases h
                          exact jr (by kernel_rfl)
                        · refine aw_sregU hT m_no [] (by kernel_rfl) ?_
                          refine aw_condH h (by kernel_rfl) (fun _ h => ?_) (fun _ h => ?_)
                          · refine aw_region ?_
                            refine awl_u hT m_no [] 1 (by kernel_rfl) ?_
                            obtain ⟨r31, hr31, h⟩ := obind h
                            refine awl_big (big_call [1] (words_taker_four_r_ok hr31) words_taker_four_r_ok_c (by kernel_rfl) (by kernel_rfl)) (by kernel_rfl) ?_
                            refine awl_u hT m_no [] 2 (by kernel_rfl) ?_
                            refine awl_nil (inB_n (tn_n ?_))
                            cases h
                            exact jr (by kernel_rfl)
                          · refine aw_regU hT m_no [] (by kernel_rfl) (inB_n (tn_n ?_))
                            cases h
                            exact jr (by kernel_rfl)
      · have h := g13
        refine aw_seq ?_
        obtain ⟨x32, hx32, h⟩ := letE h
        obtain ⟨x33, hx33, h⟩ := letE h
        refine aw_sregU hT m_no [] (by kernel_rfl) ?_
        refine aw_nms [(146, (eB x33))] (by subst hx33 hx32; kernel_rfl) ?_
        refine aw_condH h (by kernel_rfl) (fun _ h => ?_) (fun _ h => ?_)
        · refine aw_sregU hT m_no [] (by kernel_rfl) ?_
          refine aw_ret (tn_r ?_)
          cases h
          exact fin_r (by kernel_rfl)
        · refine aw_skip (tn_n ?_)
          refine aw_sregU hT m_no [] (by kernel_rfl) ?_
          refine aw_ret ?_
          cases h
          exact fin_r (by kernel_rfl)

theorem words_Parse_ok_c : callable Tryd.prog 18 := ⟨_, Tryd.func18, by decide, rfl⟩

/-! umbra/umbralaw43.works -/
def p_umbralaw43_works (N : Nat) : Option (Bool) :=
  Option.bind (p_words_Parse N str_0) fun r1 =>
  Option.bind (p_words_Parse N str_7) fun r2 =>
  letO (cond (r1.2 == 0) (r1.1.gKind == 9) false) fun x3 =>
  letO (cond x3 (r1.1.gLayer == 3) false) fun x4 =>
  letO (cond x4 (r2.2 == 5) false) fun x5 =>
  some x5

theorem umbralaw43_works_ok {N : Nat} {r : Bool} (h : p_umbralaw43_works N = some r) : FnM Tryd.prog 9 [] [] (eB r) [] := by
  unfold p_umbralaw43_works at h
  refine fnM_of_aw (m := 29) (lo := 0) (rs := [.tmp 0]) hT Tryd.func9 rfl (by kernel_rfl) rfl ?_
  refine aw_sregU hT m_no [] (by kernel_rfl) ?_
  refine aw_sreg ?_
  obtain ⟨r1, hr1, h⟩ := obind h
  refine awl_big (big_call [] (words_Parse_ok hr1) words_Parse_ok_c (by kernel_rfl) (by kernel_rfl)) (by kernel_rfl) ?_
  refine awl_u hT m_no [] 6 (by kernel_rfl) ?_
  refine awl_nil ?_
  refine aw_sreg ?_
  obtain ⟨r2, hr2, h⟩ := obind h
  refine awl_big (big_call [] (words_Parse_ok hr2) words_Parse_ok_c (by kernel_rfl) (by kernel_rfl)) (by kernel_rfl) ?_
  refine awl_u hT m_no [] 6 (by kernel_rfl) ?_
  refine awl_nil ?_
  obtain ⟨x3, hx3, h⟩ := letE h
  obtain ⟨x4, hx4, h⟩ := letE h
  obtain ⟨x5, hx5, h⟩ := letE h
  refine aw_sregU hT m_no [] (by kernel_rfl) ?_
  refine aw_nms [(0, (eB x5))] (by subst hx5 hx4 hx3; kernel_rfl) ?_
  refine aw_ret ?_
  cases h
  exact fin_r (by kernel_rfl)

theorem umbralaw43_works_ok_c : callable Tryd.prog 9 := ⟨_, Tryd.func9, by decide, rfl⟩

/-! umbra/umbralaw43.WordsLines -/
def p_umbralaw43_WordsLines_L2 (N : Nat) (x10 : Int) (e9 : ByteArray) : Nat → Int → Option (Sum (Unit) (Bool))
  | 0, _ => none
  | k + 1, s12 =>
    cond (decide (s12 < x10)) (
      Option.bind (idx (bytesI e9) s12) fun e13 =>
      cond (e13 == 10) (
        some (Sum.inr false)) (
        p_umbralaw43_WordsLines_L2 N x10 e9 k (I64 (s12 + 1)))) (
      some (Sum.inl (())))

def p_umbralaw43_WordsLines_L1 (N : Nat) (r4 : (List ByteArray)) : Nat → ByteArray → Int → Option (Sum (ByteArray) (Bool))
  | 0, _, _ => none
  | k + 1, s6, s7 =>
    letO (decide (s7 < ((r4.length : Int)))) fun x8 =>
    cond x8 (
      Option.bind (idx r4 s7) fun e9 =>
      letO (((bytesI e9).length : Int)) fun x10 =>
      Option.bind (p_umbralaw43_WordsLines_L2 N x10 e9 N 0) fun o => sumC o (fun p11 =>
        Option.bind (catO e9 (ByteArray.mk #[10])) fun x14 =>
        Option.bind (catO s6 x14) fun x15 =>
        p_umbralaw43_WordsLines_L1 N r4 k x15 (I64 (s7 + 1))) (fun r => some (Sum.inr r))) (
      some (Sum.inl s6))

def p_umbralaw43_WordsLines (N : Nat) (a0 : ByteArray) : Option (Bool) :=
  letO ((ByteArray.size a0 : Int)) fun x2 =>
  Option.bind (slcS a0 0 (imin x2 300)) fun s3 =>
  Option.bind (p_words_Lines N s3) fun r4 =>
  Option.bind (p_umbralaw43_WordsLines_L1 N r4 N (ByteArray.mk #[]) 0) fun o => sumC o (fun p5 =>
    Option.bind (letO (ByteArray.toList p5 == ByteArray.toList s3) fun x17 =>
    cond x17 (
      Option.bind (p_umbralaw43_works N ) fun r18 =>
      some r18) (
      Option.bind (catO s3 (ByteArray.mk #[10])) fun x19 =>
      letO (ByteArray.toList p5 == ByteArray.toList x19) fun x20 =>
      cond x20 (
        Option.bind (p_umbralaw43_works N ) fun r21 =>
        some r21) (
        some false))) fun p16 =>
    some p16) (fun r => some r)

theorem umbralaw43_WordsLines_ok {N : Nat} {a0 : ByteArray} {r : Bool} (h : p_umbralaw43_WordsLines N a0 = some r) : FnM Tryd.prog 3 [] [(eS a0)] (eB r) [] := by
  unfold p_umbralaw43_WordsLines at h
  refine fnM_of_aw (m := 47) (lo := 0) (rs := [.tmp 2]) hT Tryd.func3 rfl (by kernel_rfl) rfl ?_
  refine aw_sregU hT m_no [] (by kernel_rfl) ?_
  refine aw_sreg ?_
  obtain ⟨x2, hx2, h⟩ := letE h
  refine awl_u hT m_no [] 4 (by kernel_rfl) ?_
  refine awl_nms [(11, (j64 (imin x2 300)))] (by subst hx2; kernel_rfl) ?_
  obtain ⟨s3, hs3, h⟩ := obind h
  refine awl_big (big_slS hT hs3 (by kernel_rfl) (by kernel_rfl)) (by kernel_rfl) ?_
  refine awl_u hT m_no [] 1 (by kernel_rfl) ?_
  refine awl_nil ?_
  refine aw_sregU hT m_no [] (by kernel_rfl) ?_
  refine aw_seq ?_
  refine aw_sreg ?_
  refine awl_u hT m_no [] 1 (by kernel_rfl) ?_
  obtain ⟨r4, hr4, h⟩ := obind h
  refine awl_big (big_call [] (words_Lines_ok hr4) words_Lines_ok_c (by kernel_rfl) (by kernel_rfl)) (by kernel_rfl) ?_
  refine awl_u hT m_no [] 2 (by kernel_rfl) ?_
  refine awl_nil ?_
  obtain ⟨op5, h, g5⟩ := obind h
  refine aw_joinSK (fun p5 => ⟨[en 0 (eS s3), en 3 (eS p5)], []⟩) g5 ?_ (fun p5 h => ?_)
  · refine aw_block (aw_loop (fun k s => ∃ s6 s7, p_umbralaw43_WordsLines_L1 N r4 k s6 s7 = some op5 ∧ JR (Fr.f 47 0) ⟨[en 0 (eS s3), en 3 (eS s6), en 14 (eL 1 eS r4), en 15 (j64 ((r4.length : Int))), en 16 (j64 s7)], []⟩ s) (fun k s hI => ?_) N _ ⟨_, _, h, jr (by kernel_rfl)⟩)
    obtain ⟨s6, s7, h, hj⟩ := hI
    cases k with
    | zero => cases h
    | succ k =>
      refine aw_jr hj ?_
      obtain ⟨x8, hx8, h⟩ := letE h
      refine aw_sregU hT m_no [] (by kernel_rfl) ?_
      refine aw_nms [(17, (eB x8))] (by subst hx8; kernel_rfl) ?_
      refine aw_seq ?_
      refine aw_condH h (by kernel_rfl) (fun _ h => ?_) (fun _ h => ?_)
      · refine aw_skip (tn_n ?_)
        refine aw_seq ?_
        refine aw_block ?_
        refine aw_sreg ?_
        obtain ⟨e9, he9, h⟩ := obind h
        refine awl_big (big_idx hT eS he9 (by kernel_rfl) (by kernel_rfl)) (by kernel_rfl) ?_
        refine awl_u hT m_no [] 2 (by kernel_rfl) ?_
        refine awl_nil ?_
        refine aw_seq ?_
        refine aw_sreg ?_
        refine awl_u hT m_no [] 1 (by kernel_rfl) ?_
        refine awl_big (big_s2b hT e9 (e := 5) (by kernel_rfl) (by kernel_rfl)) (by kernel_rfl) ?_
        obtain ⟨x10, hx10, h⟩ := letE h
        refine awl_u hT m_no [] 2 (by kernel_rfl) ?_
        refine awl_nms [(22, (j64 x10))] (by subst hx10; kernel_rfl) ?_
        refine awl_nil ?_
        obtain ⟨op11, h, g11⟩ := obind h
        refine aw_joinSK (fun p11 => ⟨[en 0 (eS s3), en 3 (eS s6), en 5 (eS e9), en 14 (eL 1 eS r4), en 15 (j64 ((r4.length : Int))), en 16 (j64 s7)], []⟩) g11 ?_ (fun p11 h => ?_)
        · refine aw_block (aw_loop (fun k s => ∃ s12, p_umbralaw43_WordsLines_L2 N x10 e9 k s12 = some op11 ∧ JR (Fr.f 47 0) ⟨[en 0 (eS s3), en 3 (eS s6), en 5 (eS e9), en 14 (eL 1 eS r4), en 15 (j64 ((r4.length : Int))), en 16 (j64 s7), en 21 (eL 1 k8 (bytesI e9)), en 22 (j64 x10), en 23 (j64 s12)], []⟩ s) (fun k s hI => ?_) N _ ⟨_, h, jr (by kernel_rfl)⟩)
          obtain ⟨s12, h, hj⟩ := hI
          cases k with
          | zero => cases h
          | succ k =>
            refine aw_jr hj ?_
            refine aw_sregU hT m_no [] (by kernel_rfl) ?_
            refine aw_seq ?_
            refine aw_condH h (by kernel_rfl) (fun _ h => ?_) (fun _ h => ?_)
            · refine aw_skip (tn_n ?_)
              refine aw_seq ?_
              refine aw_block ?_
              refine aw_sreg ?_
              obtain ⟨e13, he13, h⟩ := obind h
              refine awl_big (big_idx hT k8 he13 (by kernel_rfl) (by kernel_rfl)) (by kernel_rfl) ?_
              refine awl_u hT m_no [] 2 (by kernel_rfl) ?_
              refine awl_nil ?_
              refine aw_sregU hT m_no [] (by kernel_rfl) ?_
              refine aw_condH h (by kernel_rfl) (fun _ h => ?_) (fun _ h => ?_)
              · refine aw_sregU hT m_no [] (by kernel_rfl) ?_
                cases h
                have h := g11
                obtain rfl := sum_r h
                have h := g5
                refine aw_ret (inB_r (tn_r (tn_r (inB_r (tn_r (tn_r (inB_r (tn_r (tn_r (inB_r (tn_r (tn_r ?_))))))))))))
                obtain rfl := sum_e h
                exact fin_r (by kernel_rfl)
              · refine aw_skip (inB_n (tn_n ?_))
                refine aw_regU hT m_no [] (by kernel_rfl) (tn_n ?_)
                exact ⟨k, Nat.lt_succ_self k, _, h, jr (by kernel_rfl)⟩
            · refine aw_exit (tn_x (tn_x (inB_e (tn_n ?_))))
              cases h
              exact ⟨_, rfl, jr (by kernel_rfl)⟩
        · refine (tn_n ?_)
          refine aw_region ?_
          refine awl_u hT m_no [] 2 (by kernel_rfl) ?_
          obtain ⟨x14, hx14, h⟩ := obind h
          refine awl_big (big_cat hx14 (by kernel_rfl) (by kernel_rfl)) (by kernel_rfl) ?_
          obtain ⟨x15, hx15, h⟩ := obind h
          refine awl_big (big_cat hx15 (by kernel_rfl) (by kernel_rfl)) (by kernel_rfl) ?_
          refine awl_u hT m_no [] 1 (by kernel_rfl) ?_
          refine awl_nil (inB_n (tn_n ?_))
          refine aw_regU hT m_no [] (by kernel_rfl) (tn_n ?_)
          exact ⟨k, Nat.lt_succ_self k, _, _, h, jr (by kernel_rfl)⟩
      · refine aw_exit (tn_x (tn_x (inB_e (tn_n ?_))))
        cases h
        exact ⟨_, rfl, jr (by kernel_rfl)⟩
  · refine (tn_n ?_)
    obtain ⟨p16, h, g16⟩ := obind h
    refine aw_joinT ⟨[en 2 (eB p16)], []⟩ ?_ ?_
    · refine aw_region ?_
      obtain ⟨x17, hx17, h⟩ := letE h
      refine awl_u hT m_no [] 4 (by kernel_rfl) ?_
      refine awl_nms [(38, (eB x17))] (by subst hx17; kernel_rfl) ?_
      refine awl_split 38 h (by kernel_rfl) (fun h => ?_) (fun h => ?_)
      · refine awl_u hT m_no [38] 6 (by kernel_rfl) ?_
        obtain ⟨r18, hr18, h⟩ := obind h
        refine awl_big (big_call [] (umbralaw43_works_ok hr18) umbralaw43_works_ok_c (by kernel_rfl) (by kernel_rfl)) (by kernel_rfl) ?_
        refine awl_u hT m_no [44] 2 (by kernel_rfl) ?_
        refine awl_nil (tn_n ?_)
        cases h
        exact jr (by kernel_rfl)
      · refine awl_u hT m_no [38] 2 (by kernel_rfl) ?_
        obtain ⟨x19, hx19, h⟩ := obind h
        refine awl_big (big_cat hx19 (by kernel_rfl) (by kernel_rfl)) (by kernel_rfl) ?_
        obtain ⟨x20, hx20, h⟩ := letE h
        refine awl_u hT m_no [38] 3 (by kernel_rfl) ?_
        refine awl_nms [(44, (eB x20))] (by subst hx20; kernel_rfl) ?_
        refine awl_split 44 h (by kernel_rfl) (fun h => ?_) (fun h => ?_)
        · obtain ⟨r21, hr21, h⟩ := obind h
          refine awl_big (big_call [] (umbralaw43_works_ok hr21) umbralaw43_works_ok_c (by kernel_rfl) (by kernel_rfl)) (by kernel_rfl) ?_
          refine awl_u hT m_no [44] 2 (by kernel_rfl) ?_
          refine awl_nil (tn_n ?_)
          cases h
          exact jr (by kernel_rfl)
        · refine awl_u hT m_no [44] 3 (by kernel_rfl) ?_
          refine awl_nil (tn_n ?_)
          cases h
          exact jr (by kernel_rfl)
    · have h := g16
      refine aw_ret ?_
      cases h
      exact fin_r (by kernel_rfl)

theorem umbralaw43_WordsLines_ok_c : callable Tryd.prog 3 := ⟨_, Tryd.func3, by decide, rfl⟩

/-! umbra/words.Hex -/
def p_words_Hex_L1 (N : Nat) (a0 : (List Int)) : Nat → (List Int) → Int → Option ((List Int))
  | 0, _, _ => none
  | k + 1, s3, s4 =>
    letO (decide (s4 < ((a0.length : Int)))) fun x5 =>
    cond x5 (
      Option.bind (idx a0 s4) fun e6 =>
      Option.bind (idx str_8.data.toList (shr .u8 e6 4)) fun c7 =>
      Option.bind (idx str_8.data.toList (band .u8 e6 15)) fun c8 =>
      Option.bind (appO 1 s3 (([(UInt8.toNat c7 : Int), (UInt8.toNat c8 : Int)] : List Int))) fun z9 =>
      p_words_Hex_L1 N a0 k z9 (I64 (s4 + 1))) (
      some s3)

def p_words_Hex (N : Nat) (a0 : (List Int)) : Option (ByteArray) :=
  letO (((a0.length : Int)) == 0) fun x1 =>
  cond x1 (
    some (ByteArray.mk #[45])) (
    Option.bind (p_words_Hex_L1 N a0 N [] 0) fun p2 =>
    some (strO p2))

theorem words_Hex_ok {N : Nat} {a0 : (List Int)} {r : ByteArray} (h : p_words_Hex N a0 = some r) : FnM Tryd.prog 11 [] [(eL 1 k8 a0)] (eS r) [] := by
  unfold p_words_Hex at h
  refine fnM_of_aw (m := 27) (lo := 0) (rs := [.tmp 2]) hT Tryd.func11 rfl (by kernel_rfl) rfl ?_
  refine aw_sregU hT m_no [] (by kernel_rfl) ?_
  refine aw_seq ?_
  obtain ⟨x1, hx1, h⟩ := letE h
  refine aw_sregU hT m_no [] (by kernel_rfl) ?_
  refine aw_nms [(8, (eB x1))] (by subst hx1; kernel_rfl) ?_
  refine aw_condH h (by kernel_rfl) (fun _ h => ?_) (fun _ h => ?_)
  · refine aw_sregU hT m_no [] (by kernel_rfl) ?_
    refine aw_ret (tn_r ?_)
    cases h
    exact fin_r (by kernel_rfl)
  · refine aw_skip (tn_n ?_)
    refine aw_sregU hT m_no [] (by kernel_rfl) ?_
    refine aw_seq ?_
    refine aw_sregU hT m_no [] (by kernel_rfl) ?_
    refine aw_own_nil 3 1 (by kernel_rfl) ?_
    obtain ⟨p2, h, g2⟩ := obind h
    refine aw_joinTK ⟨[en 3 (eO 0 1 k8 p2)], [.tail (p2.length * 1)]⟩ ?_ ?_
    · refine aw_block (aw_loop (fun k s => ∃ s3 s4, p_words_Hex_L1 N a0 k s3 s4 = some p2 ∧ JR (Fr.f 27 0) ⟨[en 3 (eO 0 1 k8 s3), en 9 (eL 1 k8 a0), en 10 (j64 ((a0.length : Int))), en 11 (j64 s4)], [.tail (s3.length * 1)]⟩ s) (fun k s hI => ?_) N _ ⟨_, _, h, jr (by kernel_rfl)⟩)
      obtain ⟨s3, s4, h, hj⟩ := hI
      cases k with
      | zero => cases h
      | succ k =>
        refine aw_jr hj ?_
        obtain ⟨x5, hx5, h⟩ := letE h
        refine aw_sregU hT m_no [] (by kernel_rfl) ?_
        refine aw_nms [(12, (eB x5))] (by subst hx5; kernel_rfl) ?_
        refine aw_seq ?_
        refine aw_condH h (by kernel_rfl) (fun _ h => ?_) (fun _ h => ?_)
        · refine aw_skip (tn_n ?_)
          refine aw_seq ?_
          refine aw_block ?_
          refine aw_sreg ?_
          obtain ⟨e6, he6, h⟩ := obind h
          refine awl_big (big_idx hT k8 he6 (by kernel_rfl) (by kernel_rfl)) (by kernel_rfl) ?_
          refine awl_u hT m_no [] 2 (by kernel_rfl) ?_
          refine awl_nil ?_
          obtain ⟨c7, hc7, h⟩ := obind h
          obtain ⟨c8, hc8, h⟩ := obind h
          obtain ⟨z9, hz9, h⟩ := obind h
          refine aw_drawM hT hmo m_no [(3, (k8 ((UInt8.toNat c7 : Int)))), (6, (k8 ((UInt8.toNat c8 : Int)))), (7, (.sl 1 2 [(k8 ((UInt8.toNat c7 : Int))), (k8 ((UInt8.toNat c8 : Int)))]))] [(8, fun _ => ((eO 0 1 k8 z9), [.tail (z9.length * 1)]))] (by kernel_rfl) (by kernel_rfl) (by kernel_rfl) ⟨fun _ => big_ixS hT hc7 (by kernel_rfl) (by kernel_rfl), fun _ => big_ixS hT hc8 (by kernel_rfl) (by kernel_rfl), fun _ => big_row hT (x := (.sl 1 2 [(k8 ((UInt8.toNat c7 : Int))), (k8 ((UInt8.toNat c8 : Int)))])) (by kernel_rfl) (by kernel_rfl), trivial⟩ ⟨big_at (big_app hT k8 (id := 0) (k := 1) hz9 (by kernel_rfl) (by kernel_rfl)) (by kernel_rfl), trivial⟩ (inB_n (tn_n ?_))
          refine aw_regU hT m_no [] (by kernel_rfl) (tn_n ?_)
          exact ⟨k, Nat.lt_succ_self k, _, _, h, jr (by kernel_rfl)⟩
        · refine aw_exit (tn_x (tn_x (inB_e (tn_n ?_))))
          cases h
          exact jr (by kernel_rfl)
    · have h := g2
      refine (tn_n ?_)
      refine aw_sreg ?_
      refine awl_u hT m_no [] 1 (by kernel_rfl) ?_
      refine awl_big (big_b2s hT p2 (v := (eO 0 1 k8 p2)) (e := 5) (by kernel_rfl) (by kernel_rfl) (by kernel_rfl)) (by kernel_rfl) ?_
      refine awl_u hT m_no [] 1 (by kernel_rfl) ?_
      refine awl_nil ?_
      refine aw_ret ?_
      cases h
      exact fin_r (by kernel_rfl)

theorem words_Hex_ok_c : callable Tryd.prog 11 := ⟨_, Tryd.func11, by decide, rfl⟩

/-! bytes.Equal -/
def p_bytes_Equal (N : Nat) (a0 : (List Int)) (a1 : (List Int)) : Option (Bool) :=
  letO (ByteArray.toList (strO a0) == ByteArray.toList (strO a1)) fun x1 =>
  some x1

theorem bytes_Equal_ok {N : Nat} {a0 : (List Int)} {a1 : (List Int)} {r : Bool} (h : p_bytes_Equal N a0 a1 = some r) : FnM Tryd.prog 12 [] [(eL 1 k8 a0), (eL 1 k8 a1)] (eB r) [] := by
  unfold p_bytes_Equal at h
  refine fnM_of_aw (m := 10) (lo := 0) (rs := [.tmp 4]) hT Tryd.func12 rfl (by kernel_rfl) rfl ?_
  refine aw_sregU hT m_no [] (by kernel_rfl) ?_
  refine aw_sreg ?_
  refine awl_u hT m_no [] 1 (by kernel_rfl) ?_
  refine awl_big (big_b2s hT a0 (v := (eL 1 k8 a0)) (e := 5) (by kernel_rfl) (by kernel_rfl) (by kernel_rfl)) (by kernel_rfl) ?_
  refine awl_u hT m_no [] 1 (by kernel_rfl) ?_
  refine awl_big (big_b2s hT a1 (v := (eL 1 k8 a1)) (e := 5) (by kernel_rfl) (by kernel_rfl) (by kernel_rfl)) (by kernel_rfl) ?_
  obtain ⟨x1, hx1, h⟩ := letE h
  refine awl_u hT m_no [] 2 (by kernel_rfl) ?_
  refine awl_nms [(4, (eB x1))] (by subst hx1; kernel_rfl) ?_
  refine awl_nil ?_
  refine aw_ret ?_
  cases h
  exact fin_r (by kernel_rfl)

theorem bytes_Equal_ok_c : callable Tryd.prog 12 := ⟨_, Tryd.func12, by decide, rfl⟩

/-! umbra/umbralaw43.WordsHex -/
def p_umbralaw43_WordsHex (N : Nat) (a0 : (List Int)) (a1 : ByteArray) : Option (Bool) :=
  letO (imin ((a0.length : Int)) 200) fun x1 =>
  Option.bind (slcO a0 0 x1) fun s2 =>
  letO ((ByteArray.size a1 : Int)) fun x3 =>
  Option.bind (slcS a1 0 (imin x3 200)) fun s4 =>
  Option.bind (p_words_Hex N s2) fun r5 =>
  Option.bind (p_words_Bytes N r5) fun r6 =>
  Option.bind (cond (r6.2 != 0) (
    some true) (
    Option.bind (p_bytes_Equal N r6.1 s2) fun r8 =>
    some (!r8))) fun p7 =>
  cond p7 (
    some false) (
    Option.bind (p_words_Bytes N s4) fun r9 =>
    Option.bind (cond (r9.2 != 0) (
      Option.bind (p_umbralaw43_works N ) fun r11 =>
      some r11) (
      Option.bind (p_words_Hex N r9.1) fun r12 =>
      letO (ByteArray.toList r12 == ByteArray.toList s4) fun x13 =>
      cond x13 (
        Option.bind (p_umbralaw43_works N ) fun r14 =>
        some r14) (
        some false))) fun p10 =>
    some p10)

theorem umbralaw43_WordsHex_ok {N : Nat} {a0 : (List Int)} {a1 : ByteArray} {r : Bool} (h : p_umbralaw43_WordsHex N a0 a1 = some r) : FnM Tryd.prog 4 [] [(eL 1 k8 a0), (eS a1)] (eB r) [] := by
  unfold p_umbralaw43_WordsHex at h
  refine fnM_of_aw (m := 49) (lo := 0) (rs := [.tmp 4]) hT Tryd.func4 rfl (by kernel_rfl) rfl ?_
  refine aw_sregU hT m_no [] (by kernel_rfl) ?_
  obtain ⟨x1, hx1, h⟩ := letE h
  obtain ⟨s2, hs2, h⟩ := obind h
  obtain ⟨x3, hx3, h⟩ := letE h
  obtain ⟨s4, hs4, h⟩ := obind h
  refine aw_sdrawV hT hmo m_no [(4, (eL 1 k8 s2)), (9, (eS s4))] [] (by subst hx3 hx1; kernel_rfl) (by subst hx3 hx1; kernel_rfl) (by kernel_rfl) ⟨fun _ => big_slc hT (k := 1) k8 hs2 (by subst hx1; kernel_rfl) (by subst hx1; kernel_rfl), fun _ => big_slS hT hs4 (by subst hx3 hx1; kernel_rfl) (by subst hx3 hx1; kernel_rfl), trivial⟩ trivial ?_
  refine aw_sreg ?_
  refine awl_u hT m_no [] 1 (by kernel_rfl) ?_
  obtain ⟨r5, hr5, h⟩ := obind h
  refine awl_big (big_call [] (words_Hex_ok hr5) words_Hex_ok_c (by kernel_rfl) (by kernel_rfl)) (by kernel_rfl) ?_
  obtain ⟨r6, hr6, h⟩ := obind h
  refine awl_big (big_call [] (words_Bytes_ok hr6) words_Bytes_ok_c (by kernel_rfl) (by kernel_rfl)) (by kernel_rfl) ?_
  refine awl_u hT m_no [] 5 (by kernel_rfl) ?_
  refine awl_nil ?_
  refine aw_seq ?_
  obtain ⟨p7, h, g7⟩ := obind h
  refine aw_joinT ⟨[en 1 (eS s4), en 32 (eB p7)], []⟩ ?_ ?_
  · refine aw_region ?_
    refine awl_u hT m_no [] 3 (by kernel_rfl) ?_
    refine awl_split 27 h (by kernel_rfl) (fun h => ?_) (fun h => ?_)
    · refine awl_u hT m_no [27] 5 (by kernel_rfl) ?_
      refine awl_nil (tn_n ?_)
      cases h
      exact jr (by kernel_rfl)
    · refine awl_u hT m_no [27] 2 (by kernel_rfl) ?_
      obtain ⟨r8, hr8, h⟩ := obind h
      refine awl_big (big_call [] (bytes_Equal_ok hr8) bytes_Equal_ok_c (by kernel_rfl) (by kernel_rfl)) (by kernel_rfl) ?_
      refine awl_u hT m_no [27] 2 (by kernel_rfl) ?_
      refine awl_nil (tn_n ?_)
      cases h
      exact jr (by kernel_rfl)
  · have h := g7
    refine aw_condH h (by kernel_rfl) (fun _ h => ?_) (fun _ h => ?_)
    · refine aw_sregU hT m_no [] (by kernel_rfl) ?_
      refine aw_ret (tn_r ?_)
      cases h
      exact fin_r (by kernel_rfl)
    · refine aw_skip (tn_n ?_)
      refine aw_sreg ?_
      refine awl_u hT m_no [] 1 (by kernel_rfl) ?_
      obtain ⟨r9, hr9, h⟩ := obind h
      refine awl_big (big_call [] (words_Bytes_ok hr9) words_Bytes_ok_c (by kernel_rfl) (by kernel_rfl)) (by kernel_rfl) ?_
      refine awl_u hT m_no [] 5 (by kernel_rfl) ?_
      refine awl_nil ?_
      obtain ⟨p10, h, g10⟩ := obind h
      refine aw_joinT ⟨[en 4 (eB p10)], []⟩ ?_ ?_
      · refine aw_region ?_
        refine awl_u hT m_no [] 3 (by kernel_rfl) ?_
        refine awl_split 40 h (by kernel_rfl) (fun h => ?_) (fun h => ?_)
        · refine awl_u hT m_no [40] 6 (by kernel_rfl) ?_
          obtain ⟨r11, hr11, h⟩ := obind h
          refine awl_big (big_call [] (umbralaw43_works_ok hr11) umbralaw43_works_ok_c (by kernel_rfl) (by kernel_rfl)) (by kernel_rfl) ?_
          refine awl_u hT m_no [46] 2 (by kernel_rfl) ?_
          refine awl_nil (tn_n ?_)
          cases h
          exact jr (by kernel_rfl)
        · refine awl_u hT m_no [40] 1 (by kernel_rfl) ?_
          obtain ⟨r12, hr12, h⟩ := obind h
          refine awl_big (big_call [] (words_Hex_ok hr12) words_Hex_ok_c (by kernel_rfl) (by kernel_rfl)) (by kernel_rfl) ?_
          obtain ⟨x13, hx13, h⟩ := letE h
          refine awl_u hT m_no [40] 4 (by kernel_rfl) ?_
          refine awl_nms [(46, (eB x13))] (by subst hx13; kernel_rfl) ?_
          refine awl_split 46 h (by kernel_rfl) (fun h => ?_) (fun h => ?_)
          · obtain ⟨r14, hr14, h⟩ := obind h
            refine awl_big (big_call [] (umbralaw43_works_ok hr14) umbralaw43_works_ok_c (by kernel_rfl) (by kernel_rfl)) (by kernel_rfl) ?_
            refine awl_u hT m_no [46] 2 (by kernel_rfl) ?_
            refine awl_nil (tn_n ?_)
            cases h
            exact jr (by kernel_rfl)
          · refine awl_u hT m_no [46] 3 (by kernel_rfl) ?_
            refine awl_nil (tn_n ?_)
            cases h
            exact jr (by kernel_rfl)
      · have h := g10
        refine aw_ret ?_
        cases h
        exact fin_r (by kernel_rfl)

theorem umbralaw43_WordsHex_ok_c : callable Tryd.prog 4 := ⟨_, Tryd.func4, by decide, rfl⟩

end Go.UK
