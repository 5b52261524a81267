/- A part of the proof: what the functions of the program compute. -/
import Derived.Test.YtcaadpceoajapaaCT
namespace Go.UK
open Go Go.Proofs
set_option maxRecDepth 20000
set_option maxHeartbeats 4000000
set_option linter.all false

attribute [local irreducible] owp awl aw FnM NatFn opS Stab TOK Big

/-! umbra/umbralaw37.few -/
def p_umbralaw37_few (N : Nat) (a0 : (List S_api_Entry)) : Option ((List S_api_Entry)) :=
  letO (imin ((a0.length : Int)) 10) fun x2 =>
  Option.bind (slcO a0 0 x2) fun s3 =>
  some s3

theorem umbralaw37_few_ok {N : Nat} {a0 : (List S_api_Entry)} {r : (List S_api_Entry)} (h : p_umbralaw37_few N a0 = some r) : FnM Try.prog 40 [] [(eL 36 S_api_Entry.enc a0)] (eL 36 S_api_Entry.enc r) [] := by
  unfold p_umbralaw37_few at h
  refine fnM_of_aw (m := 8) (lo := 0) (rs := [.tmp 2]) hT Try.func40 rfl (by kernel_rfl) rfl ?_
  refine aw_sregU hT m_no [] (by kernel_rfl) ?_
  refine aw_sreg ?_
  obtain ⟨x2, hx2, h⟩ := letE h
  refine awl_u hT m_no [] 4 (by kernel_rfl) ?_
  refine awl_nms [(6, (j64 x2))] (by subst hx2; kernel_rfl) ?_
  obtain ⟨s3, hs3, h⟩ := obind h
  refine awl_big (big_slc hT (k := 36) S_api_Entry.enc hs3 (by kernel_rfl) (by kernel_rfl)) (by kernel_rfl) ?_
  refine awl_u hT m_no [] 1 (by kernel_rfl) ?_
  refine awl_nil ?_
  refine aw_ret ?_
  cases h
  exact fin_r (by kernel_rfl)

theorem umbralaw37_few_ok_c : callable Try.prog 40 := ⟨_, Try.func40, by decide, rfl⟩

/-! slices.Clone[[]byte,byte] -/
def p_slices_Clone_byte_byte (N : Nat) (a0 : (List Int)) : Option ((List Int)) :=
  Option.bind (appO 1 (([] : List Int)) a0) fun z1 =>
  some z1

theorem slices_Clone_byte_byte_ok {N : Nat} {a0 : (List Int)} {r : (List Int)} (h : p_slices_Clone_byte_byte N a0 = some r) : FnM Try.prog 152 [] [(eL 1 k8 a0)] (eO 0 1 k8 r) [.tail (r.length * 1)] := by
  unfold p_slices_Clone_byte_byte at h
  refine fnM_of_aw (m := 8) (lo := 0) (rs := [.tmp 2]) hT Try.func152 rfl (by kernel_rfl) rfl ?_
  refine aw_sregU hT m_no [] (by kernel_rfl) ?_
  refine aw_seq ?_
  refine aw_sreg ?_
  refine awl_u hT m_no [] 1 (by kernel_rfl) ?_
  refine awl_eqn hT (d := 4) (t := 75) (e := 5) (k := 1) (x := (eL 1 k8 a0)) (es := List.map k8 a0) rfl rfl (by kernel_rfl) rfl (by kernel_rfl) (by kernel_rfl) ?_ (fun he => ?_)
  · refine awl_nil ?_
    refine aw_condB (b := false) (c := false) rfl (by kernel_rfl) ?_
    refine aw_skip (tn_n ?_)
    refine aw_sreg ?_
    refine awl_big (big_rowO hT k8 (k := 1) ([] : List Int) (by kernel_rfl) (by kernel_rfl)) (by kernel_rfl) ?_
    refine awl_u hT m_no [] 1 (by kernel_rfl) ?_
    obtain ⟨z1, hz1, h⟩ := obind h
    refine awl_big (big_app hT k8 (id := 0) (k := 1) hz1 (by kernel_rfl) (by kernel_rfl)) (by kernel_rfl) ?_
    refine awl_u hT m_no [] 1 (by kernel_rfl) ?_
    refine awl_nil ?_
    refine aw_ret ?_
    cases h
    exact fin_r (by kernel_rfl)
  · have h0 : a0 = [] := List.map_eq_nil_iff.1 he
    subst h0
    change some [] = _ at h
    refine awl_nil ?_
    refine aw_condB (b := true) (c := true) rfl (by kernel_rfl) ?_
    refine aw_sregU hT m_no [] (by kernel_rfl) ?_
    refine aw_own_nil 2 1 (by kernel_rfl) ?_
    refine aw_ret (tn_r ?_)
    cases h
    exact fin_r (by kernel_rfl)

theorem slices_Clone_byte_byte_ok_c : callable Try.prog 152 := ⟨_, Try.func152, by decide, rfl⟩

/-! umbra/codec.Put -/
def p_codec_Put_L2 (N : Nat) (a1 : Int) (e7 : Int) : Nat → (List Int) → Int → Option ((List Int))
  | 0, _, _ => none
  | k + 1, s11, s12 =>
    cond (decide (s12 < a1)) (
      Option.bind (shrO .u64 e7 (I64 (8 * s12))) fun x13 =>
      Option.bind (appO 1 s11 (([U8 x13] : List Int))) fun z14 =>
      p_codec_Put_L2 N a1 e7 k z14 (I64 (s12 + 1))) (
      some s11)

def p_codec_Put_L1 (N : Nat) (a2 : (List Int)) (a1 : Int) : Nat → (List Int) → Int → Option (Sum ((List Int)) ((List Int) × Int))
  | 0, _, _ => none
  | k + 1, s4, s5 =>
    letO (decide (s5 < ((a2.length : Int)))) fun x6 =>
    cond x6 (
      Option.bind (idx a2 s5) fun e7 =>
      Option.bind (cond (decide (a1 < 8)) (
        Option.bind (shrO .u64 e7 (I64 (8 * a1))) fun x9 =>
        some (decide (x9 > 0))) (
        some false)) fun p8 =>
      cond p8 (
        some (Sum.inr (([], 3)))) (
        Option.bind (p_codec_Put_L2 N a1 e7 N s4 0) fun p10 =>
        p_codec_Put_L1 N a2 a1 k p10 (I64 (s5 + 1)))) (
      some (Sum.inl s4))

def p_codec_Put (N : Nat) (a0 : (List Int)) (a1 : Int) (a2 : (List Int)) : Option ((List Int) × Int) :=
  letO (cond (decide (a1 < 1)) true (decide (a1 > 8))) fun x1 =>
  cond x1 (
    some (([], 2))) (
    Option.bind (p_slices_Clone_byte_byte N a0) fun r2 =>
    Option.bind (p_codec_Put_L1 N a2 a1 N r2 0) fun o => sumC o (fun p3 =>
      some ((p3, 0))) (fun r => some r))

theorem codec_Put_ok {N : Nat} {a0 : (List Int)} {a1 : Int} {a2 : (List Int)} {r : (List Int) × Int} (h : p_codec_Put N a0 a1 a2 = some r) : FnM Try.prog 113 [] [(eL 1 k8 a0), (j64 a1), (eL 1 k64 a2)] (.tup [(eO 0 1 k8 r.1), (j64 r.2)]) [.tail (r.1.length * 1)] := by
  unfold p_codec_Put at h
  refine fnM_of_aw (m := 50) (lo := 0) (rs := [.tmp 6, .tmp 7]) hT Try.func113 rfl (by kernel_rfl) rfl ?_
  refine aw_sregU hT m_no [] (by kernel_rfl) ?_
  refine aw_seq ?_
  obtain ⟨x1, hx1, h⟩ := letE h
  refine aw_sregU hT m_no [] (by kernel_rfl) ?_
  refine aw_nms [(17, (eB x1))] (by subst hx1; kernel_rfl) ?_
  refine aw_condH h (by kernel_rfl) (fun _ h => ?_) (fun _ h => ?_)
  · refine aw_sregU hT m_no [] (by kernel_rfl) ?_
    refine aw_own_nil 6 1 (by kernel_rfl) ?_
    refine aw_ret (tn_r ?_)
    cases h
    exact fin_r (by kernel_rfl)
  · refine aw_skip (tn_n ?_)
    refine aw_sreg ?_
    refine awl_u hT m_no [] 1 (by kernel_rfl) ?_
    obtain ⟨r2, hr2, h⟩ := obind h
    refine awl_big (big_call [] (slices_Clone_byte_byte_ok hr2) slices_Clone_byte_byte_ok_c (by kernel_rfl) (by kernel_rfl)) (by kernel_rfl) ?_
    refine awl_u hT m_no [] 1 (by kernel_rfl) ?_
    refine awl_nil ?_
    refine aw_seq ?_
    refine aw_sregU hT m_no [] (by kernel_rfl) ?_
    obtain ⟨op3, h, g3⟩ := obind h
    refine aw_joinSK (fun p3 => ⟨[en 8 (eO 0 1 k8 p3)], [.tail (p3.length * 1)]⟩) g3 ?_ (fun p3 h => ?_)
    · refine aw_block (aw_loop (fun k s => ∃ s4 s5, p_codec_Put_L1 N a2 a1 k s4 s5 = some op3 ∧ JR (Fr.f 50 0) ⟨[en 1 (j64 a1), en 8 (eO 0 1 k8 s4), en 20 (eL 1 k64 a2), en 21 (j64 ((a2.length : Int))), en 22 (j64 s5)], [.tail (s4.length * 1)]⟩ s) (fun k s hI => ?_) N _ ⟨_, _, h, jr (by kernel_rfl)⟩)
      obtain ⟨s4, s5, h, hj⟩ := hI
      cases k with
      | zero => cases h
      | succ k =>
        refine aw_jr hj ?_
        obtain ⟨x6, hx6, h⟩ := letE h
        refine aw_sregU hT m_no [] (by kernel_rfl) ?_
        refine aw_nms [(23, (eB x6))] (by subst hx6; kernel_rfl) ?_
        refine aw_seq ?_
        refine aw_condH h (by kernel_rfl) (fun _ h => ?_) (fun _ h => ?_)
        · refine aw_skip (tn_n ?_)
          refine aw_seq ?_
          refine aw_block ?_
          refine aw_sreg ?_
          obtain ⟨e7, he7, h⟩ := obind h
          refine awl_big (big_idx hT k64 he7 (by kernel_rfl) (by kernel_rfl)) (by kernel_rfl) ?_
          refine awl_u hT m_no [] 2 (by kernel_rfl) ?_
          refine awl_nil ?_
          refine aw_seq ?_
          obtain ⟨p8, h, g8⟩ := obind h
          refine aw_joinT ⟨[en 1 (j64 a1), en 8 (eO 0 1 k8 s4), en 10 (k64 e7), en 20 (eL 1 k64 a2), en 21 (j64 ((a2.length : Int))), en 22 (j64 s5), en 34 (eB p8)], [.tail (s4.length * 1)]⟩ ?_ ?_
          · refine aw_region ?_
            refine awl_u hT m_no [] 3 (by kernel_rfl) ?_
            refine awl_split 28 h (by kernel_rfl) (fun h => ?_) (fun h => ?_)
            · refine awl_u hT m_no [28] 3 (by kernel_rfl) ?_
              obtain ⟨x9, hx9, h⟩ := obind h
              refine awl_big (big_shr hT (k' := .i64) hx9 (by kernel_rfl) (by kernel_rfl)) (by kernel_rfl) ?_
              refine awl_u hT m_no [28] 2 (by kernel_rfl) ?_
              refine awl_nil (tn_n ?_)
              cases h
              exact jr (by kernel_rfl)
            · refine awl_u hT m_no [28] 6 (by kernel_rfl) ?_
              refine awl_nil (tn_n ?_)
              cases h
              exact jr (by kernel_rfl)
          · have h := g8
            refine aw_condH h (by kernel_rfl) (fun _ h => ?_) (fun _ h => ?_)
            · refine aw_sregU hT m_no [] (by kernel_rfl) ?_
              refine aw_own_nil 6 1 (by kernel_rfl) ?_
              refine aw_sw 1 0 (by kernel_rfl) ?_
              cases h
              have h := g3
              refine aw_ret (tn_r (inB_r (tn_r (tn_r (inB_r (tn_r (tn_r ?_)))))))
              obtain rfl := sum_e h
              exact fin_r (by kernel_rfl)
            · refine aw_skip (tn_n ?_)
              refine aw_sregU hT m_no [] (by kernel_rfl) ?_
              obtain ⟨p10, h, g10⟩ := obind h
              refine aw_joinTK ⟨[en 1 (j64 a1), en 8 (eO 0 1 k8 p10), en 20 (eL 1 k64 a2), en 21 (j64 ((a2.length : Int))), en 22 (j64 s5)], [.tail (p10.length * 1)]⟩ ?_ ?_
              · refine aw_block (aw_loop (fun k s => ∃ s11 s12, p_codec_Put_L2 N a1 e7 k s11 s12 = some p10 ∧ JR (Fr.f 50 0) ⟨[en 1 (j64 a1), en 8 (eO 0 1 k8 s11), en 10 (k64 e7), en 20 (eL 1 k64 a2), en 21 (j64 ((a2.length : Int))), en 22 (j64 s5), en 35 (j64 a1), en 36 (j64 s12)], [.tail (s11.length * 1)]⟩ s) (fun k s hI => ?_) N _ ⟨_, _, h, jr (by kernel_rfl)⟩)
                obtain ⟨s11, s12, h, hj⟩ := hI
                cases k with
                | zero => cases h
                | succ k =>
                  refine aw_jr hj ?_
                  refine aw_sregU hT m_no [] (by kernel_rfl) ?_
                  refine aw_seq ?_
                  refine aw_condH h (by kernel_rfl) (fun _ h => ?_) (fun _ h => ?_)
                  · refine aw_skip (tn_n ?_)
                    refine aw_seq ?_
                    refine aw_block ?_
                    refine aw_sregU hT m_no [] (by kernel_rfl) ?_
                    refine aw_region ?_
                    refine awl_u hT m_no [] 4 (by kernel_rfl) ?_
                    obtain ⟨x13, hx13, h⟩ := obind h
                    refine awl_big (big_shr hT (k' := .i64) hx13 (by kernel_rfl) (by kernel_rfl)) (by kernel_rfl) ?_
                    refine awl_u hT m_no [] 1 (by kernel_rfl) ?_
                    refine awl_big (big_row hT (x := (.sl 1 1 [(k8 (U8 x13))])) (by kernel_rfl) (by kernel_rfl)) (by kernel_rfl) ?_
                    obtain ⟨z14, hz14, h⟩ := obind h
                    refine awl_big (big_app hT k8 (id := 0) (k := 1) hz14 (by kernel_rfl) (by kernel_rfl)) (by kernel_rfl) ?_
                    refine awl_u hT m_no [] 1 (by kernel_rfl) ?_
                    refine awl_nil (inB_n (tn_n ?_))
                    refine aw_regU hT m_no [] (by kernel_rfl) (tn_n ?_)
                    exact ⟨k, Nat.lt_succ_self k, _, _, h, jr (by kernel_rfl)⟩
                  · refine aw_exit (tn_x (tn_x (inB_e (tn_n ?_))))
                    cases h
                    exact jr (by kernel_rfl)
              · have h := g10
                refine (inB_n (tn_n ?_))
                refine aw_regU hT m_no [] (by kernel_rfl) (tn_n ?_)
                exact ⟨k, Nat.lt_succ_self k, _, _, h, jr (by kernel_rfl)⟩
        · refine aw_exit (tn_x (tn_x (inB_e (tn_n ?_))))
          cases h
          exact ⟨_, rfl, jr (by kernel_rfl)⟩
    · refine (tn_n ?_)
      refine aw_sregU hT m_no [] (by kernel_rfl) ?_
      refine aw_ret ?_
      cases h
      exact fin_r (by kernel_rfl)

theorem codec_Put_ok_c : callable Try.prog 113 := ⟨_, Try.func113, by decide, rfl⟩

/-! umbra/codec.Signed -/
def p_codec_Signed_L1 (N : Nat) (a2 : (List Int)) (a1 : Int) : Nat → (List Int) → Int → Option (Sum ((List Int)) ((List Int) × Int))
  | 0, _, _ => none
  | k + 1, s3, s4 =>
    letO (decide (s4 < ((a2.length : Int)))) fun x5 =>
    cond x5 (
      Option.bind (idx a2 s4) fun e6 =>
      letO (I64 (64 - (I64 (8 * a1)))) fun x8 =>
      Option.bind (shlO .i64 e6 x8) fun x9 =>
      letO (I64 (64 - (I64 (8 * a1)))) fun x10 =>
      Option.bind (shrO .i64 x9 x10) fun x11 =>
      cond (x11 != e6) (
        some (Sum.inr (([], 3)))) (
        letO (I64 (64 - (I64 (8 * a1)))) fun x13 =>
        Option.bind (shlO .u64 (U64 e6) x13) fun x14 =>
        letO (I64 (64 - (I64 (8 * a1)))) fun x15 =>
        Option.bind (shrO .u64 x14 x15) fun x16 =>
        Option.bind (appO 8 s3 (([x16] : List Int))) fun z17 =>
        p_codec_Signed_L1 N a2 a1 k z17 (I64 (s4 + 1)))) (
      some (Sum.inl s3))

def p_codec_Signed (N : Nat) (a0 : (List Int)) (a1 : Int) (a2 : (List Int)) : Option ((List Int) × Int) :=
  letO (cond (decide (a1 < 1)) true (decide (a1 > 8))) fun x1 =>
  cond x1 (
    some (([], 2))) (
    Option.bind (p_codec_Signed_L1 N a2 a1 N [] 0) fun o => sumC o (fun p2 =>
      Option.bind (p_codec_Put N a0 a1 p2) fun r18 =>
      some ((r18.1, r18.2))) (fun r => some r))

theorem codec_Signed_ok {N : Nat} {a0 : (List Int)} {a1 : Int} {a2 : (List Int)} {r : (List Int) × Int} (h : p_codec_Signed N a0 a1 a2 = some r) : FnM Try.prog 112 [] [(eL 1 k8 a0), (j64 a1), (eL 1 j64 a2)] (.tup [(eO 0 1 k8 r.1), (j64 r.2)]) [.tail (r.1.length * 1)] := by
  unfold p_codec_Signed at h
  refine fnM_of_aw (m := 56) (lo := 0) (rs := [.tmp 6, .tmp 7]) hT Try.func112 rfl (by kernel_rfl) rfl ?_
  refine aw_sregU hT m_no [] (by kernel_rfl) ?_
  refine aw_seq ?_
  obtain ⟨x1, hx1, h⟩ := letE h
  refine aw_sregU hT m_no [] (by kernel_rfl) ?_
  refine aw_nms [(17, (eB x1))] (by subst hx1; kernel_rfl) ?_
  refine aw_condH h (by kernel_rfl) (fun _ h => ?_) (fun _ h => ?_)
  · refine aw_sregU hT m_no [] (by kernel_rfl) ?_
    refine aw_own_nil 6 1 (by kernel_rfl) ?_
    refine aw_ret (tn_r ?_)
    cases h
    exact fin_r (by kernel_rfl)
  · refine aw_skip (tn_n ?_)
    refine aw_sregU hT m_no [] (by kernel_rfl) ?_
    refine aw_seq ?_
    refine aw_sregU hT m_no [] (by kernel_rfl) ?_
    refine aw_own_nil 8 1 (by kernel_rfl) ?_
    obtain ⟨op2, h, g2⟩ := obind h
    refine aw_joinSK (fun p2 => ⟨[en 0 (eL 1 k8 a0), en 1 (j64 a1), en 8 (eO 0 1 k64 p2)], [.tail (p2.length * 1)]⟩) g2 ?_ (fun p2 h => ?_)
    · refine aw_block (aw_loop (fun k s => ∃ s3 s4, p_codec_Signed_L1 N a2 a1 k s3 s4 = some op2 ∧ JR (Fr.f 56 0) ⟨[en 0 (eL 1 k8 a0), en 1 (j64 a1), en 8 (eO 0 1 k64 s3), en 18 (eL 1 j64 a2), en 19 (j64 ((a2.length : Int))), en 20 (j64 s4)], [.tail (s3.length * 1)]⟩ s) (fun k s hI => ?_) N _ ⟨_, _, h, jr (by kernel_rfl)⟩)
      obtain ⟨s3, s4, h, hj⟩ := hI
      cases k with
      | zero => cases h
      | succ k =>
        refine aw_jr hj ?_
        obtain ⟨x5, hx5, h⟩ := letE h
        refine aw_sregU hT m_no [] (by kernel_rfl) ?_
        refine aw_nms [(21, (eB x5))] (by subst hx5; kernel_rfl) ?_
        refine aw_seq ?_
        refine aw_condH h (by kernel_rfl) (fun _ h => ?_) (fun _ h => ?_)
        · refine aw_skip (tn_n ?_)
          refine aw_seq ?_
          refine aw_block ?_
          refine aw_sreg ?_
          obtain ⟨e6, he6, h⟩ := obind h
          refine awl_big (big_idx hT j64 he6 (by kernel_rfl) (by kernel_rfl)) (by kernel_rfl) ?_
          refine awl_u hT m_no [] 2 (by kernel_rfl) ?_
          refine awl_nil ?_
          refine aw_seq ?_
          refine aw_sreg ?_
          obtain ⟨x8, hx8, h⟩ := letE h
          refine awl_u hT m_no [] 4 (by kernel_rfl) ?_
          refine awl_nms [(27, (j64 x8))] (by subst hx8; kernel_rfl) ?_
          obtain ⟨x9, hx9, h⟩ := obind h
          refine awl_big (big_shl hT (k' := .i64) hx9 (by kernel_rfl) (by kernel_rfl)) (by kernel_rfl) ?_
          obtain ⟨x10, hx10, h⟩ := letE h
          refine awl_u hT m_no [] 3 (by kernel_rfl) ?_
          refine awl_nms [(31, (j64 x10))] (by subst hx10; kernel_rfl) ?_
          obtain ⟨x11, hx11, h⟩ := obind h
          refine awl_big (big_shr hT (k' := .i64) hx11 (by kernel_rfl) (by kernel_rfl)) (by kernel_rfl) ?_
          refine awl_u hT m_no [] 1 (by kernel_rfl) ?_
          refine awl_nil ?_
          refine aw_sregU hT m_no [] (by kernel_rfl) ?_
          refine aw_condH h (by kernel_rfl) (fun _ h => ?_) (fun _ h => ?_)
          · refine aw_sregU hT m_no [] (by kernel_rfl) ?_
            refine aw_own_nil 6 1 (by kernel_rfl) ?_
            refine aw_sw 1 0 (by kernel_rfl) ?_
            cases h
            have h := g2
            refine aw_ret (tn_r (inB_r (tn_r (tn_r (inB_r (tn_r (tn_r ?_)))))))
            obtain rfl := sum_e h
            exact fin_r (by kernel_rfl)
          · refine aw_skip (tn_n ?_)
            refine aw_region ?_
            obtain ⟨x13, hx13, h⟩ := letE h
            refine awl_u hT m_no [] 6 (by kernel_rfl) ?_
            refine awl_nms [(41, (j64 x13))] (by subst hx13; kernel_rfl) ?_
            obtain ⟨x14, hx14, h⟩ := obind h
            refine awl_big (big_shl hT (k' := .i64) hx14 (by kernel_rfl) (by kernel_rfl)) (by kernel_rfl) ?_
            first | refine awl_to ⟨[en 0 (eL 1 k8 a0), en 1 (j64 a1), en 18 (eL 1 j64 a2), en 19 (j64 ((a2.length : Int))), en 20 (j64 s4), en 36 (eO 0 1 k64 s3), en 42 (k64 x14)], [.tail (s3.length * 1)]⟩ (by kernel_rfl) ?_ | skip
            obtain ⟨x15, hx15, h⟩ := letE h
            refine awl_u hT m_no [] 3 (by kernel_rfl) ?_
            refine awl_nms [(45, (j64 x15))] (by subst hx15; kernel_rfl) ?_
            obtain ⟨x16, hx16, h⟩ := obind h
            refine awl_big (big_shr hT (k' := .i64) hx16 (by kernel_rfl) (by kernel_rfl)) (by kernel_rfl) ?_
            refine awl_big (big_row hT (x := (.sl 1 1 [(k64 x16)])) (by kernel_rfl) (by kernel_rfl)) (by kernel_rfl) ?_
            obtain ⟨z17, hz17, h⟩ := obind h
            refine awl_big (big_app hT k64 (id := 0) (k := 1) hz17 (by kernel_rfl) (by kernel_rfl)) (by kernel_rfl) ?_
            refine awl_u hT m_no [] 1 (by kernel_rfl) ?_
            refine awl_nil (inB_n (tn_n ?_))
            refine aw_regU hT m_no [] (by kernel_rfl) (tn_n ?_)
            exact ⟨k, Nat.lt_succ_self k, _, _, h, jr (by kernel_rfl)⟩
        · refine aw_exit (tn_x (tn_x (inB_e (tn_n ?_))))
          cases h
          exact ⟨_, rfl, jr (by kernel_rfl)⟩
    · refine (tn_n ?_)
      refine aw_sreg ?_
      refine awl_u hT m_no [] 3 (by kernel_rfl) ?_
      obtain ⟨r18, hr18, h⟩ := obind h
      refine awl_big (big_call [] (codec_Put_ok hr18) codec_Put_ok_c (by kernel_rfl) (by kernel_rfl)) (by kernel_rfl) ?_
      refine awl_u hT m_no [] 4 (by kernel_rfl) ?_
      refine awl_nil ?_
      refine aw_sw 1 0 (by kernel_rfl) ?_
      refine aw_ret ?_
      cases h
      exact fin_r (by kernel_rfl)

theorem codec_Signed_ok_c : callable Try.prog 112 := ⟨_, Try.func112, by decide, rfl⟩

/-! umbra/sha.New -/
def p_sha_New (N : Nat) : Option (Unit) :=
  some (())

theorem sha_New_ok {N : Nat} {r : Unit} (h : p_sha_New N = some r) : FnM Try.prog 177 [] [] (.ref 0 [] 0) [.var (.st 73 [(.arr 8 1 [(k32 1779033703), (k32 3144134277), (k32 1013904242), (k32 2773480762), (k32 1359893119), (k32 2600822924), (k32 528734635), (k32 1541459225)]), (eA 64 1 k8 (Vector.replicate 64 0)), (j64 0)])] := by
  unfold p_sha_New at h
  refine fnM_of_aw (m := 4) (lo := 0) (rs := [.tmp 0]) hT Try.func177 rfl (by kernel_rfl) rfl ?_
  refine aw_sregU hT m_no [] (by kernel_rfl) ?_
  refine aw_sregU hT m_no [] (by kernel_rfl) ?_
  refine aw_ret ?_
  cases h
  exact fin_r (by kernel_rfl)

theorem sha_New_ok_c : callable Try.prog 177 := ⟨_, Try.func177, by decide, rfl⟩

/-! (*umbra/sha.Hash).none -/
def p_sha_Hash_none_r (N : Nat) (a0 : S_sha_Hash) : Option (Bool) :=
  letO ((eqV (fun a b => a == b)) a0.gh (Vector.replicate 8 0)) fun x1 =>
  letO (cond x1 (a0.gn == 0) false) fun x2 =>
  some x2

theorem sha_Hash_none_r_ok {N : Nat} {a0 : S_sha_Hash} {r : Bool} (h : p_sha_Hash_none_r N a0 = some r) : FnM Try.prog 202 [.var (S_sha_Hash.enc a0)] [(.ref 0 [] 0)] (eB r) [.var (S_sha_Hash.enc a0)] := by
  unfold p_sha_Hash_none_r at h
  refine fnM_of_aw (m := 20) (lo := 1) (rs := [.tmp 2]) hT Try.func202 rfl (by kernel_rfl) rfl ?_
  refine aw_sregU hT m_no [] (by kernel_rfl) ?_
  refine aw_sreg ?_
  refine awl_u hT m_no [] 1 (by kernel_rfl) ?_
  refine awl_big (big_eqp hT (t := 231) (x := (.ref 0 [] 0)) (b := true) (by kernel_rfl) rfl rfl (by kernel_rfl)) (by kernel_rfl) ?_
  refine awl_u hT m_no [5] 6 (by kernel_rfl) ?_
  refine awl_big (big_eql eqT_254 (a0.gh : (Vector Int 8)) (Vector.replicate 8 0 : (Vector Int 8)) (by kernel_rfl) (by kernel_rfl) (fun _ => rfl) (fun _ => rfl) (by kernel_rfl) (by kernel_rfl)) (by kernel_rfl) ?_
  obtain ⟨x1, hx1, h⟩ := letE h
  obtain ⟨x2, hx2, h⟩ := letE h
  refine awl_u hT m_no [5] 9 (by kernel_rfl) ?_
  refine awl_nms [(2, (eB x2))] (by subst hx2 hx1; kernel_rfl) ?_
  refine awl_nil ?_
  refine aw_ret ?_
  cases h
  exact fin_r (by kernel_rfl)

theorem sha_Hash_none_r_ok_c : callable Try.prog 202 := ⟨_, Try.func202, by decide, rfl⟩

/-! math/bits.RotateLeft32 -/
def p_math_bits_RotateLeft32 (N : Nat) (a0 : Int) (a1 : Int) : Option (Int) :=
  Option.bind (shlO .u32 a0 (band .u64 (U64 a1) 31)) fun x1 =>
  letO (U64 (32 - (band .u64 (U64 a1) 31))) fun x2 =>
  Option.bind (shrO .u32 a0 x2) fun x3 =>
  some (bor .u32 x1 x3)

theorem math_bits_RotateLeft32_ok {N : Nat} {a0 : Int} {a1 : Int} {r : Int} (h : p_math_bits_RotateLeft32 N a0 a1 = some r) : FnM Try.prog 216 [] [(k32 a0), (j64 a1)] (k32 r) [] := by
  unfold p_math_bits_RotateLeft32 at h
  refine fnM_of_aw (m := 17) (lo := 0) (rs := [.tmp 4]) hT Try.func216 rfl (by kernel_rfl) rfl ?_
  refine aw_sregU hT m_no [] (by kernel_rfl) ?_
  refine aw_sregU hT m_no [] (by kernel_rfl) ?_
  refine aw_sreg ?_
  refine awl_u hT m_no [] 2 (by kernel_rfl) ?_
  obtain ⟨x1, hx1, h⟩ := obind h
  refine awl_big (big_shl hT (k' := .u64) hx1 (by kernel_rfl) (by kernel_rfl)) (by kernel_rfl) ?_
  obtain ⟨x2, hx2, h⟩ := letE h
  refine awl_u hT m_no [] 3 (by kernel_rfl) ?_
  refine awl_nms [(14, (k64 x2))] (by subst hx2; kernel_rfl) ?_
  obtain ⟨x3, hx3, h⟩ := obind h
  refine awl_big (big_shr hT (k' := .u64) hx3 (by kernel_rfl) (by kernel_rfl)) (by kernel_rfl) ?_
  refine awl_u hT m_no [] 2 (by kernel_rfl) ?_
  refine awl_nil ?_
  refine aw_ret ?_
  cases h
  exact fin_r (by kernel_rfl)

theorem math_bits_RotateLeft32_ok_c : callable Try.prog 216 := ⟨_, Try.func216, by decide, rfl⟩

/-! umbra/sha.rot -/
def p_sha_rot (N : Nat) (a0 : Int) (a1 : Int) : Option (Int) :=
  Option.bind (p_math_bits_RotateLeft32 N a0 (I64 (0 - a1))) fun r1 =>
  some r1

theorem sha_rot_ok {N : Nat} {a0 : Int} {a1 : Int} {r : Int} (h : p_sha_rot N a0 a1 = some r) : FnM Try.prog 213 [] [(k32 a0), (j64 a1)] (k32 r) [] := by
  unfold p_sha_rot at h
  refine fnM_of_aw (m := 9) (lo := 0) (rs := [.tmp 4]) hT Try.func213 rfl (by kernel_rfl) rfl ?_
  refine aw_sregU hT m_no [] (by kernel_rfl) ?_
  refine aw_sreg ?_
  refine awl_u hT m_no [] 3 (by kernel_rfl) ?_
  obtain ⟨r1, hr1, h⟩ := obind h
  refine awl_big (big_call [] (math_bits_RotateLeft32_ok hr1) math_bits_RotateLeft32_ok_c (by kernel_rfl) (by kernel_rfl)) (by kernel_rfl) ?_
  refine awl_u hT m_no [] 1 (by kernel_rfl) ?_
  refine awl_nil ?_
  refine aw_ret ?_
  cases h
  exact fin_r (by kernel_rfl)

theorem sha_rot_ok_c : callable Try.prog 213 := ⟨_, Try.func213, by decide, rfl⟩

/-! umbra/sha.Compress -/
def m_sha_Compress : Nat → Bool := imL [2, 3]

def cst_p_sha_Compress_058597 : (Vector Int 64) := #v[1116352408, 1899447441, 3049323471, 3921009573, 961987163, 1508970993, 2453635748, 2870763221, 3624381080, 310598401, 607225278, 1426881987, 1925078388, 2162078206, 2614888103, 3248222580, 3835390401, 4022224774, 264347078, 604807628, 770255983, 1249150122, 1555081692, 1996064986, 2554220882, 2821834349, 2952996808, 3210313671, 3336571891, 3584528711, 113926993, 338241895, 666307205, 773529912, 1294757372, 1396182291, 1695183700, 1986661051, 2177026350, 2456956037, 2730485921, 2820302411, 3259730800, 3345764771, 3516065817, 3600352804, 4094571909, 275423344, 430227734, 506948616, 659060556, 883997877, 958139571, 1322822218, 1537002063, 1747873779, 1955562222, 2024104815, 2227730452, 2361852424, 2428436474, 2756734187, 3204031479, 3329325298]

def p_sha_Compress_L1 (N : Nat) (a1 : (Vector Int 64)) : Nat → (Vector Int 64) → Int → Option ((Vector Int 64))
  | 0, _, _ => none
  | k + 1, s2, s3 =>
    cond (decide (s3 < 64)) (
      Option.bind (cond (decide (s3 < 16)) (
        Option.bind (idx a1.toList (I64 (4 * s3))) fun e5 =>
        letO (I64 ((I64 (4 * s3)) + 1)) fun x6 =>
        Option.bind (idx a1.toList x6) fun e7 =>
        letO (bor .u32 (shl .u32 (U32 e5) 24) (shl .u32 (U32 e7) 16)) fun x8 =>
        letO (I64 ((I64 (4 * s3)) + 2)) fun x9 =>
        Option.bind (idx a1.toList x9) fun e10 =>
        letO (bor .u32 x8 (shl .u32 (U32 e10) 8)) fun x11 =>
        letO (I64 ((I64 (4 * s3)) + 3)) fun x12 =>
        Option.bind (idx a1.toList x12) fun e13 =>
        Option.bind (inRO s3 64) fun _ =>
        Option.bind (s2.toList[s3.toNat]?) fun e15 =>
        some (s2.setIfInBounds s3.toNat (bor .u32 x11 (U32 e13)))) (
        Option.bind (inRO (I64 (s3 - 15)) 64) fun _ =>
        Option.bind (s2.toList[(I64 (s3 - 15)).toNat]?) fun e17 =>
        Option.bind (inRO (I64 (s3 - 2)) 64) fun _ =>
        Option.bind (s2.toList[(I64 (s3 - 2)).toNat]?) fun e19 =>
        Option.bind (inRO (I64 (s3 - 16)) 64) fun _ =>
        Option.bind (s2.toList[(I64 (s3 - 16)).toNat]?) fun e21 =>
        Option.bind (p_sha_rot N e17 7) fun r22 =>
        Option.bind (p_sha_rot N e17 18) fun r23 =>
        letO (bxor .u32 (bxor .u32 r22 r23) (shr .u32 e17 3)) fun x24 =>
        Option.bind (inRO (I64 (s3 - 7)) 64) fun _ =>
        Option.bind (s2.toList[(I64 (s3 - 7)).toNat]?) fun e26 =>
        letO (U32 ((U32 (e21 + x24)) + e26)) fun x27 =>
        Option.bind (p_sha_rot N e19 17) fun r28 =>
        Option.bind (p_sha_rot N e19 19) fun r29 =>
        letO (bxor .u32 (bxor .u32 r28 r29) (shr .u32 e19 10)) fun x30 =>
        Option.bind (inRO s3 64) fun _ =>
        Option.bind (s2.toList[s3.toNat]?) fun e32 =>
        some (s2.setIfInBounds s3.toNat (U32 (x27 + x30))))) fun p4 =>
      p_sha_Compress_L1 N a1 k p4 (I64 (s3 + 1))) (
      some s2)

def p_sha_Compress_L2 (N : Nat) (p1 : (Vector Int 64)) : Nat → (Vector Int 8) → Int → Option ((Vector Int 8))
  | 0, _, _ => none
  | k + 1, s34, s35 =>
    cond (decide (s35 < 64)) (
      Option.bind (inRO 0 8) fun _ =>
      Option.bind (s34.toList[((0 : Int).toNat)]?) fun e37 =>
      Option.bind (inRO 4 8) fun _ =>
      Option.bind (s34.toList[((4 : Int).toNat)]?) fun e39 =>
      Option.bind (inRO 7 8) fun _ =>
      Option.bind (s34.toList[((7 : Int).toNat)]?) fun e41 =>
      Option.bind (p_sha_rot N e39 6) fun r42 =>
      Option.bind (p_sha_rot N e39 11) fun r43 =>
      Option.bind (p_sha_rot N e39 25) fun r44 =>
      letO (bxor .u32 (bxor .u32 r42 r43) r44) fun x45 =>
      Option.bind (inRO 5 8) fun _ =>
      Option.bind (s34.toList[((5 : Int).toNat)]?) fun e47 =>
      Option.bind (inRO 6 8) fun _ =>
      Option.bind (s34.toList[((6 : Int).toNat)]?) fun e49 =>
      letO (band .u32 (bnot .u32 e39) e49) fun x50 =>
      letO (bxor .u32 (band .u32 e39 e47) x50) fun x51 =>
      letO (U32 ((U32 (e41 + x45)) + x51)) fun x52 =>
      Option.bind (inRO s35 64) fun _ =>
      Option.bind (cst_p_sha_Compress_058597.toList[s35.toNat]?) fun e54 =>
      Option.bind (inRO s35 64) fun _ =>
      Option.bind (p1.toList[s35.toNat]?) fun e56 =>
      letO (U32 ((U32 (x52 + e54)) + e56)) fun x57 =>
      Option.bind (p_sha_rot N e37 2) fun r58 =>
      Option.bind (p_sha_rot N e37 13) fun r59 =>
      Option.bind (p_sha_rot N e37 22) fun r60 =>
      letO (bxor .u32 (bxor .u32 r58 r59) r60) fun x61 =>
      Option.bind (inRO 1 8) fun _ =>
      Option.bind (s34.toList[((1 : Int).toNat)]?) fun e63 =>
      Option.bind (inRO 2 8) fun _ =>
      Option.bind (s34.toList[((2 : Int).toNat)]?) fun e65 =>
      letO (bxor .u32 (band .u32 e37 e63) (band .u32 e37 e65)) fun x66 =>
      Option.bind (inRO 1 8) fun _ =>
      Option.bind (s34.toList[((1 : Int).toNat)]?) fun e68 =>
      Option.bind (inRO 2 8) fun _ =>
      Option.bind (s34.toList[((2 : Int).toNat)]?) fun e70 =>
      letO (bxor .u32 x66 (band .u32 e68 e70)) fun x71 =>
      letO (U32 (x57 + (U32 (x61 + x71)))) fun x73 =>
      Option.bind (inRO 0 8) fun _ =>
      Option.bind (s34.toList[((0 : Int).toNat)]?) fun e75 =>
      Option.bind (inRO 1 8) fun _ =>
      Option.bind (s34.toList[((1 : Int).toNat)]?) fun e77 =>
      Option.bind (inRO 2 8) fun _ =>
      Option.bind (s34.toList[((2 : Int).toNat)]?) fun e79 =>
      Option.bind (inRO 3 8) fun _ =>
      Option.bind (s34.toList[((3 : Int).toNat)]?) fun e81 =>
      Option.bind (inRO 4 8) fun _ =>
      Option.bind (s34.toList[((4 : Int).toNat)]?) fun e83 =>
      Option.bind (inRO 5 8) fun _ =>
      Option.bind (s34.toList[((5 : Int).toNat)]?) fun e85 =>
      Option.bind (inRO 6 8) fun _ =>
      Option.bind (s34.toList[((6 : Int).toNat)]?) fun e87 =>
      p_sha_Compress_L2 N p1 k (#v[x73, e75, e77, e79, U32 (e81 + x57), e83, e85, e87]) (I64 (s35 + 1))) (
      some s34)

def p_sha_Compress_L3 (N : Nat) (a0 : (Vector Int 8)) : Nat → (Vector Int 8) → Int → Option ((Vector Int 8))
  | 0, _, _ => none
  | k + 1, s89, s90 =>
    cond (decide (s90 < 8)) (
      Option.bind (inRO s90 8) fun _ =>
      Option.bind (s89.toList[s90.toNat]?) fun e92 =>
      Option.bind (idx a0.toList s90) fun e93 =>
      Option.bind (inRO s90 8) fun _ =>
      Option.bind (s89.toList[s90.toNat]?) fun e95 =>
      p_sha_Compress_L3 N a0 k (s89.setIfInBounds s90.toNat (U32 (e92 + e93))) (I64 (s90 + 1))) (
      some s89)

def p_sha_Compress (N : Nat) (a0 : (Vector Int 8)) (a1 : (Vector Int 64)) : Option ((Vector Int 8)) :=
  Option.bind (p_sha_Compress_L1 N a1 N (Vector.replicate 64 0) 0) fun p1 =>
  Option.bind (p_sha_Compress_L2 N p1 N a0 0) fun p33 =>
  Option.bind (p_sha_Compress_L3 N a0 N p33 0) fun p88 =>
  some p88

theorem sha_Compress_ok {N : Nat} {a0 : (Vector Int 8)} {a1 : (Vector Int 64)} {r : (Vector Int 8)} (h : p_sha_Compress N a0 a1 = some r) : FnM Try.prog 203 [] [(eA 8 1 k32 a0), (eA 64 1 k8 a1)] (eA 8 1 k32 r) [] := by
  unfold p_sha_Compress at h
  refine fnM_of_aw (m := 188) (lo := 0) (rs := [.cell 4 254]) hT Try.func203 rfl (by kernel_rfl) rfl ?_
  refine aw_sregU hT m_sha_Compress [] (by kernel_rfl) ?_
  refine aw_sregU hT m_sha_Compress [] (by kernel_rfl) ?_
  refine aw_sregU hT m_sha_Compress [] (by kernel_rfl) ?_
  refine aw_seq ?_
  refine aw_sregU hT m_sha_Compress [] (by kernel_rfl) ?_
  obtain ⟨p1, h, g1⟩ := obind h
  refine aw_joinTK ⟨[en 2 (.im (eA 8 1 k32 a0)), en 4 (.ref 0 [] 0), en 5 (.ref 1 [] 0), en 6 (.ref 2 [] 0)], [.var (eA 8 1 k32 (Vector.replicate 8 0)), .var (eA 64 1 k32 cst_p_sha_Compress_058597), .var (eA 64 1 k32 p1)]⟩ ?_ ?_
  · refine aw_block (aw_loop (fun k s => ∃ s2 s3, p_sha_Compress_L1 N a1 k s2 s3 = some p1 ∧ JR (Fr.f 188 0) ⟨[en 2 (.im (eA 8 1 k32 a0)), en 3 (.im (eA 64 1 k8 a1)), en 4 (.ref 0 [] 0), en 5 (.ref 1 [] 0), en 6 (.ref 2 [] 0), en 18 (j64 s3)], [.var (eA 8 1 k32 (Vector.replicate 8 0)), .var (eA 64 1 k32 cst_p_sha_Compress_058597), .var (eA 64 1 k32 s2)]⟩ s) (fun k s hI => ?_) N _ ⟨_, _, h, jr (by kernel_rfl)⟩)
    obtain ⟨s2, s3, h, hj⟩ := hI
    cases k with
    | zero => cases h
    | succ k =>
      refine aw_jr hj ?_
      refine aw_sregU hT m_sha_Compress [] (by kernel_rfl) ?_
      refine aw_seq ?_
      refine aw_condH h (by kernel_rfl) (fun _ h => ?_) (fun _ h => ?_)
      · refine aw_skip (tn_n ?_)
        obtain ⟨p4, h, g4⟩ := obind h
        refine aw_joinT ⟨[en 2 (.im (eA 8 1 k32 a0)), en 3 (.im (eA 64 1 k8 a1)), en 4 (.ref 0 [] 0), en 5 (.ref 1 [] 0), en 6 (.ref 2 [] 0), en 18 (j64 s3)], [.var (eA 8 1 k32 (Vector.replicate 8 0)), .var (eA 64 1 k32 cst_p_sha_Compress_058597), .var (eA 64 1 k32 p4)]⟩ ?_ ?_
        · refine aw_block ?_
          refine aw_sregU hT m_sha_Compress [] (by kernel_rfl) ?_
          refine aw_seq ?_
          refine aw_sregU hT m_sha_Compress [] (by kernel_rfl) ?_
          refine aw_condH h (by kernel_rfl) (fun _ h => ?_) (fun _ h => ?_)
          · obtain ⟨e5, he5, h⟩ := obind h
            obtain ⟨x6, hx6, h⟩ := letE h
            obtain ⟨e7, he7, h⟩ := obind h
            obtain ⟨x8, hx8, h⟩ := letE h
            obtain ⟨x9, hx9, h⟩ := letE h
            obtain ⟨e10, he10, h⟩ := obind h
            obtain ⟨x11, hx11, h⟩ := letE h
            obtain ⟨x12, hx12, h⟩ := letE h
            obtain ⟨e13, he13, h⟩ := obind h
            obtain ⟨u14, hu14, h⟩ := obind h
            obtain ⟨e15, he15, h⟩ := obind h
            refine aw_sdrawV hT hmo m_sha_Compress [(3, (.im (k8 e5))), (10, (.im (k8 e7))), (18, (.im (k8 e10))), (26, (.im (k8 e13))), (30, (.ref 2 [s3.toNat] (0 + s3.toNat * 1)))] [(31, fun _ => ((.v (.bool false)), [.var (eA 8 1 k32 (Vector.replicate 8 0)), .var (eA 64 1 k32 cst_p_sha_Compress_058597), .var (eA 64 1 k32 (s2.setIfInBounds s3.toNat (bor .u32 x11 (U32 e13))))]))] (by subst hx12 hx11 hx9 hx8 hx6; kernel_rfl) (by subst hx12 hx11 hx9 hx8 hx6; kernel_rfl) (by kernel_rfl) ⟨fun _ => big_adI hT (N := 64) (k := 1) k8 a1 he5 (by kernel_rfl) (by kernel_rfl), fun _ => big_adI hT (N := 64) (k := 1) k8 a1 he7 (by subst hx6; kernel_rfl) (by subst hx6; kernel_rfl), fun _ => big_adI hT (N := 64) (k := 1) k8 a1 he10 (by subst hx9 hx8 hx6; kernel_rfl) (by subst hx9 hx8 hx6; kernel_rfl), fun _ => big_adI hT (N := 64) (k := 1) k8 a1 he13 (by subst hx12 hx11 hx9 hx8 hx6; kernel_rfl) (by subst hx12 hx11 hx9 hx8 hx6; kernel_rfl), fun _ => big_adR hT (k := 1) 2 [] 0 hu14 (by subst hx12 hx11 hx9 hx8 hx6; kernel_rfl) (by subst hx12 hx11 hx9 hx8 hx6; kernel_rfl), trivial⟩ ⟨big_at (big_stV hT k32 0 s2 he15 (bor .u32 x11 (U32 e13)) (by subst hx12 hx11 hx9 hx8 hx6; kernel_rfl) (by subst hx12 hx11 hx9 hx8 hx6; kernel_rfl) (H' := [.var (eA 8 1 k32 (Vector.replicate 8 0)), .var (eA 64 1 k32 cst_p_sha_Compress_058597), .var (eA 64 1 k32 (s2.setIfInBounds s3.toNat (bor .u32 x11 (U32 e13))))]) (by subst hx12 hx11 hx9 hx8 hx6; kernel_rfl)) (by subst hx12 hx11 hx9 hx8 hx6; kernel_rfl), trivial⟩ ?_
            refine aw_exit (tn_x (inB_e (tn_n ?_)))
            cases h
            exact jr (by kernel_rfl)
          · refine aw_skip (tn_n ?_)
            obtain ⟨u16, hu16, h⟩ := obind h
            obtain ⟨e17, he17, h⟩ := obind h
            obtain ⟨u18, hu18, h⟩ := obind h
            obtain ⟨e19, he19, h⟩ := obind h
            refine aw_sdrawVS hT hmo m_sha_Compress [(2, (.ref 2 [(I64 (s3 - 15)).toNat] (0 + (I64 (s3 - 15)).toNat * 1))), (3, (k32 e17)), (6, (.ref 2 [(I64 (s3 - 2)).toNat] (0 + (I64 (s3 - 2)).toNat * 1))), (7, (k32 e19))] [[[.var (eA 8 1 k32 (Vector.replicate 8 0)), .var (eA 64 1 k32 cst_p_sha_Compress_058597), .var (eA 64 1 k32 s2)]], [[.var (eA 8 1 k32 (Vector.replicate 8 0)), .var (eA 64 1 k32 cst_p_sha_Compress_058597), .var (eA 64 1 k32 s2)]], [[.var (eA 8 1 k32 (Vector.replicate 8 0)), .var (eA 64 1 k32 cst_p_sha_Compress_058597), .var (eA 64 1 k32 s2)]], [[.var (eA 8 1 k32 (Vector.replicate 8 0)), .var (eA 64 1 k32 cst_p_sha_Compress_058597), .var (eA 64 1 k32 s2)]]] [] (by kernel_rfl) (by kernel_rfl) (by kernel_rfl) (by kernel_rfl) ⟨⟨big_adR hT (k := 1) 2 [] 0 hu16 (by kernel_rfl) (by kernel_rfl), trivial⟩, ⟨big_at (big_ldE hT k32 0 he17 (by kernel_rfl) (by kernel_rfl)) (by kernel_rfl), trivial⟩, ⟨big_adR hT (k := 1) 2 [] 0 hu18 (by kernel_rfl) (by kernel_rfl), trivial⟩, ⟨big_at (big_ldE hT k32 0 he19 (by kernel_rfl) (by kernel_rfl)) (by kernel_rfl), trivial⟩, trivial⟩ trivial ?_
            obtain ⟨u20, hu20, h⟩ := obind h
            obtain ⟨e21, he21, h⟩ := obind h
            obtain ⟨r22, hr22, h⟩ := obind h
            obtain ⟨r23, hr23, h⟩ := obind h
            obtain ⟨x24, hx24, h⟩ := letE h
            obtain ⟨u25, hu25, h⟩ := obind h
            obtain ⟨e26, he26, h⟩ := obind h
            obtain ⟨x27, hx27, h⟩ := letE h
            obtain ⟨r28, hr28, h⟩ := obind h
            obtain ⟨r29, hr29, h⟩ := obind h
            obtain ⟨x30, hx30, h⟩ := letE h
            obtain ⟨u31, hu31, h⟩ := obind h
            obtain ⟨e32, he32, h⟩ := obind h
            refine aw_drawNS hT hmo m_sha_Compress [(3, (.ref 2 [(I64 (s3 - 16)).toNat] (0 + (I64 (s3 - 16)).toNat * 1))), (4, (k32 e21)), (6, (k32 r22)), (8, (k32 r23)), (16, (.ref 2 [(I64 (s3 - 7)).toNat] (0 + (I64 (s3 - 7)).toNat * 1))), (17, (k32 e26)), (20, (k32 r28)), (22, (k32 r29)), (28, (.ref 2 [s3.toNat] (0 + s3.toNat * 1)))] [[[.var (eA 8 1 k32 (Vector.replicate 8 0)), .var (eA 64 1 k32 cst_p_sha_Compress_058597), .var (eA 64 1 k32 s2)]], [[.var (eA 8 1 k32 (Vector.replicate 8 0)), .var (eA 64 1 k32 cst_p_sha_Compress_058597), .var (eA 64 1 k32 s2)]], [[.var (eA 8 1 k32 (Vector.replicate 8 0)), .var (eA 64 1 k32 cst_p_sha_Compress_058597), .var (eA 64 1 k32 s2)]], [[.var (eA 8 1 k32 (Vector.replicate 8 0)), .var (eA 64 1 k32 cst_p_sha_Compress_058597), .var (eA 64 1 k32 s2)]], [[.var (eA 8 1 k32 (Vector.replicate 8 0)), .var (eA 64 1 k32 cst_p_sha_Compress_058597), .var (eA 64 1 k32 s2)]], [[.var (eA 8 1 k32 (Vector.replicate 8 0)), .var (eA 64 1 k32 cst_p_sha_Compress_058597), .var (eA 64 1 k32 s2)]], [[.var (eA 8 1 k32 (Vector.replicate 8 0)), .var (eA 64 1 k32 cst_p_sha_Compress_058597), .var (eA 64 1 k32 s2)]], [[.var (eA 8 1 k32 (Vector.replicate 8 0)), .var (eA 64 1 k32 cst_p_sha_Compress_058597), .var (eA 64 1 k32 s2)]], [[.var (eA 8 1 k32 (Vector.replicate 8 0)), .var (eA 64 1 k32 cst_p_sha_Compress_058597), .var (eA 64 1 k32 s2)]]] [(29, fun _ => ((.v (.bool false)), [.var (eA 8 1 k32 (Vector.replicate 8 0)), .var (eA 64 1 k32 cst_p_sha_Compress_058597), .var (eA 64 1 k32 (s2.setIfInBounds s3.toNat (U32 (x27 + x30))))]))] (by subst hx30 hx27 hx24; kernel_rfl) (by subst hx30 hx27 hx24; kernel_rfl) (by kernel_rfl) (by kernel_rfl) ⟨⟨big_adR hT (k := 1) 2 [] 0 hu20 (by kernel_rfl) (by kernel_rfl), trivial⟩, ⟨big_at (big_ldE hT k32 0 he21 (by kernel_rfl) (by kernel_rfl)) (by kernel_rfl), trivial⟩, ⟨big_call0 (sha_rot_ok hr22) sha_rot_ok_c (by kernel_rfl) (by kernel_rfl) (by kernel_rfl), trivial⟩, ⟨big_call0 (sha_rot_ok hr23) sha_rot_ok_c (by kernel_rfl) (by kernel_rfl) (by kernel_rfl), trivial⟩, ⟨big_adR hT (k := 1) 2 [] 0 hu25 (by subst hx24; kernel_rfl) (by subst hx24; kernel_rfl), trivial⟩, ⟨big_at (big_ldE hT k32 0 he26 (by subst hx24; kernel_rfl) (by subst hx24; kernel_rfl)) (by subst hx24; kernel_rfl), trivial⟩, ⟨big_call0 (sha_rot_ok hr28) sha_rot_ok_c (by subst hx27 hx24; kernel_rfl) (by subst hx27 hx24; kernel_rfl) (by subst hx27 hx24; kernel_rfl), trivial⟩, ⟨big_call0 (sha_rot_ok hr29) sha_rot_ok_c (by subst hx27 hx24; kernel_rfl) (by subst hx27 hx24; kernel_rfl) (by subst hx27 hx24; kernel_rfl), trivial⟩, ⟨big_adR hT (k := 1) 2 [] 0 hu31 (by subst hx30 hx27 hx24; kernel_rfl) (by subst hx30 hx27 hx24; kernel_rfl), trivial⟩, trivial⟩ ⟨big_at (big_stV hT k32 0 s2 he32 (U32 (x27 + x30)) (by subst hx30 hx27 hx24; kernel_rfl) (by subst hx30 hx27 hx24; kernel_rfl) (H' := [.var (eA 8 1 k32 (Vector.replicate 8 0)), .var (eA 64 1 k32 cst_p_sha_Compress_058597), .var (eA 64 1 k32 (s2.setIfInBounds s3.toNat (U32 (x27 + x30))))]) (by subst hx30 hx27 hx24; kernel_rfl)) (by subst hx30 hx27 hx24; kernel_rfl), trivial⟩ [] (by subst hx30 hx27 hx24; kernel_rfl) (inB_n (tn_n ?_))
            cases h
            exact jr (by kernel_rfl)
        · have h := g4
          refine aw_regU hT m_sha_Compress [] (by kernel_rfl) (tn_n ?_)
          exact ⟨k, Nat.lt_succ_self k, _, _, h, jr (by kernel_rfl)⟩
      · refine aw_exit (tn_x (tn_x (inB_e (tn_n ?_))))
        cases h
        exact jr (by kernel_rfl)
  · have h := g1
    refine (tn_n ?_)
    refine aw_sregU hT m_sha_Compress [] (by kernel_rfl) ?_
    refine aw_seq ?_
    refine aw_sregU hT m_sha_Compress [] (by kernel_rfl) ?_
    obtain ⟨p33, h, g33⟩ := obind h
    refine aw_joinTK ⟨[en 2 (.im (eA 8 1 k32 a0)), en 4 (.ref 0 [] 0), en 10 (.ref 3 [] 0)], [.var (eA 8 1 k32 (Vector.replicate 8 0)), .var (eA 64 1 k32 cst_p_sha_Compress_058597), .var (eA 64 1 k32 p1), .var (eA 8 1 k32 p33)]⟩ ?_ ?_
    · refine aw_block (aw_loop (fun k s => ∃ s34 s35, p_sha_Compress_L2 N p1 k s34 s35 = some p33 ∧ JR (Fr.f 188 0) ⟨[en 2 (.im (eA 8 1 k32 a0)), en 4 (.ref 0 [] 0), en 5 (.ref 1 [] 0), en 6 (.ref 2 [] 0), en 10 (.ref 3 [] 0), en 93 (j64 s35)], [.var (eA 8 1 k32 (Vector.replicate 8 0)), .var (eA 64 1 k32 cst_p_sha_Compress_058597), .var (eA 64 1 k32 p1), .var (eA 8 1 k32 s34)]⟩ s) (fun k s hI => ?_) N _ ⟨_, _, h, jr (by kernel_rfl)⟩)
      obtain ⟨s34, s35, h, hj⟩ := hI
      cases k with
      | zero => cases h
      | succ k =>
        refine aw_jr hj ?_
        refine aw_sregU hT m_sha_Compress [] (by kernel_rfl) ?_
        refine aw_seq ?_
        refine aw_condH h (by kernel_rfl) (fun _ h => ?_) (fun _ h => ?_)
        · refine aw_skip (tn_n ?_)
          refine aw_seq ?_
          refine aw_block ?_
          refine aw_sregU hT m_sha_Compress [] (by kernel_rfl) ?_
          obtain ⟨u36, hu36, h⟩ := obind h
          obtain ⟨e37, he37, h⟩ := obind h
          obtain ⟨u38, hu38, h⟩ := obind h
          obtain ⟨e39, he39, h⟩ := obind h
          refine aw_sdrawVS hT hmo m_sha_Compress [(0, (.ref 3 [((0 : Int).toNat)] (0 + ((0 : Int).toNat) * 1))), (1, (k32 e37)), (2, (.ref 3 [((4 : Int).toNat)] (0 + ((4 : Int).toNat) * 1))), (3, (k32 e39))] [[[.var (eA 8 1 k32 (Vector.replicate 8 0)), .var (eA 64 1 k32 cst_p_sha_Compress_058597), .var (eA 64 1 k32 p1), .var (eA 8 1 k32 s34)]], [[.var (eA 8 1 k32 (Vector.replicate 8 0)), .var (eA 64 1 k32 cst_p_sha_Compress_058597), .var (eA 64 1 k32 p1), .var (eA 8 1 k32 s34)]], [[.var (eA 8 1 k32 (Vector.replicate 8 0)), .var (eA 64 1 k32 cst_p_sha_Compress_058597), .var (eA 64 1 k32 p1), .var (eA 8 1 k32 s34)]], [[.var (eA 8 1 k32 (Vector.replicate 8 0)), .var (eA 64 1 k32 cst_p_sha_Compress_058597), .var (eA 64 1 k32 p1), .var (eA 8 1 k32 s34)]]] [] (by kernel_rfl) (by kernel_rfl) (by kernel_rfl) (by kernel_rfl) ⟨⟨big_adR hT (k := 1) 3 [] 0 hu36 (by kernel_rfl) (by kernel_rfl), trivial⟩, ⟨big_at (big_ldE hT k32 0 he37 (by kernel_rfl) (by kernel_rfl)) (by kernel_rfl), trivial⟩, ⟨big_adR hT (k := 1) 3 [] 0 hu38 (by kernel_rfl) (by kernel_rfl), trivial⟩, ⟨big_at (big_ldE hT k32 0 he39 (by kernel_rfl) (by kernel_rfl)) (by kernel_rfl), trivial⟩, trivial⟩ trivial ?_
          obtain ⟨u40, hu40, h⟩ := obind h
          obtain ⟨e41, he41, h⟩ := obind h
          obtain ⟨r42, hr42, h⟩ := obind h
          obtain ⟨r43, hr43, h⟩ := obind h
          obtain ⟨r44, hr44, h⟩ := obind h
          obtain ⟨x45, hx45, h⟩ := letE h
          obtain ⟨u46, hu46, h⟩ := obind h
          obtain ⟨e47, he47, h⟩ := obind h
          obtain ⟨u48, hu48, h⟩ := obind h
          obtain ⟨e49, he49, h⟩ := obind h
          obtain ⟨x50, hx50, h⟩ := letE h
          obtain ⟨x51, hx51, h⟩ := letE h
          obtain ⟨x52, hx52, h⟩ := letE h
          obtain ⟨u53, hu53, h⟩ := obind h
          obtain ⟨e54, he54, h⟩ := obind h
          obtain ⟨u55, hu55, h⟩ := obind h
          obtain ⟨e56, he56, h⟩ := obind h
          obtain ⟨x57, hx57, h⟩ := letE h
          refine aw_sdrawVS hT hmo m_sha_Compress [(0, (.ref 3 [((7 : Int).toNat)] (0 + ((7 : Int).toNat) * 1))), (1, (k32 e41)), (3, (k32 r42)), (5, (k32 r43)), (8, (k32 r44)), (12, (.ref 3 [((5 : Int).toNat)] (0 + ((5 : Int).toNat) * 1))), (13, (k32 e47)), (17, (.ref 3 [((6 : Int).toNat)] (0 + ((6 : Int).toNat) * 1))), (18, (k32 e49)), (23, (.ref 1 [s35.toNat] (0 + s35.toNat * 1))), (24, (k32 e54)), (27, (.ref 2 [s35.toNat] (0 + s35.toNat * 1))), (28, (k32 e56))] [[[.var (eA 8 1 k32 (Vector.replicate 8 0)), .var (eA 64 1 k32 cst_p_sha_Compress_058597), .var (eA 64 1 k32 p1), .var (eA 8 1 k32 s34)]], [[.var (eA 8 1 k32 (Vector.replicate 8 0)), .var (eA 64 1 k32 cst_p_sha_Compress_058597), .var (eA 64 1 k32 p1), .var (eA 8 1 k32 s34)]], [[.var (eA 8 1 k32 (Vector.replicate 8 0)), .var (eA 64 1 k32 cst_p_sha_Compress_058597), .var (eA 64 1 k32 p1), .var (eA 8 1 k32 s34)]], [[.var (eA 8 1 k32 (Vector.replicate 8 0)), .var (eA 64 1 k32 cst_p_sha_Compress_058597), .var (eA 64 1 k32 p1), .var (eA 8 1 k32 s34)]], [[.var (eA 8 1 k32 (Vector.replicate 8 0)), .var (eA 64 1 k32 cst_p_sha_Compress_058597), .var (eA 64 1 k32 p1), .var (eA 8 1 k32 s34)]], [[.var (eA 8 1 k32 (Vector.replicate 8 0)), .var (eA 64 1 k32 cst_p_sha_Compress_058597), .var (eA 64 1 k32 p1), .var (eA 8 1 k32 s34)]], [[.var (eA 8 1 k32 (Vector.replicate 8 0)), .var (eA 64 1 k32 cst_p_sha_Compress_058597), .var (eA 64 1 k32 p1), .var (eA 8 1 k32 s34)]], [[.var (eA 8 1 k32 (Vector.replicate 8 0)), .var (eA 64 1 k32 cst_p_sha_Compress_058597), .var (eA 64 1 k32 p1), .var (eA 8 1 k32 s34)]], [[.var (eA 8 1 k32 (Vector.replicate 8 0)), .var (eA 64 1 k32 cst_p_sha_Compress_058597), .var (eA 64 1 k32 p1), .var (eA 8 1 k32 s34)]], [[.var (eA 8 1 k32 (Vector.replicate 8 0)), .var (eA 64 1 k32 cst_p_sha_Compress_058597), .var (eA 64 1 k32 p1), .var (eA 8 1 k32 s34)]], [[.var (eA 8 1 k32 (Vector.replicate 8 0)), .var (eA 64 1 k32 cst_p_sha_Compress_058597), .var (eA 64 1 k32 p1), .var (eA 8 1 k32 s34)]], [[.var (eA 8 1 k32 (Vector.replicate 8 0)), .var (eA 64 1 k32 cst_p_sha_Compress_058597), .var (eA 64 1 k32 p1), .var (eA 8 1 k32 s34)]], [[.var (eA 8 1 k32 (Vector.replicate 8 0)), .var (eA 64 1 k32 cst_p_sha_Compress_058597), .var (eA 64 1 k32 p1), .var (eA 8 1 k32 s34)]]] [] (by subst hx57 hx52 hx51 hx50 hx45; kernel_rfl) (by subst hx57 hx52 hx51 hx50 hx45; kernel_rfl) (by kernel_rfl) (by kernel_rfl) ⟨⟨big_adR hT (k := 1) 3 [] 0 hu40 (by kernel_rfl) (by kernel_rfl), trivial⟩, ⟨big_at (big_ldE hT k32 0 he41 (by kernel_rfl) (by kernel_rfl)) (by kernel_rfl), trivial⟩, ⟨big_call0 (sha_rot_ok hr42) sha_rot_ok_c (by kernel_rfl) (by kernel_rfl) (by kernel_rfl), trivial⟩, ⟨big_call0 (sha_rot_ok hr43) sha_rot_ok_c (by kernel_rfl) (by kernel_rfl) (by kernel_rfl), trivial⟩, ⟨big_call0 (sha_rot_ok hr44) sha_rot_ok_c (by kernel_rfl) (by kernel_rfl) (by kernel_rfl), trivial⟩, ⟨big_adR hT (k := 1) 3 [] 0 hu46 (by subst hx45; kernel_rfl) (by subst hx45; kernel_rfl), trivial⟩, ⟨big_at (big_ldE hT k32 0 he47 (by subst hx45; kernel_rfl) (by subst hx45; kernel_rfl)) (by subst hx45; kernel_rfl), trivial⟩, ⟨big_adR hT (k := 1) 3 [] 0 hu48 (by subst hx45; kernel_rfl) (by subst hx45; kernel_rfl), trivial⟩, ⟨big_at (big_ldE hT k32 0 he49 (by subst hx45; kernel_rfl) (by subst hx45; kernel_rfl)) (by subst hx45; kernel_rfl), trivial⟩, ⟨big_adR hT (k := 1) 1 [] 0 hu53 (by subst hx52 hx51 hx50 hx45; kernel_rfl) (by subst hx52 hx51 hx50 hx45; kernel_rfl), trivial⟩, ⟨big_at (big_ldE hT k32 0 he54 (by subst hx52 hx51 hx50 hx45; kernel_rfl) (by subst hx52 hx51 hx50 hx45; kernel_rfl)) (by subst hx52 hx51 hx50 hx45; kernel_rfl), trivial⟩, ⟨big_adR hT (k := 1) 2 [] 0 hu55 (by subst hx52 hx51 hx50 hx45; kernel_rfl) (by subst hx52 hx51 hx50 hx45; kernel_rfl), trivial⟩, ⟨big_at (big_ldE hT k32 0 he56 (by subst hx52 hx51 hx50 hx45; kernel_rfl) (by subst hx52 hx51 hx50 hx45; kernel_rfl)) (by subst hx52 hx51 hx50 hx45; kernel_rfl), trivial⟩, trivial⟩ trivial ?_
          refine aw_nms [(14, (k32 x57))] (by subst hx57 hx52 hx51 hx50 hx45; kernel_rfl) ?_
          obtain ⟨r58, hr58, h⟩ := obind h
          obtain ⟨r59, hr59, h⟩ := obind h
          obtain ⟨r60, hr60, h⟩ := obind h
          obtain ⟨x61, hx61, h⟩ := letE h
          obtain ⟨u62, hu62, h⟩ := obind h
          obtain ⟨e63, he63, h⟩ := obind h
          obtain ⟨u64, hu64, h⟩ := obind h
          obtain ⟨e65, he65, h⟩ := obind h
          obtain ⟨x66, hx66, h⟩ := letE h
          obtain ⟨u67, hu67, h⟩ := obind h
          obtain ⟨e68, he68, h⟩ := obind h
          obtain ⟨u69, hu69, h⟩ := obind h
          obtain ⟨e70, he70, h⟩ := obind h
          obtain ⟨x71, hx71, h⟩ := letE h
          refine aw_sdrawVS hT hmo m_sha_Compress [(1, (k32 r58)), (3, (k32 r59)), (6, (k32 r60)), (9, (.ref 3 [((1 : Int).toNat)] (0 + ((1 : Int).toNat) * 1))), (10, (k32 e63)), (13, (.ref 3 [((2 : Int).toNat)] (0 + ((2 : Int).toNat) * 1))), (14, (k32 e65)), (17, (.ref 3 [((1 : Int).toNat)] (0 + ((1 : Int).toNat) * 1))), (18, (k32 e68)), (19, (.ref 3 [((2 : Int).toNat)] (0 + ((2 : Int).toNat) * 1))), (20, (k32 e70))] [[[.var (eA 8 1 k32 (Vector.replicate 8 0)), .var (eA 64 1 k32 cst_p_sha_Compress_058597), .var (eA 64 1 k32 p1), .var (eA 8 1 k32 s34)]], [[.var (eA 8 1 k32 (Vector.replicate 8 0)), .var (eA 64 1 k32 cst_p_sha_Compress_058597), .var (eA 64 1 k32 p1), .var (eA 8 1 k32 s34)]], [[.var (eA 8 1 k32 (Vector.replicate 8 0)), .var (eA 64 1 k32 cst_p_sha_Compress_058597), .var (eA 64 1 k32 p1), .var (eA 8 1 k32 s34)]], [[.var (eA 8 1 k32 (Vector.replicate 8 0)), .var (eA 64 1 k32 cst_p_sha_Compress_058597), .var (eA 64 1 k32 p1), .var (eA 8 1 k32 s34)]], [[.var (eA 8 1 k32 (Vector.replicate 8 0)), .var (eA 64 1 k32 cst_p_sha_Compress_058597), .var (eA 64 1 k32 p1), .var (eA 8 1 k32 s34)]], [[.var (eA 8 1 k32 (Vector.replicate 8 0)), .var (eA 64 1 k32 cst_p_sha_Compress_058597), .var (eA 64 1 k32 p1), .var (eA 8 1 k32 s34)]], [[.var (eA 8 1 k32 (Vector.replicate 8 0)), .var (eA 64 1 k32 cst_p_sha_Compress_058597), .var (eA 64 1 k32 p1), .var (eA 8 1 k32 s34)]], [[.var (eA 8 1 k32 (Vector.replicate 8 0)), .var (eA 64 1 k32 cst_p_sha_Compress_058597), .var (eA 64 1 k32 p1), .var (eA 8 1 k32 s34)]], [[.var (eA 8 1 k32 (Vector.replicate 8 0)), .var (eA 64 1 k32 cst_p_sha_Compress_058597), .var (eA 64 1 k32 p1), .var (eA 8 1 k32 s34)]], [[.var (eA 8 1 k32 (Vector.replicate 8 0)), .var (eA 64 1 k32 cst_p_sha_Compress_058597), .var (eA 64 1 k32 p1), .var (eA 8 1 k32 s34)]], [[.var (eA 8 1 k32 (Vector.replicate 8 0)), .var (eA 64 1 k32 cst_p_sha_Compress_058597), .var (eA 64 1 k32 p1), .var (eA 8 1 k32 s34)]]] [] (by subst hx71 hx66 hx61; kernel_rfl) (by subst hx71 hx66 hx61; kernel_rfl) (by kernel_rfl) (by kernel_rfl) ⟨⟨big_call0 (sha_rot_ok hr58) sha_rot_ok_c (by kernel_rfl) (by kernel_rfl) (by kernel_rfl), trivial⟩, ⟨big_call0 (sha_rot_ok hr59) sha_rot_ok_c (by kernel_rfl) (by kernel_rfl) (by kernel_rfl), trivial⟩, ⟨big_call0 (sha_rot_ok hr60) sha_rot_ok_c (by kernel_rfl) (by kernel_rfl) (by kernel_rfl), trivial⟩, ⟨big_adR hT (k := 1) 3 [] 0 hu62 (by subst hx61; kernel_rfl) (by subst hx61; kernel_rfl), trivial⟩, ⟨big_at (big_ldE hT k32 0 he63 (by subst hx61; kernel_rfl) (by subst hx61; kernel_rfl)) (by subst hx61; kernel_rfl), trivial⟩, ⟨big_adR hT (k := 1) 3 [] 0 hu64 (by subst hx61; kernel_rfl) (by subst hx61; kernel_rfl), trivial⟩, ⟨big_at (big_ldE hT k32 0 he65 (by subst hx61; kernel_rfl) (by subst hx61; kernel_rfl)) (by subst hx61; kernel_rfl), trivial⟩, ⟨big_adR hT (k := 1) 3 [] 0 hu67 (by subst hx66 hx61; kernel_rfl) (by subst hx66 hx61; kernel_rfl), trivial⟩, ⟨big_at (big_ldE hT k32 0 he68 (by subst hx66 hx61; kernel_rfl) (by subst hx66 hx61; kernel_rfl)) (by subst hx66 hx61; kernel_rfl), trivial⟩, ⟨big_adR hT (k := 1) 3 [] 0 hu69 (by subst hx66 hx61; kernel_rfl) (by subst hx66 hx61; kernel_rfl), trivial⟩, ⟨big_at (big_ldE hT k32 0 he70 (by subst hx66 hx61; kernel_rfl) (by subst hx66 hx61; kernel_rfl)) (by subst hx66 hx61; kernel_rfl), trivial⟩, trivial⟩ trivial ?_
          refine aw_nms [(15, (k32 (U32 (x61 + x71))))] (by subst hx71 hx66 hx61; kernel_rfl) ?_
          refine aw_region ?_
          obtain ⟨x73, hx73, h⟩ := letE h
          refine awl_u hT m_sha_Compress [] 3 (by kernel_rfl) ?_
          refine awl_nms [(156, (k32 x73))] (by subst hx73; kernel_rfl) ?_
          obtain ⟨u74, hu74, h⟩ := obind h
          refine awl_big (big_adR hT (k := 1) 3 [] 0 hu74 (by kernel_rfl) (by kernel_rfl)) (by kernel_rfl) ?_
          obtain ⟨e75, he75, h⟩ := obind h
          refine awl_big (big_ldE hT k32 0 he75 (by kernel_rfl) (by kernel_rfl)) (by kernel_rfl) ?_
          obtain ⟨u76, hu76, h⟩ := obind h
          refine awl_big (big_adR hT (k := 1) 3 [] 0 hu76 (by kernel_rfl) (by kernel_rfl)) (by kernel_rfl) ?_
          first | refine awl_to ⟨[en 2 (.im (eA 8 1 k32 a0)), en 4 (.ref 0 [] 0), en 5 (.ref 1 [] 0), en 6 (.ref 2 [] 0), en 10 (.ref 3 [] 0), en 14 (k32 x57), en 93 (j64 s35), en 156 (k32 x73), en 158 (k32 e75), en 159 (.ref 3 [((1 : Int).toNat)] (0 + ((1 : Int).toNat) * 1))], [.var (eA 8 1 k32 (Vector.replicate 8 0)), .var (eA 64 1 k32 cst_p_sha_Compress_058597), .var (eA 64 1 k32 p1), .var (eA 8 1 k32 s34)]⟩ (by kernel_rfl) ?_ | skip
          obtain ⟨e77, he77, h⟩ := obind h
          refine awl_big (big_ldE hT k32 0 he77 (by kernel_rfl) (by kernel_rfl)) (by kernel_rfl) ?_
          obtain ⟨u78, hu78, h⟩ := obind h
          refine awl_big (big_adR hT (k := 1) 3 [] 0 hu78 (by kernel_rfl) (by kernel_rfl)) (by kernel_rfl) ?_
          obtain ⟨e79, he79, h⟩ := obind h
          refine awl_big (big_ldE hT k32 0 he79 (by kernel_rfl) (by kernel_rfl)) (by kernel_rfl) ?_
          obtain ⟨u80, hu80, h⟩ := obind h
          refine awl_big (big_adR hT (k := 1) 3 [] 0 hu80 (by kernel_rfl) (by kernel_rfl)) (by kernel_rfl) ?_
          first | refine awl_to ⟨[en 2 (.im (eA 8 1 k32 a0)), en 4 (.ref 0 [] 0), en 5 (.ref 1 [] 0), en 6 (.ref 2 [] 0), en 10 (.ref 3 [] 0), en 14 (k32 x57), en 93 (j64 s35), en 156 (k32 x73), en 158 (k32 e75), en 160 (k32 e77), en 162 (k32 e79), en 163 (.ref 3 [((3 : Int).toNat)] (0 + ((3 : Int).toNat) * 1))], [.var (eA 8 1 k32 (Vector.replicate 8 0)), .var (eA 64 1 k32 cst_p_sha_Compress_058597), .var (eA 64 1 k32 p1), .var (eA 8 1 k32 s34)]⟩ (by kernel_rfl) ?_ | skip
          obtain ⟨e81, he81, h⟩ := obind h
          refine awl_big (big_ldE hT k32 0 he81 (by kernel_rfl) (by kernel_rfl)) (by kernel_rfl) ?_
          refine awl_u hT m_sha_Compress [] 2 (by kernel_rfl) ?_
          obtain ⟨u82, hu82, h⟩ := obind h
          refine awl_big (big_adR hT (k := 1) 3 [] 0 hu82 (by kernel_rfl) (by kernel_rfl)) (by kernel_rfl) ?_
          obtain ⟨e83, he83, h⟩ := obind h
          refine awl_big (big_ldE hT k32 0 he83 (by kernel_rfl) (by kernel_rfl)) (by kernel_rfl) ?_
          obtain ⟨u84, hu84, h⟩ := obind h
          refine awl_big (big_adR hT (k := 1) 3 [] 0 hu84 (by kernel_rfl) (by kernel_rfl)) (by kernel_rfl) ?_
          first | refine awl_to ⟨[en 2 (.im (eA 8 1 k32 a0)), en 4 (.ref 0 [] 0), en 5 (.ref 1 [] 0), en 6 (.ref 2 [] 0), en 10 (.ref 3 [] 0), en 93 (j64 s35), en 156 (k32 x73), en 158 (k32 e75), en 160 (k32 e77), en 162 (k32 e79), en 166 (k32 (U32 (e81 + x57))), en 168 (k32 e83), en 169 (.ref 3 [((5 : Int).toNat)] (0 + ((5 : Int).toNat) * 1))], [.var (eA 8 1 k32 (Vector.replicate 8 0)), .var (eA 64 1 k32 cst_p_sha_Compress_058597), .var (eA 64 1 k32 p1), .var (eA 8 1 k32 s34)]⟩ (by kernel_rfl) ?_ | skip
          obtain ⟨e85, he85, h⟩ := obind h
          refine awl_big (big_ldE hT k32 0 he85 (by kernel_rfl) (by kernel_rfl)) (by kernel_rfl) ?_
          obtain ⟨u86, hu86, h⟩ := obind h
          refine awl_big (big_adR hT (k := 1) 3 [] 0 hu86 (by kernel_rfl) (by kernel_rfl)) (by kernel_rfl) ?_
          obtain ⟨e87, he87, h⟩ := obind h
          refine awl_big (big_ldE hT k32 0 he87 (by kernel_rfl) (by kernel_rfl)) (by kernel_rfl) ?_
          refine awl_u hT m_sha_Compress [] 2 (by kernel_rfl) ?_
          refine awl_nil (inB_n (tn_n ?_))
          refine aw_regU hT m_sha_Compress [] (by kernel_rfl) (tn_n ?_)
          exact ⟨k, Nat.lt_succ_self k, _, _, h, jr (by kernel_rfl)⟩
        · refine aw_exit (tn_x (tn_x (inB_e (tn_n ?_))))
          cases h
          exact jr (by kernel_rfl)
    · have h := g33
      refine (tn_n ?_)
      refine aw_seq ?_
      refine aw_sregU hT m_sha_Compress [] (by kernel_rfl) ?_
      obtain ⟨p88, h, g88⟩ := obind h
      refine aw_joinTK ⟨[en 4 (.ref 0 [] 0), en 10 (.ref 3 [] 0)], [.var (eA 8 1 k32 (Vector.replicate 8 0)), .var (eA 64 1 k32 cst_p_sha_Compress_058597), .var (eA 64 1 k32 p1), .var (eA 8 1 k32 p88)]⟩ ?_ ?_
      · refine aw_block (aw_loop (fun k s => ∃ s89 s90, p_sha_Compress_L3 N a0 k s89 s90 = some p88 ∧ JR (Fr.f 188 0) ⟨[en 2 (.im (eA 8 1 k32 a0)), en 4 (.ref 0 [] 0), en 10 (.ref 3 [] 0), en 175 (j64 s90)], [.var (eA 8 1 k32 (Vector.replicate 8 0)), .var (eA 64 1 k32 cst_p_sha_Compress_058597), .var (eA 64 1 k32 p1), .var (eA 8 1 k32 s89)]⟩ s) (fun k s hI => ?_) N _ ⟨_, _, h, jr (by kernel_rfl)⟩)
        obtain ⟨s89, s90, h, hj⟩ := hI
        cases k with
        | zero => cases h
        | succ k =>
          refine aw_jr hj ?_
          refine aw_sregU hT m_sha_Compress [] (by kernel_rfl) ?_
          refine aw_seq ?_
          refine aw_condH h (by kernel_rfl) (fun _ h => ?_) (fun _ h => ?_)
          · refine aw_skip (tn_n ?_)
            refine aw_seq ?_
            refine aw_block ?_
            refine aw_sregU hT m_sha_Compress [] (by kernel_rfl) ?_
            obtain ⟨u91, hu91, h⟩ := obind h
            obtain ⟨e92, he92, h⟩ := obind h
            obtain ⟨e93, he93, h⟩ := obind h
            obtain ⟨u94, hu94, h⟩ := obind h
            obtain ⟨e95, he95, h⟩ := obind h
            refine aw_drawMS hT hmo m_sha_Compress [(1, (.ref 3 [s90.toNat] (0 + s90.toNat * 1))), (2, (k32 e92)), (4, (.im (k32 e93))), (7, (.ref 3 [s90.toNat] (0 + s90.toNat * 1)))] [[[.var (eA 8 1 k32 (Vector.replicate 8 0)), .var (eA 64 1 k32 cst_p_sha_Compress_058597), .var (eA 64 1 k32 p1), .var (eA 8 1 k32 s89)]], [[.var (eA 8 1 k32 (Vector.replicate 8 0)), .var (eA 64 1 k32 cst_p_sha_Compress_058597), .var (eA 64 1 k32 p1), .var (eA 8 1 k32 s89)]], [[.var (eA 8 1 k32 (Vector.replicate 8 0)), .var (eA 64 1 k32 cst_p_sha_Compress_058597), .var (eA 64 1 k32 p1), .var (eA 8 1 k32 s89)]], [[.var (eA 8 1 k32 (Vector.replicate 8 0)), .var (eA 64 1 k32 cst_p_sha_Compress_058597), .var (eA 64 1 k32 p1), .var (eA 8 1 k32 s89)]]] [(8, fun _ => ((.v (.bool false)), [.var (eA 8 1 k32 (Vector.replicate 8 0)), .var (eA 64 1 k32 cst_p_sha_Compress_058597), .var (eA 64 1 k32 p1), .var (eA 8 1 k32 (s89.setIfInBounds s90.toNat (U32 (e92 + e93))))]))] (by kernel_rfl) (by kernel_rfl) (by kernel_rfl) (by kernel_rfl) ⟨⟨big_adR hT (k := 1) 3 [] 0 hu91 (by kernel_rfl) (by kernel_rfl), trivial⟩, ⟨big_at (big_ldE hT k32 0 he92 (by kernel_rfl) (by kernel_rfl)) (by kernel_rfl), trivial⟩, ⟨big_adI hT (N := 8) (k := 1) k32 a0 he93 (by kernel_rfl) (by kernel_rfl), trivial⟩, ⟨big_adR hT (k := 1) 3 [] 0 hu94 (by kernel_rfl) (by kernel_rfl), trivial⟩, trivial⟩ ⟨big_at (big_stV hT k32 0 s89 he95 (U32 (e92 + e93)) (by kernel_rfl) (by kernel_rfl) (H' := [.var (eA 8 1 k32 (Vector.replicate 8 0)), .var (eA 64 1 k32 cst_p_sha_Compress_058597), .var (eA 64 1 k32 p1), .var (eA 8 1 k32 (s89.setIfInBounds s90.toNat (U32 (e92 + e93))))]) (by kernel_rfl)) (by kernel_rfl), trivial⟩ (inB_n (tn_n ?_))
            refine aw_regU hT m_sha_Compress [] (by kernel_rfl) (tn_n ?_)
            exact ⟨k, Nat.lt_succ_self k, _, _, h, jr (by kernel_rfl)⟩
          · refine aw_exit (tn_x (tn_x (inB_e (tn_n ?_))))
            cases h
            exact jr (by kernel_rfl)
      · have h := g88
        refine (tn_n ?_)
        refine aw_sregU hT m_sha_Compress [] (by kernel_rfl) ?_
        refine aw_ret ?_
        cases h
        exact fin_r (by kernel_rfl)

theorem sha_Compress_ok_c : callable Try.prog 203 := ⟨_, Try.func203, by decide, rfl⟩

end Go.UK
