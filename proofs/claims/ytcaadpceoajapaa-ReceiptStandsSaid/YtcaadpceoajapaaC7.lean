/- A part of the proof: what the functions of the program compute. -/
import Derived.Test.YtcaadpceoajapaaC6
namespace Go.UK
open Go Go.Proofs
set_option maxRecDepth 20000
set_option maxHeartbeats 4000000
set_option linter.all false

attribute [local irreducible] owp awl aw FnM NatFn opS Stab TOK Big

/-! umbra/codec.New -/
def p_codec_New (N : Nat) (a0 : (List Int)) : Option ((List Int)) :=
  Option.bind (p_slices_Clone_byte_byte N a0) fun r1 =>
  some r1

theorem codec_New_ok {N : Nat} {a0 : (List Int)} {r : (List Int)} (h : p_codec_New N a0 = some r) : FnM Try.prog 103 [] [(eL 1 k8 a0)] (.ref 1 [] 0) [.tail (r.length * 1), .var (.st 3 [(eO 0 1 k8 r), (j64 0), (eB true)])] := by
  unfold p_codec_New at h
  refine fnM_of_aw (m := 7) (lo := 0) (rs := [.tmp 2]) hT Try.func103 rfl (by kernel_rfl) rfl ?_
  refine aw_sregU hT m_no [] (by kernel_rfl) ?_
  refine aw_sreg ?_
  refine awl_u hT m_no [] 1 (by kernel_rfl) ?_
  obtain ⟨r1, hr1, h⟩ := obind h
  refine awl_big (big_call [] (slices_Clone_byte_byte_ok hr1) slices_Clone_byte_byte_ok_c (by kernel_rfl) (by kernel_rfl)) (by kernel_rfl) ?_
  refine awl_u hT m_no [] 3 (by kernel_rfl) ?_
  refine awl_nil ?_
  refine aw_ret ?_
  cases h
  exact fin_r (by kernel_rfl)

theorem codec_New_ok_c : callable Try.prog 103 := ⟨_, Try.func103, by decide, rfl⟩

/-! (*umbra/codec.Reader).none -/
def p_codec_Reader_none_r (N : Nat) (a0 : S_codec_Reader) : Option (Bool) :=
  some (!a0.gmade)

theorem codec_Reader_none_r_ok {N : Nat} {a0 : S_codec_Reader} {r : Bool} (h : p_codec_Reader_none_r N a0 = some r) : FnM Try.prog 153 [.var (S_codec_Reader.enc a0)] [(.ref 0 [] 0)] (eB r) [.var (S_codec_Reader.enc a0)] := by
  unfold p_codec_Reader_none_r at h
  refine fnM_of_aw (m := 12) (lo := 1) (rs := [.tmp 2]) hT Try.func153 rfl (by kernel_rfl) rfl ?_
  refine aw_sregU hT m_no [] (by kernel_rfl) ?_
  refine aw_sreg ?_
  refine awl_u hT m_no [] 1 (by kernel_rfl) ?_
  refine awl_big (big_eqp hT (t := 141) (x := (.ref 0 [] 0)) (b := true) (by kernel_rfl) rfl rfl (by kernel_rfl)) (by kernel_rfl) ?_
  refine awl_u hT m_no [5] 8 (by kernel_rfl) ?_
  refine awl_nil ?_
  refine aw_ret ?_
  cases h
  exact fin_r (by kernel_rfl)

theorem codec_Reader_none_r_ok_c : callable Try.prog 153 := ⟨_, Try.func153, by decide, rfl⟩

/-! (*umbra/codec.Reader).Take -/
def p_codec_Reader_Take_rd (N : Nat) (a0 : Int) (a1 : S_codec_Reader) : Option ((List Int) × Int × (List Int)) :=
  Option.bind (p_codec_Reader_none_r N a1) fun r1 =>
  letO (cond r1 true (a1.ge != 0)) fun x2 =>
  cond x2 (
    some ((a1.gb, a1.ge, []))) (
    cond (decide (a0 < 0)) (
      some ((a1.gb, 2, []))) (
      letO (decide (a0 > ((a1.gb.length : Int)))) fun x3 =>
      cond x3 (
        some ((a1.gb, 4, []))) (
        Option.bind (slc3O a1.gb 0 a0 a0) fun s4 =>
        Option.bind (slcO a1.gb a0 ((a1.gb.length : Int))) fun s5 =>
        some ((s5, a1.ge, s4)))))

theorem codec_Reader_Take_rd_ok {N : Nat} {a0 : Int} {a1 : S_codec_Reader} {r : (List Int) × Int × (List Int)} (h : p_codec_Reader_Take_rd N a0 a1 = some r) : FnM Try.prog 106 [.var (S_codec_Reader.enc a1)] [(.ref 0 [] 0), (j64 a0)] (eL 1 k8 r.2.2) [.var (.st 3 [(eL 1 k8 r.1), (j64 r.2.1), (eB a1.gmade)])] := by
  unfold p_codec_Reader_Take_rd at h
  refine fnM_of_aw (m := 50) (lo := 1) (rs := [.tmp 4]) hT Try.func106 rfl (by kernel_rfl) rfl ?_
  refine aw_sregU hT m_no [] (by kernel_rfl) ?_
  refine aw_seq ?_
  refine aw_block ?_
  refine aw_sreg ?_
  refine awl_u hT m_no [] 1 (by kernel_rfl) ?_
  obtain ⟨r1, hr1, h⟩ := obind h
  refine awl_big (big_call [0] (codec_Reader_none_r_ok hr1) codec_Reader_none_r_ok_c (by kernel_rfl) (by kernel_rfl)) (by kernel_rfl) ?_
  obtain ⟨x2, hx2, h⟩ := letE h
  refine awl_u hT m_no [] 8 (by kernel_rfl) ?_
  refine awl_nms [(6, (eB x2))] (by subst hx2; kernel_rfl) ?_
  refine awl_nil ?_
  refine aw_condH h (by kernel_rfl) (fun _ h => ?_) (fun _ h => ?_)
  · refine aw_sregU hT m_no [] (by kernel_rfl) ?_
    refine aw_ret (inB_r (tn_r ?_))
    cases h
    exact fin_r (by kernel_rfl)
  · refine aw_sregU hT m_no [] (by kernel_rfl) ?_
    refine aw_condH h (by kernel_rfl) (fun _ h => ?_) (fun _ h => ?_)
    · refine aw_sregU hT m_no [] (by kernel_rfl) ?_
      refine aw_sregU hT m_no [] (by kernel_rfl) ?_
      refine aw_ret (inB_r (tn_r ?_))
      cases h
      exact fin_r (by kernel_rfl)
    · obtain ⟨x3, hx3, h⟩ := letE h
      refine aw_sregU hT m_no [] (by kernel_rfl) ?_
      refine aw_nms [(22, (eB x3))] (by subst hx3; kernel_rfl) ?_
      refine aw_condH h (by kernel_rfl) (fun _ h => ?_) (fun _ h => ?_)
      · refine aw_sregU hT m_no [] (by kernel_rfl) ?_
        refine aw_sregU hT m_no [] (by kernel_rfl) ?_
        refine aw_ret (inB_r (tn_r ?_))
        cases h
        exact fin_r (by kernel_rfl)
      · refine aw_skip (inB_n (tn_n ?_))
        refine aw_sreg ?_
        refine awl_u hT m_no [] 6 (by kernel_rfl) ?_
        obtain ⟨s4, hs4, h⟩ := obind h
        refine awl_big (big_slc3 hT (k := 1) k8 hs4 (by kernel_rfl) (by kernel_rfl)) (by kernel_rfl) ?_
        refine awl_u hT m_no [] 1 (by kernel_rfl) ?_
        refine awl_nil ?_
        refine aw_sreg ?_
        refine awl_u hT m_no [] 6 (by kernel_rfl) ?_
        obtain ⟨s5, hs5, h⟩ := obind h
        refine awl_big (big_slc hT (k := 1) k8 hs5 (by kernel_rfl) (by kernel_rfl)) (by kernel_rfl) ?_
        refine awl_u hT m_no [] 3 (by kernel_rfl) ?_
        refine awl_nil ?_
        refine aw_sregU hT m_no [] (by kernel_rfl) ?_
        refine aw_ret ?_
        cases h
        exact fin_r (by kernel_rfl)

theorem codec_Reader_Take_rd_ok_c : callable Try.prog 106 := ⟨_, Try.func106, by decide, rfl⟩

/-! (*umbra/codec.Reader).Num -/
def p_codec_Reader_Num_rd_L1 (N : Nat) (r3 : (List Int) × Int × (List Int)) : Nat → Int → Int → Option (Int)
  | 0, _, _ => none
  | k + 1, s5, s6 =>
    letO (decide (s6 < ((r3.2.2.length : Int)))) fun x7 =>
    cond x7 (
      Option.bind (idx r3.2.2 s6) fun e8 =>
      Option.bind (shlO .u64 (U64 e8) (I64 (8 * s6))) fun x9 =>
      p_codec_Reader_Num_rd_L1 N r3 k (bor .u64 s5 x9) (I64 (s6 + 1))) (
      some s5)

def p_codec_Reader_Num_rd (N : Nat) (a0 : Int) (a1 : S_codec_Reader) : Option ((List Int) × Int × Int) :=
  Option.bind (letO (cond (decide (a0 < 1)) true (decide (a0 > 8))) fun x2 =>
  cond x2 (some (-1)) (some a0)) fun p1 =>
  Option.bind (p_codec_Reader_Take_rd N p1 a1) fun r3 =>
  Option.bind (p_codec_Reader_Num_rd_L1 N r3 N 0 0) fun p4 =>
  some ((r3.1, r3.2.1, p4))

theorem codec_Reader_Num_rd_ok {N : Nat} {a0 : Int} {a1 : S_codec_Reader} {r : (List Int) × Int × Int} (h : p_codec_Reader_Num_rd N a0 a1 = some r) : FnM Try.prog 105 [.var (S_codec_Reader.enc a1)] [(.ref 0 [] 0), (j64 a0)] (k64 r.2.2) [.var (.st 3 [(eL 1 k8 r.1), (j64 r.2.1), (eB a1.gmade)])] := by
  unfold p_codec_Reader_Num_rd at h
  refine fnM_of_aw (m := 32) (lo := 1) (rs := [.tmp 4]) hT Try.func105 rfl (by kernel_rfl) rfl ?_
  refine aw_sregU hT m_no [] (by kernel_rfl) ?_
  obtain ⟨p1, h, g1⟩ := obind h
  refine aw_joinT ⟨[en 0 (.ref 0 [] 0), en 1 (j64 p1)], [.var (S_codec_Reader.enc a1)]⟩ ?_ ?_
  · obtain ⟨x2, hx2, h⟩ := letE h
    refine aw_sregU hT m_no [] (by kernel_rfl) ?_
    refine aw_nms [(13, (eB x2))] (by subst hx2; kernel_rfl) ?_
    refine aw_condH h (by kernel_rfl) (fun _ h => ?_) (fun _ h => ?_)
    · refine aw_regU hT m_no [] (by kernel_rfl) (tn_n ?_)
      cases h
      exact jr (by kernel_rfl)
    · refine aw_skip (tn_n ?_)
      cases h
      exact jr (by kernel_rfl)
  · have h := g1
    refine aw_sregU hT m_no [] (by kernel_rfl) ?_
    refine aw_seq ?_
    refine aw_sreg ?_
    refine awl_u hT m_no [] 2 (by kernel_rfl) ?_
    obtain ⟨r3, hr3, h⟩ := obind h
    refine awl_big (big_call [0] (codec_Reader_Take_rd_ok hr3) codec_Reader_Take_rd_ok_c (by kernel_rfl) (by kernel_rfl)) (by kernel_rfl) ?_
    refine awl_u hT m_no [] 2 (by kernel_rfl) ?_
    refine awl_nil ?_
    obtain ⟨p4, h, g4⟩ := obind h
    refine aw_joinTK ⟨[en 5 (k64 p4)], [.var (.st 3 [(eL 1 k8 r3.1), (j64 r3.2.1), (eB a1.gmade)])]⟩ ?_ ?_
    · refine aw_block (aw_loop (fun k s => ∃ s5 s6, p_codec_Reader_Num_rd_L1 N r3 k s5 s6 = some p4 ∧ JR (Fr.f 32 1) ⟨[en 5 (k64 s5), en 16 (eL 1 k8 r3.2.2), en 17 (j64 ((r3.2.2.length : Int))), en 18 (j64 s6)], [.var (.st 3 [(eL 1 k8 r3.1), (j64 r3.2.1), (eB a1.gmade)])]⟩ s) (fun k s hI => ?_) N _ ⟨_, _, h, jr (by kernel_rfl)⟩)
      obtain ⟨s5, s6, h, hj⟩ := hI
      cases k with
      | zero => cases h
      | succ k =>
        refine aw_jr hj ?_
        obtain ⟨x7, hx7, h⟩ := letE h
        refine aw_sregU hT m_no [] (by kernel_rfl) ?_
        refine aw_nms [(19, (eB x7))] (by subst hx7; kernel_rfl) ?_
        refine aw_seq ?_
        refine aw_condH h (by kernel_rfl) (fun _ h => ?_) (fun _ h => ?_)
        · refine aw_skip (tn_n ?_)
          refine aw_seq ?_
          refine aw_block ?_
          refine aw_sreg ?_
          refine awl_u hT m_no [] 1 (by kernel_rfl) ?_
          obtain ⟨e8, he8, h⟩ := obind h
          refine awl_big (big_idx hT k8 he8 (by kernel_rfl) (by kernel_rfl)) (by kernel_rfl) ?_
          refine awl_u hT m_no [] 3 (by kernel_rfl) ?_
          refine awl_nil ?_
          refine aw_region ?_
          refine awl_u hT m_no [] 5 (by kernel_rfl) ?_
          obtain ⟨x9, hx9, h⟩ := obind h
          refine awl_big (big_shl hT (k' := .i64) hx9 (by kernel_rfl) (by kernel_rfl)) (by kernel_rfl) ?_
          refine awl_u hT m_no [] 2 (by kernel_rfl) ?_
          refine awl_nil (inB_n (tn_n ?_))
          refine aw_regU hT m_no [] (by kernel_rfl) (tn_n ?_)
          exact ⟨k, Nat.lt_succ_self k, _, _, h, jr (by kernel_rfl)⟩
        · refine aw_exit (tn_x (tn_x (inB_e (tn_n ?_))))
          cases h
          exact jr (by kernel_rfl)
    · have h := g4
      refine (tn_n ?_)
      refine aw_sregU hT m_no [] (by kernel_rfl) ?_
      refine aw_ret ?_
      cases h
      exact fin_r (by kernel_rfl)

theorem codec_Reader_Num_rd_ok_c : callable Try.prog 105 := ⟨_, Try.func105, by decide, rfl⟩

/-! (*umbra/codec.Reader).Int -/
def p_codec_Reader_Int_rd (N : Nat) (a0 : Int) (a1 : S_codec_Reader) : Option ((List Int) × Int × Int) :=
  Option.bind (p_codec_Reader_Num_rd N a0 a1) fun r1 =>
  letO (cond (decide (a0 < 1)) true (decide (a0 > 8))) fun x2 =>
  cond x2 (
    some ((r1.1, r1.2.1, 0))) (
    letO (I64 (64 - (I64 (8 * a0)))) fun x4 =>
    Option.bind (shlO .i64 (I64 r1.2.2) x4) fun x5 =>
    letO (I64 (64 - (I64 (8 * a0)))) fun x6 =>
    Option.bind (shrO .i64 x5 x6) fun x7 =>
    some ((r1.1, r1.2.1, x7)))

theorem codec_Reader_Int_rd_ok {N : Nat} {a0 : Int} {a1 : S_codec_Reader} {r : (List Int) × Int × Int} (h : p_codec_Reader_Int_rd N a0 a1 = some r) : FnM Try.prog 104 [.var (S_codec_Reader.enc a1)] [(.ref 0 [] 0), (j64 a0)] (j64 r.2.2) [.var (.st 3 [(eL 1 k8 r.1), (j64 r.2.1), (eB a1.gmade)])] := by
  unfold p_codec_Reader_Int_rd at h
  refine fnM_of_aw (m := 25) (lo := 1) (rs := [.tmp 4]) hT Try.func104 rfl (by kernel_rfl) rfl ?_
  refine aw_sregU hT m_no [] (by kernel_rfl) ?_
  refine aw_sreg ?_
  refine awl_u hT m_no [] 2 (by kernel_rfl) ?_
  obtain ⟨r1, hr1, h⟩ := obind h
  refine awl_big (big_call [0] (codec_Reader_Num_rd_ok hr1) codec_Reader_Num_rd_ok_c (by kernel_rfl) (by kernel_rfl)) (by kernel_rfl) ?_
  refine awl_u hT m_no [] 1 (by kernel_rfl) ?_
  refine awl_nil ?_
  refine aw_seq ?_
  obtain ⟨x2, hx2, h⟩ := letE h
  refine aw_sregU hT m_no [] (by kernel_rfl) ?_
  refine aw_nms [(14, (eB x2))] (by subst hx2; kernel_rfl) ?_
  refine aw_condH h (by kernel_rfl) (fun _ h => ?_) (fun _ h => ?_)
  · refine aw_sregU hT m_no [] (by kernel_rfl) ?_
    refine aw_ret (tn_r ?_)
    cases h
    exact fin_r (by kernel_rfl)
  · refine aw_skip (tn_n ?_)
    refine aw_sreg ?_
    obtain ⟨x4, hx4, h⟩ := letE h
    refine awl_u hT m_no [] 5 (by kernel_rfl) ?_
    refine awl_nms [(19, (j64 x4))] (by subst hx4; kernel_rfl) ?_
    obtain ⟨x5, hx5, h⟩ := obind h
    refine awl_big (big_shl hT (k' := .i64) hx5 (by kernel_rfl) (by kernel_rfl)) (by kernel_rfl) ?_
    obtain ⟨x6, hx6, h⟩ := letE h
    refine awl_u hT m_no [] 3 (by kernel_rfl) ?_
    refine awl_nms [(23, (j64 x6))] (by subst hx6; kernel_rfl) ?_
    obtain ⟨x7, hx7, h⟩ := obind h
    refine awl_big (big_shr hT (k' := .i64) hx7 (by kernel_rfl) (by kernel_rfl)) (by kernel_rfl) ?_
    refine awl_u hT m_no [] 1 (by kernel_rfl) ?_
    refine awl_nil ?_
    refine aw_ret ?_
    cases h
    exact fin_r (by kernel_rfl)

theorem codec_Reader_Int_rd_ok_c : callable Try.prog 104 := ⟨_, Try.func104, by decide, rfl⟩

/-! (*umbra/codec.Reader).Err -/
def p_codec_Reader_Err_r (N : Nat) (a0 : S_codec_Reader) : Option (Int) :=
  Option.bind (p_codec_Reader_none_r N a0) fun r1 =>
  cond r1 (some 1) (some a0.ge)

theorem codec_Reader_Err_r_ok {N : Nat} {a0 : S_codec_Reader} {r : Int} (h : p_codec_Reader_Err_r N a0 = some r) : FnM Try.prog 154 [.var (S_codec_Reader.enc a0)] [(.ref 0 [] 0)] (j64 r) [.var (S_codec_Reader.enc a0)] := by
  unfold p_codec_Reader_Err_r at h
  refine fnM_of_aw (m := 9) (lo := 1) (rs := [.tmp 2]) hT Try.func154 rfl (by kernel_rfl) rfl ?_
  refine aw_sregU hT m_no [] (by kernel_rfl) ?_
  refine aw_seq ?_
  refine aw_sreg ?_
  refine awl_u hT m_no [] 1 (by kernel_rfl) ?_
  obtain ⟨r1, hr1, h⟩ := obind h
  refine awl_big (big_call [0] (codec_Reader_none_r_ok hr1) codec_Reader_none_r_ok_c (by kernel_rfl) (by kernel_rfl)) (by kernel_rfl) ?_
  refine awl_nil ?_
  refine aw_condH h (by kernel_rfl) (fun _ h => ?_) (fun _ h => ?_)
  · refine aw_sregU hT m_no [] (by kernel_rfl) ?_
    refine aw_ret (tn_r ?_)
    cases h
    exact fin_r (by kernel_rfl)
  · refine aw_skip (tn_n ?_)
    refine aw_sregU hT m_no [] (by kernel_rfl) ?_
    refine aw_ret ?_
    cases h
    exact fin_r (by kernel_rfl)

theorem codec_Reader_Err_r_ok_c : callable Try.prog 154 := ⟨_, Try.func154, by decide, rfl⟩

/-! (*umbra/codec.Reader).End -/
def p_codec_Reader_End_r (N : Nat) (a0 : S_codec_Reader) : Option (Int) :=
  Option.bind (p_codec_Reader_Err_r N a0) fun r1 =>
  cond (r1 != 0) (
    some r1) (
    letO (decide (((a0.gb.length : Int)) > 0)) fun x2 =>
    cond x2 (some 5) (some 0))

theorem codec_Reader_End_r_ok {N : Nat} {a0 : S_codec_Reader} {r : Int} (h : p_codec_Reader_End_r N a0 = some r) : FnM Try.prog 107 [.var (S_codec_Reader.enc a0)] [(.ref 0 [] 0)] (j64 r) [.var (S_codec_Reader.enc a0)] := by
  unfold p_codec_Reader_End_r at h
  refine fnM_of_aw (m := 15) (lo := 1) (rs := [.tmp 2]) hT Try.func107 rfl (by kernel_rfl) rfl ?_
  refine aw_sregU hT m_no [] (by kernel_rfl) ?_
  refine aw_seq ?_
  refine aw_sreg ?_
  refine awl_u hT m_no [] 1 (by kernel_rfl) ?_
  obtain ⟨r1, hr1, h⟩ := obind h
  refine awl_big (big_call [0] (codec_Reader_Err_r_ok hr1) codec_Reader_Err_r_ok_c (by kernel_rfl) (by kernel_rfl)) (by kernel_rfl) ?_
  refine awl_u hT m_no [] 1 (by kernel_rfl) ?_
  refine awl_nil ?_
  refine aw_sregU hT m_no [] (by kernel_rfl) ?_
  refine aw_condH h (by kernel_rfl) (fun _ h => ?_) (fun _ h => ?_)
  · refine aw_sregU hT m_no [] (by kernel_rfl) ?_
    refine aw_ret (tn_r ?_)
    cases h
    exact fin_r (by kernel_rfl)
  · refine aw_skip (tn_n ?_)
    refine aw_seq ?_
    obtain ⟨x2, hx2, h⟩ := letE h
    refine aw_sregU hT m_no [] (by kernel_rfl) ?_
    refine aw_nms [(14, (eB x2))] (by subst hx2; kernel_rfl) ?_
    refine aw_condH h (by kernel_rfl) (fun _ h => ?_) (fun _ h => ?_)
    · refine aw_sregU hT m_no [] (by kernel_rfl) ?_
      refine aw_ret (tn_r ?_)
      cases h
      exact fin_r (by kernel_rfl)
    · refine aw_skip (tn_n ?_)
      refine aw_sregU hT m_no [] (by kernel_rfl) ?_
      refine aw_ret ?_
      cases h
      exact fin_r (by kernel_rfl)

theorem codec_Reader_End_r_ok_c : callable Try.prog 107 := ⟨_, Try.func107, by decide, rfl⟩

/-! umbra/receipt.Decode -/
def p_receipt_Decode (N : Nat) (a0 : (List Int)) : Option (S_api_Receipt × Int) :=
  Option.bind (p_codec_New N a0) fun r1 =>
  Option.bind (p_codec_Reader_Int_rd N 8 (S_codec_Reader.mk r1 0 true)) fun r2 =>
  Option.bind (p_codec_Reader_Int_rd N 8 (S_codec_Reader.mk r2.1 r2.2.1 ((S_codec_Reader.mk r1 0 true).gmade))) fun r3 =>
  Option.bind (p_codec_Reader_Int_rd N 8 (S_codec_Reader.mk r3.1 r3.2.1 ((S_codec_Reader.mk r2.1 r2.2.1 ((S_codec_Reader.mk r1 0 true).gmade)).gmade))) fun r4 =>
  Option.bind (p_codec_Reader_Num_rd N 4 (S_codec_Reader.mk r4.1 r4.2.1 ((S_codec_Reader.mk r3.1 r3.2.1 ((S_codec_Reader.mk r2.1 r2.2.1 ((S_codec_Reader.mk r1 0 true).gmade)).gmade)).gmade))) fun r5 =>
  Option.bind (inRO 0 3) fun _ =>
  Option.bind (slcB 32 0 32) fun _ =>
  Option.bind (p_codec_Reader_Take_rd N 32 (S_codec_Reader.mk r5.1 r5.2.1 ((S_codec_Reader.mk r4.1 r4.2.1 ((S_codec_Reader.mk r3.1 r3.2.1 ((S_codec_Reader.mk r2.1 r2.2.1 ((S_codec_Reader.mk r1 0 true).gmade)).gmade)).gmade)).gmade))) fun r8 =>
  Option.bind (cpV (Vector.replicate 32 0) r8.2.2 0 32) fun v9 =>
  Option.bind (inRO 1 3) fun _ =>
  Option.bind (slcB 32 0 32) fun _ =>
  Option.bind (p_codec_Reader_Take_rd N 32 (S_codec_Reader.mk r8.1 r8.2.1 ((S_codec_Reader.mk r5.1 r5.2.1 ((S_codec_Reader.mk r4.1 r4.2.1 ((S_codec_Reader.mk r3.1 r3.2.1 ((S_codec_Reader.mk r2.1 r2.2.1 ((S_codec_Reader.mk r1 0 true).gmade)).gmade)).gmade)).gmade)).gmade))) fun r12 =>
  Option.bind (cpV (Vector.replicate 32 0) r12.2.2 0 32) fun v13 =>
  Option.bind (inRO 2 3) fun _ =>
  Option.bind (slcB 32 0 32) fun _ =>
  Option.bind (p_codec_Reader_Take_rd N 32 (S_codec_Reader.mk r12.1 r12.2.1 ((S_codec_Reader.mk r8.1 r8.2.1 ((S_codec_Reader.mk r5.1 r5.2.1 ((S_codec_Reader.mk r4.1 r4.2.1 ((S_codec_Reader.mk r3.1 r3.2.1 ((S_codec_Reader.mk r2.1 r2.2.1 ((S_codec_Reader.mk r1 0 true).gmade)).gmade)).gmade)).gmade)).gmade)).gmade))) fun r16 =>
  Option.bind (cpV (Vector.replicate 32 0) r16.2.2 0 32) fun v17 =>
  Option.bind (p_codec_Reader_End_r N (S_codec_Reader.mk r16.1 r16.2.1 ((S_codec_Reader.mk r12.1 r12.2.1 ((S_codec_Reader.mk r8.1 r8.2.1 ((S_codec_Reader.mk r5.1 r5.2.1 ((S_codec_Reader.mk r4.1 r4.2.1 ((S_codec_Reader.mk r3.1 r3.2.1 ((S_codec_Reader.mk r2.1 r2.2.1 ((S_codec_Reader.mk r1 0 true).gmade)).gmade)).gmade)).gmade)).gmade)).gmade)).gmade))) fun r18 =>
  cond (r18 != 0) (
    some ((S_api_Receipt.mk 0 0 0 0 (Vector.replicate 32 0) (Vector.replicate 32 0) (Vector.replicate 32 0), r18))) (
    some ((S_api_Receipt.mk r2.2.2 r3.2.2 r4.2.2 (U32 r5.2.2) v9 v13 v17, 0)))

theorem receipt_Decode_ok {N : Nat} {a0 : (List Int)} {r : S_api_Receipt × Int} (h : p_receipt_Decode N a0 = some r) : FnM Try.prog 50 [] [(eL 1 k8 a0)] (.tup [(S_api_Receipt.enc r.1), (j64 r.2)]) [] := by
  unfold p_receipt_Decode at h
  refine fnM_of_aw (m := 44) (lo := 0) (rs := [.cell 2 59, .tmp 3]) hT Try.func50 rfl (by kernel_rfl) rfl ?_
  refine aw_sregU hT m_no [] (by kernel_rfl) ?_
  refine aw_sreg ?_
  refine awl_u hT m_no [] 1 (by kernel_rfl) ?_
  obtain ⟨r1, hr1, h⟩ := obind h
  refine awl_big (big_call [] (codec_New_ok hr1) codec_New_ok_c (by kernel_rfl) (by kernel_rfl)) (by kernel_rfl) ?_
  refine awl_u hT m_no [] 1 (by kernel_rfl) ?_
  refine awl_nil ?_
  refine aw_sreg ?_
  refine awl_u hT m_no [] 1 (by kernel_rfl) ?_
  obtain ⟨r2, hr2, h⟩ := obind h
  refine awl_big (big_call [2] (codec_Reader_Int_rd_ok hr2) codec_Reader_Int_rd_ok_c (by kernel_rfl) (by kernel_rfl)) (by kernel_rfl) ?_
  refine awl_u hT m_no [] 1 (by kernel_rfl) ?_
  obtain ⟨r3, hr3, h⟩ := obind h
  refine awl_big (big_call [2] (codec_Reader_Int_rd_ok hr3) codec_Reader_Int_rd_ok_c (by kernel_rfl) (by kernel_rfl)) (by kernel_rfl) ?_
  first | refine awl_to ⟨[en 2 (.ref 0 [] 0), en 4 (.ref 2 [] 0), en 12 (j64 r2.2.2), en 14 (j64 r3.2.2)], [.var (.st 100 [(j64 0), (j64 0), (j64 0), (k32 0), (eA 32 1 k8 (Vector.replicate 32 0)), (eA 32 1 k8 (Vector.replicate 32 0)), (eA 32 1 k8 (Vector.replicate 32 0))]), .tail (r1.length * 1), .var (.st 3 [(eL 1 k8 r3.1), (j64 r3.2.1), (eB ((S_codec_Reader.mk r2.1 r2.2.1 ((S_codec_Reader.mk r1 0 true).gmade)).gmade))])]⟩ (by kernel_rfl) ?_ | skip
  refine awl_u hT m_no [] 1 (by kernel_rfl) ?_
  obtain ⟨r4, hr4, h⟩ := obind h
  refine awl_big (big_call [2] (codec_Reader_Int_rd_ok hr4) codec_Reader_Int_rd_ok_c (by kernel_rfl) (by kernel_rfl)) (by kernel_rfl) ?_
  refine awl_u hT m_no [] 1 (by kernel_rfl) ?_
  obtain ⟨r5, hr5, h⟩ := obind h
  refine awl_big (big_call [2] (codec_Reader_Num_rd_ok hr5) codec_Reader_Num_rd_ok_c (by kernel_rfl) (by kernel_rfl)) (by kernel_rfl) ?_
  refine awl_u hT m_no [] 4 (by kernel_rfl) ?_
  refine awl_nil ?_
  refine aw_seq ?_
  refine aw_sreg ?_
  refine awl_u hT m_no [] 3 (by kernel_rfl) ?_
  refine awl_big (big_rowR hT (k := 1) (len := 3) (m := 3) (es := [(.ref 3 [4] 4), (.ref 3 [5] 36), (.ref 3 [6] 68)]) (by kernel_rfl) (by kernel_rfl)) (by kernel_rfl) ?_
  refine awl_u hT m_no [] 2 (by kernel_rfl) ?_
  refine awl_nil ?_
  refine aw_block ?_
  refine aw_unroll 40 ?_
  refine unr_s ?_
  refine aw_sregU hT m_no [] (by kernel_rfl) ?_
  refine aw_seq ?_
  refine aw_condB (b := true) (c := true) rfl (by kernel_rfl) ?_
  refine aw_skip (tn_n ?_)
  refine aw_seq ?_
  refine aw_block ?_
  refine aw_sreg ?_
  obtain ⟨u6, hu6, h⟩ := obind h
  refine awl_big (big_adS hT 4 [] 0 0 3 (k := 1) hu6 (by kernel_rfl) (by kernel_rfl)) (by kernel_rfl) ?_
  first | refine awl_to ⟨[en 2 (.ref 0 [] 0), en 4 (.ref 2 [] 0), en 5 (.ref 3 [] 0), en 24 (.bsl 4 [] 0 1 0 3), en 25 (j64 3), en 26 (j64 0), en 28 (.ref 4 [0] 0)], [.var (.st 100 [(j64 0), (j64 0), (j64 0), (k32 0), (eA 32 1 k8 (Vector.replicate 32 0)), (eA 32 1 k8 (Vector.replicate 32 0)), (eA 32 1 k8 (Vector.replicate 32 0))]), .tail (r1.length * 1), .var (.st 3 [(eL 1 k8 r5.1), (j64 r5.2.1), (eB ((S_codec_Reader.mk r4.1 r4.2.1 ((S_codec_Reader.mk r3.1 r3.2.1 ((S_codec_Reader.mk r2.1 r2.2.1 ((S_codec_Reader.mk r1 0 true).gmade)).gmade)).gmade)).gmade))]), .var (.st 100 [(j64 r2.2.2), (j64 r3.2.2), (j64 r4.2.2), (k32 (U32 r5.2.2)), (eA 32 1 k8 (Vector.replicate 32 0)), (eA 32 1 k8 (Vector.replicate 32 0)), (eA 32 1 k8 (Vector.replicate 32 0))]), .var (.st 3 [(.ref 3 [4] 4), (.ref 3 [5] 36), (.ref 3 [6] 68)])]⟩ (by kernel_rfl) ?_ | skip
  refine awl_u hT m_no [] 2 (by kernel_rfl) ?_
  refine awl_nil ?_
  obtain ⟨s7, hs7, h⟩ := obind h
  obtain ⟨r8, hr8, h⟩ := obind h
  obtain ⟨v9, hv9, h⟩ := obind h
  refine aw_drawM hT hmo m_no [(2, (.bsl 3 [4] 4 1 0 32))] [(4, fun _ => ((eL 1 k8 r8.2.2), [.var (.st 100 [(j64 0), (j64 0), (j64 0), (k32 0), (eA 32 1 k8 (Vector.replicate 32 0)), (eA 32 1 k8 (Vector.replicate 32 0)), (eA 32 1 k8 (Vector.replicate 32 0))]), .tail (r1.length * 1), .var (.st 3 [(eL 1 k8 r8.1), (j64 r8.2.1), (eB ((S_codec_Reader.mk r5.1 r5.2.1 ((S_codec_Reader.mk r4.1 r4.2.1 ((S_codec_Reader.mk r3.1 r3.2.1 ((S_codec_Reader.mk r2.1 r2.2.1 ((S_codec_Reader.mk r1 0 true).gmade)).gmade)).gmade)).gmade)).gmade))]), .var (.st 100 [(j64 r2.2.2), (j64 r3.2.2), (j64 r4.2.2), (k32 (U32 r5.2.2)), (eA 32 1 k8 (Vector.replicate 32 0)), (eA 32 1 k8 (Vector.replicate 32 0)), (eA 32 1 k8 (Vector.replicate 32 0))]), .var (.st 3 [(.ref 3 [4] 4), (.ref 3 [5] 36), (.ref 3 [6] 68)])])), (5, fun _ => ((j64 (((min r8.2.2.length 32 : Nat) : Int))), [.var (.st 100 [(j64 0), (j64 0), (j64 0), (k32 0), (eA 32 1 k8 (Vector.replicate 32 0)), (eA 32 1 k8 (Vector.replicate 32 0)), (eA 32 1 k8 (Vector.replicate 32 0))]), .tail (r1.length * 1), .var (.st 3 [(eL 1 k8 r8.1), (j64 r8.2.1), (eB ((S_codec_Reader.mk r5.1 r5.2.1 ((S_codec_Reader.mk r4.1 r4.2.1 ((S_codec_Reader.mk r3.1 r3.2.1 ((S_codec_Reader.mk r2.1 r2.2.1 ((S_codec_Reader.mk r1 0 true).gmade)).gmade)).gmade)).gmade)).gmade))]), .var (.st 100 [(j64 r2.2.2), (j64 r3.2.2), (j64 r4.2.2), (k32 (U32 r5.2.2)), (eA 32 1 k8 v9), (eA 32 1 k8 (Vector.replicate 32 0)), (eA 32 1 k8 (Vector.replicate 32 0))]), .var (.st 3 [(.ref 3 [4] 4), (.ref 3 [5] 36), (.ref 3 [6] 68)])]))] (by kernel_rfl) (by kernel_rfl) (by kernel_rfl) ⟨fun _ => big_slR hT (k := 1) 3 [4] 4 hs7 (by kernel_rfl) (by kernel_rfl) (by decide), trivial⟩ ⟨big_at (big_call [2] (codec_Reader_Take_rd_ok hr8) codec_Reader_Take_rd_ok_c (by kernel_rfl) (by kernel_rfl)) (by kernel_rfl), big_at (big_cpyV hT k8 (id := 3) (path := [4]) (off := 4) (H' := [.var (.st 100 [(j64 0), (j64 0), (j64 0), (k32 0), (eA 32 1 k8 (Vector.replicate 32 0)), (eA 32 1 k8 (Vector.replicate 32 0)), (eA 32 1 k8 (Vector.replicate 32 0))]), .tail (r1.length * 1), .var (.st 3 [(eL 1 k8 r8.1), (j64 r8.2.1), (eB ((S_codec_Reader.mk r5.1 r5.2.1 ((S_codec_Reader.mk r4.1 r4.2.1 ((S_codec_Reader.mk r3.1 r3.2.1 ((S_codec_Reader.mk r2.1 r2.2.1 ((S_codec_Reader.mk r1 0 true).gmade)).gmade)).gmade)).gmade)).gmade))]), .var (.st 100 [(j64 r2.2.2), (j64 r3.2.2), (j64 r4.2.2), (k32 (U32 r5.2.2)), (eA 32 1 k8 v9), (eA 32 1 k8 (Vector.replicate 32 0)), (eA 32 1 k8 (Vector.replicate 32 0))]), .var (.st 3 [(.ref 3 [4] 4), (.ref 3 [5] 36), (.ref 3 [6] 68)])]) hv9 (by kernel_rfl) (by kernel_rfl) (by kernel_rfl)) (by kernel_rfl), trivial⟩ (inB_n (tn_n ?_))
  refine aw_regU hT m_no [] (by kernel_rfl) (tn_n ?_)
  refine unr_s ?_
  refine aw_sregU hT m_no [] (by kernel_rfl) ?_
  refine aw_seq ?_
  refine aw_condB (b := true) (c := true) rfl (by kernel_rfl) ?_
  refine aw_skip (tn_n ?_)
  refine aw_seq ?_
  refine aw_block ?_
  refine aw_sreg ?_
  obtain ⟨u10, hu10, h⟩ := obind h
  refine awl_big (big_adS hT 4 [] 0 0 3 (k := 1) hu10 (by kernel_rfl) (by kernel_rfl)) (by kernel_rfl) ?_
  refine awl_u hT m_no [] 2 (by kernel_rfl) ?_
  refine awl_nil ?_
  obtain ⟨s11, hs11, h⟩ := obind h
  obtain ⟨r12, hr12, h⟩ := obind h
  obtain ⟨v13, hv13, h⟩ := obind h
  refine aw_drawM hT hmo m_no [(2, (.bsl 3 [5] 36 1 0 32))] [(4, fun _ => ((eL 1 k8 r12.2.2), [.var (.st 100 [(j64 0), (j64 0), (j64 0), (k32 0), (eA 32 1 k8 (Vector.replicate 32 0)), (eA 32 1 k8 (Vector.replicate 32 0)), (eA 32 1 k8 (Vector.replicate 32 0))]), .tail (r1.length * 1), .var (.st 3 [(eL 1 k8 r12.1), (j64 r12.2.1), (eB ((S_codec_Reader.mk r8.1 r8.2.1 ((S_codec_Reader.mk r5.1 r5.2.1 ((S_codec_Reader.mk r4.1 r4.2.1 ((S_codec_Reader.mk r3.1 r3.2.1 ((S_codec_Reader.mk r2.1 r2.2.1 ((S_codec_Reader.mk r1 0 true).gmade)).gmade)).gmade)).gmade)).gmade)).gmade))]), .var (.st 100 [(j64 r2.2.2), (j64 r3.2.2), (j64 r4.2.2), (k32 (U32 r5.2.2)), (eA 32 1 k8 v9), (eA 32 1 k8 (Vector.replicate 32 0)), (eA 32 1 k8 (Vector.replicate 32 0))]), .var (.st 3 [(.ref 3 [4] 4), (.ref 3 [5] 36), (.ref 3 [6] 68)])])), (5, fun _ => ((j64 (((min r12.2.2.length 32 : Nat) : Int))), [.var (.st 100 [(j64 0), (j64 0), (j64 0), (k32 0), (eA 32 1 k8 (Vector.replicate 32 0)), (eA 32 1 k8 (Vector.replicate 32 0)), (eA 32 1 k8 (Vector.replicate 32 0))]), .tail (r1.length * 1), .var (.st 3 [(eL 1 k8 r12.1), (j64 r12.2.1), (eB ((S_codec_Reader.mk r8.1 r8.2.1 ((S_codec_Reader.mk r5.1 r5.2.1 ((S_codec_Reader.mk r4.1 r4.2.1 ((S_codec_Reader.mk r3.1 r3.2.1 ((S_codec_Reader.mk r2.1 r2.2.1 ((S_codec_Reader.mk r1 0 true).gmade)).gmade)).gmade)).gmade)).gmade)).gmade))]), .var (.st 100 [(j64 r2.2.2), (j64 r3.2.2), (j64 r4.2.2), (k32 (U32 r5.2.2)), (eA 32 1 k8 v9), (eA 32 1 k8 v13), (eA 32 1 k8 (Vector.replicate 32 0))]), .var (.st 3 [(.ref 3 [4] 4), (.ref 3 [5] 36), (.ref 3 [6] 68)])]))] (by kernel_rfl) (by kernel_rfl) (by kernel_rfl) ⟨fun _ => big_slR hT (k := 1) 3 [5] 36 hs11 (by kernel_rfl) (by kernel_rfl) (by decide), trivial⟩ ⟨big_at (big_call [2] (codec_Reader_Take_rd_ok hr12) codec_Reader_Take_rd_ok_c (by kernel_rfl) (by kernel_rfl)) (by kernel_rfl), big_at (big_cpyV hT k8 (id := 3) (path := [5]) (off := 36) (H' := [.var (.st 100 [(j64 0), (j64 0), (j64 0), (k32 0), (eA 32 1 k8 (Vector.replicate 32 0)), (eA 32 1 k8 (Vector.replicate 32 0)), (eA 32 1 k8 (Vector.replicate 32 0))]), .tail (r1.length * 1), .var (.st 3 [(eL 1 k8 r12.1), (j64 r12.2.1), (eB ((S_codec_Reader.mk r8.1 r8.2.1 ((S_codec_Reader.mk r5.1 r5.2.1 ((S_codec_Reader.mk r4.1 r4.2.1 ((S_codec_Reader.mk r3.1 r3.2.1 ((S_codec_Reader.mk r2.1 r2.2.1 ((S_codec_Reader.mk r1 0 true).gmade)).gmade)).gmade)).gmade)).gmade)).gmade))]), .var (.st 100 [(j64 r2.2.2), (j64 r3.2.2), (j64 r4.2.2), (k32 (U32 r5.2.2)), (eA 32 1 k8 v9), (eA 32 1 k8 v13), (eA 32 1 k8 (Vector.replicate 32 0))]), .var (.st 3 [(.ref 3 [4] 4), (.ref 3 [5] 36), (.ref 3 [6] 68)])]) hv13 (by kernel_rfl) (by kernel_rfl) (by kernel_rfl)) (by kernel_rfl), trivial⟩ (inB_n (tn_n ?_))
  refine aw_regU hT m_no [] (by kernel_rfl) (tn_n ?_)
  refine unr_s ?_
  refine aw_sregU hT m_no [] (by kernel_rfl) ?_
  refine aw_seq ?_
  refine aw_condB (b := true) (c := true) rfl (by kernel_rfl) ?_
  refine aw_skip (tn_n ?_)
  refine aw_seq ?_
  refine aw_block ?_
  refine aw_sreg ?_
  obtain ⟨u14, hu14, h⟩ := obind h
  refine awl_big (big_adS hT 4 [] 0 0 3 (k := 1) hu14 (by kernel_rfl) (by kernel_rfl)) (by kernel_rfl) ?_
  refine awl_u hT m_no [] 2 (by kernel_rfl) ?_
  refine awl_nil ?_
  obtain ⟨s15, hs15, h⟩ := obind h
  obtain ⟨r16, hr16, h⟩ := obind h
  obtain ⟨v17, hv17, h⟩ := obind h
  refine aw_drawM hT hmo m_no [(2, (.bsl 3 [6] 68 1 0 32))] [(4, fun _ => ((eL 1 k8 r16.2.2), [.var (.st 100 [(j64 0), (j64 0), (j64 0), (k32 0), (eA 32 1 k8 (Vector.replicate 32 0)), (eA 32 1 k8 (Vector.replicate 32 0)), (eA 32 1 k8 (Vector.replicate 32 0))]), .tail (r1.length * 1), .var (.st 3 [(eL 1 k8 r16.1), (j64 r16.2.1), (eB ((S_codec_Reader.mk r12.1 r12.2.1 ((S_codec_Reader.mk r8.1 r8.2.1 ((S_codec_Reader.mk r5.1 r5.2.1 ((S_codec_Reader.mk r4.1 r4.2.1 ((S_codec_Reader.mk r3.1 r3.2.1 ((S_codec_Reader.mk r2.1 r2.2.1 ((S_codec_Reader.mk r1 0 true).gmade)).gmade)).gmade)).gmade)).gmade)).gmade)).gmade))]), .var (.st 100 [(j64 r2.2.2), (j64 r3.2.2), (j64 r4.2.2), (k32 (U32 r5.2.2)), (eA 32 1 k8 v9), (eA 32 1 k8 v13), (eA 32 1 k8 (Vector.replicate 32 0))]), .var (.st 3 [(.ref 3 [4] 4), (.ref 3 [5] 36), (.ref 3 [6] 68)])])), (5, fun _ => ((j64 (((min r16.2.2.length 32 : Nat) : Int))), [.var (.st 100 [(j64 0), (j64 0), (j64 0), (k32 0), (eA 32 1 k8 (Vector.replicate 32 0)), (eA 32 1 k8 (Vector.replicate 32 0)), (eA 32 1 k8 (Vector.replicate 32 0))]), .tail (r1.length * 1), .var (.st 3 [(eL 1 k8 r16.1), (j64 r16.2.1), (eB ((S_codec_Reader.mk r12.1 r12.2.1 ((S_codec_Reader.mk r8.1 r8.2.1 ((S_codec_Reader.mk r5.1 r5.2.1 ((S_codec_Reader.mk r4.1 r4.2.1 ((S_codec_Reader.mk r3.1 r3.2.1 ((S_codec_Reader.mk r2.1 r2.2.1 ((S_codec_Reader.mk r1 0 true).gmade)).gmade)).gmade)).gmade)).gmade)).gmade)).gmade))]), .var (.st 100 [(j64 r2.2.2), (j64 r3.2.2), (j64 r4.2.2), (k32 (U32 r5.2.2)), (eA 32 1 k8 v9), (eA 32 1 k8 v13), (eA 32 1 k8 v17)]), .var (.st 3 [(.ref 3 [4] 4), (.ref 3 [5] 36), (.ref 3 [6] 68)])]))] (by kernel_rfl) (by kernel_rfl) (by kernel_rfl) ⟨fun _ => big_slR hT (k := 1) 3 [6] 68 hs15 (by kernel_rfl) (by kernel_rfl) (by decide), trivial⟩ ⟨big_at (big_call [2] (codec_Reader_Take_rd_ok hr16) codec_Reader_Take_rd_ok_c (by kernel_rfl) (by kernel_rfl)) (by kernel_rfl), big_at (big_cpyV hT k8 (id := 3) (path := [6]) (off := 68) (H' := [.var (.st 100 [(j64 0), (j64 0), (j64 0), (k32 0), (eA 32 1 k8 (Vector.replicate 32 0)), (eA 32 1 k8 (Vector.replicate 32 0)), (eA 32 1 k8 (Vector.replicate 32 0))]), .tail (r1.length * 1), .var (.st 3 [(eL 1 k8 r16.1), (j64 r16.2.1), (eB ((S_codec_Reader.mk r12.1 r12.2.1 ((S_codec_Reader.mk r8.1 r8.2.1 ((S_codec_Reader.mk r5.1 r5.2.1 ((S_codec_Reader.mk r4.1 r4.2.1 ((S_codec_Reader.mk r3.1 r3.2.1 ((S_codec_Reader.mk r2.1 r2.2.1 ((S_codec_Reader.mk r1 0 true).gmade)).gmade)).gmade)).gmade)).gmade)).gmade)).gmade))]), .var (.st 100 [(j64 r2.2.2), (j64 r3.2.2), (j64 r4.2.2), (k32 (U32 r5.2.2)), (eA 32 1 k8 v9), (eA 32 1 k8 v13), (eA 32 1 k8 v17)]), .var (.st 3 [(.ref 3 [4] 4), (.ref 3 [5] 36), (.ref 3 [6] 68)])]) hv17 (by kernel_rfl) (by kernel_rfl) (by kernel_rfl)) (by kernel_rfl), trivial⟩ (inB_n (tn_n ?_))
  refine aw_regU hT m_no [] (by kernel_rfl) (tn_n ?_)
  refine unr_s ?_
  refine aw_sregU hT m_no [] (by kernel_rfl) ?_
  refine aw_seq ?_
  refine aw_condB (b := false) (c := false) rfl (by kernel_rfl) ?_
  refine aw_exit (tn_x (tn_x (inB_e (tn_n ?_))))
  refine aw_seq ?_
  refine aw_sreg ?_
  refine awl_u hT m_no [] 1 (by kernel_rfl) ?_
  obtain ⟨r18, hr18, h⟩ := obind h
  refine awl_big (big_call [2] (codec_Reader_End_r_ok hr18) codec_Reader_End_r_ok_c (by kernel_rfl) (by kernel_rfl)) (by kernel_rfl) ?_
  refine awl_u hT m_no [] 1 (by kernel_rfl) ?_
  refine awl_nil ?_
  refine aw_sregU hT m_no [] (by kernel_rfl) ?_
  refine aw_condH h (by kernel_rfl) (fun _ h => ?_) (fun _ h => ?_)
  · refine aw_sregU hT m_no [] (by kernel_rfl) ?_
    refine aw_ret (tn_r ?_)
    cases h
    exact fin_r (by kernel_rfl)
  · refine aw_skip (tn_n ?_)
    refine aw_sregU hT m_no [] (by kernel_rfl) ?_
    refine aw_ret ?_
    cases h
    exact fin_r (by kernel_rfl)

theorem receipt_Decode_ok_c : callable Try.prog 50 := ⟨_, Try.func50, by decide, rfl⟩

/-! (*umbra/umbraref11.Reader).Take -/
def p_umbraref11_Reader_Take_rd (N : Nat) (a0 : Int) (a1 : S_umbraref11_Reader) : Option (Int × Int × (List Int)) :=
  Option.bind (letO (cond (a1.gE == 0) (decide (a0 < 0)) false) fun x2 =>
  cond x2 (some 2) (some a1.gE)) fun p1 =>
  Option.bind (Option.bind (cond (p1 == 0) (
    letO (I64 (((a1.gB.length : Int)) - a1.gAt)) fun x5 =>
    some (decide (a0 > x5))) (
    some false)) fun p4 =>
  cond p4 (some 4) (some p1)) fun p3 =>
  cond (p3 != 0) (
    some ((a1.gAt, p3, []))) (
    letO (I64 ((I64 (a1.gAt + a0)) - a0)) fun x6 =>
    Option.bind (slcO a1.gB x6 (I64 (a1.gAt + a0))) fun s7 =>
    some ((I64 (a1.gAt + a0), p3, s7)))

theorem umbraref11_Reader_Take_rd_ok {N : Nat} {a0 : Int} {a1 : S_umbraref11_Reader} {r : Int × Int × (List Int)} (h : p_umbraref11_Reader_Take_rd N a0 a1 = some r) : FnM Try.prog 156 [.var (S_umbraref11_Reader.enc a1)] [(.ref 0 [] 0), (j64 a0)] (eL 1 k8 r.2.2) [.var (.st 3 [(eL 1 k8 a1.gB), (j64 r.1), (j64 r.2.1)])] := by
  unfold p_umbraref11_Reader_Take_rd at h
  refine fnM_of_aw (m := 68) (lo := 1) (rs := [.tmp 4]) hT Try.func156 rfl (by kernel_rfl) rfl ?_
  refine aw_sregU hT m_no [] (by kernel_rfl) ?_
  obtain ⟨p1, h, g1⟩ := obind h
  refine aw_joinT ⟨[en 0 (.ref 0 [] 0), en 1 (j64 a0)], [.var (.st 3 [(eL 1 k8 a1.gB), (j64 a1.gAt), (j64 p1)])]⟩ ?_ ?_
  · obtain ⟨x2, hx2, h⟩ := letE h
    refine aw_sregU hT m_no [] (by kernel_rfl) ?_
    refine aw_nms [(13, (eB x2))] (by subst hx2; kernel_rfl) ?_
    refine aw_condH h (by kernel_rfl) (fun _ h => ?_) (fun _ h => ?_)
    · refine aw_regU hT m_no [] (by kernel_rfl) (tn_n ?_)
      cases h
      exact jr (by kernel_rfl)
    · refine aw_skip (tn_n ?_)
      cases h
      exact jr (by kernel_rfl)
  · have h := g1
    obtain ⟨p3, h, g3⟩ := obind h
    refine aw_joinT ⟨[en 0 (.ref 0 [] 0), en 1 (j64 a0)], [.var (.st 3 [(eL 1 k8 a1.gB), (j64 a1.gAt), (j64 p3)])]⟩ ?_ ?_
    · obtain ⟨p4, h, g4⟩ := obind h
      refine aw_joinT ⟨[en 0 (.ref 0 [] 0), en 1 (j64 a0), en 35 (eB p4)], [.var (.st 3 [(eL 1 k8 a1.gB), (j64 a1.gAt), (j64 p1)])]⟩ ?_ ?_
      · refine boolH h (fun hc5 h => ?_) (fun hc5 h => ?_)
        · obtain ⟨x5, hx5, h⟩ := letE h
          refine aw_drawN hT hmo m_no [(5, (.v (.bool true)))] [] (by subst hx5; kernel_rfl) (by subst hx5; kernel_rfl) (by kernel_rfl) ⟨fun _ => big_lit hc5 rfl (plU_big hT (im := false) (by subst hx5; kernel_rfl)), trivial⟩ trivial [(35, (eB (decide (a0 > x5))))] (by subst hx5; kernel_rfl) (tn_n ?_)
          cases h
          exact jr (by kernel_rfl)
        · refine aw_drawM hT hmo m_no [(5, (.v (.bool false)))] [] (by kernel_rfl) (by kernel_rfl) (by kernel_rfl) ⟨fun _ => big_lit hc5 rfl (plU_big hT (im := false) (by kernel_rfl)), trivial⟩ trivial (tn_n ?_)
          cases h
          exact jr (by kernel_rfl)
      · have h := g4
        refine aw_condH h (by kernel_rfl) (fun _ h => ?_) (fun _ h => ?_)
        · refine aw_regU hT m_no [] (by kernel_rfl) (tn_n ?_)
          cases h
          exact jr (by kernel_rfl)
        · refine aw_skip (tn_n ?_)
          cases h
          exact jr (by kernel_rfl)
    · have h := g3
      refine aw_seq ?_
      refine aw_sregU hT m_no [] (by kernel_rfl) ?_
      refine aw_condH h (by kernel_rfl) (fun _ h => ?_) (fun _ h => ?_)
      · refine aw_sregU hT m_no [] (by kernel_rfl) ?_
        refine aw_ret (tn_r ?_)
        cases h
        exact fin_r (by kernel_rfl)
      · refine aw_skip (tn_n ?_)
        refine aw_sregU hT m_no [] (by kernel_rfl) ?_
        obtain ⟨x6, hx6, h⟩ := letE h
        obtain ⟨s7, hs7, h⟩ := obind h
        refine aw_sdrawV hT hmo m_no [(14, (eL 1 k8 s7))] [] (by subst hx6; kernel_rfl) (by subst hx6; kernel_rfl) (by kernel_rfl) ⟨fun _ => big_slc hT (k := 1) k8 hs7 (by subst hx6; kernel_rfl) (by subst hx6; kernel_rfl), trivial⟩ trivial ?_
        refine aw_ret ?_
        cases h
        exact fin_r (by kernel_rfl)

theorem umbraref11_Reader_Take_rd_ok_c : callable Try.prog 156 := ⟨_, Try.func156, by decide, rfl⟩

/-! (*umbra/umbraref11.Reader).Num -/
def p_umbraref11_Reader_Num_rd_L1 (N : Nat) (r4 : Int × Int × (List Int)) : Nat → Int → Int → Option (Int)
  | 0, _, _ => none
  | k + 1, s7, s8 =>
    cond (decide (s8 ≥ 0)) (
      Option.bind (idx r4.2.2 s8) fun e9 =>
      letO (U64 ((U64 (s7 * 256)) + (U64 e9))) fun x10 =>
      p_umbraref11_Reader_Num_rd_L1 N r4 k x10 (I64 (s8 - 1))) (
      some s7)

def p_umbraref11_Reader_Num_rd (N : Nat) (a0 : Int) (a1 : S_umbraref11_Reader) : Option ((List Int) × Int × Int × Int) :=
  Option.bind (Option.bind (cond (a1.gE == 0) (
    letO (cond (decide (a0 < 1)) true (decide (a0 > 8))) fun x3 =>
    some x3) (
    some false)) fun p2 =>
  cond p2 (some 2) (some a1.gE)) fun p1 =>
  Option.bind (p_umbraref11_Reader_Take_rd N (imax a0 0) (S_umbraref11_Reader.mk a1.gB a1.gAt p1)) fun r4 =>
  letO (I64 (((r4.2.2.length : Int)) - 1)) fun x5 =>
  Option.bind (p_umbraref11_Reader_Num_rd_L1 N r4 N 0 x5) fun p6 =>
  some (((S_umbraref11_Reader.mk a1.gB a1.gAt p1).gB, r4.1, r4.2.1, p6))

theorem umbraref11_Reader_Num_rd_ok {N : Nat} {a0 : Int} {a1 : S_umbraref11_Reader} {r : (List Int) × Int × Int × Int} (h : p_umbraref11_Reader_Num_rd N a0 a1 = some r) : FnM Try.prog 109 [.var (S_umbraref11_Reader.enc a1)] [(.ref 0 [] 0), (j64 a0)] (k64 r.2.2.2) [.var (.st 3 [(eL 1 k8 r.1), (j64 r.2.1), (j64 r.2.2.1)])] := by
  unfold p_umbraref11_Reader_Num_rd at h
  refine fnM_of_aw (m := 44) (lo := 1) (rs := [.tmp 4]) hT Try.func109 rfl (by kernel_rfl) rfl ?_
  refine aw_sregU hT m_no [] (by kernel_rfl) ?_
  obtain ⟨p1, h, g1⟩ := obind h
  refine aw_joinT ⟨[en 0 (.ref 0 [] 0), en 1 (j64 a0)], [.var (.st 3 [(eL 1 k8 a1.gB), (j64 a1.gAt), (j64 p1)])]⟩ ?_ ?_
  · obtain ⟨p2, h, g2⟩ := obind h
    refine aw_joinT ⟨[en 0 (.ref 0 [] 0), en 1 (j64 a0), en 20 (eB p2)], [.var (S_umbraref11_Reader.enc a1)]⟩ ?_ ?_
    · refine aw_region ?_
      refine awl_u hT m_no [] 6 (by kernel_rfl) ?_
      refine awl_split 13 h (by kernel_rfl) (fun h => ?_) (fun h => ?_)
      · obtain ⟨x3, hx3, h⟩ := letE h
        refine awl_u hT m_no [13] 7 (by kernel_rfl) ?_
        refine awl_nms [(20, (eB x3))] (by subst hx3; kernel_rfl) ?_
        refine awl_nil (tn_n ?_)
        cases h
        exact jr (by kernel_rfl)
      · refine awl_u hT m_no [13, 16] 7 (by kernel_rfl) ?_
        refine awl_nil (tn_n ?_)
        cases h
        exact jr (by kernel_rfl)
    · have h := g2
      refine aw_condH h (by kernel_rfl) (fun _ h => ?_) (fun _ h => ?_)
      · refine aw_regU hT m_no [] (by kernel_rfl) (tn_n ?_)
        cases h
        exact jr (by kernel_rfl)
      · refine aw_skip (tn_n ?_)
        cases h
        exact jr (by kernel_rfl)
  · have h := g1
    refine aw_sreg ?_
    refine awl_u hT m_no [] 3 (by kernel_rfl) ?_
    obtain ⟨r4, hr4, h⟩ := obind h
    refine awl_big (big_call [0] (umbraref11_Reader_Take_rd_ok hr4) umbraref11_Reader_Take_rd_ok_c (by kernel_rfl) (by kernel_rfl)) (by kernel_rfl) ?_
    refine awl_u hT m_no [] 1 (by kernel_rfl) ?_
    refine awl_nil ?_
    refine aw_sregU hT m_no [] (by kernel_rfl) ?_
    refine aw_seq ?_
    obtain ⟨x5, hx5, h⟩ := letE h
    refine aw_sregU hT m_no [] (by kernel_rfl) ?_
    refine aw_nms [(7, (j64 x5))] (by subst hx5; kernel_rfl) ?_
    obtain ⟨p6, h, g6⟩ := obind h
    refine aw_joinTK ⟨[en 6 (k64 p6)], [.var (.st 3 [(eL 1 k8 ((S_umbraref11_Reader.mk a1.gB a1.gAt p1).gB)), (j64 r4.1), (j64 r4.2.1)])]⟩ ?_ ?_
    · refine aw_block (aw_loop (fun k s => ∃ s7 s8, p_umbraref11_Reader_Num_rd_L1 N r4 k s7 s8 = some p6 ∧ JR (Fr.f 44 1) ⟨[en 5 (eL 1 k8 r4.2.2), en 6 (k64 s7), en 7 (j64 s8)], [.var (.st 3 [(eL 1 k8 ((S_umbraref11_Reader.mk a1.gB a1.gAt p1).gB)), (j64 r4.1), (j64 r4.2.1)])]⟩ s) (fun k s hI => ?_) N _ ⟨_, _, h, jr (by kernel_rfl)⟩)
      obtain ⟨s7, s8, h, hj⟩ := hI
      cases k with
      | zero => cases h
      | succ k =>
        refine aw_jr hj ?_
        refine aw_seq ?_
        refine aw_sregU hT m_no [] (by kernel_rfl) ?_
        refine aw_condH h (by kernel_rfl) (fun _ h => ?_) (fun _ h => ?_)
        · refine aw_skip (tn_n ?_)
          refine aw_seq ?_
          refine aw_block ?_
          refine aw_region ?_
          refine awl_u hT m_no [] 4 (by kernel_rfl) ?_
          obtain ⟨e9, he9, h⟩ := obind h
          refine awl_big (big_idx hT k8 he9 (by kernel_rfl) (by kernel_rfl)) (by kernel_rfl) ?_
          obtain ⟨x10, hx10, h⟩ := letE h
          refine awl_u hT m_no [] 4 (by kernel_rfl) ?_
          refine awl_nms [(6, (k64 x10))] (by subst hx10; kernel_rfl) ?_
          refine awl_nil (inB_n (tn_n ?_))
          refine aw_regU hT m_no [] (by kernel_rfl) (tn_n ?_)
          exact ⟨k, Nat.lt_succ_self k, _, _, h, jr (by kernel_rfl)⟩
        · refine aw_exit (tn_x (tn_x (inB_e (tn_n ?_))))
          cases h
          exact jr (by kernel_rfl)
    · have h := g6
      refine (tn_n ?_)
      refine aw_sregU hT m_no [] (by kernel_rfl) ?_
      refine aw_ret ?_
      cases h
      exact fin_r (by kernel_rfl)

theorem umbraref11_Reader_Num_rd_ok_c : callable Try.prog 109 := ⟨_, Try.func109, by decide, rfl⟩

end Go.UK
