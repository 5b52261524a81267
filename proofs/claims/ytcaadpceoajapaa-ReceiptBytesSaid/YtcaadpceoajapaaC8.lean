/- A part of the proof: what the functions of the program compute. -/
import Derived.Test.YtcaadpceoajapaaC7
namespace Go.UK
open Go Go.Proofs
set_option maxRecDepth 20000
set_option maxHeartbeats 4000000
set_option linter.all false

attribute [local irreducible] owp awl aw FnM NatFn opS Stab TOK Big

/-! (*umbra/umbraref11.Reader).Int -/
def p_umbraref11_Reader_Int_rd (N : Nat) (a0 : Int) (a1 : S_umbraref11_Reader) : Option ((List Int) × Int × Int × Int) :=
  Option.bind (p_umbraref11_Reader_Num_rd N a0 a1) fun r1 =>
  cond (r1.2.2.1 != 0) (
    some ((r1.1, r1.2.1, r1.2.2.1, 0))) (
    Option.bind (p_umbraref11_most N a0) fun r2 =>
    letO (decide (r1.2.2.2 > (U64 (Int.tdiv r2 2)))) fun x3 =>
    cond x3 (
      Option.bind (p_umbraref11_most N a0) fun r4 =>
      letO (I64 (U64 (r4 - r1.2.2.2))) fun x5 =>
      letO (I64 ((I64 (0 - x5)) - 1)) fun x6 =>
      some ((r1.1, r1.2.1, r1.2.2.1, x6))) (
      some ((r1.1, r1.2.1, r1.2.2.1, I64 r1.2.2.2))))

theorem umbraref11_Reader_Int_rd_ok {N : Nat} {a0 : Int} {a1 : S_umbraref11_Reader} {r : (List Int) × Int × Int × Int} (h : p_umbraref11_Reader_Int_rd N a0 a1 = some r) : FnM Try.prog 108 [.var (S_umbraref11_Reader.enc a1)] [(.ref 0 [] 0), (j64 a0)] (j64 r.2.2.2) [.var (.st 3 [(eL 1 k8 r.1), (j64 r.2.1), (j64 r.2.2.1)])] := by
  unfold p_umbraref11_Reader_Int_rd at h
  refine fnM_of_aw (m := 28) (lo := 1) (rs := [.tmp 4]) hT Try.func108 rfl (by kernel_rfl) rfl ?_
  refine aw_sregU hT m_no [] (by kernel_rfl) ?_
  refine aw_sreg ?_
  refine awl_u hT m_no [] 2 (by kernel_rfl) ?_
  obtain ⟨r1, hr1, h⟩ := obind h
  refine awl_big (big_call [0] (umbraref11_Reader_Num_rd_ok hr1) umbraref11_Reader_Num_rd_ok_c (by kernel_rfl) (by kernel_rfl)) (by kernel_rfl) ?_
  refine awl_u hT m_no [] 1 (by kernel_rfl) ?_
  refine awl_nil ?_
  refine aw_seq ?_
  refine aw_sregU hT m_no [] (by kernel_rfl) ?_
  refine aw_condH h (by kernel_rfl) (fun _ h => ?_) (fun _ h => ?_)
  · refine aw_sregU hT m_no [] (by kernel_rfl) ?_
    refine aw_ret (tn_r ?_)
    cases h
    exact fin_r (by kernel_rfl)
  · refine aw_skip (tn_n ?_)
    refine aw_seq ?_
    refine aw_sreg ?_
    refine awl_u hT m_no [] 2 (by kernel_rfl) ?_
    obtain ⟨r2, hr2, h⟩ := obind h
    refine awl_big (big_call [] (umbraref11_most_ok hr2) umbraref11_most_ok_c (by kernel_rfl) (by kernel_rfl)) (by kernel_rfl) ?_
    obtain ⟨x3, hx3, h⟩ := letE h
    refine awl_u hT m_no [] 2 (by kernel_rfl) ?_
    refine awl_nms [(18, (eB x3))] (by subst hx3; kernel_rfl) ?_
    refine awl_nil ?_
    refine aw_condH h (by kernel_rfl) (fun _ h => ?_) (fun _ h => ?_)
    · refine aw_sreg ?_
      refine awl_u hT m_no [] 1 (by kernel_rfl) ?_
      obtain ⟨r4, hr4, h⟩ := obind h
      refine awl_big (big_call [] (umbraref11_most_ok hr4) umbraref11_most_ok_c (by kernel_rfl) (by kernel_rfl)) (by kernel_rfl) ?_
      obtain ⟨x5, hx5, h⟩ := letE h
      obtain ⟨x6, hx6, h⟩ := letE h
      refine awl_u hT m_no [] 6 (by kernel_rfl) ?_
      refine awl_nms [(4, (j64 x6))] (by subst hx6 hx5; kernel_rfl) ?_
      refine awl_nil ?_
      refine aw_ret (tn_r ?_)
      cases h
      exact fin_r (by kernel_rfl)
    · refine aw_skip (tn_n ?_)
      refine aw_sregU hT m_no [] (by kernel_rfl) ?_
      refine aw_ret ?_
      cases h
      exact fin_r (by kernel_rfl)

theorem umbraref11_Reader_Int_rd_ok_c : callable Try.prog 108 := ⟨_, Try.func108, by decide, rfl⟩

/-! umbra/umbraref37.three -/
def p_umbraref37_three_r_L1 (N : Nat)  : Nat → (List Int) → Int → Int → (Vector Int 32) → Int → Option ((List Int) × Int × Int × (Vector Int 32))
  | 0, _, _, _, _, _ => none
  | k + 1, s2, s3, s4, s5, s6 =>
    cond (decide (s6 < 32)) (
      Option.bind (p_umbraref11_Reader_Num_rd N 1 (S_umbraref11_Reader.mk s2 s3 s4)) fun r7 =>
      Option.bind (inRO s6 32) fun _ =>
      Option.bind (s5.toList[s6.toNat]?) fun e9 =>
      p_umbraref37_three_r_L1 N k r7.1 r7.2.1 r7.2.2.1 (s5.setIfInBounds s6.toNat (U8 r7.2.2.2)) (I64 (s6 + 1))) (
      some ((s2, s3, s4, s5)))

def p_umbraref37_three_r (N : Nat) (a0 : S_umbraref11_Reader) : Option ((List Int) × Int × Int × (Vector Int 32)) :=
  Option.bind (p_umbraref37_three_r_L1 N N a0.gB a0.gAt a0.gE (Vector.replicate 32 0) 0) fun p1 =>
  some ((p1.1, p1.2.1, p1.2.2.1, p1.2.2.2))

theorem umbraref37_three_r_ok {N : Nat} {a0 : S_umbraref11_Reader} {r : (List Int) × Int × Int × (Vector Int 32)} (h : p_umbraref37_three_r N a0 = some r) : FnM Try.prog 110 [.var (S_umbraref11_Reader.enc a0)] [(.ref 0 [] 0)] (eA 32 1 k8 r.2.2.2) [.var (.st 3 [(eL 1 k8 r.1), (j64 r.2.1), (j64 r.2.2.1)])] := by
  unfold p_umbraref37_three_r at h
  refine fnM_of_aw (m := 15) (lo := 1) (rs := [.cell 2 53]) hT Try.func110 rfl (by kernel_rfl) rfl ?_
  refine aw_sregU hT m_no [] (by kernel_rfl) ?_
  refine aw_sregU hT m_no [] (by kernel_rfl) ?_
  refine aw_seq ?_
  refine aw_sregU hT m_no [] (by kernel_rfl) ?_
  obtain ⟨p1, h, g1⟩ := obind h
  refine aw_joinTK ⟨[en 2 (.ref 1 [] 0), en 3 (.ref 2 [] 0)], [.var (.st 3 [(eL 1 k8 p1.1), (j64 p1.2.1), (j64 p1.2.2.1)]), .var (eA 32 1 k8 (Vector.replicate 32 0)), .var (eA 32 1 k8 p1.2.2.2)]⟩ ?_ ?_
  · refine aw_block (aw_loop (fun k s => ∃ s2 s3 s4 s5 s6, p_umbraref37_three_r_L1 N k s2 s3 s4 s5 s6 = some p1 ∧ JR (Fr.f 15 1) ⟨[en 0 (.ref 0 [] 0), en 2 (.ref 1 [] 0), en 3 (.ref 2 [] 0), en 4 (j64 s6)], [.var (.st 3 [(eL 1 k8 s2), (j64 s3), (j64 s4)]), .var (eA 32 1 k8 (Vector.replicate 32 0)), .var (eA 32 1 k8 s5)]⟩ s) (fun k s hI => ?_) N _ ⟨_, _, _, _, _, h, jr (by kernel_rfl)⟩)
    obtain ⟨s2, s3, s4, s5, s6, h, hj⟩ := hI
    cases k with
    | zero => cases h
    | succ k =>
      refine aw_jr hj ?_
      refine aw_seq ?_
      refine aw_sregU hT m_no [] (by kernel_rfl) ?_
      refine aw_condH h (by kernel_rfl) (fun _ h => ?_) (fun _ h => ?_)
      · refine aw_skip (tn_n ?_)
        refine aw_seq ?_
        refine aw_block ?_
        refine aw_region ?_
        refine awl_u hT m_no [] 2 (by kernel_rfl) ?_
        obtain ⟨r7, hr7, h⟩ := obind h
        refine awl_big (big_call [0] (umbraref11_Reader_Num_rd_ok hr7) umbraref11_Reader_Num_rd_ok_c (by kernel_rfl) (by kernel_rfl)) (by kernel_rfl) ?_
        refine awl_u hT m_no [] 1 (by kernel_rfl) ?_
        obtain ⟨u8, hu8, h⟩ := obind h
        refine awl_big (big_adR hT (k := 1) 2 [] 0 hu8 (by kernel_rfl) (by kernel_rfl)) (by kernel_rfl) ?_
        obtain ⟨e9, he9, h⟩ := obind h
        refine awl_big (big_stV hT k8 0 s5 he9 (U8 r7.2.2.2) (by kernel_rfl) (by kernel_rfl) (H' := [.var (.st 3 [(eL 1 k8 r7.1), (j64 r7.2.1), (j64 r7.2.2.1)]), .var (eA 32 1 k8 (Vector.replicate 32 0)), .var (eA 32 1 k8 (s5.setIfInBounds s6.toNat (U8 r7.2.2.2)))]) (by kernel_rfl)) (by kernel_rfl) ?_
        refine awl_nil (inB_n (tn_n ?_))
        refine aw_regU hT m_no [] (by kernel_rfl) (tn_n ?_)
        exact ⟨k, Nat.lt_succ_self k, _, _, _, _, _, h, jr (by kernel_rfl)⟩
      · refine aw_exit (tn_x (tn_x (inB_e (tn_n ?_))))
        cases h
        exact jr (by kernel_rfl)
  · have h := g1
    refine (tn_n ?_)
    refine aw_sregU hT m_no [] (by kernel_rfl) ?_
    refine aw_ret ?_
    cases h
    exact fin_r (by kernel_rfl)

theorem umbraref37_three_r_ok_c : callable Try.prog 110 := ⟨_, Try.func110, by decide, rfl⟩

/-! (*umbra/umbraref11.Reader).End -/
def p_umbraref11_Reader_End_r (N : Nat) (a0 : S_umbraref11_Reader) : Option (Int) :=
  Option.bind (cond (a0.gE == 0) (
    letO (decide (a0.gAt < ((a0.gB.length : Int)))) fun x2 =>
    some x2) (
    some false)) fun p1 =>
  cond p1 (some 5) (some a0.gE)

theorem umbraref11_Reader_End_r_ok {N : Nat} {a0 : S_umbraref11_Reader} {r : Int} (h : p_umbraref11_Reader_End_r N a0 = some r) : FnM Try.prog 111 [.var (S_umbraref11_Reader.enc a0)] [(.ref 0 [] 0)] (j64 r) [.var (S_umbraref11_Reader.enc a0)] := by
  unfold p_umbraref11_Reader_End_r at h
  refine fnM_of_aw (m := 24) (lo := 1) (rs := [.tmp 2]) hT Try.func111 rfl (by kernel_rfl) rfl ?_
  refine aw_sregU hT m_no [] (by kernel_rfl) ?_
  refine aw_seq ?_
  obtain ⟨p1, h, g1⟩ := obind h
  refine aw_joinT ⟨[en 0 (.ref 0 [] 0), en 19 (eB p1)], [.var (S_umbraref11_Reader.enc a0)]⟩ ?_ ?_
  · refine boolH h (fun hc5 h => ?_) (fun hc5 h => ?_)
    · obtain ⟨x2, hx2, h⟩ := letE h
      refine aw_drawN hT hmo m_no [(5, (.v (.bool true)))] [] (by subst hx2; kernel_rfl) (by subst hx2; kernel_rfl) (by kernel_rfl) ⟨fun _ => big_lit hc5 rfl (plU_big hT (im := false) (by subst hx2; kernel_rfl)), trivial⟩ trivial [(19, (eB x2))] (by subst hx2; kernel_rfl) (tn_n ?_)
      cases h
      exact jr (by kernel_rfl)
    · refine aw_drawM hT hmo m_no [(5, (.v (.bool false)))] [] (by kernel_rfl) (by kernel_rfl) (by kernel_rfl) ⟨fun _ => big_lit hc5 rfl (plU_big hT (im := false) (by kernel_rfl)), trivial⟩ trivial (tn_n ?_)
      cases h
      exact jr (by kernel_rfl)
  · have h := g1
    refine aw_condH h (by kernel_rfl) (fun _ h => ?_) (fun _ h => ?_)
    · refine aw_sregU hT m_no [] (by kernel_rfl) ?_
      refine aw_ret (tn_r ?_)
      cases h
      exact fin_r (by kernel_rfl)
    · refine aw_skip (tn_n ?_)
      refine aw_sregU hT m_no [] (by kernel_rfl) ?_
      refine aw_ret ?_
      cases h
      exact fin_r (by kernel_rfl)

theorem umbraref11_Reader_End_r_ok_c : callable Try.prog 111 := ⟨_, Try.func111, by decide, rfl⟩

/-! umbra/umbraref37.Decode -/
def p_umbraref37_Decode (N : Nat) (a0 : (List Int)) : Option (S_api_Receipt × Int) :=
  Option.bind (p_umbraref11_Reader_Int_rd N 8 (S_umbraref11_Reader.mk a0 0 0)) fun r1 =>
  Option.bind (p_umbraref11_Reader_Int_rd N 8 (S_umbraref11_Reader.mk r1.1 r1.2.1 r1.2.2.1)) fun r2 =>
  Option.bind (p_umbraref11_Reader_Int_rd N 8 (S_umbraref11_Reader.mk r2.1 r2.2.1 r2.2.2.1)) fun r3 =>
  Option.bind (p_umbraref11_Reader_Num_rd N 4 (S_umbraref11_Reader.mk r3.1 r3.2.1 r3.2.2.1)) fun r4 =>
  Option.bind (p_umbraref37_three_r N (S_umbraref11_Reader.mk r4.1 r4.2.1 r4.2.2.1)) fun r5 =>
  Option.bind (p_umbraref37_three_r N (S_umbraref11_Reader.mk r5.1 r5.2.1 r5.2.2.1)) fun r6 =>
  Option.bind (p_umbraref37_three_r N (S_umbraref11_Reader.mk r6.1 r6.2.1 r6.2.2.1)) fun r7 =>
  Option.bind (p_umbraref11_Reader_End_r N (S_umbraref11_Reader.mk r7.1 r7.2.1 r7.2.2.1)) fun r8 =>
  cond (r8 != 0) (
    some ((S_api_Receipt.mk 0 0 0 0 (Vector.replicate 32 0) (Vector.replicate 32 0) (Vector.replicate 32 0), r8))) (
    some ((S_api_Receipt.mk r1.2.2.2 r2.2.2.2 r3.2.2.2 (U32 r4.2.2.2) r5.2.2.2 r6.2.2.2 r7.2.2.2, 0)))

theorem umbraref37_Decode_ok {N : Nat} {a0 : (List Int)} {r : S_api_Receipt × Int} (h : p_umbraref37_Decode N a0 = some r) : FnM Try.prog 51 [] [(eL 1 k8 a0)] (.tup [(S_api_Receipt.enc r.1), (j64 r.2)]) [] := by
  unfold p_umbraref37_Decode at h
  refine fnM_of_aw (m := 39) (lo := 0) (rs := [.cell 2 59, .tmp 3]) hT Try.func51 rfl (by kernel_rfl) rfl ?_
  refine aw_sregU hT m_no [] (by kernel_rfl) ?_
  refine aw_sregU hT m_no [] (by kernel_rfl) ?_
  refine aw_sregU hT m_no [] (by kernel_rfl) ?_
  refine aw_sreg ?_
  refine awl_u hT m_no [] 1 (by kernel_rfl) ?_
  obtain ⟨r1, hr1, h⟩ := obind h
  refine awl_big (big_call [1] (umbraref11_Reader_Int_rd_ok hr1) umbraref11_Reader_Int_rd_ok_c (by kernel_rfl) (by kernel_rfl)) (by kernel_rfl) ?_
  first | refine awl_to ⟨[en 2 (.ref 0 [] 0), en 4 (.ref 1 [] 0), en 5 (.ref 2 [] 0), en 11 (j64 r1.2.2.2)], [.var (.st 100 [(j64 0), (j64 0), (j64 0), (k32 0), (eA 32 1 k8 (Vector.replicate 32 0)), (eA 32 1 k8 (Vector.replicate 32 0)), (eA 32 1 k8 (Vector.replicate 32 0))]), .var (.st 3 [(eL 1 k8 r1.1), (j64 r1.2.1), (j64 r1.2.2.1)]), .var (.st 100 [(j64 0), (j64 0), (j64 0), (k32 0), (eA 32 1 k8 (Vector.replicate 32 0)), (eA 32 1 k8 (Vector.replicate 32 0)), (eA 32 1 k8 (Vector.replicate 32 0))])]⟩ (by kernel_rfl) ?_ | skip
  refine awl_u hT m_no [] 2 (by kernel_rfl) ?_
  refine awl_nil ?_
  refine aw_sreg ?_
  refine awl_u hT m_no [] 1 (by kernel_rfl) ?_
  obtain ⟨r2, hr2, h⟩ := obind h
  refine awl_big (big_call [1] (umbraref11_Reader_Int_rd_ok hr2) umbraref11_Reader_Int_rd_ok_c (by kernel_rfl) (by kernel_rfl)) (by kernel_rfl) ?_
  refine awl_u hT m_no [] 2 (by kernel_rfl) ?_
  refine awl_nil ?_
  refine aw_sreg ?_
  refine awl_u hT m_no [] 1 (by kernel_rfl) ?_
  obtain ⟨r3, hr3, h⟩ := obind h
  refine awl_big (big_call [1] (umbraref11_Reader_Int_rd_ok hr3) umbraref11_Reader_Int_rd_ok_c (by kernel_rfl) (by kernel_rfl)) (by kernel_rfl) ?_
  refine awl_u hT m_no [] 2 (by kernel_rfl) ?_
  refine awl_nil ?_
  refine aw_sreg ?_
  refine awl_u hT m_no [] 1 (by kernel_rfl) ?_
  obtain ⟨r4, hr4, h⟩ := obind h
  refine awl_big (big_call [1] (umbraref11_Reader_Num_rd_ok hr4) umbraref11_Reader_Num_rd_ok_c (by kernel_rfl) (by kernel_rfl)) (by kernel_rfl) ?_
  refine awl_u hT m_no [] 3 (by kernel_rfl) ?_
  refine awl_nil ?_
  refine aw_sreg ?_
  refine awl_u hT m_no [] 1 (by kernel_rfl) ?_
  obtain ⟨r5, hr5, h⟩ := obind h
  refine awl_big (big_call [1] (umbraref37_three_r_ok hr5) umbraref37_three_r_ok_c (by kernel_rfl) (by kernel_rfl)) (by kernel_rfl) ?_
  first | refine awl_to ⟨[en 2 (.ref 0 [] 0), en 4 (.ref 1 [] 0), en 5 (.ref 2 [] 0), en 24 (eA 32 1 k8 r5.2.2.2)], [.var (.st 100 [(j64 0), (j64 0), (j64 0), (k32 0), (eA 32 1 k8 (Vector.replicate 32 0)), (eA 32 1 k8 (Vector.replicate 32 0)), (eA 32 1 k8 (Vector.replicate 32 0))]), .var (.st 3 [(eL 1 k8 r5.1), (j64 r5.2.1), (j64 r5.2.2.1)]), .var (.st 100 [(j64 r1.2.2.2), (j64 r2.2.2.2), (j64 r3.2.2.2), (k32 (U32 r4.2.2.2)), (eA 32 1 k8 (Vector.replicate 32 0)), (eA 32 1 k8 (Vector.replicate 32 0)), (eA 32 1 k8 (Vector.replicate 32 0))])]⟩ (by kernel_rfl) ?_ | skip
  refine awl_u hT m_no [] 2 (by kernel_rfl) ?_
  refine awl_nil ?_
  refine aw_sreg ?_
  refine awl_u hT m_no [] 1 (by kernel_rfl) ?_
  obtain ⟨r6, hr6, h⟩ := obind h
  refine awl_big (big_call [1] (umbraref37_three_r_ok hr6) umbraref37_three_r_ok_c (by kernel_rfl) (by kernel_rfl)) (by kernel_rfl) ?_
  refine awl_u hT m_no [] 2 (by kernel_rfl) ?_
  refine awl_nil ?_
  refine aw_sreg ?_
  refine awl_u hT m_no [] 1 (by kernel_rfl) ?_
  obtain ⟨r7, hr7, h⟩ := obind h
  refine awl_big (big_call [1] (umbraref37_three_r_ok hr7) umbraref37_three_r_ok_c (by kernel_rfl) (by kernel_rfl)) (by kernel_rfl) ?_
  refine awl_u hT m_no [] 2 (by kernel_rfl) ?_
  refine awl_nil ?_
  refine aw_seq ?_
  refine aw_sreg ?_
  refine awl_u hT m_no [] 1 (by kernel_rfl) ?_
  obtain ⟨r8, hr8, h⟩ := obind h
  refine awl_big (big_call [1] (umbraref11_Reader_End_r_ok hr8) umbraref11_Reader_End_r_ok_c (by kernel_rfl) (by kernel_rfl)) (by kernel_rfl) ?_
  refine awl_u hT m_no [] 1 (by kernel_rfl) ?_
  refine awl_nil ?_
  refine aw_sregU hT m_no [] (by kernel_rfl) ?_
  refine aw_condH h (by kernel_rfl) (fun _ h => ?_) (fun _ h => ?_)
  · refine aw_sregU hT m_no [] (by kernel_rfl) ?_
    refine aw_ret (tn_r ?_)
    cases h
    exact fin_r (by kernel_rfl)
  · refine aw_skip (tn_n ?_)
    refine aw_sregU hT m_no [] (by kernel_rfl) ?_
    refine aw_ret ?_
    cases h
    exact fin_r (by kernel_rfl)

theorem umbraref37_Decode_ok_c : callable Try.prog 51 := ⟨_, Try.func51, by decide, rfl⟩

/-! bytes.Equal -/
def p_bytes_Equal (N : Nat) (a0 : (List Int)) (a1 : (List Int)) : Option (Bool) :=
  letO (ByteArray.toList (strO a0) == ByteArray.toList (strO a1)) fun x1 =>
  some x1

theorem bytes_Equal_ok {N : Nat} {a0 : (List Int)} {a1 : (List Int)} {r : Bool} (h : p_bytes_Equal N a0 a1 = some r) : FnM Try.prog 52 [] [(eL 1 k8 a0), (eL 1 k8 a1)] (eB r) [] := by
  unfold p_bytes_Equal at h
  refine fnM_of_aw (m := 10) (lo := 0) (rs := [.tmp 4]) hT Try.func52 rfl (by kernel_rfl) rfl ?_
  refine aw_sregU hT m_no [] (by kernel_rfl) ?_
  refine aw_sreg ?_
  refine awl_u hT m_no [] 1 (by kernel_rfl) ?_
  refine awl_big (big_b2s hT a0 (v := (eL 1 k8 a0)) (e := 5) (by kernel_rfl) (by kernel_rfl) (by kernel_rfl)) (by kernel_rfl) ?_
  refine awl_u hT m_no [] 1 (by kernel_rfl) ?_
  refine awl_big (big_b2s hT a1 (v := (eL 1 k8 a1)) (e := 5) (by kernel_rfl) (by kernel_rfl) (by kernel_rfl)) (by kernel_rfl) ?_
  obtain ⟨x1, hx1, h⟩ := letE h
  refine awl_u hT m_no [] 2 (by kernel_rfl) ?_
  refine awl_nms [(4, (eB x1))] (by subst hx1; kernel_rfl) ?_
  refine awl_nil ?_
  refine aw_ret ?_
  cases h
  exact fin_r (by kernel_rfl)

theorem bytes_Equal_ok_c : callable Try.prog 52 := ⟨_, Try.func52, by decide, rfl⟩

/-! umbra/umbralaw37.ReceiptBytes -/
def m_umbralaw37_ReceiptBytes : Nat → Bool := imL [2]

def p_umbralaw37_ReceiptBytes (N : Nat) (a0 : S_api_Receipt) (a1 : (List Int)) : Option (Bool) :=
  letO (imin ((a1.length : Int)) 150) fun x2 =>
  Option.bind (slcO a1 0 x2) fun s3 =>
  Option.bind (p_receipt_Decode N s3) fun r4 =>
  Option.bind (p_umbraref37_Decode N s3) fun r5 =>
  Option.bind (Option.bind (p_receipt_Encode N a0) fun r7 =>
  Option.bind (p_umbraref37_Encode N a0) fun r8 =>
  Option.bind (p_bytes_Equal N r7 r8) fun r9 =>
  cond r9 (
    letO (S_api_Receipt.eq r4.1 r5.1) fun x10 =>
    cond x10 (
      cond (r4.2 == r5.2) (
        Option.bind (p_umbralaw37_works N ) fun r11 =>
        some r11) (
        some false)) (
      some false)) (
    some false)) fun p6 =>
  some p6

theorem umbralaw37_ReceiptBytes_ok {N : Nat} {a0 : S_api_Receipt} {a1 : (List Int)} {r : Bool} (h : p_umbralaw37_ReceiptBytes N a0 a1 = some r) : FnM Try.prog 12 [] [(S_api_Receipt.enc a0), (eL 1 k8 a1)] (eB r) [] := by
  unfold p_umbralaw37_ReceiptBytes at h
  refine fnM_of_aw (m := 42) (lo := 0) (rs := [.tmp 4]) hT Try.func12 rfl (by kernel_rfl) rfl ?_
  refine aw_sregU hT m_umbralaw37_ReceiptBytes [] (by kernel_rfl) ?_
  refine aw_sreg ?_
  obtain ⟨x2, hx2, h⟩ := letE h
  refine awl_u hT m_umbralaw37_ReceiptBytes [] 4 (by kernel_rfl) ?_
  refine awl_nms [(12, (j64 x2))] (by subst hx2; kernel_rfl) ?_
  obtain ⟨s3, hs3, h⟩ := obind h
  refine awl_big (big_slc hT (k := 1) k8 hs3 (by kernel_rfl) (by kernel_rfl)) (by kernel_rfl) ?_
  refine awl_u hT m_umbralaw37_ReceiptBytes [] 1 (by kernel_rfl) ?_
  refine awl_nil ?_
  refine aw_sreg ?_
  refine awl_u hT m_umbralaw37_ReceiptBytes [] 1 (by kernel_rfl) ?_
  obtain ⟨r4, hr4, h⟩ := obind h
  refine awl_big (big_call [] (receipt_Decode_ok hr4) receipt_Decode_ok_c (by kernel_rfl) (by kernel_rfl)) (by kernel_rfl) ?_
  refine awl_u hT m_umbralaw37_ReceiptBytes [] 6 (by kernel_rfl) ?_
  refine awl_nil ?_
  refine aw_sreg ?_
  refine awl_u hT m_umbralaw37_ReceiptBytes [] 1 (by kernel_rfl) ?_
  obtain ⟨r5, hr5, h⟩ := obind h
  refine awl_big (big_call [] (umbraref37_Decode_ok hr5) umbraref37_Decode_ok_c (by kernel_rfl) (by kernel_rfl)) (by kernel_rfl) ?_
  refine awl_u hT m_umbralaw37_ReceiptBytes [] 6 (by kernel_rfl) ?_
  refine awl_nil ?_
  obtain ⟨p6, h, g6⟩ := obind h
  refine aw_joinT ⟨[en 4 (eB p6)], [.var (S_api_Receipt.enc r4.1), .var (S_api_Receipt.enc r5.1)]⟩ ?_ ?_
  · obtain ⟨r7, hr7, h⟩ := obind h
    obtain ⟨r8, hr8, h⟩ := obind h
    obtain ⟨r9, hr9, h⟩ := obind h
    refine boolH h (fun hc5 h => ?_) (fun hc5 h => ?_)
    · obtain ⟨x10, hx10, h⟩ := letE h
      refine boolH h (fun hc10 h => ?_) (fun hc10 h => ?_)
      · refine boolH h (fun hc15 h => ?_) (fun hc15 h => ?_)
        · obtain ⟨r11, hr11, h⟩ := obind h
          refine aw_drawN hT hmo m_umbralaw37_ReceiptBytes [(1, (eL 1 k8 r7)), (3, (eL 1 k8 r8)), (4, (eB r9)), (5, (.v (.bool true))), (8, (eB (S_api_Receipt.eq r4.1 r5.1))), (10, (.v (.bool true))), (15, (.v (.bool true))), (16, (eB r11))] [] (by subst hx10; kernel_rfl) (by subst hx10; kernel_rfl) (by kernel_rfl) ⟨fun _ => big_call0 (receipt_Encode_ok hr7) receipt_Encode_ok_c (by kernel_rfl) (by kernel_rfl) (by kernel_rfl), fun _ => big_call0 (umbraref37_Encode_ok hr8) umbraref37_Encode_ok_c (by kernel_rfl) (by kernel_rfl) (by kernel_rfl), fun _ => big_call0 (bytes_Equal_ok hr9) bytes_Equal_ok_c (by kernel_rfl) (by kernel_rfl) (by kernel_rfl), fun _ => big_lit hc5 rfl (plU_big hT (im := false) (by subst hx10; kernel_rfl)), fun _ => big_eql eqT_59 (r4.1 : S_api_Receipt) (r5.1 : S_api_Receipt) (by kernel_rfl) (by kernel_rfl) (fun _ => rfl) (fun _ => rfl) (by kernel_rfl) (by kernel_rfl), fun _ => big_lit hc10 rfl (plU_big hT (im := false) (by subst hx10; kernel_rfl)), fun _ => big_lit hc15 rfl (plU_big hT (im := false) (by subst hx10; kernel_rfl)), fun _ => big_call0 (umbralaw37_works_ok hr11) umbralaw37_works_ok_c (by subst hx10; kernel_rfl) (by subst hx10; kernel_rfl) (by subst hx10; kernel_rfl), trivial⟩ trivial [] (by subst hx10; kernel_rfl) (tn_n ?_)
          cases h
          exact jr (by kernel_rfl)
        · refine aw_drawN hT hmo m_umbralaw37_ReceiptBytes [(1, (eL 1 k8 r7)), (3, (eL 1 k8 r8)), (4, (eB r9)), (5, (.v (.bool true))), (8, (eB (S_api_Receipt.eq r4.1 r5.1))), (10, (.v (.bool true))), (15, (.v (.bool false)))] [] (by subst hx10; kernel_rfl) (by subst hx10; kernel_rfl) (by kernel_rfl) ⟨fun _ => big_call0 (receipt_Encode_ok hr7) receipt_Encode_ok_c (by kernel_rfl) (by kernel_rfl) (by kernel_rfl), fun _ => big_call0 (umbraref37_Encode_ok hr8) umbraref37_Encode_ok_c (by kernel_rfl) (by kernel_rfl) (by kernel_rfl), fun _ => big_call0 (bytes_Equal_ok hr9) bytes_Equal_ok_c (by kernel_rfl) (by kernel_rfl) (by kernel_rfl), fun _ => big_lit hc5 rfl (plU_big hT (im := false) (by subst hx10; kernel_rfl)), fun _ => big_eql eqT_59 (r4.1 : S_api_Receipt) (r5.1 : S_api_Receipt) (by kernel_rfl) (by kernel_rfl) (fun _ => rfl) (fun _ => rfl) (by kernel_rfl) (by kernel_rfl), fun _ => big_lit hc10 rfl (plU_big hT (im := false) (by subst hx10; kernel_rfl)), fun _ => big_lit hc15 rfl (plU_big hT (im := false) (by subst hx10; kernel_rfl)), trivial⟩ trivial [] (by subst hx10; kernel_rfl) (tn_n ?_)
          cases h
          exact jr (by kernel_rfl)
      · refine aw_drawN hT hmo m_umbralaw37_ReceiptBytes [(1, (eL 1 k8 r7)), (3, (eL 1 k8 r8)), (4, (eB r9)), (5, (.v (.bool true))), (8, (eB (S_api_Receipt.eq r4.1 r5.1))), (10, (.v (.bool false)))] [] (by subst hx10; kernel_rfl) (by subst hx10; kernel_rfl) (by kernel_rfl) ⟨fun _ => big_call0 (receipt_Encode_ok hr7) receipt_Encode_ok_c (by kernel_rfl) (by kernel_rfl) (by kernel_rfl), fun _ => big_call0 (umbraref37_Encode_ok hr8) umbraref37_Encode_ok_c (by kernel_rfl) (by kernel_rfl) (by kernel_rfl), fun _ => big_call0 (bytes_Equal_ok hr9) bytes_Equal_ok_c (by kernel_rfl) (by kernel_rfl) (by kernel_rfl), fun _ => big_lit hc5 rfl (plU_big hT (im := false) (by subst hx10; kernel_rfl)), fun _ => big_eql eqT_59 (r4.1 : S_api_Receipt) (r5.1 : S_api_Receipt) (by kernel_rfl) (by kernel_rfl) (fun _ => rfl) (fun _ => rfl) (by kernel_rfl) (by kernel_rfl), fun _ => big_lit hc10 rfl (plU_big hT (im := false) (by subst hx10; kernel_rfl)), trivial⟩ trivial [] (by subst hx10; kernel_rfl) (tn_n ?_)
        cases h
        exact jr (by kernel_rfl)
    · refine aw_drawM hT hmo m_umbralaw37_ReceiptBytes [(1, (eL 1 k8 r7)), (3, (eL 1 k8 r8)), (4, (eB r9)), (5, (.v (.bool false)))] [] (by kernel_rfl) (by kernel_rfl) (by kernel_rfl) ⟨fun _ => big_call0 (receipt_Encode_ok hr7) receipt_Encode_ok_c (by kernel_rfl) (by kernel_rfl) (by kernel_rfl), fun _ => big_call0 (umbraref37_Encode_ok hr8) umbraref37_Encode_ok_c (by kernel_rfl) (by kernel_rfl) (by kernel_rfl), fun _ => big_call0 (bytes_Equal_ok hr9) bytes_Equal_ok_c (by kernel_rfl) (by kernel_rfl) (by kernel_rfl), fun _ => big_lit hc5 rfl (plU_big hT (im := false) (by kernel_rfl)), trivial⟩ trivial (tn_n ?_)
      cases h
      exact jr (by kernel_rfl)
  · have h := g6
    refine aw_ret ?_
    cases h
    exact fin_r (by kernel_rfl)

theorem umbralaw37_ReceiptBytes_ok_c : callable Try.prog 12 := ⟨_, Try.func12, by decide, rfl⟩

end Go.UK
