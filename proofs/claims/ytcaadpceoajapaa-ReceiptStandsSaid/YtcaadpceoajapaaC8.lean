/- A part of the proof: what the functions of the program compute. -/
import Derived.Test.YtcaadpceoajapaaC7
namespace Go.UK
open Go Go.Proofs
set_option maxRecDepth 20000
set_option maxHeartbeats 4000000
set_option linter.all false

attribute [local irreducible] owp awl aw FnM NatFn opS Stab TOK Big

/-! (*umbra/umbraref11.Reader).Int -/
def p_umbraref11_Reader_Int_rd (N : Nat) (a0 : Int) (a1 : S_umbraref11_Reader) : Option ((List Int) × Int × Int × Int) :=
  Option.bind (p_umbraref11_Reader_Num_rd N a0 a1) fun r1 =>
  cond (r1.2.2.1 != 0) (
    some ((r1.1, r1.2.1, r1.2.2.1, 0))) (
    Option.bind (p_umbraref11_most N a0) fun r2 =>
    letO (decide (r1.2.2.2 > (U64 (Int.tdiv r2 2)))) fun x3 =>
    cond x3 (
      Option.bind (p_umbraref11_most N a0) fun r4 =>
      letO (I64 (U64 (r4 - r1.2.2.2))) fun x5 =>
      letO (I64 ((I64 (0 - x5)) - 1)) fun x6 =>
      some ((r1.1, r1.2.1, r1.2.2.1, x6))) (
      some ((r1.1, r1.2.1, r1.2.2.1, I64 r1.2.2.2))))

theorem umbraref11_Reader_Int_rd_ok {N : Nat} {a0 : Int} {a1 : S_umbraref11_Reader} {r : (List Int) × Int × Int × Int} (h : p_umbraref11_Reader_Int_rd N a0 a1 = some r) : FnM Try.prog 108 [.var (S_umbraref11_Reader.enc a1)] [(.ref 0 [] 0), (j64 a0)] (j64 r.2.2.2) [.var (.st 3 [(eL 1 k8 r.1), (j64 r.2.1), (j64 r.2.2.1)])] := by
  unfold p_umbraref11_Reader_Int_rd at h
  refine fnM_of_aw (m := 28) (lo := 1) (rs := [.tmp 4]) hT Try.func108 rfl (by kernel_rfl) rfl ?_
  refine aw_sregU hT m_no [] (by kernel_rfl) ?_
  refine aw_sreg ?_
  refine awl_u hT m_no [] 2 (by kernel_rfl) ?_
  obtain ⟨r1, hr1, h⟩ := obind h
  refine awl_big (big_call [0] (umbraref11_Reader_Num_rd_ok hr1) umbraref11_Reader_Num_rd_ok_c (by kernel_rfl) (by kernel_rfl)) (by kernel_rfl) ?_
  refine awl_u hT m_no [] 1 (by kernel_rfl) ?_
  refine awl_nil ?_
  refine aw_seq ?_
  refine aw_sregU hT m_no [] (by kernel_rfl) ?_
  refine aw_condH h (by kernel_rfl) (fun _ h => ?_) (fun _ h => ?_)
  · refine aw_sregU hT m_no [] (by kernel_rfl) ?_
    refine aw_ret (tn_r ?_)
    cases h
    exact fin_r (by kernel_rfl)
  · refine aw_skip (tn_n ?_)
    refine aw_seq ?_
    refine aw_sreg ?_
    refine awl_u hT m_no [] 2 (by kernel_rfl) ?_
    obtain ⟨r2, hr2, h⟩ := obind h
    refine awl_big (big_call [] (umbraref11_most_ok hr2) umbraref11_most_ok_c (by kernel_rfl) (by kernel_rfl)) (by kernel_rfl) ?_
    obtain ⟨x3, hx3, h⟩ := letE h
    refine awl_u hT m_no [] 2 (by kernel_rfl) ?_
    refine awl_nms [(18, (eB x3))] (by subst hx3; kernel_rfl) ?_
    refine awl_nil ?_
    refine aw_condH h (by kernel_rfl) (fun _ h => ?_) (fun _ h => ?_)
    · refine aw_sreg ?_
      refine awl_u hT m_no [] 1 (by kernel_rfl) ?_
      obtain ⟨r4, hr4, h⟩ := obind h
      refine awl_big (big_call [] (umbraref11_most_ok hr4) umbraref11_most_ok_c (by kernel_rfl) (by kernel_rfl)) (by kernel_rfl) ?_
      obtain ⟨x5, hx5, h⟩ := letE h
      obtain ⟨x6, hx6, h⟩ := letE h
      refine awl_u hT m_no [] 6 (by kernel_rfl) ?_
      refine awl_nms [(4, (j64 x6))] (by subst hx6 hx5; kernel_rfl) ?_
      refine awl_nil ?_
      refine aw_ret (tn_r ?_)
      cases h
      exact fin_r (by kernel_rfl)
    · refine aw_skip (tn_n ?_)
      refine aw_sregU hT m_no [] (by kernel_rfl) ?_
      refine aw_ret ?_
      cases h
      exact fin_r (by kernel_rfl)

theorem umbraref11_Reader_Int_rd_ok_c : callable Try.prog 108 := ⟨_, Try.func108, by decide, rfl⟩

/-! umbra/umbraref37.three -/
def p_umbraref37_three_r_L1 (N : Nat)  : Nat → (List Int) → Int → Int → (Vector Int 32) → Int → Option ((List Int) × Int × Int × (Vector Int 32))
  | 0, _, _, _, _, _ => none
  | k + 1, s2, s3, s4, s5, s6 =>
    cond (decide (s6 < 32)) (
      Option.bind (p_umbraref11_Reader_Num_rd N 1 (S_umbraref11_Reader.mk s2 s3 s4)) fun r7 =>
      Option.bind (inRO s6 32) fun _ =>
      Option.bind (s5.toList[s6.toNat]?) fun e9 =>
      p_umbraref37_three_r_L1 N k r7.1 r7.2.1 r7.2.2.1 (s5.setIfInBounds s6.toNat (U8 r7.2.2.2)) (I64 (s6 + 1))) (
      some ((s2, s3, s4, s5)))

def p_umbraref37_three_r (N : Nat) (a0 : S_umbraref11_Reader) : Option ((List Int) × Int × Int × (Vector Int 32)) :=
  Option.bind (p_umbraref37_three_r_L1 N N a0.gB a0.gAt a0.gE (Vector.replicate 32 0) 0) fun p1 =>
  some ((p1.1, p1.2.1, p1.2.2.1, p1.2.2.2))

theorem umbraref37_three_r_ok {N : Nat} {a0 : S_umbraref11_Reader} {r : (List Int) × Int × Int × (Vector Int 32)} (h : p_umbraref37_three_r N a0 = some r) : FnM Try.prog 110 [.var (S_umbraref11_Reader.enc a0)] [(.ref 0 [] 0)] (eA 32 1 k8 r.2.2.2) [.var (.st 3 [(eL 1 k8 r.1), (j64 r.2.1), (j64 r.2.2.1)])] := by
  unfold p_umbraref37_three_r at h
  refine fnM_of_aw (m := 15) (lo := 1) (rs := [.cell 2 53]) hT Try.func110 rfl (by kernel_rfl) rfl ?_
  refine aw_sregU hT m_no [] (by kernel_rfl) ?_
  refine aw_sregU hT m_no [] (by kernel_rfl) ?_
  refine aw_seq ?_
  refine aw_sregU hT m_no [] (by kernel_rfl) ?_
  obtain ⟨p1, h, g1⟩ := obind h
  refine aw_joinTK ⟨[en 2 (.ref 1 [] 0), en 3 (.ref 2 [] 0)], [.var (.st 3 [(eL 1 k8 p1.1), (j64 p1.2.1), (j64 p1.2.2.1)]), .var (eA 32 1 k8 (Vector.replicate 32 0)), .var (eA 32 1 k8 p1.2.2.2)]⟩ ?_ ?_
  · refine aw_block (aw_loop (fun k s => ∃ s2 s3 s4 s5 s6, p_umbraref37_three_r_L1 N k s2 s3 s4 s5 s6 = some p1 ∧ JR (Fr.f 15 1) ⟨[en 0 (.ref 0 [] 0), en 2 (.ref 1 [] 0), en 3 (.ref 2 [] 0), en 4 (j64 s6)], [.var (.st 3 [(eL 1 k8 s2), (j64 s3), (j64 s4)]), .var (eA 32 1 k8 (Vector.replicate 32 0)), .var (eA 32 1 k8 s5)]⟩ s) (fun k s hI => ?_) N _ ⟨_, _, _, _, _, h, jr (by kernel_rfl)⟩)
    obtain ⟨s2, s3, s4, s5, s6, h, hj⟩ := hI
    cases k with
    | zero => cases h
    | succ k =>
      refine aw_jr hj ?_
      refine aw_seq ?_
      refine aw_sregU hT m_no [] (by kernel_rfl) ?_
      refine aw_condH h (by kernel_rfl) (fun _ h => ?_) (fun _ h => ?_)
      · refine aw_skip (tn_n ?_)
        refine aw_seq ?_
        refine aw_block ?_
        refine aw_region ?_
        refine awl_u hT m_no [] 2 (by kernel_rfl) ?_
        obtain ⟨r7, hr7, h⟩ := obind h
        refine awl_big (big_call [0] (umbraref11_Reader_Num_rd_ok hr7) umbraref11_Reader_Num_rd_ok_c (by kernel_rfl) (by kernel_rfl)) (by kernel_rfl) ?_
        refine awl_u hT m_no [] 1 (by kernel_rfl) ?_
        obtain ⟨u8, hu8, h⟩ := obind h
        refine awl_big (big_adR hT (k := 1) 2 [] 0 hu8 (by kernel_rfl) (by kernel_rfl)) (by kernel_rfl) ?_
        obtain ⟨e9, he9, h⟩ := obind h
        refine awl_big (big_stV hT k8 0 s5 he9 (U8 r7.2.2.2) (by kernel_rfl) (by kernel_rfl) (H' := [.var (.st 3 [(eL 1 k8 r7.1), (j64 r7.2.1), (j64 r7.2.2.1)]), .var (eA 32 1 k8 (Vector.replicate 32 0)), .var (eA 32 1 k8 (s5.setIfInBounds s6.toNat (U8 r7.2.2.2)))]) (by kernel_rfl)) (by kernel_rfl) ?_
        refine awl_nil (inB_n (tn_n ?_))
        refine aw_regU hT m_no [] (by kernel_rfl) (tn_n ?_)
        exact ⟨k, Nat.lt_succ_self k, _, _, _, _, _, h, jr (by kernel_rfl)⟩
      · refine aw_exit (tn_x (tn_x (inB_e (tn_n ?_))))
        cases h
        exact jr (by kernel_rfl)
  · have h := g1
    refine (tn_n ?_)
    refine aw_sregU hT m_no [] (by kernel_rfl) ?_
    refine aw_ret ?_
    cases h
    exact fin_r (by kernel_rfl)

theorem umbraref37_three_r_ok_c : callable Try.prog 110 := ⟨_, Try.func110, by decide, rfl⟩

/-! (*umbra/umbraref11.Reader).End -/
def p_umbraref11_Reader_End_r (N : Nat) (a0 : S_umbraref11_Reader) : Option (Int) :=
  Option.bind (cond (a0.gE == 0) (
    letO (decide (a0.gAt < ((a0.gB.length : Int)))) fun x2 =>
    some x2) (
    some false)) fun p1 =>
  cond p1 (some 5) (some a0.gE)

theorem umbraref11_Reader_End_r_ok {N : Nat} {a0 : S_umbraref11_Reader} {r : Int} (h : p_umbraref11_Reader_End_r N a0 = some r) : FnM Try.prog 111 [.var (S_umbraref11_Reader.enc a0)] [(.ref 0 [] 0)] (j64 r) [.var (S_umbraref11_Reader.enc a0)] := by
  unfold p_umbraref11_Reader_End_r at h
  refine fnM_of_aw (m := 24) (lo := 1) (rs := [.tmp 2]) hT Try.func111 rfl (by kernel_rfl) rfl ?_
  refine aw_sregU hT m_no [] (by kernel_rfl) ?_
  refine aw_seq ?_
  obtain ⟨p1, h, g1⟩ := obind h
  refine aw_joinT ⟨[en 0 (.ref 0 [] 0), en 19 (eB p1)], [.var (S_umbraref11_Reader.enc a0)]⟩ ?_ ?_
  · refine boolH h (fun hc5 h => ?_) (fun hc5 h => ?_)
    · obtain ⟨x2, hx2, h⟩ := letE h
      refine aw_drawN hT hmo m_no [(5, (.v (.bool true)))] [] (by subst hx2; kernel_rfl) (by subst hx2; kernel_rfl) (by kernel_rfl) ⟨fun _ => big_lit hc5 rfl (plU_big hT (im := false) (by subst hx2; kernel_rfl)), trivial⟩ trivial [(19, (eB x2))] (by subst hx2; kernel_rfl) (tn_n ?_)
      cases h
      exact jr (by kernel_rfl)
    · refine aw_drawM hT hmo m_no [(5, (.v (.bool false)))] [] (by kernel_rfl) (by kernel_rfl) (by kernel_rfl) ⟨fun _ => big_lit hc5 rfl (plU_big hT (im := false) (by kernel_rfl)), trivial⟩ trivial (tn_n ?_)
      cases h
      exact jr (by kernel_rfl)
  · have h := g1
    refine aw_condH h (by kernel_rfl) (fun _ h => ?_) (fun _ h => ?_)
    · refine aw_sregU hT m_no [] (by kernel_rfl) ?_
      refine aw_ret (tn_r ?_)
      cases h
      exact fin_r (by kernel_rfl)
    · refine aw_skip (tn_n ?_)
      refine aw_sregU hT m_no [] (by kernel_rfl) ?_
      refine aw_ret ?_
      cases h
      exact fin_r (by kernel_rfl)

theorem umbraref11_Reader_End_r_ok_c : callable Try.prog 111 := ⟨_, Try.func111, by decide, rfl⟩

/-! umbra/umbraref37.Decode -/
def p_umbraref37_Decode (N : Nat) (a0 : (List Int)) : Option (S_api_Receipt × Int) :=
  Option.bind (p_umbraref11_Reader_Int_rd N 8 (S_umbraref11_Reader.mk a0 0 0)) fun r1 =>
  Option.bind (p_umbraref11_Reader_Int_rd N 8 (S_umbraref11_Reader.mk r1.1 r1.2.1 r1.2.2.1)) fun r2 =>
  Option.bind (p_umbraref11_Reader_Int_rd N 8 (S_umbraref11_Reader.mk r2.1 r2.2.1 r2.2.2.1)) fun r3 =>
  Option.bind (p_umbraref11_Reader_Num_rd N 4 (S_umbraref11_Reader.mk r3.1 r3.2.1 r3.2.2.1)) fun r4 =>
  Option.bind (p_umbraref37_three_r N (S_umbraref11_Reader.mk r4.1 r4.2.1 r4.2.2.1)) fun r5 =>
  Option.bind (p_umbraref37_three_r N (S_umbraref11_Reader.mk r5.1 r5.2.1 r5.2.2.1)) fun r6 =>
  Option.bind (p_umbraref37_three_r N (S_umbraref11_Reader.mk r6.1 r6.2.1 r6.2.2.1)) fun r7 =>
  Option.bind (p_umbraref11_Reader_End_r N (S_umbraref11_Reader.mk r7.1 r7.2.1 r7.2.2.1)) fun r8 =>
  cond (r8 != 0) (
    some ((S_api_Receipt.mk 0 0 0 0 (Vector.replicate 32 0) (Vector.replicate 32 0) (Vector.replicate 32 0), r8))) (
    some ((S_api_Receipt.mk r1.2.2.2 r2.2.2.2 r3.2.2.2 (U32 r4.2.2.2) r5.2.2.2 r6.2.2.2 r7.2.2.2, 0)))

theorem umbraref37_Decode_ok {N : Nat} {a0 : (List Int)} {r : S_api_Receipt × Int} (h : p_umbraref37_Decode N a0 = some r) : FnM Try.prog 51 [] [(eL 1 k8 a0)] (.tup [(S_api_Receipt.enc r.1), (j64 r.2)]) [] := by
  unfold p_umbraref37_Decode at h
  refine fnM_of_aw (m := 39) (lo := 0) (rs := [.cell 2 59, .tmp 3]) hT Try.func51 rfl (by kernel_rfl) rfl ?_
  refine aw_sregU hT m_no [] (by kernel_rfl) ?_
  refine aw_sregU hT m_no [] (by kernel_rfl) ?_
  refine aw_sregU hT m_no [] (by kernel_rfl) ?_
  refine aw_sreg ?_
  refine awl_u hT m_no [] 1 (by kernel_rfl) ?_
  obtain ⟨r1, hr1, h⟩ := obind h
  refine awl_big (big_call [1] (umbraref11_Reader_Int_rd_ok hr1) umbraref11_Reader_Int_rd_ok_c (by kernel_rfl) (by kernel_rfl)) (by kernel_rfl) ?_
  first | refine awl_to ⟨[en 2 (.ref 0 [] 0), en 4 (.ref 1 [] 0), en 5 (.ref 2 [] 0), en 11 (j64 r1.2.2.2)], [.var (.st 100 [(j64 0), (j64 0), (j64 0), (k32 0), (eA 32 1 k8 (Vector.replicate 32 0)), (eA 32 1 k8 (Vector.replicate 32 0)), (eA 32 1 k8 (Vector.replicate 32 0))]), .var (.st 3 [(eL 1 k8 r1.1), (j64 r1.2.1), (j64 r1.2.2.1)]), .var (.st 100 [(j64 0), (j64 0), (j64 0), (k32 0), (eA 32 1 k8 (Vector.replicate 32 0)), (eA 32 1 k8 (Vector.replicate 32 0)), (eA 32 1 k8 (Vector.replicate 32 0))])]⟩ (by kernel_rfl) ?_ | skip
  refine awl_u hT m_no [] 2 (by kernel_rfl) ?_
  refine awl_nil ?_
  refine aw_sreg ?_
  refine awl_u hT m_no [] 1 (by kernel_rfl) ?_
  obtain ⟨r2, hr2, h⟩ := obind h
  refine awl_big (big_call [1] (umbraref11_Reader_Int_rd_ok hr2) umbraref11_Reader_Int_rd_ok_c (by kernel_rfl) (by kernel_rfl)) (by kernel_rfl) ?_
  refine awl_u hT m_no [] 2 (by kernel_rfl) ?_
  refine awl_nil ?_
  refine aw_sreg ?_
  refine awl_u hT m_no [] 1 (by kernel_rfl) ?_
  obtain ⟨r3, hr3, h⟩ := obind h
  refine awl_big (big_call [1] (umbraref11_Reader_Int_rd_ok hr3) umbraref11_Reader_Int_rd_ok_c (by kernel_rfl) (by kernel_rfl)) (by kernel_rfl) ?_
  refine awl_u hT m_no [] 2 (by kernel_rfl) ?_
  refine awl_nil ?_
  refine aw_sreg ?_
  refine awl_u hT m_no [] 1 (by kernel_rfl) ?_
  obtain ⟨r4, hr4, h⟩ := obind h
  refine awl_big (big_call [1] (umbraref11_Reader_Num_rd_ok hr4) umbraref11_Reader_Num_rd_ok_c (by kernel_rfl) (by kernel_rfl)) (by kernel_rfl) ?_
  refine awl_u hT m_no [] 3 (by kernel_rfl) ?_
  refine awl_nil ?_
  refine aw_sreg ?_
  refine awl_u hT m_no [] 1 (by kernel_rfl) ?_
  obtain ⟨r5, hr5, h⟩ := obind h
  refine awl_big (big_call [1] (umbraref37_three_r_ok hr5) umbraref37_three_r_ok_c (by kernel_rfl) (by kernel_rfl)) (by kernel_rfl) ?_
  first | refine awl_to ⟨[en 2 (.ref 0 [] 0), en 4 (.ref 1 [] 0), en 5 (.ref 2 [] 0), en 24 (eA 32 1 k8 r5.2.2.2)], [.var (.st 100 [(j64 0), (j64 0), (j64 0), (k32 0), (eA 32 1 k8 (Vector.replicate 32 0)), (eA 32 1 k8 (Vector.replicate 32 0)), (eA 32 1 k8 (Vector.replicate 32 0))]), .var (.st 3 [(eL 1 k8 r5.1), (j64 r5.2.1), (j64 r5.2.2.1)]), .var (.st 100 [(j64 r1.2.2.2), (j64 r2.2.2.2), (j64 r3.2.2.2), (k32 (U32 r4.2.2.2)), (eA 32 1 k8 (Vector.replicate 32 0)), (eA 32 1 k8 (Vector.replicate 32 0)), (eA 32 1 k8 (Vector.replicate 32 0))])]⟩ (by kernel_rfl) ?_ | skip
  refine awl_u hT m_no [] 2 (by kernel_rfl) ?_
  refine awl_nil ?_
  refine aw_sreg ?_
  refine awl_u hT m_no [] 1 (by kernel_rfl) ?_
  obtain ⟨r6, hr6, h⟩ := obind h
  refine awl_big (big_call [1] (umbraref37_three_r_ok hr6) umbraref37_three_r_ok_c (by kernel_rfl) (by kernel_rfl)) (by kernel_rfl) ?_
  refine awl_u hT m_no [] 2 (by kernel_rfl) ?_
  refine awl_nil ?_
  refine aw_sreg ?_
  refine awl_u hT m_no [] 1 (by kernel_rfl) ?_
  obtain ⟨r7, hr7, h⟩ := obind h
  refine awl_big (big_call [1] (umbraref37_three_r_ok hr7) umbraref37_three_r_ok_c (by kernel_rfl) (by kernel_rfl)) (by kernel_rfl) ?_
  refine awl_u hT m_no [] 2 (by kernel_rfl) ?_
  refine awl_nil ?_
  refine aw_seq ?_
  refine aw_sreg ?_
  refine awl_u hT m_no [] 1 (by kernel_rfl) ?_
  obtain ⟨r8, hr8, h⟩ := obind h
  refine awl_big (big_call [1] (umbraref11_Reader_End_r_ok hr8) umbraref11_Reader_End_r_ok_c (by kernel_rfl) (by kernel_rfl)) (by kernel_rfl) ?_
  refine awl_u hT m_no [] 1 (by kernel_rfl) ?_
  refine awl_nil ?_
  refine aw_sregU hT m_no [] (by kernel_rfl) ?_
  refine aw_condH h (by kernel_rfl) (fun _ h => ?_) (fun _ h => ?_)
  · refine aw_sregU hT m_no [] (by kernel_rfl) ?_
    refine aw_ret (tn_r ?_)
    cases h
    exact fin_r (by kernel_rfl)
  · refine aw_skip (tn_n ?_)
    refine aw_sregU hT m_no [] (by kernel_rfl) ?_
    refine aw_ret ?_
    cases h
    exact fin_r (by kernel_rfl)

theorem umbraref37_Decode_ok_c : callable Try.prog 51 := ⟨_, Try.func51, by decide, rfl⟩

/-! bytes.Equal -/
def p_bytes_Equal (N : Nat) (a0 : (List Int)) (a1 : (List Int)) : Option (Bool) :=
  letO (ByteArray.toList (strO a0) == ByteArray.toList (strO a1)) fun x1 =>
  some x1

theorem bytes_Equal_ok {N : Nat} {a0 : (List Int)} {a1 : (List Int)} {r : Bool} (h : p_bytes_Equal N a0 a1 = some r) : FnM Try.prog 52 [] [(eL 1 k8 a0), (eL 1 k8 a1)] (eB r) [] := by
  unfold p_bytes_Equal at h
  refine fnM_of_aw (m := 10) (lo := 0) (rs := [.tmp 4]) hT Try.func52 rfl (by kernel_rfl) rfl ?_
  refine aw_sregU hT m_no [] (by kernel_rfl) ?_
  refine aw_sreg ?_
  refine awl_u hT m_no [] 1 (by kernel_rfl) ?_
  refine awl_big (big_b2s hT a0 (v := (eL 1 k8 a0)) (e := 5) (by kernel_rfl) (by kernel_rfl) (by kernel_rfl)) (by kernel_rfl) ?_
  refine awl_u hT m_no [] 1 (by kernel_rfl) ?_
  refine awl_big (big_b2s hT a1 (v := (eL 1 k8 a1)) (e := 5) (by kernel_rfl) (by kernel_rfl) (by kernel_rfl)) (by kernel_rfl) ?_
  obtain ⟨x1, hx1, h⟩ := letE h
  refine awl_u hT m_no [] 2 (by kernel_rfl) ?_
  refine awl_nms [(4, (eB x1))] (by subst hx1; kernel_rfl) ?_
  refine awl_nil ?_
  refine aw_ret ?_
  cases h
  exact fin_r (by kernel_rfl)

theorem bytes_Equal_ok_c : callable Try.prog 52 := ⟨_, Try.func52, by decide, rfl⟩

/-! umbra/umbralaw37.ReceiptBytes -/
def m_umbralaw37_ReceiptBytes : Nat → Bool := imL [2]

def p_umbralaw37_ReceiptBytes (N : Nat) (a0 : S_api_Receipt) (a1 : (List Int)) : Option (Bool) :=
  letO (imin ((a1.length : Int)) 150) fun x2 =>
  Option.bind (slcO a1 0 x2) fun s3 =>
  Option.bind (p_receipt_Decode N s3) fun r4 =>
  Option.bind (p_umbraref37_Decode N s3) fun r5 =>
  Option.bind (Option.bind (p_receipt_Encode N a0) fun r7 =>
  Option.bind (p_umbraref37_Encode N a0) fun r8 =>
  Option.bind (p_bytes_Equal N r7 r8) fun r9 =>
  cond r9 (
    letO (S_api_Receipt.eq r4.1 r5.1) fun x10 =>
    cond x10 (
      cond (r4.2 == r5.2) (
        Option.bind (p_umbralaw37_works N ) fun r11 =>
        some r11) (
        some false)) (
      some false)) (
    some false)) fun p6 =>
  some p6

theorem umbralaw37_ReceiptBytes_ok {N : Nat} {a0 : S_api_Receipt} {a1 : (List Int)} {r : Bool} (h : p_umbralaw37_ReceiptBytes N a0 a1 = some r) : FnM Try.prog 12 [] [(S_api_Receipt.enc a0), (eL 1 k8 a1)] (eB r) [] := by
  unfold p_umbralaw37_ReceiptBytes at h
  refine fnM_of_aw (m := 42) (lo := 0) (rs := [.tmp 4]) hT Try.func12 rfl (by kernel_rfl) rfl ?_
  refine aw_sregU hT m_umbralaw37_ReceiptBytes [] (by kernel_rfl) ?_
  refine aw_sreg ?_
  obtain ⟨x2, hx2, h⟩ := letE h
  refine awl_u hT m_umbralaw37_ReceiptBytes [] 4 (by kernel_rfl) ?_
  refine awl_nms [(12, (j64 x2))] (by subst hx2; kernel_rfl) ?_
  obtain ⟨s3, hs3, h⟩ := obind h
  refine awl_big (big_slc hT (k := 1) k8 hs3 (by kernel_rfl) (by kernel_rfl)) (by kernel_rfl) ?_
  refine awl_u hT m_umbralaw37_ReceiptBytes [] 1 (by kernel_rfl) ?_
  refine awl_nil ?_
  refine aw_sreg ?_
  refine awl_u hT m_umbralaw37_ReceiptBytes [] 1 (by kernel_rfl) ?_
  obtain ⟨r4, hr4, h⟩ := obind h
  refine awl_big (big_call [] (receipt_Decode_ok hr4) receipt_Decode_ok_c (by kernel_rfl) (by kernel_rfl)) (by kernel_rfl) ?_
  refine awl_u hT m_umbralaw37_ReceiptBytes [] 6 (by kernel_rfl) ?_
  refine awl_nil ?_
  refine aw_sreg ?_
  refine awl_u hT m_umbralaw37_ReceiptBytes [] 1 (by kernel_rfl) ?_
  obtain ⟨r5, hr5, h⟩ := obind h
  refine awl_big (big_call [] (umbraref37_Decode_ok hr5) umbraref37_Decode_ok_c (by kernel_rfl) (by kernel_rfl)) (by kernel_rfl) ?_
  refine awl_u hT m_umbralaw37_ReceiptBytes [] 6 (by kernel_rfl) ?_
  refine awl_nil ?_
  obtain ⟨p6, h, g6⟩ := obind h
  refine aw_joinT ⟨[en 4 (eB p6)], [.var (S_api_Receipt.enc r4.1), .var (S_api_Receipt.enc r5.1)]⟩ ?_ ?_
  · obtain ⟨r7, hr7, h⟩ := obind h
    obtain ⟨r8, hr8, h⟩ := obind h
    obtain ⟨r9, hr9, h⟩ := obind h
    refine boolH h (fun hc5 h => ?_) (fun hc5 h => ?_)
    · obtain ⟨x10, hx10, h⟩ := letE h
      refine boolH h (fun hc10 h => ?_) (fun hc10 h => ?_)
      · refine boolH h (fun hc15 h => ?_) (fun hc15 h => ?_)
        · obtain ⟨r11, hr11, h⟩ := obind h
          refine aw_drawN hT hmo m_umbralaw37_ReceiptBytes [(1, (eL 1 k8 r7)), (3, (eL 1 k8 r8)), (4, (eB r9)), (5, (.v (.bool true))), (8, (eB (S_api_Receipt.eq r4.1 r5.1))), (10, (.v (.bool true))), (15, (.v (.bool true))), (16, (eB r11))] [] (by subst hx10; kernel_rfl) (by subst hx10; kernel_rfl) (by kernel_rfl) ⟨fun _ => big_call0 (receipt_Encode_ok hr7) receipt_Encode_ok_c (by kernel_rfl) (by kernel_rfl) (by kernel_rfl), fun _ => big_call0 (umbraref37_Encode_ok hr8) umbraref37_Encode_ok_c (by kernel_rfl) (by kernel_rfl) (by kernel_rfl), fun _ => big_call0 (bytes_Equal_ok hr9) bytes_Equal_ok_c (by kernel_rfl) (by kernel_rfl) (by kernel_rfl), fun _ => big_lit hc5 rfl (plU_big hT (im := false) (by subst hx10; kernel_rfl)), fun _ => big_eql eqT_59 (r4.1 : S_api_Receipt) (r5.1 : S_api_Receipt) (by kernel_rfl) (by kernel_rfl) (fun _ => rfl) (fun _ => rfl) (by kernel_rfl) (by kernel_rfl), fun _ => big_lit hc10 rfl (plU_big hT (im := false) (by subst hx10; kernel_rfl)), fun _ => big_lit hc15 rfl (plU_big hT (im := false) (by subst hx10; kernel_rfl)), fun _ => big_call0 (umbralaw37_works_ok hr11) umbralaw37_works_ok_c (by subst hx10; kernel_rfl) (by subst hx10; kernel_rfl) (by subst hx10; kernel_rfl), trivial⟩ trivial [] (by subst hx10; kernel_rfl) (tn_n ?_)
          cases h
          exact jr (by kernel_rfl)
        · refine aw_drawN hT hmo m_umbralaw37_ReceiptBytes [(1, (eL 1 k8 r7)), (3, (eL 1 k8 r8)), (4, (eB r9)), (5, (.v (.bool true))), (8, (eB (S_api_Receipt.eq r4.1 r5.1))), (10, (.v (.bool true))), (15, (.v (.bool false)))] [] (by subst hx10; kernel_rfl) (by subst hx10; kernel_rfl) (by kernel_rfl) ⟨fun _ => big_call0 (receipt_Encode_ok hr7) receipt_Encode_ok_c (by kernel_rfl) (by kernel_rfl) (by kernel_rfl), fun _ => big_call0 (umbraref37_Encode_ok hr8) umbraref37_Encode_ok_c (by kernel_rfl) (by kernel_rfl) (by kernel_rfl), fun _ => big_call0 (bytes_Equal_ok hr9) bytes_Equal_ok_c (by kernel_rfl) (by kernel_rfl) (by kernel_rfl), fun _ => big_lit hc5 rfl (plU_big hT (im := false) (by subst hx10; kernel_rfl)), fun _ => big_eql eqT_59 (r4.1 : S_api_Receipt) (r5.1 : S_api_Receipt) (by kernel_rfl) (by kernel_rfl) (fun _ => rfl) (fun _ => rfl) (by kernel_rfl) (by kernel_rfl), fun _ => big_lit hc10 rfl (plU_big hT (im := false) (by subst hx10; kernel_rfl)), fun _ => big_lit hc15 rfl (plU_big hT (im := false) (by subst hx10; kernel_rfl)), trivial⟩ trivial [] (by subst hx10; kernel_rfl) (tn_n ?_)
          cases h
          exact jr (by kernel_rfl)
      · refine aw_drawN hT hmo m_umbralaw37_ReceiptBytes [(1, (eL 1 k8 r7)), (3, (eL 1 k8 r8)), (4, (eB r9)), (5, (.v (.bool true))), (8, (eB (S_api_Receipt.eq r4.1 r5.1))), (10, (.v (.bool false)))] [] (by subst hx10; kernel_rfl) (by subst hx10; kernel_rfl) (by kernel_rfl) ⟨fun _ => big_call0 (receipt_Encode_ok hr7) receipt_Encode_ok_c (by kernel_rfl) (by kernel_rfl) (by kernel_rfl), fun _ => big_call0 (umbraref37_Encode_ok hr8) umbraref37_Encode_ok_c (by kernel_rfl) (by kernel_rfl) (by kernel_rfl), fun _ => big_call0 (bytes_Equal_ok hr9) bytes_Equal_ok_c (by kernel_rfl) (by kernel_rfl) (by kernel_rfl), fun _ => big_lit hc5 rfl (plU_big hT (im := false) (by subst hx10; kernel_rfl)), fun _ => big_eql eqT_59 (r4.1 : S_api_Receipt) (r5.1 : S_api_Receipt) (by kernel_rfl) (by kernel_rfl) (fun _ => rfl) (fun _ => rfl) (by kernel_rfl) (by kernel_rfl), fun _ => big_lit hc10 rfl (plU_big hT (im := false) (by subst hx10; kernel_rfl)), trivial⟩ trivial [] (by subst hx10; kernel_rfl) (tn_n ?_)
        cases h
        exact jr (by kernel_rfl)
    · refine aw_drawM hT hmo m_umbralaw37_ReceiptBytes [(1, (eL 1 k8 r7)), (3, (eL 1 k8 r8)), (4, (eB r9)), (5, (.v (.bool false)))] [] (by kernel_rfl) (by kernel_rfl) (by kernel_rfl) ⟨fun _ => big_call0 (receipt_Encode_ok hr7) receipt_Encode_ok_c (by kernel_rfl) (by kernel_rfl) (by kernel_rfl), fun _ => big_call0 (umbraref37_Encode_ok hr8) umbraref37_Encode_ok_c (by kernel_rfl) (by kernel_rfl) (by kernel_rfl), fun _ => big_call0 (bytes_Equal_ok hr9) bytes_Equal_ok_c (by kernel_rfl) (by kernel_rfl) (by kernel_rfl), fun _ => big_lit hc5 rfl (plU_big hT (im := false) (by kernel_rfl)), trivial⟩ trivial (tn_n ?_)
      cases h
      exact jr (by kernel_rfl)
  · have h := g6
    refine aw_ret ?_
    cases h
    exact fin_r (by kernel_rfl)

theorem umbralaw37_ReceiptBytes_ok_c : callable Try.prog 12 := ⟨_, Try.func12, by decide, rfl⟩

theorem mpt_176 : MpT Try.prog tbl 176 .i64 ⟨1, 1, (eB false), .bool⟩ := ⟨⟨3, 4, rfl, rfl, rfl⟩⟩

def keysA_ren : Go.Shelf.Ren := ⟨fun | 7 => 133 | 10 => 166 | n => n, fun | 23 => 176 | 26 => 3 | 3 => 4 | 28 => 179 | 0 => 0 | 27 => 178 | 33 => 119 | 4 => 4 | n => n, fun | n => n⟩
theorem keysA : SlLaysZI.n7 Try.prog keysA_ren where
  mixed := by kernel_rfl
  f7 := ⟨"maps.Keys[map[int]bool,int,bool]", by decide, Try.func133.trans (congrArg some (by kernel_rfl))⟩
  f10 := ⟨"maps.Keys[map[int]bool,int,bool]$1", by decide, Try.func166.trans (congrArg some (by kernel_rfl))⟩
  t0 := Try.underlying0
  a0 := Try.isAgg0
  z0 := Try.sizeOf0
  v0 := Try.zeroValue0
  t4 := Try.underlying4
  a4 := Try.isAgg4
  z4 := Try.sizeOf4
  v4 := Try.zeroValue4
  t23 := Try.underlying176
  a23 := Try.isAgg176
  z23 := Try.sizeOf176
  v23 := Try.zeroValue176
  t26 := Try.underlying3
  a26 := Try.isAgg3
  z26 := Try.sizeOf3
  v26 := Try.zeroValue3
  t27 := Try.underlying178
  a27 := Try.isAgg178
  z27 := Try.sizeOf178
  v27 := Try.zeroValue178
  t28 := Try.underlying179
  a28 := Try.isAgg179
  z28 := Try.sizeOf179
  v28 := Try.zeroValue179
  t33 := Try.underlying119
  a33 := Try.isAgg119
  z33 := Try.sizeOf119
  v33 := Try.zeroValue119
def sortedA_ren : Go.Shelf.Ren := ⟨fun | 6 => 132 | 8 => 165 | 9 => 127 | 11 => 199 | 13 => 164 | 12 => 163 | 23 => 197 | 24 => 198 | 14 => 188 | 15 => 189 | 16 => 190 | 17 => 191 | 18 => 192 | 19 => 193 | 20 => 194 | 21 => 195 | 22 => 196 | 25 => 207 | 26 => 208 | 27 => 209 | 28 => 210 | 29 => 211 | 30 => 212 | 31 => 215 | n => n, fun | 26 => 3 | 28 => 179 | 24 => 31 | 0 => 0 | 3 => 3 | 37 => 188 | 48 => 57 | 50 => 144 | 4 => 4 | 40 => 245 | 39 => 244 | 45 => 250 | 5 => 5 | 9 => 9 | 51 => 259 | 55 => 263 | 57 => 268 | 58 => 269 | 33 => 119 | n => n, fun | n => n⟩
theorem sortedA : SlLaysZI.n6 Try.prog sortedA_ren where
  mixed := by kernel_rfl
  f6 := ⟨"slices.Sorted[int]", by decide, Try.func132.trans (congrArg some (by kernel_rfl))⟩
  f8 := ⟨"slices.Collect[int]", by decide, Try.func165.trans (congrArg some (by kernel_rfl))⟩
  f11 := ⟨"slices.AppendSeq[[]int,int]", by decide, Try.func199.trans (congrArg some (by kernel_rfl))⟩
  t0 := Try.underlying0
  a0 := Try.isAgg0
  z0 := Try.sizeOf0
  v0 := Try.zeroValue0
  t24 := Try.underlying31
  a24 := Try.isAgg31
  z24 := Try.sizeOf31
  v24 := Try.zeroValue31
  t26 := Try.underlying3
  a26 := Try.isAgg3
  z26 := Try.sizeOf3
  v26 := Try.zeroValue3
  t28 := Try.underlying179
  a28 := Try.isAgg179
  z28 := Try.sizeOf179
  v28 := Try.zeroValue179
  i26 := by kernel_rfl
def sortA_ren : Go.Shelf.Ren := ⟨fun | 5 => 127 | 8 => 164 | 7 => 163 | 19 => 197 | 20 => 198 | 10 => 188 | 11 => 189 | 12 => 190 | 13 => 191 | 14 => 192 | 15 => 193 | 16 => 194 | 17 => 195 | 18 => 196 | 30 => 207 | 31 => 208 | 32 => 209 | 33 => 210 | 34 => 211 | 35 => 212 | 40 => 215 | n => n, fun | 23 => 31 | 25 => 3 | 3 => 3 | 32 => 188 | 22 => 31 | 0 => 0 | 44 => 57 | 46 => 144 | 4 => 4 | 36 => 245 | 35 => 244 | 41 => 250 | 5 => 5 | 9 => 9 | 53 => 259 | 57 => 263 | 63 => 268 | 64 => 269 | n => n, fun | n => n⟩
theorem sortA : SlLaysM.n5 Try.prog sortA_ren where
  mixed := by kernel_rfl
  f5 := ⟨"slices.Sort[[]int,int]", by decide, Try.func127.trans (congrArg some (by kernel_rfl))⟩
  f7 := ⟨"slices.pdqsortOrdered[int]", by decide, Try.func163.trans (congrArg some (by kernel_rfl))⟩
  f8 := Try.func164.trans (congrArg some (by kernel_rfl))
  f10 := ⟨"slices.insertionSortOrdered[int]", by decide, Try.func188.trans (congrArg some (by kernel_rfl))⟩
  f11 := ⟨"slices.heapSortOrdered[int]", by decide, Try.func189.trans (congrArg some (by kernel_rfl))⟩
  f12 := ⟨"slices.breakPatternsOrdered[int]", by decide, Try.func190.trans (congrArg some (by kernel_rfl))⟩
  f13 := ⟨"slices.choosePivotOrdered[int]", by decide, Try.func191.trans (congrArg some (by kernel_rfl))⟩
  f14 := ⟨"slices.reverseRangeOrdered[int]", by decide, Try.func192.trans (congrArg some (by kernel_rfl))⟩
  f15 := ⟨"slices.partialInsertionSortOrdered[int]", by decide, Try.func193.trans (congrArg some (by kernel_rfl))⟩
  f16 := ⟨"cmp.Less[int]", by decide, Try.func194.trans (congrArg some (by kernel_rfl))⟩
  f17 := ⟨"slices.partitionEqualOrdered[int]", by decide, Try.func195.trans (congrArg some (by kernel_rfl))⟩
  f18 := ⟨"slices.partitionOrdered[int]", by decide, Try.func196.trans (congrArg some (by kernel_rfl))⟩
  f19 := Try.func197.trans (congrArg some (by kernel_rfl))
  f20 := Try.func198.trans (congrArg some (by kernel_rfl))
  f30 := ⟨"slices.siftDownOrdered[int]", by decide, Try.func207.trans (congrArg some (by kernel_rfl))⟩
  f31 := Try.func208.trans (congrArg some (by kernel_rfl))
  f32 := Try.func209.trans (congrArg some (by kernel_rfl))
  f33 := ⟨"slices.medianAdjacentOrdered[int]", by decide, Try.func210.trans (congrArg some (by kernel_rfl))⟩
  f34 := ⟨"slices.medianOrdered[int]", by decide, Try.func211.trans (congrArg some (by kernel_rfl))⟩
  f35 := ⟨"cmp.isNaN[int]", by decide, Try.func212.trans (congrArg some (by kernel_rfl))⟩
  f40 := ⟨"slices.order2Ordered[int]", by decide, Try.func215.trans (congrArg some (by kernel_rfl))⟩
  t0 := Try.underlying0
  a0 := Try.isAgg0
  z0 := Try.sizeOf0
  v0 := Try.zeroValue0
  t3 := Try.underlying3
  a3 := Try.isAgg3
  z3 := Try.sizeOf3
  v3 := Try.zeroValue3
  t4 := Try.underlying4
  a4 := Try.isAgg4
  z4 := Try.sizeOf4
  v4 := Try.zeroValue4
  t5 := Try.underlying5
  a5 := Try.isAgg5
  z5 := Try.sizeOf5
  v5 := Try.zeroValue5
  t9 := Try.underlying9
  a9 := Try.isAgg9
  z9 := Try.sizeOf9
  v9 := Try.zeroValue9
  t22 := Try.underlying31
  a22 := Try.isAgg31
  z22 := Try.sizeOf31
  v22 := Try.zeroValue31
  t23 := Try.underlying31
  a23 := Try.isAgg31
  z23 := Try.sizeOf31
  v23 := Try.zeroValue31
  t25 := Try.underlying3
  a25 := Try.isAgg3
  z25 := Try.sizeOf3
  v25 := Try.zeroValue3
  t32 := Try.underlying188
  a32 := Try.isAgg188
  z32 := Try.sizeOf188
  v32 := Try.zeroValue188
  t35 := Try.underlying244
  a35 := Try.isAgg244
  z35 := Try.sizeOf244
  v35 := Try.zeroValue244
  t36 := Try.underlying245
  a36 := Try.isAgg245
  z36 := Try.sizeOf245
  v36 := Try.zeroValue245
  t41 := Try.underlying250
  a41 := Try.isAgg250
  z41 := Try.sizeOf250
  v41 := Try.zeroValue250
  t44 := Try.underlying57
  a44 := Try.isAgg57
  z44 := Try.sizeOf57
  v44 := Try.zeroValue57
  t46 := Try.underlying144
  a46 := Try.isAgg144
  z46 := Try.sizeOf144
  v46 := Try.zeroValue144
  t53 := Try.underlying259
  a53 := Try.isAgg259
  z53 := Try.sizeOf259
  v53 := Try.zeroValue259
  t57 := Try.underlying263
  a57 := Try.isAgg263
  z57 := Try.sizeOf263
  v57 := Try.zeroValue263
  t63 := Try.underlying268
  a63 := Try.isAgg268
  z63 := Try.sizeOf268
  v63 := Try.zeroValue268
  t64 := Try.underlying269
  a64 := Try.isAgg269
  z64 := Try.sizeOf269
  v64 := Try.zeroValue269
theorem sortsA (m : Nat) : AnyZI.SortsIn Try.prog sortedA_ren Fence.wide m :=
  ⟨fun blk off cap ss W hH hblk hsz => callsIn_wide.2 (AnyM.slices_Sort_int sortA blk off cap ss W hH hblk hsz), fun p cap W => callsIn_wide.2 (AnyM.slices_Sort_int_none sortA p cap W)⟩

theorem keys_133 (l : List (Int × Bool)) : FnM Try.prog 133 [.mp (eM .i64 eB l)] [.mp 0] (.fn (.func 166) [] [.ref 1 [] 0]) [.mp (eM .i64 eB l), .var (.mp 0)] := keys_fn keysA rfl rfl l
theorem keys_133_c : callable Try.prog 133 := ⟨_, Try.func133, by decide, rfl⟩

theorem sorted_132 {l : List (Int × Bool)} {r : List Int} (h : sortO l = some r) : FnM Try.prog 132 [.mp (eM .i64 eB l), .var (.mp 0)] [.fn (.func 166) [] [.ref 1 [] 0]] (eL 1 j64 r) [.mp (eM .i64 eB l), .var (.mp 0)] :=
  sorted_fn sortedA { keysA with } sortsA rfl rfl (enters_of Try.func127 (by kernel_rfl) rfl) (enters_of Try.func166 (by kernel_rfl) rfl) h
theorem sorted_132_c : callable Try.prog 132 := ⟨_, Try.func132, by decide, rfl⟩

/-! umbra/receipt.Audit -/
def m_receipt_Audit : Nat → Bool := imL [4]

def p_receipt_Audit_L1 (N : Nat) (a3 : (List S_api_Receipt)) (a0 : (Vector Int 32)) (a1 : Int) (a2 : (List S_api_Entry)) : Nat → (List (Int × Bool)) → Int → Option (Sum ((List (Int × Bool))) ((List Int) × Int))
  | 0, _, _ => none
  | k + 1, s2, s3 =>
    letO (decide (s3 < ((a3.length : Int)))) fun x4 =>
    cond x4 (
      Option.bind (idx a3 s3) fun e5 =>
      Option.bind (p_receipt_Check N a0 e5) fun r6 =>
      cond (r6 != 0) (
        some (Sum.inr (([], r6)))) (
        cond (mgetD s2 e5.gSeq false) (
          some (Sum.inr (([], 10)))) (
          Option.bind (p_receipt_Against N a1 a2 e5) fun r7 =>
          cond (r7 != 0) (
            some (Sum.inr (([], r7)))) (
            p_receipt_Audit_L1 N a3 a0 a1 a2 k (mput s2 e5.gSeq true) (I64 (s3 + 1)))))) (
      some (Sum.inl s2))

def p_receipt_Audit (N : Nat) (a0 : (Vector Int 32)) (a1 : Int) (a2 : (List S_api_Entry)) (a3 : (List S_api_Receipt)) : Option ((List Int) × Int) :=
  Option.bind (p_receipt_Audit_L1 N a3 a0 a1 a2 N [] 0) fun o => sumC o (fun p1 =>
    Option.bind (sortO p1) fun r8 =>
    some ((r8, 0))) (fun r => some r)

theorem receipt_Audit_ok {N : Nat} {a0 : (Vector Int 32)} {a1 : Int} {a2 : (List S_api_Entry)} {a3 : (List S_api_Receipt)} {r : (List Int) × Int} (h : p_receipt_Audit N a0 a1 a2 a3 = some r) : FnM Try.prog 65 [] [(eA 32 1 k8 a0), (j64 a1), (eL 36 S_api_Entry.enc a2), (eL 100 S_api_Receipt.enc a3)] (.tup [(eL 1 j64 r.1), (j64 r.2)]) [] := by
  unfold p_receipt_Audit at h
  refine fnM_of_aw (m := 46) (lo := 0) (rs := [.tmp 8, .tmp 9]) hT Try.func65 rfl (by kernel_rfl) rfl ?_
  refine aw_sregU hT m_receipt_Audit [] (by kernel_rfl) ?_
  refine aw_sreg ?_
  refine awl_big (big_mkm .i64 eB (by kernel_rfl) rfl) (by kernel_rfl) ?_
  refine awl_u hT m_receipt_Audit [] 1 (by kernel_rfl) ?_
  refine awl_nil ?_
  refine aw_seq ?_
  refine aw_sregU hT m_receipt_Audit [] (by kernel_rfl) ?_
  obtain ⟨op1, h, g1⟩ := obind h
  refine aw_joinSK (fun p1 => ⟨[en 10 (.mp 0)], [.mp (eM .i64 eB p1)]⟩) g1 ?_ (fun p1 h => ?_)
  · refine aw_block (aw_loop (fun k s => ∃ s2 s3, p_receipt_Audit_L1 N a3 a0 a1 a2 k s2 s3 = some op1 ∧ JR (Fr.f 46 0) ⟨[en 1 (j64 a1), en 2 (eL 36 S_api_Entry.enc a2), en 4 (.im (eA 32 1 k8 a0)), en 10 (.mp 0), en 16 (eL 100 S_api_Receipt.enc a3), en 17 (j64 ((a3.length : Int))), en 18 (j64 s3)], [.mp (eM .i64 eB s2)]⟩ s) (fun k s hI => ?_) N _ ⟨_, _, h, jr (by kernel_rfl)⟩)
    obtain ⟨s2, s3, h, hj⟩ := hI
    cases k with
    | zero => cases h
    | succ k =>
      refine aw_jr hj ?_
      obtain ⟨x4, hx4, h⟩ := letE h
      refine aw_sregU hT m_receipt_Audit [] (by kernel_rfl) ?_
      refine aw_nms [(19, (eB x4))] (by subst hx4; kernel_rfl) ?_
      refine aw_seq ?_
      refine aw_condH h (by kernel_rfl) (fun _ h => ?_) (fun _ h => ?_)
      · refine aw_skip (tn_n ?_)
        refine aw_seq ?_
        refine aw_block ?_
        refine aw_sreg ?_
        obtain ⟨e5, he5, h⟩ := obind h
        refine awl_big (big_idx hT S_api_Receipt.enc he5 (by kernel_rfl) (by kernel_rfl)) (by kernel_rfl) ?_
        refine awl_u hT m_receipt_Audit [] 3 (by kernel_rfl) ?_
        refine awl_nil ?_
        refine aw_seq ?_
        refine aw_sreg ?_
        refine awl_u hT m_receipt_Audit [] 2 (by kernel_rfl) ?_
        obtain ⟨r6, hr6, h⟩ := obind h
        refine awl_big (big_call [] (receipt_Check_ok hr6) receipt_Check_ok_c (by kernel_rfl) (by kernel_rfl)) (by kernel_rfl) ?_
        refine awl_u hT m_receipt_Audit [] 1 (by kernel_rfl) ?_
        refine awl_nil ?_
        refine aw_sregU hT m_receipt_Audit [] (by kernel_rfl) ?_
        refine aw_condH h (by kernel_rfl) (fun _ h => ?_) (fun _ h => ?_)
        · refine aw_sregU hT m_receipt_Audit [] (by kernel_rfl) ?_
          cases h
          have h := g1
          refine aw_ret (tn_r (inB_r (tn_r (tn_r (inB_r (tn_r (tn_r ?_)))))))
          obtain rfl := sum_e h
          exact fin_r (by kernel_rfl)
        · refine aw_skip (tn_n ?_)
          refine aw_seq ?_
          refine aw_sreg ?_
          refine awl_u hT m_receipt_Audit [] 3 (by kernel_rfl) ?_
          refine awl_big (big_lok hT (f := eB) (z := false) (id := 0) (k := e5.gSeq) mpt_176 (fun _ _ h => by cases h) (s2 : List (Int × Bool)) (by kernel_rfl) (by kernel_rfl) (by kernel_rfl)) (by kernel_rfl) ?_
          refine awl_nil ?_
          refine aw_condH h (by kernel_rfl) (fun _ h => ?_) (fun _ h => ?_)
          · refine aw_sregU hT m_receipt_Audit [] (by kernel_rfl) ?_
            cases h
            have h := g1
            refine aw_ret (tn_r (inB_r (tn_r (tn_r (inB_r (tn_r (tn_r ?_)))))))
            obtain rfl := sum_e h
            exact fin_r (by kernel_rfl)
          · refine aw_skip (tn_n ?_)
            refine aw_seq ?_
            refine aw_sreg ?_
            refine awl_u hT m_receipt_Audit [] 3 (by kernel_rfl) ?_
            obtain ⟨r7, hr7, h⟩ := obind h
            refine awl_big (big_call [] (receipt_Against_ok hr7) receipt_Against_ok_c (by kernel_rfl) (by kernel_rfl)) (by kernel_rfl) ?_
            refine awl_u hT m_receipt_Audit [] 1 (by kernel_rfl) ?_
            refine awl_nil ?_
            refine aw_sregU hT m_receipt_Audit [] (by kernel_rfl) ?_
            refine aw_condH h (by kernel_rfl) (fun _ h => ?_) (fun _ h => ?_)
            · refine aw_sregU hT m_receipt_Audit [] (by kernel_rfl) ?_
              cases h
              have h := g1
              refine aw_ret (tn_r (inB_r (tn_r (tn_r (inB_r (tn_r (tn_r ?_)))))))
              obtain rfl := sum_e h
              exact fin_r (by kernel_rfl)
            · refine aw_skip (tn_n ?_)
              refine aw_region ?_
              refine awl_u hT m_receipt_Audit [] 3 (by kernel_rfl) ?_
              refine awl_big (big_mpu (f := eB) (id := 0) (k := e5.gSeq) (v := true) mpt_176 (fun _ => rfl) (s2 : List (Int × Bool)) (by kernel_rfl) (by kernel_rfl) (by kernel_rfl)) (by kernel_rfl) ?_
              refine awl_nil (inB_n (tn_n ?_))
              refine aw_regU hT m_receipt_Audit [] (by kernel_rfl) (tn_n ?_)
              exact ⟨k, Nat.lt_succ_self k, _, _, h, jr (by kernel_rfl)⟩
      · refine aw_exit (tn_x (tn_x (inB_e (tn_n ?_))))
        cases h
        exact ⟨_, rfl, jr (by kernel_rfl)⟩
  · refine (tn_n ?_)
    refine aw_sreg ?_
    refine awl_u hT m_receipt_Audit [] 1 (by kernel_rfl) ?_
    refine awl_big (big_call [0] (keys_133 p1) keys_133_c (by kernel_rfl) (by kernel_rfl)) (by kernel_rfl) ?_
    obtain ⟨r8, hr8, h⟩ := obind h
    refine awl_big (big_call [0, 1] (sorted_132 hr8) sorted_132_c (by kernel_rfl) (by kernel_rfl)) (by kernel_rfl) ?_
    refine awl_u hT m_receipt_Audit [] 2 (by kernel_rfl) ?_
    refine awl_nil ?_
    refine aw_ret ?_
    cases h
    exact fin_r (by kernel_rfl)

theorem receipt_Audit_ok_c : callable Try.prog 65 := ⟨_, Try.func65, by decide, rfl⟩

/-! umbra/umbraref37.Audit -/
def m_umbraref37_Audit : Nat → Bool := imL [4]

def p_umbraref37_Audit_L2 (N : Nat) (s2 : Int) (a3 : (List S_api_Receipt)) : Nat → Int → Option (Sum (Unit) ((List Int) × Int))
  | 0, _ => none
  | k + 1, s7 =>
    cond (decide (s7 < s2)) (
      Option.bind (idx a3 s7) fun e8 =>
      Option.bind (idx a3 s2) fun e9 =>
      cond (e8.gSeq == e9.gSeq) (
        some (Sum.inr (([], 10)))) (
        p_umbraref37_Audit_L2 N s2 a3 k (I64 (s7 + 1)))) (
      some (Sum.inl (())))

def p_umbraref37_Audit_L1 (N : Nat) (a3 : (List S_api_Receipt)) (a0 : (Vector Int 32)) (a1 : Int) (a2 : (List S_api_Entry)) : Nat → Int → Option (Sum (Unit) ((List Int) × Int))
  | 0, _ => none
  | k + 1, s2 =>
    letO (decide (s2 < ((a3.length : Int)))) fun x3 =>
    cond x3 (
      Option.bind (idx a3 s2) fun e4 =>
      Option.bind (p_umbraref37_Check N a0 e4) fun r5 =>
      cond (r5 != 0) (
        some (Sum.inr (([], r5)))) (
        Option.bind (p_umbraref37_Audit_L2 N s2 a3 N 0) fun o => sumC o (fun p6 =>
          Option.bind (idx a3 s2) fun e10 =>
          Option.bind (p_umbraref37_Against N a1 a2 e10) fun r11 =>
          cond (r11 != 0) (
            some (Sum.inr (([], r11)))) (
            p_umbraref37_Audit_L1 N a3 a0 a1 a2 k (I64 (s2 + 1)))) (fun r => some (Sum.inr r)))) (
      some (Sum.inl (())))

def p_umbraref37_Audit_L4 (N : Nat) (a3 : (List S_api_Receipt)) (s14 : Int) : Nat → (List Int) → Int → Option ((List Int))
  | 0, _, _ => none
  | k + 1, s17, s18 =>
    letO (decide (s18 < ((a3.length : Int)))) fun x19 =>
    cond x19 (
      Option.bind (Option.bind (idx a3 s18) fun e21 =>
      cond (e21.gSeq == s14) (
        Option.bind (appO 8 s17 (([s14] : List Int))) fun z22 =>
        some z22) (
        some s17)) fun p20 =>
      p_umbraref37_Audit_L4 N a3 s14 k p20 (I64 (s18 + 1))) (
      some s17)

def p_umbraref37_Audit_L3 (N : Nat) (a2 : (List S_api_Entry)) (a3 : (List S_api_Receipt)) : Nat → (List Int) → Int → Option ((List Int))
  | 0, _, _ => none
  | k + 1, s13, s14 =>
    letO (decide (s14 < ((a2.length : Int)))) fun x15 =>
    cond x15 (
      Option.bind (p_umbraref37_Audit_L4 N a3 s14 N s13 0) fun p16 =>
      p_umbraref37_Audit_L3 N a2 a3 k p16 (I64 (s14 + 1))) (
      some s13)

def p_umbraref37_Audit (N : Nat) (a0 : (Vector Int 32)) (a1 : Int) (a2 : (List S_api_Entry)) (a3 : (List S_api_Receipt)) : Option ((List Int) × Int) :=
  Option.bind (p_umbraref37_Audit_L1 N a3 a0 a1 a2 N 0) fun o => sumC o (fun p1 =>
    Option.bind (p_umbraref37_Audit_L3 N a2 a3 N [] 0) fun p12 =>
    some ((p12, 0))) (fun r => some r)

theorem umbraref37_Audit_ok {N : Nat} {a0 : (Vector Int 32)} {a1 : Int} {a2 : (List S_api_Entry)} {a3 : (List S_api_Receipt)} {r : (List Int) × Int} (h : p_umbraref37_Audit N a0 a1 a2 a3 = some r) : FnM Try.prog 66 [] [(eA 32 1 k8 a0), (j64 a1), (eL 36 S_api_Entry.enc a2), (eL 100 S_api_Receipt.enc a3)] (.tup [(eL 1 j64 r.1), (j64 r.2)]) [] := by
  unfold p_umbraref37_Audit at h
  refine fnM_of_aw (m := 82) (lo := 0) (rs := [.tmp 8, .tmp 9]) hT Try.func66 rfl (by kernel_rfl) rfl ?_
  refine aw_sregU hT m_umbraref37_Audit [] (by kernel_rfl) ?_
  refine aw_seq ?_
  refine aw_sregU hT m_umbraref37_Audit [] (by kernel_rfl) ?_
  obtain ⟨op1, h, g1⟩ := obind h
  refine aw_joinSK (fun p1 => ⟨[en 2 (eL 36 S_api_Entry.enc a2), en 3 (eL 100 S_api_Receipt.enc a3)], []⟩) g1 ?_ (fun p1 h => ?_)
  · refine aw_block (aw_loop (fun k s => ∃ s2, p_umbraref37_Audit_L1 N a3 a0 a1 a2 k s2 = some op1 ∧ JR (Fr.f 82 0) ⟨[en 1 (j64 a1), en 2 (eL 36 S_api_Entry.enc a2), en 3 (eL 100 S_api_Receipt.enc a3), en 4 (.im (eA 32 1 k8 a0)), en 10 (j64 s2)], []⟩ s) (fun k s hI => ?_) N _ ⟨_, h, jr (by kernel_rfl)⟩)
    obtain ⟨s2, h, hj⟩ := hI
    cases k with
    | zero => cases h
    | succ k =>
      refine aw_jr hj ?_
      refine aw_seq ?_
      obtain ⟨x3, hx3, h⟩ := letE h
      refine aw_sregU hT m_umbraref37_Audit [] (by kernel_rfl) ?_
      refine aw_nms [(20, (eB x3))] (by subst hx3; kernel_rfl) ?_
      refine aw_condH h (by kernel_rfl) (fun _ h => ?_) (fun _ h => ?_)
      · refine aw_skip (tn_n ?_)
        refine aw_seq ?_
        refine aw_block ?_
        refine aw_seq ?_
        obtain ⟨e4, he4, h⟩ := obind h
        obtain ⟨r5, hr5, h⟩ := obind h
        refine aw_sdrawV hT hmo m_umbraref37_Audit [(3, (.im (S_api_Receipt.enc e4))), (5, (j64 r5))] [] (by kernel_rfl) (by kernel_rfl) (by kernel_rfl) ⟨fun _ => big_idx hT S_api_Receipt.enc he4 (by kernel_rfl) (by kernel_rfl), fun _ => big_call0 (umbraref37_Check_ok hr5) umbraref37_Check_ok_c (by kernel_rfl) (by kernel_rfl) (by kernel_rfl), trivial⟩ trivial ?_
        refine aw_sregU hT m_umbraref37_Audit [] (by kernel_rfl) ?_
        refine aw_condH h (by kernel_rfl) (fun _ h => ?_) (fun _ h => ?_)
        · refine aw_sregU hT m_umbraref37_Audit [] (by kernel_rfl) ?_
          cases h
          have h := g1
          refine aw_ret (tn_r (inB_r (tn_r (tn_r (inB_r (tn_r (tn_r ?_)))))))
          obtain rfl := sum_e h
          exact fin_r (by kernel_rfl)
        · refine aw_skip (tn_n ?_)
          refine aw_seq ?_
          refine aw_sregU hT m_umbraref37_Audit [] (by kernel_rfl) ?_
          obtain ⟨op6, h, g6⟩ := obind h
          refine aw_joinSK (fun p6 => ⟨[en 1 (j64 a1), en 2 (eL 36 S_api_Entry.enc a2), en 3 (eL 100 S_api_Receipt.enc a3), en 4 (.im (eA 32 1 k8 a0)), en 10 (j64 s2)], []⟩) g6 ?_ (fun p6 h => ?_)
          · refine aw_block (aw_loop (fun k s => ∃ s7, p_umbraref37_Audit_L2 N s2 a3 k s7 = some op6 ∧ JR (Fr.f 82 0) ⟨[en 1 (j64 a1), en 2 (eL 36 S_api_Entry.enc a2), en 3 (eL 100 S_api_Receipt.enc a3), en 4 (.im (eA 32 1 k8 a0)), en 10 (j64 s2), en 12 (j64 s7)], []⟩ s) (fun k s hI => ?_) N _ ⟨_, h, jr (by kernel_rfl)⟩)
            obtain ⟨s7, h, hj⟩ := hI
            cases k with
            | zero => cases h
            | succ k =>
              refine aw_jr hj ?_
              refine aw_seq ?_
              refine aw_sregU hT m_umbraref37_Audit [] (by kernel_rfl) ?_
              refine aw_condH h (by kernel_rfl) (fun _ h => ?_) (fun _ h => ?_)
              · refine aw_skip (tn_n ?_)
                refine aw_seq ?_
                refine aw_block ?_
                obtain ⟨e8, he8, h⟩ := obind h
                obtain ⟨e9, he9, h⟩ := obind h
                refine aw_sdrawV hT hmo m_umbraref37_Audit [(2, (.im (S_api_Receipt.enc e8))), (7, (.im (S_api_Receipt.enc e9)))] [] (by kernel_rfl) (by kernel_rfl) (by kernel_rfl) ⟨fun _ => big_idx hT S_api_Receipt.enc he8 (by kernel_rfl) (by kernel_rfl), fun _ => big_idx hT S_api_Receipt.enc he9 (by kernel_rfl) (by kernel_rfl), trivial⟩ trivial ?_
                refine aw_condH h (by kernel_rfl) (fun _ h => ?_) (fun _ h => ?_)
                · refine aw_sregU hT m_umbraref37_Audit [] (by kernel_rfl) ?_
                  cases h
                  have h := g6
                  obtain rfl := sum_r h
                  have h := g1
                  refine aw_ret (inB_r (tn_r (tn_r (inB_r (tn_r (tn_r (inB_r (tn_r (tn_r (inB_r (tn_r (tn_r ?_))))))))))))
                  obtain rfl := sum_e h
                  exact fin_r (by kernel_rfl)
                · refine aw_skip (inB_n (tn_n ?_))
                  refine aw_regU hT m_umbraref37_Audit [] (by kernel_rfl) (tn_n ?_)
                  exact ⟨k, Nat.lt_succ_self k, _, h, jr (by kernel_rfl)⟩
              · refine aw_exit (tn_x (tn_x (inB_e (tn_n ?_))))
                cases h
                exact ⟨_, rfl, jr (by kernel_rfl)⟩
          · refine (tn_n ?_)
            refine aw_sreg ?_
            refine awl_u hT m_umbraref37_Audit [] 4 (by kernel_rfl) ?_
            obtain ⟨e10, he10, h⟩ := obind h
            refine awl_big (big_idx hT S_api_Receipt.enc he10 (by kernel_rfl) (by kernel_rfl)) (by kernel_rfl) ?_
            refine awl_u hT m_umbraref37_Audit [] 1 (by kernel_rfl) ?_
            obtain ⟨r11, hr11, h⟩ := obind h
            refine awl_big (big_call [] (umbraref37_Against_ok hr11) umbraref37_Against_ok_c (by kernel_rfl) (by kernel_rfl)) (by kernel_rfl) ?_
            refine awl_u hT m_umbraref37_Audit [] 1 (by kernel_rfl) ?_
            refine awl_nil ?_
            refine aw_sregU hT m_umbraref37_Audit [] (by kernel_rfl) ?_
            refine aw_condH h (by kernel_rfl) (fun _ h => ?_) (fun _ h => ?_)
            · refine aw_sregU hT m_umbraref37_Audit [] (by kernel_rfl) ?_
              cases h
              have h := g1
              refine aw_ret (inB_r (tn_r (tn_r (inB_r (tn_r (tn_r ?_))))))
              obtain rfl := sum_e h
              exact fin_r (by kernel_rfl)
            · refine aw_skip (inB_n (tn_n ?_))
              refine aw_regU hT m_umbraref37_Audit [] (by kernel_rfl) (tn_n ?_)
              exact ⟨k, Nat.lt_succ_self k, _, h, jr (by kernel_rfl)⟩
      · refine aw_exit (tn_x (tn_x (inB_e (tn_n ?_))))
        cases h
        exact ⟨_, rfl, jr (by kernel_rfl)⟩
  · refine (tn_n ?_)
    refine aw_sregU hT m_umbraref37_Audit [] (by kernel_rfl) ?_
    refine aw_seq ?_
    refine aw_sregU hT m_umbraref37_Audit [] (by kernel_rfl) ?_
    refine aw_own_nil 14 1 (by kernel_rfl) ?_
    obtain ⟨p12, h, g12⟩ := obind h
    refine aw_joinTK ⟨[en 14 (eO 0 1 j64 p12)], [.tail (p12.length * 1)]⟩ ?_ ?_
    · refine aw_block (aw_loop (fun k s => ∃ s13 s14, p_umbraref37_Audit_L3 N a2 a3 k s13 s14 = some p12 ∧ JR (Fr.f 82 0) ⟨[en 2 (eL 36 S_api_Entry.enc a2), en 3 (eL 100 S_api_Receipt.enc a3), en 14 (eO 0 1 j64 s13), en 15 (j64 s14)], [.tail (s13.length * 1)]⟩ s) (fun k s hI => ?_) N _ ⟨_, _, h, jr (by kernel_rfl)⟩)
      obtain ⟨s13, s14, h, hj⟩ := hI
      cases k with
      | zero => cases h
      | succ k =>
        refine aw_jr hj ?_
        refine aw_seq ?_
        obtain ⟨x15, hx15, h⟩ := letE h
        refine aw_sregU hT m_umbraref37_Audit [] (by kernel_rfl) ?_
        refine aw_nms [(61, (eB x15))] (by subst hx15; kernel_rfl) ?_
        refine aw_condH h (by kernel_rfl) (fun _ h => ?_) (fun _ h => ?_)
        · refine aw_skip (tn_n ?_)
          refine aw_seq ?_
          refine aw_block ?_
          refine aw_sregU hT m_umbraref37_Audit [] (by kernel_rfl) ?_
          obtain ⟨p16, h, g16⟩ := obind h
          refine aw_joinTK ⟨[en 2 (eL 36 S_api_Entry.enc a2), en 3 (eL 100 S_api_Receipt.enc a3), en 14 (eO 0 1 j64 p16), en 15 (j64 s14)], [.tail (p16.length * 1)]⟩ ?_ ?_
          · refine aw_block (aw_loop (fun k s => ∃ s17 s18, p_umbraref37_Audit_L4 N a3 s14 k s17 s18 = some p16 ∧ JR (Fr.f 82 0) ⟨[en 2 (eL 36 S_api_Entry.enc a2), en 3 (eL 100 S_api_Receipt.enc a3), en 14 (eO 0 1 j64 s17), en 15 (j64 s14), en 16 (j64 s18)], [.tail (s17.length * 1)]⟩ s) (fun k s hI => ?_) N _ ⟨_, _, h, jr (by kernel_rfl)⟩)
            obtain ⟨s17, s18, h, hj⟩ := hI
            cases k with
            | zero => cases h
            | succ k =>
              refine aw_jr hj ?_
              refine aw_seq ?_
              obtain ⟨x19, hx19, h⟩ := letE h
              refine aw_sregU hT m_umbraref37_Audit [] (by kernel_rfl) ?_
              refine aw_nms [(67, (eB x19))] (by subst hx19; kernel_rfl) ?_
              refine aw_condH h (by kernel_rfl) (fun _ h => ?_) (fun _ h => ?_)
              · refine aw_skip (tn_n ?_)
                obtain ⟨p20, h, g20⟩ := obind h
                refine aw_joinT ⟨[en 2 (eL 36 S_api_Entry.enc a2), en 3 (eL 100 S_api_Receipt.enc a3), en 14 (eO 0 1 j64 p20), en 15 (j64 s14), en 16 (j64 s18)], [.tail (p20.length * 1)]⟩ ?_ ?_
                · refine aw_block ?_
                  refine aw_sreg ?_
                  refine awl_u hT m_umbraref37_Audit [] 2 (by kernel_rfl) ?_
                  obtain ⟨e21, he21, h⟩ := obind h
                  refine awl_big (big_idx hT S_api_Receipt.enc he21 (by kernel_rfl) (by kernel_rfl)) (by kernel_rfl) ?_
                  refine awl_u hT m_umbraref37_Audit [] 4 (by kernel_rfl) ?_
                  refine awl_nil ?_
                  refine aw_condH h (by kernel_rfl) (fun _ h => ?_) (fun _ h => ?_)
                  · refine aw_region ?_
                    refine awl_u hT m_umbraref37_Audit [] 2 (by kernel_rfl) ?_
                    refine awl_big (big_row hT (x := (.sl 1 1 [(j64 s14)])) (by kernel_rfl) (by kernel_rfl)) (by kernel_rfl) ?_
                    obtain ⟨z22, hz22, h⟩ := obind h
                    refine awl_big (big_app hT j64 (id := 0) (k := 1) hz22 (by kernel_rfl) (by kernel_rfl)) (by kernel_rfl) ?_
                    refine awl_u hT m_umbraref37_Audit [] 1 (by kernel_rfl) ?_
                    refine awl_nil (inB_n (tn_n ?_))
                    cases h
                    exact jr (by kernel_rfl)
                  · refine aw_skip (inB_n (tn_n ?_))
                    cases h
                    exact jr (by kernel_rfl)
                · have h := g20
                  refine aw_regU hT m_umbraref37_Audit [] (by kernel_rfl) (tn_n ?_)
                  exact ⟨k, Nat.lt_succ_self k, _, _, h, jr (by kernel_rfl)⟩
              · refine aw_exit (tn_x (tn_x (inB_e (tn_n ?_))))
                cases h
                exact jr (by kernel_rfl)
          · have h := g16
            refine (inB_n (tn_n ?_))
            refine aw_regU hT m_umbraref37_Audit [] (by kernel_rfl) (tn_n ?_)
            exact ⟨k, Nat.lt_succ_self k, _, _, h, jr (by kernel_rfl)⟩
        · refine aw_exit (tn_x (tn_x (inB_e (tn_n ?_))))
          cases h
          exact jr (by kernel_rfl)
    · have h := g12
      refine (tn_n ?_)
      refine aw_sregU hT m_umbraref37_Audit [] (by kernel_rfl) ?_
      refine aw_ret ?_
      cases h
      exact fin_r (by kernel_rfl)

theorem umbraref37_Audit_ok_c : callable Try.prog 66 := ⟨_, Try.func66, by decide, rfl⟩

end Go.UK
