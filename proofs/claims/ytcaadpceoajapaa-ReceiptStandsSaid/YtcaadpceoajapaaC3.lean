/- A part of the proof: what the functions of the program compute. -/
import Derived.Test.YtcaadpceoajapaaC2
namespace Go.UK
open Go Go.Proofs
set_option maxRecDepth 20000
set_option maxHeartbeats 4000000
set_option linter.all false

attribute [local irreducible] owp awl aw FnM NatFn opS Stab TOK Big

/-! umbra/receipt.Encode -/
def m_receipt_Encode : Nat → Bool := imL [1]

def p_receipt_Encode (N : Nat) (a0 : S_api_Receipt) : Option ((List Int)) :=
  Option.bind (p_codec_Signed N [] 8 ([a0.gLayer, a0.gSeq, a0.gWho])) fun r1 =>
  Option.bind (p_codec_Put N r1.1 4 ([U64 a0.gClock])) fun r2 =>
  Option.bind (slcO a0.gSum.toList 0 32) fun s3 =>
  Option.bind (slcO a0.gHead.toList 0 32) fun s4 =>
  Option.bind (slcO a0.gTag.toList 0 32) fun s5 =>
  Option.bind (p_slices_Concat_byte_byte N ([r2.1, s3, s4, s5])) fun r6 =>
  some r6

theorem receipt_Encode_ok {N : Nat} {a0 : S_api_Receipt} {r : (List Int)} (h : p_receipt_Encode N a0 = some r) : FnM Try.prog 53 [] [(S_api_Receipt.enc a0)] (eL 1 k8 r) [] := by
  unfold p_receipt_Encode at h
  refine fnM_of_aw (m := 34) (lo := 0) (rs := [.tmp 2]) hT Try.func53 rfl (by kernel_rfl) rfl ?_
  refine aw_sregU hT m_receipt_Encode [] (by kernel_rfl) ?_
  refine aw_sreg ?_
  refine awl_u hT m_receipt_Encode [] 6 (by kernel_rfl) ?_
  refine awl_big (big_row hT (x := (.sl 1 3 [(j64 a0.gLayer), (j64 a0.gSeq), (j64 a0.gWho)])) (by kernel_rfl) (by kernel_rfl)) (by kernel_rfl) ?_
  first | refine awl_to ⟨[en 1 (.im (S_api_Receipt.enc a0)), en 12 (.sl 1 3 [(j64 a0.gLayer), (j64 a0.gSeq), (j64 a0.gWho)])], []⟩ (by kernel_rfl) ?_ | skip
  obtain ⟨r1, hr1, h⟩ := obind h
  refine awl_big (big_call [] (codec_Signed_ok hr1) codec_Signed_ok_c (by kernel_rfl) (by kernel_rfl)) (by kernel_rfl) ?_
  refine awl_u hT m_receipt_Encode [] 5 (by kernel_rfl) ?_
  refine awl_nil ?_
  refine aw_sreg ?_
  refine awl_u hT m_receipt_Encode [] 4 (by kernel_rfl) ?_
  refine awl_big (big_row hT (x := (.sl 1 1 [(k64 (U64 a0.gClock))])) (by kernel_rfl) (by kernel_rfl)) (by kernel_rfl) ?_
  obtain ⟨r2, hr2, h⟩ := obind h
  refine awl_big (big_call [] (codec_Put_ok hr2) codec_Put_ok_c (by kernel_rfl) (by kernel_rfl)) (by kernel_rfl) ?_
  refine awl_u hT m_receipt_Encode [] 4 (by kernel_rfl) ?_
  refine awl_nil ?_
  refine aw_wk 3 ((eL 1 k8 r2.1)) ?_
  obtain ⟨s3, hs3, h⟩ := obind h
  obtain ⟨s4, hs4, h⟩ := obind h
  obtain ⟨s5, hs5, h⟩ := obind h
  obtain ⟨r6, hr6, h⟩ := obind h
  refine aw_sdrawV hT hmo m_receipt_Encode [(2, (eL 1 k8 s3)), (4, (eL 1 k8 s4)), (6, (eL 1 k8 s5)), (7, (.sl 1 4 [(eL 1 k8 r2.1), (eL 1 k8 s3), (eL 1 k8 s4), (eL 1 k8 s5)])), (8, (eL 1 k8 r6))] [] (by kernel_rfl) (by kernel_rfl) (by kernel_rfl) ⟨fun _ => big_slI hT (N := 32) (k := 1) k8 a0.gSum hs3 (by kernel_rfl) (by kernel_rfl), fun _ => big_slI hT (N := 32) (k := 1) k8 a0.gHead hs4 (by kernel_rfl) (by kernel_rfl), fun _ => big_slI hT (N := 32) (k := 1) k8 a0.gTag hs5 (by kernel_rfl) (by kernel_rfl), fun _ => big_row hT (x := (.sl 1 4 [(eL 1 k8 r2.1), (eL 1 k8 s3), (eL 1 k8 s4), (eL 1 k8 s5)])) (by kernel_rfl) (by kernel_rfl), fun _ => big_call0 (slices_Concat_byte_byte_ok hr6) slices_Concat_byte_byte_ok_c (by kernel_rfl) (by kernel_rfl) (by kernel_rfl), trivial⟩ trivial ?_
  refine aw_ret ?_
  cases h
  exact fin_r (by kernel_rfl)

theorem receipt_Encode_ok_c : callable Try.prog 53 := ⟨_, Try.func53, by decide, rfl⟩

/-! umbra/mac.pads -/
def p_mac_pads_L1 (N : Nat)  : Nat → (Vector Int 64) → (Vector Int 64) → Int → Option ((Vector Int 64) × (Vector Int 64))
  | 0, _, _, _ => none
  | k + 1, s9, s10, s11 =>
    cond (decide (s11 < 64)) (
      Option.bind (inRO s11 64) fun _ =>
      Option.bind (s9.toList[s11.toNat]?) fun e13 =>
      Option.bind (inRO s11 64) fun _ =>
      Option.bind (s9.toList[s11.toNat]?) fun e15 =>
      Option.bind (inRO s11 64) fun _ =>
      Option.bind (s10.toList[s11.toNat]?) fun e17 =>
      Option.bind (inRO s11 64) fun _ =>
      Option.bind (s10.toList[s11.toNat]?) fun e19 =>
      p_mac_pads_L1 N k (s9.setIfInBounds s11.toNat (bxor .u8 e13 54)) (s10.setIfInBounds s11.toNat (bxor .u8 e17 92)) (I64 (s11 + 1))) (
      some ((s9, s10)))

def p_mac_pads (N : Nat) (a0 : (List Int)) : Option ((Vector Int 64) × (Vector Int 64)) :=
  Option.bind (letO (decide (((a0.length : Int)) > 64)) fun x2 =>
  cond x2 (
    Option.bind (p_sha_Sum N ([a0])) fun r3 =>
    Option.bind (slcO r3.toList 0 32) fun s5 =>
    some s5) (
    some a0)) fun p1 =>
  Option.bind (slcB 64 0 64) fun _ =>
  Option.bind (cpV (Vector.replicate 64 0) p1 0 64) fun v7 =>
  Option.bind (p_mac_pads_L1 N N v7 v7 0) fun p8 =>
  some ((p8.1, p8.2))

theorem mac_pads_ok {N : Nat} {a0 : (List Int)} {r : (Vector Int 64) × (Vector Int 64)} (h : p_mac_pads N a0 = some r) : FnM Try.prog 176 [] [(eL 1 k8 a0)] (.tup [(eA 64 1 k8 r.1), (eA 64 1 k8 r.2)]) [] := by
  unfold p_mac_pads at h
  refine fnM_of_aw (m := 33) (lo := 0) (rs := [.cell 2 228, .cell 3 228]) hT Try.func176 rfl (by kernel_rfl) rfl ?_
  refine aw_sregU hT m_no [] (by kernel_rfl) ?_
  obtain ⟨p1, h, g1⟩ := obind h
  refine aw_joinT ⟨[en 0 (eL 1 k8 p1), en 2 (.ref 0 [] 0), en 3 (.ref 1 [] 0)], [.var (eA 64 1 k8 (Vector.replicate 64 0)), .var (eA 64 1 k8 (Vector.replicate 64 0))]⟩ ?_ ?_
  · obtain ⟨x2, hx2, h⟩ := letE h
    refine aw_sregU hT m_no [] (by kernel_rfl) ?_
    refine aw_nms [(8, (eB x2))] (by subst hx2; kernel_rfl) ?_
    refine aw_condH h (by kernel_rfl) (fun _ h => ?_) (fun _ h => ?_)
    · refine aw_sreg ?_
      refine awl_u hT m_no [] 1 (by kernel_rfl) ?_
      refine awl_big (big_row hT (x := (.sl 1 1 [(eL 1 k8 a0)])) (by kernel_rfl) (by kernel_rfl)) (by kernel_rfl) ?_
      obtain ⟨r3, hr3, h⟩ := obind h
      refine awl_big (big_call [] (sha_Sum_ok hr3) sha_Sum_ok_c (by kernel_rfl) (by kernel_rfl)) (by kernel_rfl) ?_
      refine awl_u hT m_no [] 2 (by kernel_rfl) ?_
      refine awl_nil ?_
      refine aw_region ?_
      refine awl_gz 2 ((eA 32 1 k8 r3)) (by kernel_rfl) (by kernel_rfl) ?_
      obtain ⟨s5, hs5, h⟩ := obind h
      refine awl_big (big_slI hT (N := 32) (k := 1) k8 r3 hs5 (by kernel_rfl) (by kernel_rfl)) (by kernel_rfl) ?_
      refine awl_u hT m_no [] 1 (by kernel_rfl) ?_
      refine awl_nil (tn_n ?_)
      cases h
      exact jr (by kernel_rfl)
    · refine aw_skip (tn_n ?_)
      cases h
      exact jr (by kernel_rfl)
  · have h := g1
    refine aw_sreg ?_
    obtain ⟨s6, hs6, h⟩ := obind h
    refine awl_big (big_slR hT (k := 1) 0 [] 0 hs6 (by kernel_rfl) (by kernel_rfl) (by decide)) (by kernel_rfl) ?_
    refine awl_u hT m_no [] 1 (by kernel_rfl) ?_
    obtain ⟨v7, hv7, h⟩ := obind h
    refine awl_big (big_cpyV hT k8 (id := 0) (path := []) (off := 0) (H' := [.var (eA 64 1 k8 v7), .var (eA 64 1 k8 (Vector.replicate 64 0))]) hv7 (by kernel_rfl) (by kernel_rfl) (by kernel_rfl)) (by kernel_rfl) ?_
    refine awl_nil ?_
    refine aw_sregU hT m_no [] (by kernel_rfl) ?_
    refine aw_seq ?_
    refine aw_sregU hT m_no [] (by kernel_rfl) ?_
    obtain ⟨p8, h, g8⟩ := obind h
    refine aw_joinTK ⟨[en 2 (.ref 0 [] 0), en 3 (.ref 1 [] 0)], [.var (eA 64 1 k8 p8.1), .var (eA 64 1 k8 p8.2)]⟩ ?_ ?_
    · refine aw_block (aw_loop (fun k s => ∃ s9 s10 s11, p_mac_pads_L1 N k s9 s10 s11 = some p8 ∧ JR (Fr.f 33 0) ⟨[en 2 (.ref 0 [] 0), en 3 (.ref 1 [] 0), en 17 (j64 s11)], [.var (eA 64 1 k8 s9), .var (eA 64 1 k8 s10)]⟩ s) (fun k s hI => ?_) N _ ⟨_, _, _, h, jr (by kernel_rfl)⟩)
      obtain ⟨s9, s10, s11, h, hj⟩ := hI
      cases k with
      | zero => cases h
      | succ k =>
        refine aw_jr hj ?_
        refine aw_sregU hT m_no [] (by kernel_rfl) ?_
        refine aw_seq ?_
        refine aw_condH h (by kernel_rfl) (fun _ h => ?_) (fun _ h => ?_)
        · refine aw_skip (tn_n ?_)
          refine aw_seq ?_
          refine aw_block ?_
          refine aw_sregU hT m_no [] (by kernel_rfl) ?_
          refine aw_sreg ?_
          refine awl_u hT m_no [] 1 (by kernel_rfl) ?_
          obtain ⟨u12, hu12, h⟩ := obind h
          refine awl_big (big_adR hT (k := 1) 0 [] 0 hu12 (by kernel_rfl) (by kernel_rfl)) (by kernel_rfl) ?_
          first | refine awl_to ⟨[en 2 (.ref 0 [] 0), en 3 (.ref 1 [] 0), en 5 (j64 s11), en 17 (j64 s11), en 20 (j64 s11), en 21 (.ref 0 [s11.toNat] (0 + s11.toNat * 1))], [.var (eA 64 1 k8 s9), .var (eA 64 1 k8 s10)]⟩ (by kernel_rfl) ?_ | skip
          obtain ⟨e13, he13, h⟩ := obind h
          refine awl_big (big_ldE hT k8 0 he13 (by kernel_rfl) (by kernel_rfl)) (by kernel_rfl) ?_
          refine awl_u hT m_no [] 1 (by kernel_rfl) ?_
          obtain ⟨u14, hu14, h⟩ := obind h
          refine awl_big (big_adR hT (k := 1) 0 [] 0 hu14 (by kernel_rfl) (by kernel_rfl)) (by kernel_rfl) ?_
          obtain ⟨e15, he15, h⟩ := obind h
          refine awl_big (big_stV hT k8 0 s9 he15 (bxor .u8 e13 54) (by kernel_rfl) (by kernel_rfl) (H' := [.var (eA 64 1 k8 (s9.setIfInBounds s11.toNat (bxor .u8 e13 54))), .var (eA 64 1 k8 s10)]) (by kernel_rfl)) (by kernel_rfl) ?_
          refine awl_nil ?_
          refine aw_region ?_
          refine awl_u hT m_no [] 1 (by kernel_rfl) ?_
          obtain ⟨u16, hu16, h⟩ := obind h
          refine awl_big (big_adR hT (k := 1) 1 [] 0 hu16 (by kernel_rfl) (by kernel_rfl)) (by kernel_rfl) ?_
          first | refine awl_to ⟨[en 2 (.ref 0 [] 0), en 3 (.ref 1 [] 0), en 17 (j64 s11), en 25 (j64 s11), en 26 (.ref 1 [s11.toNat] (0 + s11.toNat * 1))], [.var (eA 64 1 k8 (s9.setIfInBounds s11.toNat (bxor .u8 e13 54))), .var (eA 64 1 k8 s10)]⟩ (by kernel_rfl) ?_ | skip
          obtain ⟨e17, he17, h⟩ := obind h
          refine awl_big (big_ldE hT k8 0 he17 (by kernel_rfl) (by kernel_rfl)) (by kernel_rfl) ?_
          refine awl_u hT m_no [] 1 (by kernel_rfl) ?_
          obtain ⟨u18, hu18, h⟩ := obind h
          refine awl_big (big_adR hT (k := 1) 1 [] 0 hu18 (by kernel_rfl) (by kernel_rfl)) (by kernel_rfl) ?_
          obtain ⟨e19, he19, h⟩ := obind h
          refine awl_big (big_stV hT k8 0 s10 he19 (bxor .u8 e17 92) (by kernel_rfl) (by kernel_rfl) (H' := [.var (eA 64 1 k8 (s9.setIfInBounds s11.toNat (bxor .u8 e13 54))), .var (eA 64 1 k8 (s10.setIfInBounds s11.toNat (bxor .u8 e17 92)))]) (by kernel_rfl)) (by kernel_rfl) ?_
          refine awl_nil (inB_n (tn_n ?_))
          refine aw_regU hT m_no [] (by kernel_rfl) (tn_n ?_)
          exact ⟨k, Nat.lt_succ_self k, _, _, _, h, jr (by kernel_rfl)⟩
        · refine aw_exit (tn_x (tn_x (inB_e (tn_n ?_))))
          cases h
          exact jr (by kernel_rfl)
    · have h := g8
      refine (tn_n ?_)
      refine aw_sdrawV hT hmo m_no [] [] (by kernel_rfl) (by kernel_rfl) (by kernel_rfl) trivial trivial ?_
      refine aw_ret ?_
      cases h
      exact fin_r (by kernel_rfl)

theorem mac_pads_ok_c : callable Try.prog 176 := ⟨_, Try.func176, by decide, rfl⟩

/-! umbra/mac.Sum -/
def p_mac_Sum (N : Nat) (a0 : (List Int)) (a1 : (List (List Int))) : Option ((Vector Int 32)) :=
  Option.bind (p_mac_pads N a0) fun r1 =>
  Option.bind (p_sha_New N ) fun r2 =>
  Option.bind (slcO r1.1.toList 0 64) fun s4 =>
  Option.bind (p_sha_Hash_Write_rd N ([s4]) (S_sha_Hash.mk (#v[1779033703, 3144134277, 1013904242, 2773480762, 1359893119, 2600822924, 528734635, 1541459225]) (Vector.replicate 64 0) 0)) fun r5 =>
  Option.bind (p_sha_Hash_Write_rd N a1 (S_sha_Hash.mk r5.1 r5.2.1 r5.2.2)) fun r6 =>
  Option.bind (p_sha_Hash_Sum_r N (S_sha_Hash.mk r6.1 r6.2.1 r6.2.2)) fun r7 =>
  Option.bind (slcO r1.2.toList 0 64) fun s8 =>
  Option.bind (slcO r7.toList 0 32) fun s9 =>
  Option.bind (p_sha_Sum N ([s8, s9])) fun r10 =>
  some r10

theorem mac_Sum_ok {N : Nat} {a0 : (List Int)} {a1 : (List (List Int))} {r : (Vector Int 32)} (h : p_mac_Sum N a0 a1 = some r) : FnM Try.prog 148 [] [(eL 1 k8 a0), (eL 1 (eL 1 k8) a1)] (eA 32 1 k8 r) [] := by
  unfold p_mac_Sum at h
  refine fnM_of_aw (m := 28) (lo := 0) (rs := [.cell 4 53]) hT Try.func148 rfl (by kernel_rfl) rfl ?_
  refine aw_sregU hT m_no [] (by kernel_rfl) ?_
  refine aw_sreg ?_
  refine awl_u hT m_no [] 1 (by kernel_rfl) ?_
  obtain ⟨r1, hr1, h⟩ := obind h
  refine awl_big (big_call [] (mac_pads_ok hr1) mac_pads_ok_c (by kernel_rfl) (by kernel_rfl)) (by kernel_rfl) ?_
  refine awl_u hT m_no [] 7 (by kernel_rfl) ?_
  refine awl_nil ?_
  refine aw_sreg ?_
  obtain ⟨r2, hr2, h⟩ := obind h
  refine awl_big (big_call [] (sha_New_ok hr2) sha_New_ok_c (by kernel_rfl) (by kernel_rfl)) (by kernel_rfl) ?_
  refine awl_u hT m_no [] 1 (by kernel_rfl) ?_
  refine awl_nil ?_
  refine aw_sreg ?_
  refine awl_u hT m_no [] 1 (by kernel_rfl) ?_
  refine awl_gz 1 ((eA 64 1 k8 r1.1)) (by kernel_rfl) (by kernel_rfl) ?_
  obtain ⟨s4, hs4, h⟩ := obind h
  refine awl_big (big_slI hT (N := 64) (k := 1) k8 r1.1 hs4 (by kernel_rfl) (by kernel_rfl)) (by kernel_rfl) ?_
  refine awl_big (big_row hT (x := (.sl 1 1 [(eL 1 k8 s4)])) (by kernel_rfl) (by kernel_rfl)) (by kernel_rfl) ?_
  first | refine awl_to ⟨[en 1 (eL 1 (eL 1 k8) a1), en 4 (.ref 0 [] 0), en 6 (.ref 2 [] 0), en 7 (.ref 3 [] 0), en 15 (.ref 3 [] 0), en 17 (.sl 1 1 [(eL 1 k8 s4)])], [.var (eA 32 1 k8 (Vector.replicate 32 0)), .dead, .var (eA 64 1 k8 r1.2), .var (.st 73 [(.arr 8 1 [(k32 1779033703), (k32 3144134277), (k32 1013904242), (k32 2773480762), (k32 1359893119), (k32 2600822924), (k32 528734635), (k32 1541459225)]), (eA 64 1 k8 (Vector.replicate 64 0)), (j64 0)])]⟩ (by kernel_rfl) ?_ | skip
  obtain ⟨r5, hr5, h⟩ := obind h
  refine awl_big (big_call [3] (sha_Hash_Write_rd_ok hr5) sha_Hash_Write_rd_ok_c (by kernel_rfl) (by kernel_rfl)) (by kernel_rfl) ?_
  refine awl_nil ?_
  refine aw_sreg ?_
  refine awl_u hT m_no [] 2 (by kernel_rfl) ?_
  obtain ⟨r6, hr6, h⟩ := obind h
  refine awl_big (big_call [3] (sha_Hash_Write_rd_ok hr6) sha_Hash_Write_rd_ok_c (by kernel_rfl) (by kernel_rfl)) (by kernel_rfl) ?_
  refine awl_nil ?_
  refine aw_sreg ?_
  refine awl_u hT m_no [] 1 (by kernel_rfl) ?_
  obtain ⟨r7, hr7, h⟩ := obind h
  refine awl_big (big_call [3] (sha_Hash_Sum_r_ok hr7) sha_Hash_Sum_r_ok_c (by kernel_rfl) (by kernel_rfl)) (by kernel_rfl) ?_
  refine awl_u hT m_no [] 2 (by kernel_rfl) ?_
  refine awl_nil ?_
  refine aw_gz 2 ((eA 64 1 k8 r1.2)) (by kernel_rfl) (by kernel_rfl) ?_
  refine aw_gz 4 ((eA 32 1 k8 r7)) (by kernel_rfl) (by kernel_rfl) ?_
  obtain ⟨s8, hs8, h⟩ := obind h
  obtain ⟨s9, hs9, h⟩ := obind h
  obtain ⟨r10, hr10, h⟩ := obind h
  refine aw_sdrawV hT hmo m_no [(0, (eL 1 k8 s8)), (1, (eL 1 k8 s9)), (2, (.sl 1 2 [(eL 1 k8 s8), (eL 1 k8 s9)])), (3, (eA 32 1 k8 r10))] [] (by kernel_rfl) (by kernel_rfl) (by kernel_rfl) ⟨fun _ => big_slI hT (N := 64) (k := 1) k8 r1.2 hs8 (by kernel_rfl) (by kernel_rfl), fun _ => big_slI hT (N := 32) (k := 1) k8 r7 hs9 (by kernel_rfl) (by kernel_rfl), fun _ => big_row hT (x := (.sl 1 2 [(eL 1 k8 s8), (eL 1 k8 s9)])) (by kernel_rfl) (by kernel_rfl), fun _ => big_call0 (sha_Sum_ok hr10) sha_Sum_ok_c (by kernel_rfl) (by kernel_rfl) (by kernel_rfl), trivial⟩ trivial ?_
  refine aw_ret ?_
  cases h
  exact fin_r (by kernel_rfl)

theorem mac_Sum_ok_c : callable Try.prog 148 := ⟨_, Try.func148, by decide, rfl⟩

/-! umbra/receipt.tag -/
def m_receipt_tag : Nat → Bool := imL [2]

def p_receipt_tag (N : Nat) (a0 : (Vector Int 32)) (a1 : S_api_Receipt) : Option ((Vector Int 32)) :=
  Option.bind (slcO a0.toList 0 32) fun s1 =>
  Option.bind (p_receipt_Encode N (S_api_Receipt.mk a1.gLayer a1.gSeq a1.gWho a1.gClock a1.gSum a1.gHead (Vector.replicate 32 0))) fun r2 =>
  Option.bind (p_mac_Sum N s1 ([r2])) fun r3 =>
  some r3

theorem receipt_tag_ok {N : Nat} {a0 : (Vector Int 32)} {a1 : S_api_Receipt} {r : (Vector Int 32)} (h : p_receipt_tag N a0 a1 = some r) : FnM Try.prog 96 [] [(eA 32 1 k8 a0), (S_api_Receipt.enc a1)] (eA 32 1 k8 r) [] := by
  unfold p_receipt_tag at h
  refine fnM_of_aw (m := 12) (lo := 0) (rs := [.cell 4 53]) hT Try.func96 rfl (by kernel_rfl) rfl ?_
  refine aw_sregU hT m_receipt_tag [] (by kernel_rfl) ?_
  refine aw_sregU hT m_receipt_tag [] (by kernel_rfl) ?_
  obtain ⟨s1, hs1, h⟩ := obind h
  obtain ⟨r2, hr2, h⟩ := obind h
  obtain ⟨r3, hr3, h⟩ := obind h
  refine aw_sdrawV hT hmo m_receipt_tag [(0, (eL 1 k8 s1)), (2, (eL 1 k8 r2)), (3, (.sl 1 1 [(eL 1 k8 r2)])), (4, (eA 32 1 k8 r3))] [] (by kernel_rfl) (by kernel_rfl) (by kernel_rfl) ⟨fun _ => big_slI hT (N := 32) (k := 1) k8 a0 hs1 (by kernel_rfl) (by kernel_rfl), fun _ => big_call0 (receipt_Encode_ok hr2) receipt_Encode_ok_c (by kernel_rfl) (by kernel_rfl) (by kernel_rfl), fun _ => big_row hT (x := (.sl 1 1 [(eL 1 k8 r2)])) (by kernel_rfl) (by kernel_rfl), fun _ => big_call0 (mac_Sum_ok hr3) mac_Sum_ok_c (by kernel_rfl) (by kernel_rfl) (by kernel_rfl), trivial⟩ trivial ?_
  refine aw_ret ?_
  cases h
  exact fin_r (by kernel_rfl)

theorem receipt_tag_ok_c : callable Try.prog 96 := ⟨_, Try.func96, by decide, rfl⟩

/-! umbra/receipt.Issue -/
def m_receipt_Issue : Nat → Bool := imL [4]

def p_receipt_Issue (N : Nat) (a0 : (Vector Int 32)) (a1 : Int) (a2 : (List S_api_Entry)) (a3 : Int) : Option (S_api_Receipt × Int) :=
  Option.bind (letO (decide (a3 ≥ ((a2.length : Int)))) fun x2 =>
  letO (cond (decide (a3 < 0)) true x2) fun x3 =>
  cond x3 (
    some true) (
    Option.bind (idx a2 a3) fun e4 =>
    some (e4.gSeq != a3))) fun p1 =>
  cond p1 (
    some ((S_api_Receipt.mk 0 0 0 0 (Vector.replicate 32 0) (Vector.replicate 32 0) (Vector.replicate 32 0), 2))) (
    Option.bind (idx a2 a3) fun e5 =>
    cond (e5.gErr != 0) (
      some ((S_api_Receipt.mk 0 0 0 0 (Vector.replicate 32 0) (Vector.replicate 32 0) (Vector.replicate 32 0), 5))) (
      Option.bind (p_receipt_of N a1 a2 a3) fun r6 =>
      Option.bind (p_receipt_tag N a0 r6) fun r7 =>
      some ((S_api_Receipt.mk r6.gLayer r6.gSeq r6.gWho r6.gClock r6.gSum r6.gHead r7, 0))))

theorem receipt_Issue_ok {N : Nat} {a0 : (Vector Int 32)} {a1 : Int} {a2 : (List S_api_Entry)} {a3 : Int} {r : S_api_Receipt × Int} (h : p_receipt_Issue N a0 a1 a2 a3 = some r) : FnM Try.prog 41 [] [(eA 32 1 k8 a0), (j64 a1), (eL 36 S_api_Entry.enc a2), (j64 a3)] (.tup [(S_api_Receipt.enc r.1), (j64 r.2)]) [] := by
  unfold p_receipt_Issue at h
  refine fnM_of_aw (m := 47) (lo := 0) (rs := [.cell 8 59, .tmp 9]) hT Try.func41 rfl (by kernel_rfl) rfl ?_
  refine aw_sregU hT m_receipt_Issue [] (by kernel_rfl) ?_
  refine aw_seq ?_
  refine aw_block ?_
  obtain ⟨p1, h, g1⟩ := obind h
  refine aw_joinT ⟨[en 1 (j64 a1), en 2 (eL 36 S_api_Entry.enc a2), en 3 (j64 a3), en 4 (.im (eA 32 1 k8 a0)), en 8 (.ref 0 [] 0), en 11 (eB p1)], [.var (.st 100 [(j64 0), (j64 0), (j64 0), (k32 0), (eA 32 1 k8 (Vector.replicate 32 0)), (eA 32 1 k8 (Vector.replicate 32 0)), (eA 32 1 k8 (Vector.replicate 32 0))])]⟩ ?_ ?_
  · refine aw_region ?_
    obtain ⟨x2, hx2, h⟩ := letE h
    obtain ⟨x3, hx3, h⟩ := letE h
    refine awl_u hT m_receipt_Issue [] 9 (by kernel_rfl) ?_
    refine awl_nms [(20, (eB x3))] (by subst hx3 hx2; kernel_rfl) ?_
    refine awl_split 20 h (by kernel_rfl) (fun h => ?_) (fun h => ?_)
    · refine awl_u hT m_receipt_Issue [20] 9 (by kernel_rfl) ?_
      refine awl_nil (tn_n ?_)
      cases h
      exact jr (by kernel_rfl)
    · refine awl_u hT m_receipt_Issue [20] 2 (by kernel_rfl) ?_
      obtain ⟨e4, he4, h⟩ := obind h
      refine awl_big (big_idx hT S_api_Entry.enc he4 (by kernel_rfl) (by kernel_rfl)) (by kernel_rfl) ?_
      refine awl_u hT m_receipt_Issue [20] 6 (by kernel_rfl) ?_
      refine awl_nil (tn_n ?_)
      cases h
      exact jr (by kernel_rfl)
  · have h := g1
    refine aw_condH h (by kernel_rfl) (fun _ h => ?_) (fun _ h => ?_)
    · refine aw_sregU hT m_receipt_Issue [] (by kernel_rfl) ?_
      refine aw_ret (inB_r (tn_r ?_))
      cases h
      exact fin_r (by kernel_rfl)
    · refine aw_sreg ?_
      refine awl_u hT m_receipt_Issue [] 2 (by kernel_rfl) ?_
      obtain ⟨e5, he5, h⟩ := obind h
      refine awl_big (big_idx hT S_api_Entry.enc he5 (by kernel_rfl) (by kernel_rfl)) (by kernel_rfl) ?_
      refine awl_u hT m_receipt_Issue [] 4 (by kernel_rfl) ?_
      refine awl_nil ?_
      refine aw_condH h (by kernel_rfl) (fun _ h => ?_) (fun _ h => ?_)
      · refine aw_sregU hT m_receipt_Issue [] (by kernel_rfl) ?_
        refine aw_ret (inB_r (tn_r ?_))
        cases h
        exact fin_r (by kernel_rfl)
      · refine aw_skip (inB_n (tn_n ?_))
        refine aw_sreg ?_
        refine awl_u hT m_receipt_Issue [] 3 (by kernel_rfl) ?_
        obtain ⟨r6, hr6, h⟩ := obind h
        refine awl_big (big_call [] (receipt_of_ok hr6) receipt_of_ok_c (by kernel_rfl) (by kernel_rfl)) (by kernel_rfl) ?_
        refine awl_u hT m_receipt_Issue [] 2 (by kernel_rfl) ?_
        refine awl_nil ?_
        refine aw_sreg ?_
        refine awl_u hT m_receipt_Issue [] 2 (by kernel_rfl) ?_
        obtain ⟨r7, hr7, h⟩ := obind h
        refine awl_big (big_call [] (receipt_tag_ok hr7) receipt_tag_ok_c (by kernel_rfl) (by kernel_rfl)) (by kernel_rfl) ?_
        refine awl_u hT m_receipt_Issue [] 2 (by kernel_rfl) ?_
        refine awl_nil ?_
        refine aw_sregU hT m_receipt_Issue [] (by kernel_rfl) ?_
        refine aw_ret ?_
        cases h
        exact fin_r (by kernel_rfl)

theorem receipt_Issue_ok_c : callable Try.prog 41 := ⟨_, Try.func41, by decide, rfl⟩

/-! umbra/umbraref11.most -/
def p_umbraref11_most_L1 (N : Nat) (a0 : Int) : Nat → Int → Int → Option (Int)
  | 0, _, _ => none
  | k + 1, s2, s3 =>
    cond (decide (s3 < a0)) (
      letO (U64 ((U64 (s2 * 256)) + 255)) fun x5 =>
      p_umbraref11_most_L1 N a0 k x5 (I64 (s3 + 1))) (
      some s2)

def p_umbraref11_most (N : Nat) (a0 : Int) : Option (Int) :=
  Option.bind (p_umbraref11_most_L1 N a0 N 0 0) fun p1 =>
  some p1

theorem umbraref11_most_ok {N : Nat} {a0 : Int} {r : Int} (h : p_umbraref11_most N a0 = some r) : FnM Try.prog 155 [] [(j64 a0)] (k64 r) [] := by
  unfold p_umbraref11_most at h
  refine fnM_of_aw (m := 14) (lo := 0) (rs := [.tmp 2]) hT Try.func155 rfl (by kernel_rfl) rfl ?_
  refine aw_sregU hT m_no [] (by kernel_rfl) ?_
  refine aw_sregU hT m_no [] (by kernel_rfl) ?_
  refine aw_seq ?_
  refine aw_sregU hT m_no [] (by kernel_rfl) ?_
  obtain ⟨p1, h, g1⟩ := obind h
  refine aw_joinTK ⟨[en 3 (k64 p1)], []⟩ ?_ ?_
  · refine aw_block (aw_loop (fun k s => ∃ s2 s3, p_umbraref11_most_L1 N a0 k s2 s3 = some p1 ∧ JR (Fr.f 14 0) ⟨[en 0 (j64 a0), en 3 (k64 s2), en 4 (j64 s3)], []⟩ s) (fun k s hI => ?_) N _ ⟨_, _, h, jr (by kernel_rfl)⟩)
    obtain ⟨s2, s3, h, hj⟩ := hI
    cases k with
    | zero => cases h
    | succ k =>
      refine aw_jr hj ?_
      refine aw_seq ?_
      refine aw_sregU hT m_no [] (by kernel_rfl) ?_
      refine aw_condH h (by kernel_rfl) (fun _ h => ?_) (fun _ h => ?_)
      · refine aw_skip (tn_n ?_)
        refine aw_seq ?_
        refine aw_block ?_
        refine aw_region ?_
        obtain ⟨x5, hx5, h⟩ := letE h
        refine awl_u hT m_no [] 4 (by kernel_rfl) ?_
        refine awl_nms [(3, (k64 x5))] (by subst hx5; kernel_rfl) ?_
        refine awl_nil (inB_n (tn_n ?_))
        refine aw_regU hT m_no [] (by kernel_rfl) (tn_n ?_)
        exact ⟨k, Nat.lt_succ_self k, _, _, h, jr (by kernel_rfl)⟩
      · refine aw_exit (tn_x (tn_x (inB_e (tn_n ?_))))
        cases h
        exact jr (by kernel_rfl)
  · have h := g1
    refine (tn_n ?_)
    refine aw_sregU hT m_no [] (by kernel_rfl) ?_
    refine aw_ret ?_
    cases h
    exact fin_r (by kernel_rfl)

theorem umbraref11_most_ok_c : callable Try.prog 155 := ⟨_, Try.func155, by decide, rfl⟩

/-! umbra/umbraref11.Put -/
def p_umbraref11_Put_L2 (N : Nat) (a1 : Int) : Nat → (List Int) → Int → Int → Option ((List Int))
  | 0, _, _, _ => none
  | k + 1, s11, s12, s13 =>
    cond (decide (s13 < a1)) (
      Option.bind (appO 1 s11 (([U8 (Int.tmod s12 256)] : List Int))) fun z14 =>
      p_umbraref11_Put_L2 N a1 k z14 (U64 (Int.tdiv s12 256)) (I64 (s13 + 1))) (
      some s11)

def p_umbraref11_Put_L1 (N : Nat) (a2 : (List Int)) (a1 : Int) : Nat → (List Int) → Int → Option (Sum ((List Int)) ((List Int) × Int))
  | 0, _, _ => none
  | k + 1, s4, s5 =>
    letO (decide (s5 < ((a2.length : Int)))) fun x6 =>
    cond x6 (
      Option.bind (idx a2 s5) fun e7 =>
      Option.bind (p_umbraref11_most N a1) fun r8 =>
      cond (decide (e7 > r8)) (
        some (Sum.inr (([], 3)))) (
        Option.bind (idx a2 s5) fun e9 =>
        Option.bind (p_umbraref11_Put_L2 N a1 N s4 e9 0) fun p10 =>
        p_umbraref11_Put_L1 N a2 a1 k p10 (I64 (s5 + 1)))) (
      some (Sum.inl s4))

def p_umbraref11_Put (N : Nat) (a0 : (List Int)) (a1 : Int) (a2 : (List Int)) : Option ((List Int) × Int) :=
  letO (cond (decide (a1 < 1)) true (decide (a1 > 8))) fun x1 =>
  cond x1 (
    some (([], 2))) (
    Option.bind (appO 1 (([] : List Int)) a0) fun z2 =>
    Option.bind (p_umbraref11_Put_L1 N a2 a1 N z2 0) fun o => sumC o (fun p3 =>
      some ((p3, 0))) (fun r => some r))

theorem umbraref11_Put_ok {N : Nat} {a0 : (List Int)} {a1 : Int} {a2 : (List Int)} {r : (List Int) × Int} (h : p_umbraref11_Put N a0 a1 a2 = some r) : FnM Try.prog 116 [] [(eL 1 k8 a0), (j64 a1), (eL 1 k64 a2)] (.tup [(eO 0 1 k8 r.1), (j64 r.2)]) [.tail (r.1.length * 1)] := by
  unfold p_umbraref11_Put at h
  refine fnM_of_aw (m := 52) (lo := 0) (rs := [.tmp 6, .tmp 7]) hT Try.func116 rfl (by kernel_rfl) rfl ?_
  refine aw_sregU hT m_no [] (by kernel_rfl) ?_
  refine aw_seq ?_
  obtain ⟨x1, hx1, h⟩ := letE h
  refine aw_sregU hT m_no [] (by kernel_rfl) ?_
  refine aw_nms [(17, (eB x1))] (by subst hx1; kernel_rfl) ?_
  refine aw_condH h (by kernel_rfl) (fun _ h => ?_) (fun _ h => ?_)
  · refine aw_sregU hT m_no [] (by kernel_rfl) ?_
    refine aw_own_nil 6 1 (by kernel_rfl) ?_
    refine aw_ret (tn_r ?_)
    cases h
    exact fin_r (by kernel_rfl)
  · refine aw_skip (tn_n ?_)
    refine aw_sreg ?_
    refine awl_big (big_rowO hT k8 (k := 1) ([] : List Int) (by kernel_rfl) (by kernel_rfl)) (by kernel_rfl) ?_
    refine awl_u hT m_no [] 1 (by kernel_rfl) ?_
    obtain ⟨z2, hz2, h⟩ := obind h
    refine awl_big (big_app hT k8 (id := 0) (k := 1) hz2 (by kernel_rfl) (by kernel_rfl)) (by kernel_rfl) ?_
    refine awl_u hT m_no [] 1 (by kernel_rfl) ?_
    refine awl_nil ?_
    refine aw_seq ?_
    refine aw_sregU hT m_no [] (by kernel_rfl) ?_
    obtain ⟨op3, h, g3⟩ := obind h
    refine aw_joinSK (fun p3 => ⟨[en 8 (eO 0 1 k8 p3)], [.tail (p3.length * 1)]⟩) g3 ?_ (fun p3 h => ?_)
    · refine aw_block (aw_loop (fun k s => ∃ s4 s5, p_umbraref11_Put_L1 N a2 a1 k s4 s5 = some op3 ∧ JR (Fr.f 52 0) ⟨[en 1 (j64 a1), en 2 (eL 1 k64 a2), en 8 (eO 0 1 k8 s4), en 9 (j64 s5)], [.tail (s4.length * 1)]⟩ s) (fun k s hI => ?_) N _ ⟨_, _, h, jr (by kernel_rfl)⟩)
      obtain ⟨s4, s5, h, hj⟩ := hI
      cases k with
      | zero => cases h
      | succ k =>
        refine aw_jr hj ?_
        refine aw_seq ?_
        obtain ⟨x6, hx6, h⟩ := letE h
        refine aw_sregU hT m_no [] (by kernel_rfl) ?_
        refine aw_nms [(24, (eB x6))] (by subst hx6; kernel_rfl) ?_
        refine aw_condH h (by kernel_rfl) (fun _ h => ?_) (fun _ h => ?_)
        · refine aw_skip (tn_n ?_)
          refine aw_seq ?_
          refine aw_block ?_
          refine aw_seq ?_
          obtain ⟨e7, he7, h⟩ := obind h
          obtain ⟨r8, hr8, h⟩ := obind h
          refine aw_sdrawV hT hmo m_no [(2, (.im (k64 e7))), (5, (k64 r8))] [] (by kernel_rfl) (by kernel_rfl) (by kernel_rfl) ⟨fun _ => big_idx hT k64 he7 (by kernel_rfl) (by kernel_rfl), fun _ => big_call0 (umbraref11_most_ok hr8) umbraref11_most_ok_c (by kernel_rfl) (by kernel_rfl) (by kernel_rfl), trivial⟩ trivial ?_
          refine aw_condH h (by kernel_rfl) (fun _ h => ?_) (fun _ h => ?_)
          · refine aw_sregU hT m_no [] (by kernel_rfl) ?_
            refine aw_own_nil 6 1 (by kernel_rfl) ?_
            refine aw_sw 1 0 (by kernel_rfl) ?_
            cases h
            have h := g3
            refine aw_ret (tn_r (inB_r (tn_r (tn_r (inB_r (tn_r (tn_r ?_)))))))
            obtain rfl := sum_e h
            exact fin_r (by kernel_rfl)
          · refine aw_skip (tn_n ?_)
            refine aw_sreg ?_
            refine awl_u hT m_no [] 2 (by kernel_rfl) ?_
            obtain ⟨e9, he9, h⟩ := obind h
            refine awl_big (big_idx hT k64 he9 (by kernel_rfl) (by kernel_rfl)) (by kernel_rfl) ?_
            refine awl_u hT m_no [] 2 (by kernel_rfl) ?_
            refine awl_nil ?_
            refine aw_sregU hT m_no [] (by kernel_rfl) ?_
            obtain ⟨p10, h, g10⟩ := obind h
            refine aw_joinTK ⟨[en 1 (j64 a1), en 2 (eL 1 k64 a2), en 8 (eO 0 1 k8 p10), en 9 (j64 s5)], [.tail (p10.length * 1)]⟩ ?_ ?_
            · refine aw_block (aw_loop (fun k s => ∃ s11 s12 s13, p_umbraref11_Put_L2 N a1 k s11 s12 s13 = some p10 ∧ JR (Fr.f 52 0) ⟨[en 1 (j64 a1), en 2 (eL 1 k64 a2), en 8 (eO 0 1 k8 s11), en 9 (j64 s5), en 10 (k64 s12), en 11 (j64 s13)], [.tail (s11.length * 1)]⟩ s) (fun k s hI => ?_) N _ ⟨_, _, _, h, jr (by kernel_rfl)⟩)
              obtain ⟨s11, s12, s13, h, hj⟩ := hI
              cases k with
              | zero => cases h
              | succ k =>
                refine aw_jr hj ?_
                refine aw_seq ?_
                refine aw_sregU hT m_no [] (by kernel_rfl) ?_
                refine aw_condH h (by kernel_rfl) (fun _ h => ?_) (fun _ h => ?_)
                · refine aw_skip (tn_n ?_)
                  refine aw_seq ?_
                  refine aw_block ?_
                  refine aw_sreg ?_
                  refine awl_u hT m_no [] 4 (by kernel_rfl) ?_
                  refine awl_big (big_row hT (x := (.sl 1 1 [(k8 (U8 (Int.tmod s12 256)))])) (by kernel_rfl) (by kernel_rfl)) (by kernel_rfl) ?_
                  obtain ⟨z14, hz14, h⟩ := obind h
                  refine awl_big (big_app hT k8 (id := 0) (k := 1) hz14 (by kernel_rfl) (by kernel_rfl)) (by kernel_rfl) ?_
                  refine awl_u hT m_no [] 1 (by kernel_rfl) ?_
                  refine awl_nil ?_
                  refine aw_regU hT m_no [] (by kernel_rfl) (inB_n (tn_n ?_))
                  refine aw_regU hT m_no [] (by kernel_rfl) (tn_n ?_)
                  exact ⟨k, Nat.lt_succ_self k, _, _, _, h, jr (by kernel_rfl)⟩
                · refine aw_exit (tn_x (tn_x (inB_e (tn_n ?_))))
                  cases h
                  exact jr (by kernel_rfl)
            · have h := g10
              refine (inB_n (tn_n ?_))
              refine aw_regU hT m_no [] (by kernel_rfl) (tn_n ?_)
              exact ⟨k, Nat.lt_succ_self k, _, _, h, jr (by kernel_rfl)⟩
        · refine aw_exit (tn_x (tn_x (inB_e (tn_n ?_))))
          cases h
          exact ⟨_, rfl, jr (by kernel_rfl)⟩
    · refine (tn_n ?_)
      refine aw_sregU hT m_no [] (by kernel_rfl) ?_
      refine aw_ret ?_
      cases h
      exact fin_r (by kernel_rfl)

theorem umbraref11_Put_ok_c : callable Try.prog 116 := ⟨_, Try.func116, by decide, rfl⟩

/-! umbra/umbraref11.Signed -/
def p_umbraref11_Signed_L1 (N : Nat) (a2 : (List Int)) (x3 : Int) (a1 : Int) : Nat → (List Int) → Int → Option (Sum ((List Int)) ((List Int) × Int))
  | 0, _, _ => none
  | k + 1, s5, s6 =>
    letO (decide (s6 < ((a2.length : Int)))) fun x7 =>
    cond x7 (
      Option.bind (Option.bind (idx a2 s6) fun e9 =>
      cond (decide (e9 > x3)) (
        some true) (
        Option.bind (idx a2 s6) fun e10 =>
        letO (I64 ((I64 (0 - x3)) - 1)) fun x11 =>
        some (decide (e10 < x11)))) fun p8 =>
      cond p8 (
        some (Sum.inr (([], 3)))) (
        Option.bind (idx a2 s6) fun e12 =>
        Option.bind (Option.bind (idx a2 s6) fun e14 =>
        cond (decide (e14 < 0)) (
          Option.bind (p_umbraref11_most N a1) fun r15 =>
          Option.bind (idx a2 s6) fun e16 =>
          letO (I64 (0 - (I64 (e16 + 1)))) fun x17 =>
          some (U64 (r15 - (U64 x17)))) (
          some (U64 e12))) fun p13 =>
        Option.bind (appO 8 s5 (([p13] : List Int))) fun z18 =>
        p_umbraref11_Signed_L1 N a2 x3 a1 k z18 (I64 (s6 + 1)))) (
      some (Sum.inl s5))

def p_umbraref11_Signed (N : Nat) (a0 : (List Int)) (a1 : Int) (a2 : (List Int)) : Option ((List Int) × Int) :=
  letO (cond (decide (a1 < 1)) true (decide (a1 > 8))) fun x1 =>
  cond x1 (
    some (([], 2))) (
    Option.bind (p_umbraref11_most N a1) fun r2 =>
    letO (I64 (U64 (Int.tdiv r2 2))) fun x3 =>
    Option.bind (p_umbraref11_Signed_L1 N a2 x3 a1 N [] 0) fun o => sumC o (fun p4 =>
      Option.bind (p_umbraref11_Put N a0 a1 p4) fun r19 =>
      some ((r19.1, r19.2))) (fun r => some r))

theorem umbraref11_Signed_ok {N : Nat} {a0 : (List Int)} {a1 : Int} {a2 : (List Int)} {r : (List Int) × Int} (h : p_umbraref11_Signed N a0 a1 a2 = some r) : FnM Try.prog 115 [] [(eL 1 k8 a0), (j64 a1), (eL 1 j64 a2)] (.tup [(eO 0 1 k8 r.1), (j64 r.2)]) [.tail (r.1.length * 1)] := by
  unfold p_umbraref11_Signed at h
  refine fnM_of_aw (m := 74) (lo := 0) (rs := [.tmp 6, .tmp 7]) hT Try.func115 rfl (by kernel_rfl) rfl ?_
  refine aw_sregU hT m_no [] (by kernel_rfl) ?_
  refine aw_seq ?_
  obtain ⟨x1, hx1, h⟩ := letE h
  refine aw_sregU hT m_no [] (by kernel_rfl) ?_
  refine aw_nms [(17, (eB x1))] (by subst hx1; kernel_rfl) ?_
  refine aw_condH h (by kernel_rfl) (fun _ h => ?_) (fun _ h => ?_)
  · refine aw_sregU hT m_no [] (by kernel_rfl) ?_
    refine aw_own_nil 6 1 (by kernel_rfl) ?_
    refine aw_ret (tn_r ?_)
    cases h
    exact fin_r (by kernel_rfl)
  · refine aw_skip (tn_n ?_)
    refine aw_sreg ?_
    refine awl_u hT m_no [] 1 (by kernel_rfl) ?_
    obtain ⟨r2, hr2, h⟩ := obind h
    refine awl_big (big_call [] (umbraref11_most_ok hr2) umbraref11_most_ok_c (by kernel_rfl) (by kernel_rfl)) (by kernel_rfl) ?_
    obtain ⟨x3, hx3, h⟩ := letE h
    refine awl_u hT m_no [] 3 (by kernel_rfl) ?_
    refine awl_nms [(8, (j64 x3))] (by subst hx3; kernel_rfl) ?_
    refine awl_nil ?_
    refine aw_sregU hT m_no [] (by kernel_rfl) ?_
    refine aw_seq ?_
    refine aw_sregU hT m_no [] (by kernel_rfl) ?_
    refine aw_own_nil 9 1 (by kernel_rfl) ?_
    obtain ⟨op4, h, g4⟩ := obind h
    refine aw_joinSK (fun p4 => ⟨[en 0 (eL 1 k8 a0), en 1 (j64 a1), en 9 (eO 0 1 k64 p4)], [.tail (p4.length * 1)]⟩) g4 ?_ (fun p4 h => ?_)
    · refine aw_block (aw_loop (fun k s => ∃ s5 s6, p_umbraref11_Signed_L1 N a2 x3 a1 k s5 s6 = some op4 ∧ JR (Fr.f 74 0) ⟨[en 0 (eL 1 k8 a0), en 1 (j64 a1), en 2 (eL 1 j64 a2), en 8 (j64 x3), en 9 (eO 0 1 k64 s5), en 10 (j64 s6)], [.tail (s5.length * 1)]⟩ s) (fun k s hI => ?_) N _ ⟨_, _, h, jr (by kernel_rfl)⟩)
      obtain ⟨s5, s6, h, hj⟩ := hI
      cases k with
      | zero => cases h
      | succ k =>
        refine aw_jr hj ?_
        refine aw_seq ?_
        obtain ⟨x7, hx7, h⟩ := letE h
        refine aw_sregU hT m_no [] (by kernel_rfl) ?_
        refine aw_nms [(25, (eB x7))] (by subst hx7; kernel_rfl) ?_
        refine aw_condH h (by kernel_rfl) (fun _ h => ?_) (fun _ h => ?_)
        · refine aw_skip (tn_n ?_)
          refine aw_seq ?_
          refine aw_block ?_
          refine aw_seq ?_
          obtain ⟨p8, h, g8⟩ := obind h
          refine aw_joinT ⟨[en 0 (eL 1 k8 a0), en 1 (j64 a1), en 2 (eL 1 j64 a2), en 8 (j64 x3), en 9 (eO 0 1 k64 s5), en 10 (j64 s6), en 43 (eB p8)], [.tail (s5.length * 1)]⟩ ?_ ?_
          · refine aw_region ?_
            refine awl_u hT m_no [] 2 (by kernel_rfl) ?_
            obtain ⟨e9, he9, h⟩ := obind h
            refine awl_big (big_idx hT j64 he9 (by kernel_rfl) (by kernel_rfl)) (by kernel_rfl) ?_
            refine awl_u hT m_no [] 4 (by kernel_rfl) ?_
            refine awl_split 34 h (by kernel_rfl) (fun h => ?_) (fun h => ?_)
            · refine awl_u hT m_no [34] 9 (by kernel_rfl) ?_
              refine awl_nil (tn_n ?_)
              cases h
              exact jr (by kernel_rfl)
            · refine awl_u hT m_no [34] 2 (by kernel_rfl) ?_
              obtain ⟨e10, he10, h⟩ := obind h
              refine awl_big (big_idx hT j64 he10 (by kernel_rfl) (by kernel_rfl)) (by kernel_rfl) ?_
              obtain ⟨x11, hx11, h⟩ := letE h
              refine awl_u hT m_no [34] 6 (by kernel_rfl) ?_
              refine awl_nms [(43, (eB (decide (e10 < x11))))] (by subst hx11; kernel_rfl) ?_
              refine awl_nil (tn_n ?_)
              cases h
              exact jr (by kernel_rfl)
          · have h := g8
            refine aw_condH h (by kernel_rfl) (fun _ h => ?_) (fun _ h => ?_)
            · refine aw_sregU hT m_no [] (by kernel_rfl) ?_
              refine aw_own_nil 6 1 (by kernel_rfl) ?_
              refine aw_sw 1 0 (by kernel_rfl) ?_
              cases h
              have h := g4
              refine aw_ret (tn_r (inB_r (tn_r (tn_r (inB_r (tn_r (tn_r ?_)))))))
              obtain rfl := sum_e h
              exact fin_r (by kernel_rfl)
            · refine aw_skip (tn_n ?_)
              refine aw_sreg ?_
              refine awl_u hT m_no [] 2 (by kernel_rfl) ?_
              obtain ⟨e12, he12, h⟩ := obind h
              refine awl_big (big_idx hT j64 he12 (by kernel_rfl) (by kernel_rfl)) (by kernel_rfl) ?_
              refine awl_u hT m_no [] 3 (by kernel_rfl) ?_
              refine awl_nil ?_
              obtain ⟨p13, h, g13⟩ := obind h
              refine aw_joinT ⟨[en 0 (eL 1 k8 a0), en 1 (j64 a1), en 2 (eL 1 j64 a2), en 8 (j64 x3), en 9 (eO 0 1 k64 s5), en 10 (j64 s6), en 11 (k64 p13)], [.tail (s5.length * 1)]⟩ ?_ ?_
              · refine aw_sreg ?_
                refine awl_u hT m_no [] 2 (by kernel_rfl) ?_
                obtain ⟨e14, he14, h⟩ := obind h
                refine awl_big (big_idx hT j64 he14 (by kernel_rfl) (by kernel_rfl)) (by kernel_rfl) ?_
                refine awl_u hT m_no [] 2 (by kernel_rfl) ?_
                refine awl_nil ?_
                refine aw_condH h (by kernel_rfl) (fun _ h => ?_) (fun _ h => ?_)
                · obtain ⟨r15, hr15, h⟩ := obind h
                  obtain ⟨e16, he16, h⟩ := obind h
                  obtain ⟨x17, hx17, h⟩ := letE h
                  refine aw_drawN hT hmo m_no [(1, (k64 r15)), (4, (.im (j64 e16)))] [] (by subst hx17; kernel_rfl) (by subst hx17; kernel_rfl) (by kernel_rfl) ⟨fun _ => big_call0 (umbraref11_most_ok hr15) umbraref11_most_ok_c (by kernel_rfl) (by kernel_rfl) (by kernel_rfl), fun _ => big_idx hT j64 he16 (by kernel_rfl) (by kernel_rfl), trivial⟩ trivial [(11, (k64 (U64 (r15 - (U64 x17)))))] (by subst hx17; kernel_rfl) (tn_n ?_)
                  cases h
                  exact jr (by kernel_rfl)
                · refine aw_skip (tn_n ?_)
                  cases h
                  exact jr (by kernel_rfl)
              · have h := g13
                refine aw_region ?_
                refine awl_u hT m_no [] 2 (by kernel_rfl) ?_
                refine awl_big (big_row hT (x := (.sl 1 1 [(k64 p13)])) (by kernel_rfl) (by kernel_rfl)) (by kernel_rfl) ?_
                obtain ⟨z18, hz18, h⟩ := obind h
                refine awl_big (big_app hT k64 (id := 0) (k := 1) hz18 (by kernel_rfl) (by kernel_rfl)) (by kernel_rfl) ?_
                refine awl_u hT m_no [] 1 (by kernel_rfl) ?_
                refine awl_nil (inB_n (tn_n ?_))
                refine aw_regU hT m_no [] (by kernel_rfl) (tn_n ?_)
                exact ⟨k, Nat.lt_succ_self k, _, _, h, jr (by kernel_rfl)⟩
        · refine aw_exit (tn_x (tn_x (inB_e (tn_n ?_))))
          cases h
          exact ⟨_, rfl, jr (by kernel_rfl)⟩
    · refine (tn_n ?_)
      refine aw_sreg ?_
      refine awl_u hT m_no [] 3 (by kernel_rfl) ?_
      obtain ⟨r19, hr19, h⟩ := obind h
      refine awl_big (big_call [] (umbraref11_Put_ok hr19) umbraref11_Put_ok_c (by kernel_rfl) (by kernel_rfl)) (by kernel_rfl) ?_
      refine awl_u hT m_no [] 4 (by kernel_rfl) ?_
      refine awl_nil ?_
      refine aw_sw 1 0 (by kernel_rfl) ?_
      refine aw_ret ?_
      cases h
      exact fin_r (by kernel_rfl)

theorem umbraref11_Signed_ok_c : callable Try.prog 115 := ⟨_, Try.func115, by decide, rfl⟩

/-! umbra/umbraref09.Pad -/
def p_umbraref09_Pad_L1 (N : Nat) (p1 : Int) : Nat → (List Int) → Option ((List Int))
  | 0, _ => none
  | k + 1, s3 =>
    letO (I64 ((Int.tmod p1 64) + ((s3.length : Int)))) fun x4 =>
    letO (Int.tmod (I64 (x4 + 8)) 64) fun x5 =>
    cond (decide (x5 > 0)) (
      Option.bind (appO 1 s3 (([0] : List Int))) fun z6 =>
      p_umbraref09_Pad_L1 N p1 k z6) (
      some s3)

def p_umbraref09_Pad_L2 (N : Nat) (p1 : Int) : Nat → (List Int) → Int → Option ((List Int))
  | 0, _, _ => none
  | k + 1, s8, s9 =>
    cond (decide (s9 ≥ 0)) (
      Option.bind (shrO .u64 (U64 ((U64 p1) * 8)) (I64 (8 * s9))) fun x10 =>
      Option.bind (appO 1 s8 (([U8 x10] : List Int))) fun z11 =>
      p_umbraref09_Pad_L2 N p1 k z11 (I64 (s9 - 1))) (
      some s8)

def p_umbraref09_Pad (N : Nat) (a0 : Int) : Option ((List Int)) :=
  Option.bind (cond (decide (a0 < 0)) (some 0) (some a0)) fun p1 =>
  Option.bind (p_umbraref09_Pad_L1 N p1 N (([128] : List Int))) fun p2 =>
  Option.bind (p_umbraref09_Pad_L2 N p1 N p2 7) fun p7 =>
  some p7

theorem umbraref09_Pad_ok {N : Nat} {a0 : Int} {r : (List Int)} (h : p_umbraref09_Pad N a0 = some r) : FnM Try.prog 205 [] [(j64 a0)] (eL 1 k8 r) [] := by
  unfold p_umbraref09_Pad at h
  refine fnM_of_aw (m := 36) (lo := 0) (rs := [.tmp 2]) hT Try.func205 rfl (by kernel_rfl) rfl ?_
  refine aw_sregU hT m_no [] (by kernel_rfl) ?_
  obtain ⟨p1, h, g1⟩ := obind h
  refine aw_joinT ⟨[en 0 (j64 p1)], []⟩ ?_ ?_
  · refine aw_sregU hT m_no [] (by kernel_rfl) ?_
    refine aw_condH h (by kernel_rfl) (fun _ h => ?_) (fun _ h => ?_)
    · refine aw_regU hT m_no [] (by kernel_rfl) (tn_n ?_)
      cases h
      exact jr (by kernel_rfl)
    · refine aw_skip (tn_n ?_)
      cases h
      exact jr (by kernel_rfl)
  · have h := g1
    refine aw_sreg ?_
    refine awl_big (big_rowO hT k8 (k := 1) ([128] : List Int) (by kernel_rfl) (by kernel_rfl)) (by kernel_rfl) ?_
    refine awl_u hT m_no [] 1 (by kernel_rfl) ?_
    refine awl_nil ?_
    obtain ⟨p2, h, g2⟩ := obind h
    refine aw_joinT ⟨[en 0 (j64 p1), en 3 (eO 0 1 k8 p2)], [.tail (p2.length * 1)]⟩ ?_ ?_
    · refine aw_block (aw_loop (fun k s => ∃ s3, p_umbraref09_Pad_L1 N p1 k s3 = some p2 ∧ JR (Fr.f 36 0) ⟨[en 0 (j64 p1), en 3 (eO 0 1 k8 s3)], [.tail (s3.length * 1)]⟩ s) (fun k s hI => ?_) N _ ⟨_, h, jr (by kernel_rfl)⟩)
      obtain ⟨s3, h, hj⟩ := hI
      cases k with
      | zero => cases h
      | succ k =>
        refine aw_jr hj ?_
        refine aw_seq ?_
        obtain ⟨x4, hx4, h⟩ := letE h
        obtain ⟨x5, hx5, h⟩ := letE h
        refine aw_sregU hT m_no [] (by kernel_rfl) ?_
        refine aw_nms [(16, (eB (decide (x5 > 0))))] (by subst hx5 hx4; kernel_rfl) ?_
        refine aw_condH h (by kernel_rfl) (fun _ h => ?_) (fun _ h => ?_)
        · refine aw_skip (tn_n ?_)
          refine aw_block ?_
          refine aw_region ?_
          refine awl_u hT m_no [] 1 (by kernel_rfl) ?_
          refine awl_big (big_row hT (x := (.sl 1 1 [(k8 0)])) (by kernel_rfl) (by kernel_rfl)) (by kernel_rfl) ?_
          obtain ⟨z6, hz6, h⟩ := obind h
          refine awl_big (big_app hT k8 (id := 0) (k := 1) hz6 (by kernel_rfl) (by kernel_rfl)) (by kernel_rfl) ?_
          refine awl_u hT m_no [] 1 (by kernel_rfl) ?_
          refine awl_nil (inB_n (tn_n ?_))
          exact ⟨k, Nat.lt_succ_self k, _, h, jr (by kernel_rfl)⟩
        · refine aw_exit (tn_x (tn_x (inB_e (tn_n ?_))))
          cases h
          exact jr (by kernel_rfl)
    · have h := g2
      refine aw_sregU hT m_no [] (by kernel_rfl) ?_
      refine aw_seq ?_
      refine aw_sregU hT m_no [] (by kernel_rfl) ?_
      obtain ⟨p7, h, g7⟩ := obind h
      refine aw_joinTK ⟨[en 3 (eO 0 1 k8 p7)], [.tail (p7.length * 1)]⟩ ?_ ?_
      · refine aw_block (aw_loop (fun k s => ∃ s8 s9, p_umbraref09_Pad_L2 N p1 k s8 s9 = some p7 ∧ JR (Fr.f 36 0) ⟨[en 3 (eO 0 1 k8 s8), en 4 (k64 (U64 ((U64 p1) * 8))), en 5 (j64 s9)], [.tail (s8.length * 1)]⟩ s) (fun k s hI => ?_) N _ ⟨_, _, h, jr (by kernel_rfl)⟩)
        obtain ⟨s8, s9, h, hj⟩ := hI
        cases k with
        | zero => cases h
        | succ k =>
          refine aw_jr hj ?_
          refine aw_seq ?_
          refine aw_sregU hT m_no [] (by kernel_rfl) ?_
          refine aw_condH h (by kernel_rfl) (fun _ h => ?_) (fun _ h => ?_)
          · refine aw_skip (tn_n ?_)
            refine aw_seq ?_
            refine aw_block ?_
            refine aw_region ?_
            refine awl_u hT m_no [] 4 (by kernel_rfl) ?_
            obtain ⟨x10, hx10, h⟩ := obind h
            refine awl_big (big_shr hT (k' := .i64) hx10 (by kernel_rfl) (by kernel_rfl)) (by kernel_rfl) ?_
            refine awl_u hT m_no [] 1 (by kernel_rfl) ?_
            refine awl_big (big_row hT (x := (.sl 1 1 [(k8 (U8 x10))])) (by kernel_rfl) (by kernel_rfl)) (by kernel_rfl) ?_
            obtain ⟨z11, hz11, h⟩ := obind h
            refine awl_big (big_app hT k8 (id := 0) (k := 1) hz11 (by kernel_rfl) (by kernel_rfl)) (by kernel_rfl) ?_
            refine awl_u hT m_no [] 1 (by kernel_rfl) ?_
            refine awl_nil (inB_n (tn_n ?_))
            refine aw_regU hT m_no [] (by kernel_rfl) (tn_n ?_)
            exact ⟨k, Nat.lt_succ_self k, _, _, h, jr (by kernel_rfl)⟩
          · refine aw_exit (tn_x (tn_x (inB_e (tn_n ?_))))
            cases h
            exact jr (by kernel_rfl)
      · have h := g7
        refine (tn_n ?_)
        refine aw_sregU hT m_no [] (by kernel_rfl) ?_
        refine aw_ret ?_
        cases h
        exact fin_r (by kernel_rfl)

theorem umbraref09_Pad_ok_c : callable Try.prog 205 := ⟨_, Try.func205, by decide, rfl⟩

end Go.UK
